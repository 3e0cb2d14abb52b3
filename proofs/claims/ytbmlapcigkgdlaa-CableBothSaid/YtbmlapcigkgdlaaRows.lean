/-
  No cell of these rows narrows 'for every input' (looked for: loops, veiled, ifaces, maps, wideKeys, modest, calm, conditions, laid).
  DERIVED. THE GIVEN ROWS OF THIS SEAT. 4 by the template 'for every input the law returns true; each argument reads behind the call as it read before'; 0 by the template 'total and deterministic' (their statements: YtbmlapcigkgdlaaTotals.lean).
  GIVEN WITH THE SEED: the statements are not yours to turn. If you find one false, say at which input.
  Laid BY PROGRAM, IN A SANDBOX (cutbox-rows.mjs): the forced cells as the released guide's own fill.sh prints them over the translation 53fee361dea8b5f4… (all of the seat's roots in one cut). By AI agents, Wed Nov 11 2026. No macro, syntax, notation, axiom, sorry.
-/
import Derived.Test.YtbmlapcigkgdlaaChecked
import GoSem.Claim
import GoSem.ClaimJoined
import GoSem.ClaimMapViews
import Derived.JoinedTies
import Derived.KernelRfl
namespace Go.Proofs.Ytbmlapcigkgdlaa
/- THE CELL 'sum', in the pinned program and in every row, IS THE sha256 OF THE DUMP (.gsa) THAT YtbmlapcigkgdlaaProg.lean LOADS. Nothing in Lean hashes anything: it is a label: what it is worth is what the hold of that sum in a sandbox is worth. -/
noncomputable def Try.pinned : Pinned := { name := "ytbmlapcigkgdlaa", sum := "53fee361dea8b5f441930fef1d13f4c6d35e703615ed8d0ca61eda88b63cd8ea", checked := Try.checked }
namespace Rows
def none {H : Type} : Left H := { results := [], args := [] }

/-- 'ostiarylaw19.CablePlays': WHATEVER THE INPUT: true; the input reads as it did. -/
def cablePlaysSpec : ChangeSpec := { name := "cablePlays", fn := fun _ => fun
  | [d] => { results := [.lit (.bool true)], args := [d] }
  | _ => none }
def cablePlaysRow : OpenClaim := { program := "ytbmlapcigkgdlaa", sum := "53fee361dea8b5f441930fef1d13f4c6d35e703615ed8d0ca61eda88b63cd8ea", func := "ostiary/ostiarylaw19.CablePlays", spec := "cablePlays", inPlace := ["slices.overlaps[ostiary/shelf.slot[int, ostiary/cable.End]]"], apart := false }
def CablePlaysSaid : Prop := cablePlaysRow.holds Try.pinned (OpenSpec.ofChange cablePlaysSpec)

/-- ITS FALSE NEIGHBOUR: 'it returns false'. Refute it at one input. -/
def cablePlaysWrong : ChangeSpec := { name := "cablePlays", fn := fun _ => fun
  | [d] => { results := [.lit (.bool false)], args := [d] }
  | _ => none }
def CablePlaysWrongFalsely : Prop := cablePlaysRow.holds Try.pinned (OpenSpec.ofChange cablePlaysWrong)

/-- 'ostiarylaw19.CableBoth': WHATEVER THE INPUT: true; the input reads as it did. -/
def cableBothSpec : ChangeSpec := { name := "cableBoth", fn := fun _ => fun
  | [d] => { results := [.lit (.bool true)], args := [d] }
  | _ => none }
def cableBothRow : OpenClaim := { program := "ytbmlapcigkgdlaa", sum := "53fee361dea8b5f441930fef1d13f4c6d35e703615ed8d0ca61eda88b63cd8ea", func := "ostiary/ostiarylaw19.CableBoth", spec := "cableBoth", inPlace := ["slices.overlaps[ostiary/shelf.slot[int, ostiary/cable.End]]"], apart := false }
def CableBothSaid : Prop := cableBothRow.holds Try.pinned (OpenSpec.ofChange cableBothSpec)

/-- ITS FALSE NEIGHBOUR: 'it returns false'. Refute it at one input. -/
def cableBothWrong : ChangeSpec := { name := "cableBoth", fn := fun _ => fun
  | [d] => { results := [.lit (.bool false)], args := [d] }
  | _ => none }
def CableBothWrongFalsely : Prop := cableBothRow.holds Try.pinned (OpenSpec.ofChange cableBothWrong)

/-- 'ostiarylaw19.CableNil': WHATEVER THE INPUT: true; the input reads as it did. -/
def cableNilSpec : ChangeSpec := { name := "cableNil", fn := fun _ => fun
  | [d1, d2] => { results := [.lit (.bool true)], args := [d1, d2] }
  | _ => none }
def cableNilRow : OpenClaim := { program := "ytbmlapcigkgdlaa", sum := "53fee361dea8b5f441930fef1d13f4c6d35e703615ed8d0ca61eda88b63cd8ea", func := "ostiary/ostiarylaw19.CableNil", spec := "cableNil", inPlace := ["slices.overlaps[ostiary/shelf.slot[int, ostiary/cable.End]]"], apart := false }
def CableNilSaid : Prop := cableNilRow.holds Try.pinned (OpenSpec.ofChange cableNilSpec)

/-- ITS FALSE NEIGHBOUR: 'it returns false'. Refute it at one input. -/
def cableNilWrong : ChangeSpec := { name := "cableNil", fn := fun _ => fun
  | [d1, d2] => { results := [.lit (.bool false)], args := [d1, d2] }
  | _ => none }
def CableNilWrongFalsely : Prop := cableNilRow.holds Try.pinned (OpenSpec.ofChange cableNilWrong)

/-- 'ostiarylaw19.CableUndo': WHATEVER THE INPUT: true; the input reads as it did. -/
def cableUndoSpec : ChangeSpec := { name := "cableUndo", fn := fun _ => fun
  | [d1, d2, d3, d4, d5] => { results := [.lit (.bool true)], args := [d1, d2, d3, d4, d5] }
  | _ => none }
def cableUndoRow : OpenClaim := { program := "ytbmlapcigkgdlaa", sum := "53fee361dea8b5f441930fef1d13f4c6d35e703615ed8d0ca61eda88b63cd8ea", func := "ostiary/ostiarylaw19.CableUndo", spec := "cableUndo", inPlace := ["slices.overlaps[ostiary/shelf.slot[int, ostiary/cable.End]]"], apart := false }
def CableUndoSaid : Prop := cableUndoRow.holds Try.pinned (OpenSpec.ofChange cableUndoSpec)

/-- ITS FALSE NEIGHBOUR: 'it returns false'. Refute it at one input. -/
def cableUndoWrong : ChangeSpec := { name := "cableUndo", fn := fun _ => fun
  | [d1, d2, d3, d4, d5] => { results := [.lit (.bool false)], args := [d1, d2, d3, d4, d5] }
  | _ => none }
def CableUndoWrongFalsely : Prop := cableUndoRow.holds Try.pinned (OpenSpec.ofChange cableUndoWrong)

/- THE SECOND FORM. 'bulk': how many values and letters a reading holds, each counted each time it is reached (what is shared counts as often as it is met; a slice's spare places count too). A statement '..UptoSaid' is the law's where the arguments, and the package variables that the reading takes, are together of bulk at most 1048576: NARROWER than '..Said'. Prove '..Said' where nothing that the law and all that it calls make is longer than what came in: it says more and counts as full. Else prove '..UptoSaid'. A law counts once. -/
mutual
def uptoBulk {H : Type} : DataW H → Nat
  | .lit (.string bytes) => bytes.length + 1
  | .lit _ => 1
  | .nil => 1
  | .ptr d => uptoBulk d + 1
  | .slice elems spare => uptoBulkAll elems + uptoBulkAll spare + 1
  | .agg parts => uptoBulkAll parts + 1
  | .iface _ d => uptoBulk d + 1
  | .map entries => uptoBulkEntries entries + 1
  | .held _ => 1
def uptoBulkAll {H : Type} : List (DataW H) → Nat
  | [] => 0
  | d :: r => uptoBulk d + uptoBulkAll r
def uptoBulkEntries {H : Type} : List (Lit × DataW H) → Nat
  | [] => 0
  | x :: r => uptoBulkEntry x + uptoBulkEntries r
def uptoBulkEntry {H : Type} : Lit × DataW H → Nat
  | (.string bytes, d) => bytes.length + uptoBulk d + 1
  | (_, d) => uptoBulk d + 1
 end
def uptoSmall : (H : Type) → List (DataW H) → Bool := fun _ ds => decide (uptoBulkAll ds ≤ 1048576)
def OpenSpec.upto (s : _root_.Go.ChangeSpec) : _root_.Go.OpenSpec := { _root_.Go.OpenSpec.ofChange s with cond := some uptoSmall }

/-- 'ostiarylaw19.CablePlays', WHERE WHAT IT READS IS OF BULK AT MOST 1048576: true; the input reads as it did. -/
def cablePlaysUptoRow : OpenClaim := { program := "ytbmlapcigkgdlaa", sum := "53fee361dea8b5f441930fef1d13f4c6d35e703615ed8d0ca61eda88b63cd8ea", func := "ostiary/ostiarylaw19.CablePlays", spec := "cablePlays", inPlace := ["slices.overlaps[ostiary/shelf.slot[int, ostiary/cable.End]]"], apart := false, narrowed := true }
def CablePlaysUptoSaid : Prop := cablePlaysUptoRow.holds Try.pinned (OpenSpec.upto cablePlaysSpec)

/-- 'ostiarylaw19.CableBoth', WHERE WHAT IT READS IS OF BULK AT MOST 1048576: true; the input reads as it did. -/
def cableBothUptoRow : OpenClaim := { program := "ytbmlapcigkgdlaa", sum := "53fee361dea8b5f441930fef1d13f4c6d35e703615ed8d0ca61eda88b63cd8ea", func := "ostiary/ostiarylaw19.CableBoth", spec := "cableBoth", inPlace := ["slices.overlaps[ostiary/shelf.slot[int, ostiary/cable.End]]"], apart := false, narrowed := true }
def CableBothUptoSaid : Prop := cableBothUptoRow.holds Try.pinned (OpenSpec.upto cableBothSpec)

/-- 'ostiarylaw19.CableNil', WHERE WHAT IT READS IS OF BULK AT MOST 1048576: true; the input reads as it did. -/
def cableNilUptoRow : OpenClaim := { program := "ytbmlapcigkgdlaa", sum := "53fee361dea8b5f441930fef1d13f4c6d35e703615ed8d0ca61eda88b63cd8ea", func := "ostiary/ostiarylaw19.CableNil", spec := "cableNil", inPlace := ["slices.overlaps[ostiary/shelf.slot[int, ostiary/cable.End]]"], apart := false, narrowed := true }
def CableNilUptoSaid : Prop := cableNilUptoRow.holds Try.pinned (OpenSpec.upto cableNilSpec)

/-- 'ostiarylaw19.CableUndo', WHERE WHAT IT READS IS OF BULK AT MOST 1048576: true; the input reads as it did. -/
def cableUndoUptoRow : OpenClaim := { program := "ytbmlapcigkgdlaa", sum := "53fee361dea8b5f441930fef1d13f4c6d35e703615ed8d0ca61eda88b63cd8ea", func := "ostiary/ostiarylaw19.CableUndo", spec := "cableUndo", inPlace := ["slices.overlaps[ostiary/shelf.slot[int, ostiary/cable.End]]"], apart := false, narrowed := true }
def CableUndoUptoSaid : Prop := cableUndoUptoRow.holds Try.pinned (OpenSpec.upto cableUndoSpec)

end Rows
end Go.Proofs.Ytbmlapcigkgdlaa
