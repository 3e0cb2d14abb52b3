/-
  No cell of these rows narrows 'for every input' (looked for: loops, veiled, ifaces, maps, wideKeys, modest, calm, conditions, laid).
  DERIVED. THE GIVEN ROWS OF THIS SEAT. 5 by the template 'for every input the law returns true; each argument reads behind the call as it read before'; 0 by the template 'total and deterministic' (their statements: YteifakkknhfdpaaTotals.lean).
  GIVEN WITH THE SEED: the statements are not yours to turn. If you find one false, say at which input.
  Laid BY PROGRAM, IN A SANDBOX (cutbox-rows.mjs): the forced cells as the released guide's own fill.sh prints them over the translation f3d45ff35ce96e04… (all of the seat's roots in one cut). By AI agents, Wed Nov 11 2026. No macro, syntax, notation, axiom, sorry.
-/
import Derived.Test.YteifakkknhfdpaaChecked
import GoSem.Claim
import GoSem.ClaimJoined
import GoSem.ClaimMapViews
import Derived.JoinedTies
import Derived.KernelRfl
namespace Go.Proofs.Yteifakkknhfdpaa
/- THE CELL 'sum', in the pinned program and in every row, IS THE sha256 OF THE DUMP (.gsa) THAT YteifakkknhfdpaaProg.lean LOADS. Nothing in Lean hashes anything: it is a label: what it is worth is what the hold of that sum in a sandbox is worth. -/
noncomputable def Try.pinned : Pinned := { name := "yteifakkknhfdpaa", sum := "f3d45ff35ce96e0456f309d78fe6c4f1dc31e110598bd2ed80ec626c3ae56390", checked := Try.checked }
namespace Rows
def none {H : Type} : Left H := { results := [], args := [] }

/-- 'ostiarylaw02.ShelfNext': WHATEVER THE INPUT: true; the input reads as it did. -/
def shelfNextSpec : ChangeSpec := { name := "shelfNext", fn := fun _ => fun
  | [d] => { results := [.lit (.bool true)], args := [d] }
  | _ => none }
def shelfNextRow : OpenClaim := { program := "yteifakkknhfdpaa", sum := "f3d45ff35ce96e0456f309d78fe6c4f1dc31e110598bd2ed80ec626c3ae56390", func := "ostiary/ostiarylaw02.ShelfNext", spec := "shelfNext", inPlace := ["slices.overlaps[ostiary/shelf.slot[int, int]]", "slices.overlaps[ostiary/shelf.slot[int, string]]"], apart := false }
def ShelfNextSaid : Prop := shelfNextRow.holds Try.pinned (OpenSpec.ofChange shelfNextSpec)

/-- ITS FALSE NEIGHBOUR: 'it returns false'. Refute it at one input. -/
def shelfNextWrong : ChangeSpec := { name := "shelfNext", fn := fun _ => fun
  | [d] => { results := [.lit (.bool false)], args := [d] }
  | _ => none }
def ShelfNextWrongFalsely : Prop := shelfNextRow.holds Try.pinned (OpenSpec.ofChange shelfNextWrong)

/-- 'ostiarylaw02.ShelfLast': WHATEVER THE INPUT: true; the input reads as it did. -/
def shelfLastSpec : ChangeSpec := { name := "shelfLast", fn := fun _ => fun
  | [d1, d2] => { results := [.lit (.bool true)], args := [d1, d2] }
  | _ => none }
def shelfLastRow : OpenClaim := { program := "yteifakkknhfdpaa", sum := "f3d45ff35ce96e0456f309d78fe6c4f1dc31e110598bd2ed80ec626c3ae56390", func := "ostiary/ostiarylaw02.ShelfLast", spec := "shelfLast", inPlace := ["slices.overlaps[ostiary/shelf.slot[int, string]]", "slices.overlaps[ostiary/shelf.slot[int, int]]"], apart := false }
def ShelfLastSaid : Prop := shelfLastRow.holds Try.pinned (OpenSpec.ofChange shelfLastSpec)

/-- ITS FALSE NEIGHBOUR: 'it returns false'. Refute it at one input. -/
def shelfLastWrong : ChangeSpec := { name := "shelfLast", fn := fun _ => fun
  | [d1, d2] => { results := [.lit (.bool false)], args := [d1, d2] }
  | _ => none }
def ShelfLastWrongFalsely : Prop := shelfLastRow.holds Try.pinned (OpenSpec.ofChange shelfLastWrong)

/-- 'ostiarylaw02.ShelfRing': WHATEVER THE INPUT: true; the input reads as it did. -/
def shelfRingSpec : ChangeSpec := { name := "shelfRing", fn := fun _ => fun
  | [d1, d2] => { results := [.lit (.bool true)], args := [d1, d2] }
  | _ => none }
def shelfRingRow : OpenClaim := { program := "yteifakkknhfdpaa", sum := "f3d45ff35ce96e0456f309d78fe6c4f1dc31e110598bd2ed80ec626c3ae56390", func := "ostiary/ostiarylaw02.ShelfRing", spec := "shelfRing", inPlace := ["slices.overlaps[ostiary/shelf.slot[int, string]]"], apart := false }
def ShelfRingSaid : Prop := shelfRingRow.holds Try.pinned (OpenSpec.ofChange shelfRingSpec)

/-- ITS FALSE NEIGHBOUR: 'it returns false'. Refute it at one input. -/
def shelfRingWrong : ChangeSpec := { name := "shelfRing", fn := fun _ => fun
  | [d1, d2] => { results := [.lit (.bool false)], args := [d1, d2] }
  | _ => none }
def ShelfRingWrongFalsely : Prop := shelfRingRow.holds Try.pinned (OpenSpec.ofChange shelfRingWrong)

/-- 'ostiarylaw02.ShelfNil': WHATEVER THE INPUT: true; the input reads as it did. -/
def shelfNilSpec : ChangeSpec := { name := "shelfNil", fn := fun _ => fun
  | [d1, d2] => { results := [.lit (.bool true)], args := [d1, d2] }
  | _ => none }
def shelfNilRow : OpenClaim := { program := "yteifakkknhfdpaa", sum := "f3d45ff35ce96e0456f309d78fe6c4f1dc31e110598bd2ed80ec626c3ae56390", func := "ostiary/ostiarylaw02.ShelfNil", spec := "shelfNil", inPlace := ["slices.overlaps[ostiary/shelf.slot[int, int]]", "slices.overlaps[ostiary/shelf.slot[int, string]]"], apart := false }
def ShelfNilSaid : Prop := shelfNilRow.holds Try.pinned (OpenSpec.ofChange shelfNilSpec)

/-- ITS FALSE NEIGHBOUR: 'it returns false'. Refute it at one input. -/
def shelfNilWrong : ChangeSpec := { name := "shelfNil", fn := fun _ => fun
  | [d1, d2] => { results := [.lit (.bool false)], args := [d1, d2] }
  | _ => none }
def ShelfNilWrongFalsely : Prop := shelfNilRow.holds Try.pinned (OpenSpec.ofChange shelfNilWrong)

/-- 'ostiarylaw02.ShelfPlays': WHATEVER THE INPUT: true; the input reads as it did. -/
def shelfPlaysSpec : ChangeSpec := { name := "shelfPlays", fn := fun _ => fun
  | [d1, d2] => { results := [.lit (.bool true)], args := [d1, d2] }
  | _ => none }
def shelfPlaysRow : OpenClaim := { program := "yteifakkknhfdpaa", sum := "f3d45ff35ce96e0456f309d78fe6c4f1dc31e110598bd2ed80ec626c3ae56390", func := "ostiary/ostiarylaw02.ShelfPlays", spec := "shelfPlays", inPlace := ["slices.overlaps[ostiary/shelf.slot[string, int]]", "slices.overlaps[ostiary/shelf.slot[int, string]]"], unfollowed := true, recurses := true, apart := false }
def ShelfPlaysSaid : Prop := shelfPlaysRow.holds Try.pinned (OpenSpec.ofChange shelfPlaysSpec)

/-- ITS FALSE NEIGHBOUR: 'it returns false'. Refute it at one input. -/
def shelfPlaysWrong : ChangeSpec := { name := "shelfPlays", fn := fun _ => fun
  | [d1, d2] => { results := [.lit (.bool false)], args := [d1, d2] }
  | _ => none }
def ShelfPlaysWrongFalsely : Prop := shelfPlaysRow.holds Try.pinned (OpenSpec.ofChange shelfPlaysWrong)

/- THE SECOND FORM. 'bulk': how many values and letters a reading holds, each counted each time it is reached (what is shared counts as often as it is met; a slice's spare places count too). A statement '..UptoSaid' is the law's where the arguments, and the package variables that the reading takes, are together of bulk at most 1048576: NARROWER than '..Said'. Prove '..Said' where nothing that the law and all that it calls make is longer than what came in: it says more and counts as full. Else prove '..UptoSaid'. A law counts once. -/
mutual
def uptoBulk {H : Type} : DataW H → Nat
  | .lit (.string bytes) => bytes.length + 1
  | .lit _ => 1
  | .nil => 1
  | .ptr d => uptoBulk d + 1
  | .slice elems spare => uptoBulkAll elems + uptoBulkAll spare + 1
  | .agg parts => uptoBulkAll parts + 1
  | .iface _ d => uptoBulk d + 1
  | .map entries => uptoBulkEntries entries + 1
  | .held _ => 1
def uptoBulkAll {H : Type} : List (DataW H) → Nat
  | [] => 0
  | d :: r => uptoBulk d + uptoBulkAll r
def uptoBulkEntries {H : Type} : List (Lit × DataW H) → Nat
  | [] => 0
  | x :: r => uptoBulkEntry x + uptoBulkEntries r
def uptoBulkEntry {H : Type} : Lit × DataW H → Nat
  | (.string bytes, d) => bytes.length + uptoBulk d + 1
  | (_, d) => uptoBulk d + 1
 end
def uptoSmall : (H : Type) → List (DataW H) → Bool := fun _ ds => decide (uptoBulkAll ds ≤ 1048576)
def OpenSpec.upto (s : _root_.Go.ChangeSpec) : _root_.Go.OpenSpec := { _root_.Go.OpenSpec.ofChange s with cond := some uptoSmall }

/-- 'ostiarylaw02.ShelfNext', WHERE WHAT IT READS IS OF BULK AT MOST 1048576: true; the input reads as it did. -/
def shelfNextUptoRow : OpenClaim := { program := "yteifakkknhfdpaa", sum := "f3d45ff35ce96e0456f309d78fe6c4f1dc31e110598bd2ed80ec626c3ae56390", func := "ostiary/ostiarylaw02.ShelfNext", spec := "shelfNext", inPlace := ["slices.overlaps[ostiary/shelf.slot[int, int]]", "slices.overlaps[ostiary/shelf.slot[int, string]]"], apart := false, narrowed := true }
def ShelfNextUptoSaid : Prop := shelfNextUptoRow.holds Try.pinned (OpenSpec.upto shelfNextSpec)

/-- 'ostiarylaw02.ShelfLast', WHERE WHAT IT READS IS OF BULK AT MOST 1048576: true; the input reads as it did. -/
def shelfLastUptoRow : OpenClaim := { program := "yteifakkknhfdpaa", sum := "f3d45ff35ce96e0456f309d78fe6c4f1dc31e110598bd2ed80ec626c3ae56390", func := "ostiary/ostiarylaw02.ShelfLast", spec := "shelfLast", inPlace := ["slices.overlaps[ostiary/shelf.slot[int, string]]", "slices.overlaps[ostiary/shelf.slot[int, int]]"], apart := false, narrowed := true }
def ShelfLastUptoSaid : Prop := shelfLastUptoRow.holds Try.pinned (OpenSpec.upto shelfLastSpec)

/-- 'ostiarylaw02.ShelfRing', WHERE WHAT IT READS IS OF BULK AT MOST 1048576: true; the input reads as it did. -/
def shelfRingUptoRow : OpenClaim := { program := "yteifakkknhfdpaa", sum := "f3d45ff35ce96e0456f309d78fe6c4f1dc31e110598bd2ed80ec626c3ae56390", func := "ostiary/ostiarylaw02.ShelfRing", spec := "shelfRing", inPlace := ["slices.overlaps[ostiary/shelf.slot[int, string]]"], apart := false, narrowed := true }
def ShelfRingUptoSaid : Prop := shelfRingUptoRow.holds Try.pinned (OpenSpec.upto shelfRingSpec)

/-- 'ostiarylaw02.ShelfNil', WHERE WHAT IT READS IS OF BULK AT MOST 1048576: true; the input reads as it did. -/
def shelfNilUptoRow : OpenClaim := { program := "yteifakkknhfdpaa", sum := "f3d45ff35ce96e0456f309d78fe6c4f1dc31e110598bd2ed80ec626c3ae56390", func := "ostiary/ostiarylaw02.ShelfNil", spec := "shelfNil", inPlace := ["slices.overlaps[ostiary/shelf.slot[int, int]]", "slices.overlaps[ostiary/shelf.slot[int, string]]"], apart := false, narrowed := true }
def ShelfNilUptoSaid : Prop := shelfNilUptoRow.holds Try.pinned (OpenSpec.upto shelfNilSpec)

/-- 'ostiarylaw02.ShelfPlays', WHERE WHAT IT READS IS OF BULK AT MOST 1048576: true; the input reads as it did. -/
def shelfPlaysUptoRow : OpenClaim := { program := "yteifakkknhfdpaa", sum := "f3d45ff35ce96e0456f309d78fe6c4f1dc31e110598bd2ed80ec626c3ae56390", func := "ostiary/ostiarylaw02.ShelfPlays", spec := "shelfPlays", inPlace := ["slices.overlaps[ostiary/shelf.slot[string, int]]", "slices.overlaps[ostiary/shelf.slot[int, string]]"], unfollowed := true, recurses := true, apart := false, narrowed := true }
def ShelfPlaysUptoSaid : Prop := shelfPlaysUptoRow.holds Try.pinned (OpenSpec.upto shelfPlaysSpec)

end Rows
end Go.Proofs.Yteifakkknhfdpaa
