/-
  No cell of these rows narrows 'for every input' (looked for: loops, veiled, ifaces, maps, wideKeys, modest, calm, conditions, laid).
  DERIVED. THE GIVEN ROWS OF THIS SEAT. 5 by the template 'for every input the law returns true; each argument reads behind the call as it read before'; 0 by the template 'total and deterministic' (their statements: YtmomphnkngbgjaaTotals.lean).
  GIVEN WITH THE SEED: the statements are not yours to turn. If you find one false, say at which input.
  Laid BY PROGRAM, IN A SANDBOX (cutbox-rows.mjs): the forced cells as the released guide's own fill.sh prints them over the translation 517725e192446ae2… (all of the seat's roots in one cut). By AI agents, Wed Nov 11 2026. No macro, syntax, notation, axiom, sorry.
-/
import Derived.Test.YtmomphnkngbgjaaChecked
import GoSem.Claim
import GoSem.ClaimJoined
import GoSem.ClaimMapViews
import Derived.JoinedTies
import Derived.KernelRfl
namespace Go.Proofs.Ytmomphnkngbgjaa
/- THE CELL 'sum', in the pinned program and in every row, IS THE sha256 OF THE DUMP (.gsa) THAT YtmomphnkngbgjaaProg.lean LOADS. Nothing in Lean hashes anything: it is a label: what it is worth is what the hold of that sum in a sandbox is worth. -/
noncomputable def Try.pinned : Pinned := { name := "ytmomphnkngbgjaa", sum := "517725e192446ae22df696b75441c9792eccfbbbff3c92ce5a9d1c85acb2d614", checked := Try.checked }
namespace Rows
def none {H : Type} : Left H := { results := [], args := [] }

/-- 'ostiarylaw25.BindSpoof': WHATEVER THE INPUT: true; the input reads as it did. -/
def bindSpoofSpec : ChangeSpec := { name := "bindSpoof", fn := fun _ => fun
  | [d1, d2, d3, d4] => { results := [.lit (.bool true)], args := [d1, d2, d3, d4] }
  | _ => none }
def bindSpoofRow : OpenClaim := { program := "ytmomphnkngbgjaa", sum := "517725e192446ae22df696b75441c9792eccfbbbff3c92ce5a9d1c85acb2d614", func := "ostiary/ostiarylaw25.BindSpoof", spec := "bindSpoof", inPlace := ["slices.overlaps[ostiary/shelf.slot[ostiary/api.Mac, ostiary/bind.Binding]]"], unfollowed := true, recurses := true, apart := false }
def BindSpoofSaid : Prop := bindSpoofRow.holds Try.pinned (OpenSpec.ofChange bindSpoofSpec)

/-- ITS FALSE NEIGHBOUR: 'it returns false'. Refute it at one input. -/
def bindSpoofWrong : ChangeSpec := { name := "bindSpoof", fn := fun _ => fun
  | [d1, d2, d3, d4] => { results := [.lit (.bool false)], args := [d1, d2, d3, d4] }
  | _ => none }
def BindSpoofWrongFalsely : Prop := bindSpoofRow.holds Try.pinned (OpenSpec.ofChange bindSpoofWrong)

/-- 'ostiarylaw25.BindApart': WHATEVER THE INPUT: true; the input reads as it did. -/
def bindApartSpec : ChangeSpec := { name := "bindApart", fn := fun _ => fun
  | [d] => { results := [.lit (.bool true)], args := [d] }
  | _ => none }
def bindApartRow : OpenClaim := { program := "ytmomphnkngbgjaa", sum := "517725e192446ae22df696b75441c9792eccfbbbff3c92ce5a9d1c85acb2d614", func := "ostiary/ostiarylaw25.BindApart", spec := "bindApart", inPlace := ["slices.overlaps[ostiary/shelf.slot[ostiary/api.Mac, ostiary/bind.Binding]]"], unfollowed := true, recurses := true, apart := false }
def BindApartSaid : Prop := bindApartRow.holds Try.pinned (OpenSpec.ofChange bindApartSpec)

/-- ITS FALSE NEIGHBOUR: 'it returns false'. Refute it at one input. -/
def bindApartWrong : ChangeSpec := { name := "bindApart", fn := fun _ => fun
  | [d] => { results := [.lit (.bool false)], args := [d] }
  | _ => none }
def BindApartWrongFalsely : Prop := bindApartRow.holds Try.pinned (OpenSpec.ofChange bindApartWrong)

/-- 'ostiarylaw25.BindPlays': WHATEVER THE INPUT: true; the input reads as it did. -/
def bindPlaysSpec : ChangeSpec := { name := "bindPlays", fn := fun _ => fun
  | [d] => { results := [.lit (.bool true)], args := [d] }
  | _ => none }
def bindPlaysRow : OpenClaim := { program := "ytmomphnkngbgjaa", sum := "517725e192446ae22df696b75441c9792eccfbbbff3c92ce5a9d1c85acb2d614", func := "ostiary/ostiarylaw25.BindPlays", spec := "bindPlays", inPlace := ["slices.overlaps[ostiary/shelf.slot[ostiary/api.Mac, ostiary/bind.Binding]]"], unfollowed := true, recurses := true, apart := false }
def BindPlaysSaid : Prop := bindPlaysRow.holds Try.pinned (OpenSpec.ofChange bindPlaysSpec)

/-- ITS FALSE NEIGHBOUR: 'it returns false'. Refute it at one input. -/
def bindPlaysWrong : ChangeSpec := { name := "bindPlays", fn := fun _ => fun
  | [d] => { results := [.lit (.bool false)], args := [d] }
  | _ => none }
def BindPlaysWrongFalsely : Prop := bindPlaysRow.holds Try.pinned (OpenSpec.ofChange bindPlaysWrong)

/-- 'ostiarylaw25.BindNil': WHATEVER THE INPUT: true; the input reads as it did. -/
def bindNilSpec : ChangeSpec := { name := "bindNil", fn := fun _ => fun
  | [d] => { results := [.lit (.bool true)], args := [d] }
  | _ => none }
def bindNilRow : OpenClaim := { program := "ytmomphnkngbgjaa", sum := "517725e192446ae22df696b75441c9792eccfbbbff3c92ce5a9d1c85acb2d614", func := "ostiary/ostiarylaw25.BindNil", spec := "bindNil", inPlace := ["slices.overlaps[ostiary/shelf.slot[ostiary/api.Mac, ostiary/bind.Binding]]"], unfollowed := true, recurses := true, apart := false }
def BindNilSaid : Prop := bindNilRow.holds Try.pinned (OpenSpec.ofChange bindNilSpec)

/-- ITS FALSE NEIGHBOUR: 'it returns false'. Refute it at one input. -/
def bindNilWrong : ChangeSpec := { name := "bindNil", fn := fun _ => fun
  | [d] => { results := [.lit (.bool false)], args := [d] }
  | _ => none }
def BindNilWrongFalsely : Prop := bindNilRow.holds Try.pinned (OpenSpec.ofChange bindNilWrong)

/-- 'ostiarylaw25.BindFinds': WHATEVER THE INPUT: true; the input reads as it did. -/
def bindFindsSpec : ChangeSpec := { name := "bindFinds", fn := fun _ => fun
  | [d1, d2] => { results := [.lit (.bool true)], args := [d1, d2] }
  | _ => none }
def bindFindsRow : OpenClaim := { program := "ytmomphnkngbgjaa", sum := "517725e192446ae22df696b75441c9792eccfbbbff3c92ce5a9d1c85acb2d614", func := "ostiary/ostiarylaw25.BindFinds", spec := "bindFinds", inPlace := ["slices.overlaps[ostiary/shelf.slot[ostiary/api.Mac, ostiary/bind.Binding]]"], unfollowed := true, recurses := true, apart := false }
def BindFindsSaid : Prop := bindFindsRow.holds Try.pinned (OpenSpec.ofChange bindFindsSpec)

/-- ITS FALSE NEIGHBOUR: 'it returns false'. Refute it at one input. -/
def bindFindsWrong : ChangeSpec := { name := "bindFinds", fn := fun _ => fun
  | [d1, d2] => { results := [.lit (.bool false)], args := [d1, d2] }
  | _ => none }
def BindFindsWrongFalsely : Prop := bindFindsRow.holds Try.pinned (OpenSpec.ofChange bindFindsWrong)

/- THE SECOND FORM. 'bulk': how many values and letters a reading holds, each counted each time it is reached (what is shared counts as often as it is met; a slice's spare places count too). A statement '..UptoSaid' is the law's where the arguments, and the package variables that the reading takes, are together of bulk at most 1048576: NARROWER than '..Said'. Prove '..Said' where nothing that the law and all that it calls make is longer than what came in: it says more and counts as full. Else prove '..UptoSaid'. A law counts once. -/
mutual
def uptoBulk {H : Type} : DataW H → Nat
  | .lit (.string bytes) => bytes.length + 1
  | .lit _ => 1
  | .nil => 1
  | .ptr d => uptoBulk d + 1
  | .slice elems spare => uptoBulkAll elems + uptoBulkAll spare + 1
  | .agg parts => uptoBulkAll parts + 1
  | .iface _ d => uptoBulk d + 1
  | .map entries => uptoBulkEntries entries + 1
  | .held _ => 1
def uptoBulkAll {H : Type} : List (DataW H) → Nat
  | [] => 0
  | d :: r => uptoBulk d + uptoBulkAll r
def uptoBulkEntries {H : Type} : List (Lit × DataW H) → Nat
  | [] => 0
  | x :: r => uptoBulkEntry x + uptoBulkEntries r
def uptoBulkEntry {H : Type} : Lit × DataW H → Nat
  | (.string bytes, d) => bytes.length + uptoBulk d + 1
  | (_, d) => uptoBulk d + 1
 end
def uptoSmall : (H : Type) → List (DataW H) → Bool := fun _ ds => decide (uptoBulkAll ds ≤ 1048576)
def OpenSpec.upto (s : _root_.Go.ChangeSpec) : _root_.Go.OpenSpec := { _root_.Go.OpenSpec.ofChange s with cond := some uptoSmall }

/-- 'ostiarylaw25.BindSpoof', WHERE WHAT IT READS IS OF BULK AT MOST 1048576: true; the input reads as it did. -/
def bindSpoofUptoRow : OpenClaim := { program := "ytmomphnkngbgjaa", sum := "517725e192446ae22df696b75441c9792eccfbbbff3c92ce5a9d1c85acb2d614", func := "ostiary/ostiarylaw25.BindSpoof", spec := "bindSpoof", inPlace := ["slices.overlaps[ostiary/shelf.slot[ostiary/api.Mac, ostiary/bind.Binding]]"], unfollowed := true, recurses := true, apart := false, narrowed := true }
def BindSpoofUptoSaid : Prop := bindSpoofUptoRow.holds Try.pinned (OpenSpec.upto bindSpoofSpec)

/-- 'ostiarylaw25.BindApart', WHERE WHAT IT READS IS OF BULK AT MOST 1048576: true; the input reads as it did. -/
def bindApartUptoRow : OpenClaim := { program := "ytmomphnkngbgjaa", sum := "517725e192446ae22df696b75441c9792eccfbbbff3c92ce5a9d1c85acb2d614", func := "ostiary/ostiarylaw25.BindApart", spec := "bindApart", inPlace := ["slices.overlaps[ostiary/shelf.slot[ostiary/api.Mac, ostiary/bind.Binding]]"], unfollowed := true, recurses := true, apart := false, narrowed := true }
def BindApartUptoSaid : Prop := bindApartUptoRow.holds Try.pinned (OpenSpec.upto bindApartSpec)

/-- 'ostiarylaw25.BindPlays', WHERE WHAT IT READS IS OF BULK AT MOST 1048576: true; the input reads as it did. -/
def bindPlaysUptoRow : OpenClaim := { program := "ytmomphnkngbgjaa", sum := "517725e192446ae22df696b75441c9792eccfbbbff3c92ce5a9d1c85acb2d614", func := "ostiary/ostiarylaw25.BindPlays", spec := "bindPlays", inPlace := ["slices.overlaps[ostiary/shelf.slot[ostiary/api.Mac, ostiary/bind.Binding]]"], unfollowed := true, recurses := true, apart := false, narrowed := true }
def BindPlaysUptoSaid : Prop := bindPlaysUptoRow.holds Try.pinned (OpenSpec.upto bindPlaysSpec)

/-- 'ostiarylaw25.BindNil', WHERE WHAT IT READS IS OF BULK AT MOST 1048576: true; the input reads as it did. -/
def bindNilUptoRow : OpenClaim := { program := "ytmomphnkngbgjaa", sum := "517725e192446ae22df696b75441c9792eccfbbbff3c92ce5a9d1c85acb2d614", func := "ostiary/ostiarylaw25.BindNil", spec := "bindNil", inPlace := ["slices.overlaps[ostiary/shelf.slot[ostiary/api.Mac, ostiary/bind.Binding]]"], unfollowed := true, recurses := true, apart := false, narrowed := true }
def BindNilUptoSaid : Prop := bindNilUptoRow.holds Try.pinned (OpenSpec.upto bindNilSpec)

/-- 'ostiarylaw25.BindFinds', WHERE WHAT IT READS IS OF BULK AT MOST 1048576: true; the input reads as it did. -/
def bindFindsUptoRow : OpenClaim := { program := "ytmomphnkngbgjaa", sum := "517725e192446ae22df696b75441c9792eccfbbbff3c92ce5a9d1c85acb2d614", func := "ostiary/ostiarylaw25.BindFinds", spec := "bindFinds", inPlace := ["slices.overlaps[ostiary/shelf.slot[ostiary/api.Mac, ostiary/bind.Binding]]"], unfollowed := true, recurses := true, apart := false, narrowed := true }
def BindFindsUptoSaid : Prop := bindFindsUptoRow.holds Try.pinned (OpenSpec.upto bindFindsSpec)

end Rows
end Go.Proofs.Ytmomphnkngbgjaa
