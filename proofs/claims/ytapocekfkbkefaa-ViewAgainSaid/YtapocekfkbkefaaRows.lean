/-
  No cell of these rows narrows 'for every input' (looked for: loops, veiled, ifaces, maps, wideKeys, modest, calm, conditions, laid).
  DERIVED. THE GIVEN ROWS OF THIS SEAT. 4 by the template 'for every input the law returns true; each argument reads behind the call as it read before'; 0 by the template 'total and deterministic' (their statements: YtapocekfkbkefaaTotals.lean).
  GIVEN WITH THE SEED: the statements are not yours to turn. If you find one false, say at which input.
  Laid BY PROGRAM, IN A SANDBOX (cutbox-rows.mjs): the forced cells as the released guide's own fill.sh prints them over the translation b442cdef9cd8168e… (all of the seat's roots in one cut). By AI agents, Wed Nov 11 2026. No macro, syntax, notation, axiom, sorry.
-/
import Derived.Test.YtapocekfkbkefaaChecked
import GoSem.Claim
import GoSem.ClaimJoined
import GoSem.ClaimMapViews
import Derived.JoinedTies
import Derived.KernelRfl
namespace Go.Proofs.Ytapocekfkbkefaa
/- THE CELL 'sum', in the pinned program and in every row, IS THE sha256 OF THE DUMP (.gsa) THAT YtapocekfkbkefaaProg.lean LOADS. Nothing in Lean hashes anything: it is a label: what it is worth is what the hold of that sum in a sandbox is worth. -/
noncomputable def Try.pinned : Pinned := { name := "ytapocekfkbkefaa", sum := "b442cdef9cd8168e4f9fd9d9ae41e3e430e550b7b67b0b1f9a11ca55a719e122", checked := Try.checked }
namespace Rows
def none {H : Type} : Left H := { results := [], args := [] }

/-- 'ostiarylaw21.ViewOnce': WHATEVER THE INPUT: true; the input reads as it did. -/
def viewOnceSpec : ChangeSpec := { name := "viewOnce", fn := fun _ => fun
  | [d] => { results := [.lit (.bool true)], args := [d] }
  | _ => none }
def viewOnceRow : OpenClaim := { program := "ytapocekfkbkefaa", sum := "b442cdef9cd8168e4f9fd9d9ae41e3e430e550b7b67b0b1f9a11ca55a719e122", func := "ostiary/ostiarylaw21.ViewOnce", spec := "viewOnce", inPlace := ["slices.overlaps[ostiary/shelf.slot[int, int]]", "slices.overlaps[ostiary/shelf.slot[int, ostiary/view.seen]]"], unfollowed := true, recurses := true, apart := false }
def ViewOnceSaid : Prop := viewOnceRow.holds Try.pinned (OpenSpec.ofChange viewOnceSpec)

/-- ITS FALSE NEIGHBOUR: 'it returns false'. Refute it at one input. -/
def viewOnceWrong : ChangeSpec := { name := "viewOnce", fn := fun _ => fun
  | [d] => { results := [.lit (.bool false)], args := [d] }
  | _ => none }
def ViewOnceWrongFalsely : Prop := viewOnceRow.holds Try.pinned (OpenSpec.ofChange viewOnceWrong)

/-- 'ostiarylaw21.ViewAgain': WHATEVER THE INPUT: true; the input reads as it did. -/
def viewAgainSpec : ChangeSpec := { name := "viewAgain", fn := fun _ => fun
  | [d1, d2, d3, d4, d5] => { results := [.lit (.bool true)], args := [d1, d2, d3, d4, d5] }
  | _ => none }
def viewAgainRow : OpenClaim := { program := "ytapocekfkbkefaa", sum := "b442cdef9cd8168e4f9fd9d9ae41e3e430e550b7b67b0b1f9a11ca55a719e122", func := "ostiary/ostiarylaw21.ViewAgain", spec := "viewAgain", inPlace := ["slices.overlaps[ostiary/shelf.slot[int, int]]", "slices.overlaps[ostiary/shelf.slot[int, ostiary/view.seen]]"], unfollowed := true, recurses := true, apart := false }
def ViewAgainSaid : Prop := viewAgainRow.holds Try.pinned (OpenSpec.ofChange viewAgainSpec)

/-- ITS FALSE NEIGHBOUR: 'it returns false'. Refute it at one input. -/
def viewAgainWrong : ChangeSpec := { name := "viewAgain", fn := fun _ => fun
  | [d1, d2, d3, d4, d5] => { results := [.lit (.bool false)], args := [d1, d2, d3, d4, d5] }
  | _ => none }
def ViewAgainWrongFalsely : Prop := viewAgainRow.holds Try.pinned (OpenSpec.ofChange viewAgainWrong)

/-- 'ostiarylaw21.ViewPlays': WHATEVER THE INPUT: true; the input reads as it did. -/
def viewPlaysSpec : ChangeSpec := { name := "viewPlays", fn := fun _ => fun
  | [d] => { results := [.lit (.bool true)], args := [d] }
  | _ => none }
def viewPlaysRow : OpenClaim := { program := "ytapocekfkbkefaa", sum := "b442cdef9cd8168e4f9fd9d9ae41e3e430e550b7b67b0b1f9a11ca55a719e122", func := "ostiary/ostiarylaw21.ViewPlays", spec := "viewPlays", inPlace := ["slices.overlaps[ostiary/shelf.slot[int, int]]", "slices.overlaps[ostiary/shelf.slot[int, ostiary/view.seen]]"], unfollowed := true, recurses := true, apart := false }
def ViewPlaysSaid : Prop := viewPlaysRow.holds Try.pinned (OpenSpec.ofChange viewPlaysSpec)

/-- ITS FALSE NEIGHBOUR: 'it returns false'. Refute it at one input. -/
def viewPlaysWrong : ChangeSpec := { name := "viewPlays", fn := fun _ => fun
  | [d] => { results := [.lit (.bool false)], args := [d] }
  | _ => none }
def ViewPlaysWrongFalsely : Prop := viewPlaysRow.holds Try.pinned (OpenSpec.ofChange viewPlaysWrong)

/-- 'ostiarylaw21.ViewNil': WHATEVER THE INPUT: true; the input reads as it did. -/
def viewNilSpec : ChangeSpec := { name := "viewNil", fn := fun _ => fun
  | [d1, d2] => { results := [.lit (.bool true)], args := [d1, d2] }
  | _ => none }
def viewNilRow : OpenClaim := { program := "ytapocekfkbkefaa", sum := "b442cdef9cd8168e4f9fd9d9ae41e3e430e550b7b67b0b1f9a11ca55a719e122", func := "ostiary/ostiarylaw21.ViewNil", spec := "viewNil", inPlace := ["slices.overlaps[ostiary/shelf.slot[int, ostiary/view.seen]]", "slices.overlaps[ostiary/shelf.slot[int, int]]"], unfollowed := true, recurses := true, apart := false }
def ViewNilSaid : Prop := viewNilRow.holds Try.pinned (OpenSpec.ofChange viewNilSpec)

/-- ITS FALSE NEIGHBOUR: 'it returns false'. Refute it at one input. -/
def viewNilWrong : ChangeSpec := { name := "viewNil", fn := fun _ => fun
  | [d1, d2] => { results := [.lit (.bool false)], args := [d1, d2] }
  | _ => none }
def ViewNilWrongFalsely : Prop := viewNilRow.holds Try.pinned (OpenSpec.ofChange viewNilWrong)

/- THE SECOND FORM. 'bulk': how many values and letters a reading holds, each counted each time it is reached (what is shared counts as often as it is met; a slice's spare places count too). A statement '..UptoSaid' is the law's where the arguments, and the package variables that the reading takes, are together of bulk at most 1048576: NARROWER than '..Said'. Prove '..Said' where nothing that the law and all that it calls make is longer than what came in: it says more and counts as full. Else prove '..UptoSaid'. A law counts once. -/
mutual
def uptoBulk {H : Type} : DataW H → Nat
  | .lit (.string bytes) => bytes.length + 1
  | .lit _ => 1
  | .nil => 1
  | .ptr d => uptoBulk d + 1
  | .slice elems spare => uptoBulkAll elems + uptoBulkAll spare + 1
  | .agg parts => uptoBulkAll parts + 1
  | .iface _ d => uptoBulk d + 1
  | .map entries => uptoBulkEntries entries + 1
  | .held _ => 1
def uptoBulkAll {H : Type} : List (DataW H) → Nat
  | [] => 0
  | d :: r => uptoBulk d + uptoBulkAll r
def uptoBulkEntries {H : Type} : List (Lit × DataW H) → Nat
  | [] => 0
  | x :: r => uptoBulkEntry x + uptoBulkEntries r
def uptoBulkEntry {H : Type} : Lit × DataW H → Nat
  | (.string bytes, d) => bytes.length + uptoBulk d + 1
  | (_, d) => uptoBulk d + 1
 end
def uptoSmall : (H : Type) → List (DataW H) → Bool := fun _ ds => decide (uptoBulkAll ds ≤ 1048576)
def OpenSpec.upto (s : _root_.Go.ChangeSpec) : _root_.Go.OpenSpec := { _root_.Go.OpenSpec.ofChange s with cond := some uptoSmall }

/-- 'ostiarylaw21.ViewOnce', WHERE WHAT IT READS IS OF BULK AT MOST 1048576: true; the input reads as it did. -/
def viewOnceUptoRow : OpenClaim := { program := "ytapocekfkbkefaa", sum := "b442cdef9cd8168e4f9fd9d9ae41e3e430e550b7b67b0b1f9a11ca55a719e122", func := "ostiary/ostiarylaw21.ViewOnce", spec := "viewOnce", inPlace := ["slices.overlaps[ostiary/shelf.slot[int, int]]", "slices.overlaps[ostiary/shelf.slot[int, ostiary/view.seen]]"], unfollowed := true, recurses := true, apart := false, narrowed := true }
def ViewOnceUptoSaid : Prop := viewOnceUptoRow.holds Try.pinned (OpenSpec.upto viewOnceSpec)

/-- 'ostiarylaw21.ViewAgain', WHERE WHAT IT READS IS OF BULK AT MOST 1048576: true; the input reads as it did. -/
def viewAgainUptoRow : OpenClaim := { program := "ytapocekfkbkefaa", sum := "b442cdef9cd8168e4f9fd9d9ae41e3e430e550b7b67b0b1f9a11ca55a719e122", func := "ostiary/ostiarylaw21.ViewAgain", spec := "viewAgain", inPlace := ["slices.overlaps[ostiary/shelf.slot[int, int]]", "slices.overlaps[ostiary/shelf.slot[int, ostiary/view.seen]]"], unfollowed := true, recurses := true, apart := false, narrowed := true }
def ViewAgainUptoSaid : Prop := viewAgainUptoRow.holds Try.pinned (OpenSpec.upto viewAgainSpec)

/-- 'ostiarylaw21.ViewPlays', WHERE WHAT IT READS IS OF BULK AT MOST 1048576: true; the input reads as it did. -/
def viewPlaysUptoRow : OpenClaim := { program := "ytapocekfkbkefaa", sum := "b442cdef9cd8168e4f9fd9d9ae41e3e430e550b7b67b0b1f9a11ca55a719e122", func := "ostiary/ostiarylaw21.ViewPlays", spec := "viewPlays", inPlace := ["slices.overlaps[ostiary/shelf.slot[int, int]]", "slices.overlaps[ostiary/shelf.slot[int, ostiary/view.seen]]"], unfollowed := true, recurses := true, apart := false, narrowed := true }
def ViewPlaysUptoSaid : Prop := viewPlaysUptoRow.holds Try.pinned (OpenSpec.upto viewPlaysSpec)

/-- 'ostiarylaw21.ViewNil', WHERE WHAT IT READS IS OF BULK AT MOST 1048576: true; the input reads as it did. -/
def viewNilUptoRow : OpenClaim := { program := "ytapocekfkbkefaa", sum := "b442cdef9cd8168e4f9fd9d9ae41e3e430e550b7b67b0b1f9a11ca55a719e122", func := "ostiary/ostiarylaw21.ViewNil", spec := "viewNil", inPlace := ["slices.overlaps[ostiary/shelf.slot[int, ostiary/view.seen]]", "slices.overlaps[ostiary/shelf.slot[int, int]]"], unfollowed := true, recurses := true, apart := false, narrowed := true }
def ViewNilUptoSaid : Prop := viewNilUptoRow.holds Try.pinned (OpenSpec.upto viewNilSpec)

end Rows
end Go.Proofs.Ytapocekfkbkefaa
