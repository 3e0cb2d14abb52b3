/-
  No cell of these rows narrows 'for every input' (looked for: loops, veiled, ifaces, maps, wideKeys, modest, calm, conditions, laid).
  DERIVED. THE GIVEN ROWS OF THIS SEAT. 4 by the template 'for every input the law returns true; each argument reads behind the call as it read before'; 0 by the template 'total and deterministic' (their statements: YtgideonigiokbaaTotals.lean).
  GIVEN WITH THE SEED: the statements are not yours to turn. If you find one false, say at which input.
  Laid BY PROGRAM, IN A SANDBOX (cutbox-rows.mjs): the forced cells as the released guide's own fill.sh prints them over the translation 7c0d51126d0ed518… (all of the seat's roots in one cut). By AI agents, Wed Nov 11 2026. No macro, syntax, notation, axiom, sorry.
-/
import Derived.Test.YtgideonigiokbaaChecked
import GoSem.Claim
import GoSem.ClaimJoined
import GoSem.ClaimMapViews
import Derived.JoinedTies
import Derived.KernelRfl
namespace Go.Proofs.Ytgideonigiokbaa
/- THE CELL 'sum', in the pinned program and in every row, IS THE sha256 OF THE DUMP (.gsa) THAT YtgideonigiokbaaProg.lean LOADS. Nothing in Lean hashes anything: it is a label: what it is worth is what the hold of that sum in a sandbox is worth. -/
noncomputable def Try.pinned : Pinned := { name := "ytgideonigiokbaa", sum := "7c0d51126d0ed518cf202c85040aea887042ec8b9ef72f9774cfa9f67566f15a", checked := Try.checked }
namespace Rows
def none {H : Type} : Left H := { results := [], args := [] }

/-- 'ostiarylaw27.PlanOrder': WHATEVER THE INPUT: true; the input reads as it did. -/
def planOrderSpec : ChangeSpec := { name := "planOrder", fn := fun _ => fun
  | [d1, d2, d3, d4] => { results := [.lit (.bool true)], args := [d1, d2, d3, d4] }
  | _ => none }
def planOrderRow : OpenClaim := { program := "ytgideonigiokbaa", sum := "7c0d51126d0ed518cf202c85040aea887042ec8b9ef72f9774cfa9f67566f15a", func := "ostiary/ostiarylaw27.PlanOrder", spec := "planOrder", inPlace := ["slices.overlaps[ostiary/shelf.slot[uint32, ostiary/plan.one]]"], apart := false }
def PlanOrderSaid : Prop := planOrderRow.holds Try.pinned (OpenSpec.ofChange planOrderSpec)

/-- ITS FALSE NEIGHBOUR: 'it returns false'. Refute it at one input. -/
def planOrderWrong : ChangeSpec := { name := "planOrder", fn := fun _ => fun
  | [d1, d2, d3, d4] => { results := [.lit (.bool false)], args := [d1, d2, d3, d4] }
  | _ => none }
def PlanOrderWrongFalsely : Prop := planOrderRow.holds Try.pinned (OpenSpec.ofChange planOrderWrong)

/-- 'ostiarylaw27.PlanRetry': WHATEVER THE INPUT: true; the input reads as it did. -/
def planRetrySpec : ChangeSpec := { name := "planRetry", fn := fun _ => fun
  | [d1, d2, d3, d4] => { results := [.lit (.bool true)], args := [d1, d2, d3, d4] }
  | _ => none }
def planRetryRow : OpenClaim := { program := "ytgideonigiokbaa", sum := "7c0d51126d0ed518cf202c85040aea887042ec8b9ef72f9774cfa9f67566f15a", func := "ostiary/ostiarylaw27.PlanRetry", spec := "planRetry", inPlace := ["slices.overlaps[ostiary/shelf.slot[uint32, ostiary/plan.one]]"], apart := false }
def PlanRetrySaid : Prop := planRetryRow.holds Try.pinned (OpenSpec.ofChange planRetrySpec)

/-- ITS FALSE NEIGHBOUR: 'it returns false'. Refute it at one input. -/
def planRetryWrong : ChangeSpec := { name := "planRetry", fn := fun _ => fun
  | [d1, d2, d3, d4] => { results := [.lit (.bool false)], args := [d1, d2, d3, d4] }
  | _ => none }
def PlanRetryWrongFalsely : Prop := planRetryRow.holds Try.pinned (OpenSpec.ofChange planRetryWrong)

/-- 'ostiarylaw27.PlanPlays': WHATEVER THE INPUT: true; the input reads as it did. -/
def planPlaysSpec : ChangeSpec := { name := "planPlays", fn := fun _ => fun
  | [d1, d2] => { results := [.lit (.bool true)], args := [d1, d2] }
  | _ => none }
def planPlaysRow : OpenClaim := { program := "ytgideonigiokbaa", sum := "7c0d51126d0ed518cf202c85040aea887042ec8b9ef72f9774cfa9f67566f15a", func := "ostiary/ostiarylaw27.PlanPlays", spec := "planPlays", inPlace := ["slices.overlaps[ostiary/shelf.slot[uint32, ostiary/plan.one]]"], apart := false }
def PlanPlaysSaid : Prop := planPlaysRow.holds Try.pinned (OpenSpec.ofChange planPlaysSpec)

/-- ITS FALSE NEIGHBOUR: 'it returns false'. Refute it at one input. -/
def planPlaysWrong : ChangeSpec := { name := "planPlays", fn := fun _ => fun
  | [d1, d2] => { results := [.lit (.bool false)], args := [d1, d2] }
  | _ => none }
def PlanPlaysWrongFalsely : Prop := planPlaysRow.holds Try.pinned (OpenSpec.ofChange planPlaysWrong)

/-- 'ostiarylaw27.PlanNil': WHATEVER THE INPUT: true; the input reads as it did. -/
def planNilSpec : ChangeSpec := { name := "planNil", fn := fun _ => fun
  | [d1, d2] => { results := [.lit (.bool true)], args := [d1, d2] }
  | _ => none }
def planNilRow : OpenClaim := { program := "ytgideonigiokbaa", sum := "7c0d51126d0ed518cf202c85040aea887042ec8b9ef72f9774cfa9f67566f15a", func := "ostiary/ostiarylaw27.PlanNil", spec := "planNil", inPlace := ["slices.overlaps[ostiary/shelf.slot[uint32, ostiary/plan.one]]"], apart := false }
def PlanNilSaid : Prop := planNilRow.holds Try.pinned (OpenSpec.ofChange planNilSpec)

/-- ITS FALSE NEIGHBOUR: 'it returns false'. Refute it at one input. -/
def planNilWrong : ChangeSpec := { name := "planNil", fn := fun _ => fun
  | [d1, d2] => { results := [.lit (.bool false)], args := [d1, d2] }
  | _ => none }
def PlanNilWrongFalsely : Prop := planNilRow.holds Try.pinned (OpenSpec.ofChange planNilWrong)

/- THE SECOND FORM. 'bulk': how many values and letters a reading holds, each counted each time it is reached (what is shared counts as often as it is met; a slice's spare places count too). A statement '..UptoSaid' is the law's where the arguments, and the package variables that the reading takes, are together of bulk at most 1048576: NARROWER than '..Said'. Prove '..Said' where nothing that the law and all that it calls make is longer than what came in: it says more and counts as full. Else prove '..UptoSaid'. A law counts once. -/
mutual
def uptoBulk {H : Type} : DataW H → Nat
  | .lit (.string bytes) => bytes.length + 1
  | .lit _ => 1
  | .nil => 1
  | .ptr d => uptoBulk d + 1
  | .slice elems spare => uptoBulkAll elems + uptoBulkAll spare + 1
  | .agg parts => uptoBulkAll parts + 1
  | .iface _ d => uptoBulk d + 1
  | .map entries => uptoBulkEntries entries + 1
  | .held _ => 1
def uptoBulkAll {H : Type} : List (DataW H) → Nat
  | [] => 0
  | d :: r => uptoBulk d + uptoBulkAll r
def uptoBulkEntries {H : Type} : List (Lit × DataW H) → Nat
  | [] => 0
  | x :: r => uptoBulkEntry x + uptoBulkEntries r
def uptoBulkEntry {H : Type} : Lit × DataW H → Nat
  | (.string bytes, d) => bytes.length + uptoBulk d + 1
  | (_, d) => uptoBulk d + 1
 end
def uptoSmall : (H : Type) → List (DataW H) → Bool := fun _ ds => decide (uptoBulkAll ds ≤ 1048576)
def OpenSpec.upto (s : _root_.Go.ChangeSpec) : _root_.Go.OpenSpec := { _root_.Go.OpenSpec.ofChange s with cond := some uptoSmall }

/-- 'ostiarylaw27.PlanOrder', WHERE WHAT IT READS IS OF BULK AT MOST 1048576: true; the input reads as it did. -/
def planOrderUptoRow : OpenClaim := { program := "ytgideonigiokbaa", sum := "7c0d51126d0ed518cf202c85040aea887042ec8b9ef72f9774cfa9f67566f15a", func := "ostiary/ostiarylaw27.PlanOrder", spec := "planOrder", inPlace := ["slices.overlaps[ostiary/shelf.slot[uint32, ostiary/plan.one]]"], apart := false, narrowed := true }
def PlanOrderUptoSaid : Prop := planOrderUptoRow.holds Try.pinned (OpenSpec.upto planOrderSpec)

/-- 'ostiarylaw27.PlanRetry', WHERE WHAT IT READS IS OF BULK AT MOST 1048576: true; the input reads as it did. -/
def planRetryUptoRow : OpenClaim := { program := "ytgideonigiokbaa", sum := "7c0d51126d0ed518cf202c85040aea887042ec8b9ef72f9774cfa9f67566f15a", func := "ostiary/ostiarylaw27.PlanRetry", spec := "planRetry", inPlace := ["slices.overlaps[ostiary/shelf.slot[uint32, ostiary/plan.one]]"], apart := false, narrowed := true }
def PlanRetryUptoSaid : Prop := planRetryUptoRow.holds Try.pinned (OpenSpec.upto planRetrySpec)

/-- 'ostiarylaw27.PlanPlays', WHERE WHAT IT READS IS OF BULK AT MOST 1048576: true; the input reads as it did. -/
def planPlaysUptoRow : OpenClaim := { program := "ytgideonigiokbaa", sum := "7c0d51126d0ed518cf202c85040aea887042ec8b9ef72f9774cfa9f67566f15a", func := "ostiary/ostiarylaw27.PlanPlays", spec := "planPlays", inPlace := ["slices.overlaps[ostiary/shelf.slot[uint32, ostiary/plan.one]]"], apart := false, narrowed := true }
def PlanPlaysUptoSaid : Prop := planPlaysUptoRow.holds Try.pinned (OpenSpec.upto planPlaysSpec)

/-- 'ostiarylaw27.PlanNil', WHERE WHAT IT READS IS OF BULK AT MOST 1048576: true; the input reads as it did. -/
def planNilUptoRow : OpenClaim := { program := "ytgideonigiokbaa", sum := "7c0d51126d0ed518cf202c85040aea887042ec8b9ef72f9774cfa9f67566f15a", func := "ostiary/ostiarylaw27.PlanNil", spec := "planNil", inPlace := ["slices.overlaps[ostiary/shelf.slot[uint32, ostiary/plan.one]]"], apart := false, narrowed := true }
def PlanNilUptoSaid : Prop := planNilUptoRow.holds Try.pinned (OpenSpec.upto planNilSpec)

end Rows
end Go.Proofs.Ytgideonigiokbaa
