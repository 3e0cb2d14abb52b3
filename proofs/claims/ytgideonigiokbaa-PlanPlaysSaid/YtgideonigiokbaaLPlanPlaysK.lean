/- Whatever is started, said and told as done, what is said next, and which plans there are, is as the chapter says, for every retry and every list of calls. -/
import Derived.Test.YtgideonigiokbaaRows
import Derived.Test.YtgideonigiokbaaD19K
import Derived.Test.YtgideonigiokbaaAl1
import Derived.WalkKit
import Derived.ProofKit
import Derived.OpenShut
import Derived.ShutString
import Derived.ChangeOld
import Derived.Below
import Derived.SizedLaws
import Derived.Carry
set_option linter.unusedVariables false
namespace Go.Proofs.Ytgideonigiokbaa.planPlaysRow
open Go Go.Al Go.ChangeShapes Go.WideShapes Go.ChangeAt Go.RowKit
open Go.ChangeMaps (open_string shut_string)
theorem own : ownKnob Try.prog.godebug = none := by kernel_rfl
theorem laidOut : laidOutB Try.prog = true := by kernel_rfl
theorem fits0 : Fits Try.prog (.int .i64) 2 := (.int Try.underlying2)
theorem fits1 : Fits Try.prog (.slc (.two (.int .i64) (.two (.two (.int .u32) (.two (.int .u32) (.two (.two (.int .u64) (.two (.int .u64) (.two (.int .u32) (.two (.int .u32) (.two (.int .i64) (.two (.int .i64) (.two (.int .i64) .unit))))))) (.two (.two (.int .i64) (.two (.int .i64) .unit)) (.two (.two (.int .i64) (.two (.int .i64) .unit)) (.two (.two .str (.two .str .unit)) (.two (.two .str (.two .str .unit)) (.two (.int .i64) (.two (.int .i64) (.two (.slc (.two (.int .i64) (.two (.int .i64) (.two (.int .i64) .unit)))) .unit)))))))))) (.two (.two (.int .u32) (.two (.int .u32) (.two (.int .u32) (.two (.int .u32) (.two (.int .u32) (.two (.int .u32) (.two (.int .u32) (.two (.int .u32) (.two (.int .u32) .unit))))))))) (.two (.int .i64) (.two (.int .i64) (.two (.int .i64) (.two (.int .u32) (.two (.int .u32) (.two (.int .u32) (.two (.int .i64) (.two (.int .i64) .unit)))))))))))) 60 := (.slc Try.underlying60 (.struct Try.underlying64 (.cons rfl (.int Try.underlying3) (by kernel_rfl) (.cons rfl (.struct Try.underlying34 (.cons rfl (.int Try.underlying22) (by kernel_rfl) (.cons rfl (.int Try.underlying22) (by kernel_rfl) (.cons rfl (.struct Try.underlying27 (.cons rfl (.int Try.underlying24) (by kernel_rfl) (.cons rfl (.int Try.underlying24) (by kernel_rfl) (.cons rfl (.int Try.underlying25) (by kernel_rfl) (.cons rfl (.int Try.underlying25) (by kernel_rfl) (.cons rfl (.int Try.underlying3) (by kernel_rfl) (.cons rfl (.int Try.underlying3) (by kernel_rfl) (.cons rfl (.int Try.underlying3) (by kernel_rfl) .nil))))))) (by kernel_rfl)) (by kernel_rfl) (.cons rfl (.struct Try.underlying29 (.cons rfl (.int Try.underlying3) (by kernel_rfl) (.cons rfl (.int Try.underlying3) (by kernel_rfl) .nil)) (by kernel_rfl)) (by kernel_rfl) (.cons rfl (.struct Try.underlying29 (.cons rfl (.int Try.underlying3) (by kernel_rfl) (.cons rfl (.int Try.underlying3) (by kernel_rfl) .nil)) (by kernel_rfl)) (by kernel_rfl) (.cons rfl (.struct Try.underlying31 (.cons rfl (.str Try.underlying9) (by kernel_rfl) (.cons rfl (.str Try.underlying9) (by kernel_rfl) .nil)) (by kernel_rfl)) (by kernel_rfl) (.cons rfl (.struct Try.underlying31 (.cons rfl (.str Try.underlying9) (by kernel_rfl) (.cons rfl (.str Try.underlying9) (by kernel_rfl) .nil)) (by kernel_rfl)) (by kernel_rfl) (.cons rfl (.int Try.underlying3) (by kernel_rfl) (.cons rfl (.int Try.underlying3) (by kernel_rfl) (.cons rfl (.slc Try.underlying32 (.struct Try.underlying56 (.cons rfl (.int Try.underlying3) (by kernel_rfl) (.cons rfl (.int Try.underlying3) (by kernel_rfl) (.cons rfl (.int Try.underlying3) (by kernel_rfl) .nil))) (by kernel_rfl)) (by kernel_rfl) (of_decide_eq_true (by kernel_rfl)) (of_decide_eq_true (by kernel_rfl))) (by kernel_rfl) .nil)))))))))) (by kernel_rfl)) (by kernel_rfl) (.cons rfl (Fits.arr (a := (.int .u32)) (n := 9) Try.underlying35 (.int Try.underlying22) (by kernel_rfl) (by kernel_rfl)) (by kernel_rfl) (.cons rfl (.int Try.underlying3) (by kernel_rfl) (.cons rfl (.int Try.underlying3) (by kernel_rfl) (.cons rfl (.int Try.underlying3) (by kernel_rfl) (.cons rfl (.int Try.underlying22) (by kernel_rfl) (.cons rfl (.int Try.underlying22) (by kernel_rfl) (.cons rfl (.int Try.underlying22) (by kernel_rfl) (.cons rfl (.int Try.underlying3) (by kernel_rfl) (.cons rfl (.int Try.underlying3) (by kernel_rfl) .nil))))))))))) (by kernel_rfl)) (by kernel_rfl) (of_decide_eq_true (by kernel_rfl)) (of_decide_eq_true (by kernel_rfl)))
set_option maxRecDepth 100000 in
theorem lifted (os : Os) (started : os.Started) (H : Type) (enc : TypeId × Value → H) :
    ReturnsInHanded {} Try.checked os 5 .any (Rows.planPlaysSpec.pre6 enc Try.prog Try.f5 Rows.planPlaysRow.domain false) (Rows.planPlaysSpec.post enc Try.prog Try.f5 false true false false) := by
  refine returnsInHanded_of_change_sized (C := Try.checked) own started (by kernel_rfl) Try.func5
    (ChangeSpec.witness6 (enc := enc) (C := Try.checked) false ⟨#[], #[.int .i64 0, .slice none 0 0], []⟩ 8 (by kernel_rfl) (by kernel_rfl) (by kernel_rfl) (by kernel_rfl)) ?_
  intro W base args ds gs before hval0 hW hcnd hsz0 _
  have hsz : (DataW.weightsEach Try.prog (Try.f5.params.toList ++ Rows.planPlaysSpec.plain.varTypes Try.prog) (ds ++ gs)).all (· ≤ reachBytes) = true := hsz0
  have hval : ∀ (j : Nat) t v, Try.f5.params[j]? = some t → args[j]? = some v → Value.okWide Try.prog W .any base t v := hval0
  have hW' := hW
  obtain ⟨p, q, hA0, hV, rfl, hfz, hnd⟩ := hW
  have hA : DataW.TrodAll enc Try.prog W 0 (fun _ => true) true Try.f5.params.toList args.toList ds p := hA0
  rw [Try.params5] at hA hval hsz
  obtain ⟨v0, vs0, d0, ds0, p0, q0, hargs, rfl, rfl, h0, r0⟩ := trodAll_cons hA
  obtain ⟨v1, vs1, d1, ds1, p1, q1, rfl, rfl, rfl, h1, r1⟩ := trodAll_cons r0
  obtain ⟨rfl, rfl, rfl⟩ := trodAll_nil r1
  obtain rfl : args = #[v0, v1] := by cases args; simp_all
  obtain ⟨rfl, rfl⟩ := trodVars_none hV
  have lt0 : ∀ x ∈ p0, x.block < W.heap.size := by obtain ⟨m, hm⟩ := h0; exact DataW.trod_lt m _ _ _ hm
  obtain ⟨z0, o0, g0⟩ := open_arg fits0 (hval 0 2 v0 rfl rfl) h0 (weights_at hsz 0 rfl rfl)
  have lt1 : ∀ x ∈ p1, x.block < W.heap.size := by obtain ⟨m, hm⟩ := h1; exact DataW.trod_lt m _ _ _ hm
  obtain ⟨z1, o1, g1⟩ := open_arg fits1 (hval 1 60 v1 rfl rfl) h1 (weights_at hsz 1 rfl rfl)
  clear hA0 hval0 hsz0 hsz
  refine (acalls_row (planPlays_law z0 z1 o0 o1) (cargs := #[v0, v1]) (w := W) (by simp only [VRs]; exact ⟨_, _, rfl, g0, ⟨_, _, rfl, g1, rfl⟩⟩)).mono fun e W' ⟨he, bel⟩ => ?_
  subst he
  exact ⟨_, rfl, _, _, _, [], _, [], hW', trodAll_mk1 (shut_bool Try.underlying4 _), (trodAll_cons_mk (Below.trod laidOut (by kernel_rfl) (of_decide_eq_true (by kernel_rfl)) h0 bel lt0) (trodAll_cons_mk (Below.trod laidOut (by kernel_rfl) (of_decide_eq_true (by kernel_rfl)) h1 bel lt1) trodAll_mk0)), rfl, bel.frame _, fun h => by cases h⟩
theorem over : Rows.planPlaysRow.holds Try.pinned (OpenSpec.ofChange Rows.planPlaysSpec) :=
  OpenClaim.holds_of_wide 5 Try.f5 rfl rfl rfl rfl rfl rfl rfl ⟨rfl, rfl, rfl, rfl, rfl⟩ rfl rfl rfl rfl rfl (by kernel_rfl) Try.func5 (by kernel_rfl)
    (of_decide_eq_true (by kernel_rfl)) (by unfold Func.isWrapper; first | (rw [if_pos (by decide +kernel)]; kernel_rfl) | (rw [if_neg (by decide +kernel)]; exact ⟨rfl, rfl⟩))
    (fun os started H enc _ => lifted os started H enc)
theorem proved : Rows.PlanPlaysSaid := over
#print axioms proved
end Go.Proofs.Ytgideonigiokbaa.planPlaysRow
namespace Go.Proofs.Ytgideonigiokbaa
/-- The row, under a short name, for the claim. -/
theorem planPlays_holds : Rows.PlanPlaysSaid := planPlaysRow.proved
end Go.Proofs.Ytgideonigiokbaa
