/- No two bindings of a table have a Mac, an Ip or a port in common, whatever calls are made. -/
import Derived.Test.YtmomphnkngbgjaaRows
import Derived.Test.YtmomphnkngbgjaaD37K
import Derived.Test.YtmomphnkngbgjaaAl1
import Derived.WalkKit
import Derived.ProofKit
import Derived.OpenShut
import Derived.ShutString
import Derived.ChangeOld
import Derived.Below
import Derived.SizedLaws
import Derived.Carry
set_option linter.unusedVariables false
namespace Go.Proofs.Ytmomphnkngbgjaa.bindApartRow
open Go Go.Al Go.ChangeShapes Go.WideShapes Go.ChangeAt Go.RowKit
open Go.ChangeMaps (open_string shut_string)
theorem own : ownKnob Try.prog.godebug = none := by kernel_rfl
theorem laidOut : laidOutB Try.prog = true := by kernel_rfl
theorem fits0 : Fits Try.prog (.slc (.two (.int .i64) (.two (.two (.int .u64) (.two (.int .u32) (.two (.two (.int .i64) (.two (.int .i64) .unit)) (.two .str (.two .str (.two (.int .i64) .unit)))))) (.two (.two (.int .i64) (.two (.int .i64) .unit)) (.two .str (.two (.int .i64) .unit)))))) 22 := (.slc Try.underlying22 (.struct Try.underlying33 (.cons rfl (.int Try.underlying3) (by kernel_rfl) (.cons rfl (.struct Try.underlying31 (.cons rfl (.int Try.underlying25) (by kernel_rfl) (.cons rfl (.int Try.underlying26) (by kernel_rfl) (.cons rfl (.struct Try.underlying24 (.cons rfl (.int Try.underlying3) (by kernel_rfl) (.cons rfl (.int Try.underlying3) (by kernel_rfl) .nil)) (by kernel_rfl)) (by kernel_rfl) (.cons rfl (.str Try.underlying9) (by kernel_rfl) (.cons rfl (.str Try.underlying9) (by kernel_rfl) (.cons rfl (.int Try.underlying2) (by kernel_rfl) .nil)))))) (by kernel_rfl)) (by kernel_rfl) (.cons rfl (.struct Try.underlying24 (.cons rfl (.int Try.underlying3) (by kernel_rfl) (.cons rfl (.int Try.underlying3) (by kernel_rfl) .nil)) (by kernel_rfl)) (by kernel_rfl) (.cons rfl (.str Try.underlying9) (by kernel_rfl) (.cons rfl (.int Try.underlying2) (by kernel_rfl) .nil))))) (by kernel_rfl)) (by kernel_rfl) (of_decide_eq_true (by kernel_rfl)) (of_decide_eq_true (by kernel_rfl)))
set_option maxRecDepth 100000 in
theorem lifted (os : Os) (started : os.Started) (H : Type) (enc : TypeId × Value → H) :
    ReturnsInHanded {} Try.checked os 4 .any (Rows.bindApartSpec.pre6 enc Try.prog Try.f4 Rows.bindApartRow.domain false) (Rows.bindApartSpec.post enc Try.prog Try.f4 false true false false) := by
  refine returnsInHanded_of_change_sized (C := Try.checked) own started (by kernel_rfl) Try.func4
    (ChangeSpec.witness6 (enc := enc) (C := Try.checked) false ⟨#[], #[.slice none 0 0], []⟩ 8 (by kernel_rfl) (by kernel_rfl) (by kernel_rfl) (by kernel_rfl)) ?_
  intro W base args ds gs before hval0 hW hcnd hsz0 _
  have hsz : (DataW.weightsEach Try.prog (Try.f4.params.toList ++ Rows.bindApartSpec.plain.varTypes Try.prog) (ds ++ gs)).all (· ≤ reachBytes) = true := hsz0
  have hval : ∀ (j : Nat) t v, Try.f4.params[j]? = some t → args[j]? = some v → Value.okWide Try.prog W .any base t v := hval0
  have hW' := hW
  obtain ⟨p, q, hA0, hV, rfl, hfz, hnd⟩ := hW
  have hA : DataW.TrodAll enc Try.prog W 0 (fun _ => true) true Try.f4.params.toList args.toList ds p := hA0
  rw [Try.params4] at hA hval hsz
  obtain ⟨v0, vs0, d0, ds0, p0, q0, hargs, rfl, rfl, h0, r0⟩ := trodAll_cons hA
  obtain ⟨rfl, rfl, rfl⟩ := trodAll_nil r0
  obtain rfl : args = #[v0] := by cases args; simp_all
  obtain ⟨rfl, rfl⟩ := trodVars_none hV
  have lt0 : ∀ x ∈ p0, x.block < W.heap.size := by obtain ⟨m, hm⟩ := h0; exact DataW.trod_lt m _ _ _ hm
  obtain ⟨z0, o0, g0⟩ := open_arg fits0 (hval 0 22 v0 rfl rfl) h0 (weights_at hsz 0 rfl rfl)
  clear hA0 hval0 hsz0 hsz
  refine (acalls_row (bindApart_law z0 o0) (cargs := #[v0]) (w := W) (by simp only [VRs]; exact ⟨_, _, rfl, g0, rfl⟩)).mono fun e W' ⟨he, bel⟩ => ?_
  subst he
  exact ⟨_, rfl, _, _, _, [], _, [], hW', trodAll_mk1 (shut_bool Try.underlying4 _), (trodAll_cons_mk (Below.trod laidOut (by kernel_rfl) (of_decide_eq_true (by kernel_rfl)) h0 bel lt0) trodAll_mk0), rfl, bel.frame _, fun h => by cases h⟩
theorem over : Rows.bindApartRow.holds Try.pinned (OpenSpec.ofChange Rows.bindApartSpec) :=
  OpenClaim.holds_of_wide 4 Try.f4 rfl rfl rfl rfl rfl rfl rfl ⟨rfl, rfl, rfl, rfl, rfl⟩ rfl rfl rfl rfl rfl (by kernel_rfl) Try.func4 (by kernel_rfl)
    (of_decide_eq_true (by kernel_rfl)) (by unfold Func.isWrapper; first | (rw [if_pos (by decide +kernel)]; kernel_rfl) | (rw [if_neg (by decide +kernel)]; exact ⟨rfl, rfl⟩))
    (fun os started H enc _ => lifted os started H enc)
theorem proved : Rows.BindApartSaid := over
#print axioms proved
end Go.Proofs.Ytmomphnkngbgjaa.bindApartRow
namespace Go.Proofs.Ytmomphnkngbgjaa
/-- The row, under a short name, for the claim. -/
theorem bindApart_holds : Rows.BindApartSaid := bindApartRow.proved
end Go.Proofs.Ytmomphnkngbgjaa
