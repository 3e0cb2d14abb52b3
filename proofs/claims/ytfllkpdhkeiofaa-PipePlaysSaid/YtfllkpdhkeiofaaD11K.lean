import Derived.Test.YtfllkpdhkeiofaaD10K
set_option linter.unusedSimpArgs false
set_option linter.unusedVariables false
namespace Go.Proofs.Ytfllkpdhkeiofaa
open Go Go.Al
set_option maxRecDepth 20000

theorem PS.lose_snoc (x : PS) (l : List Int) (i : Int) : x.lose (l ++ [i]) = if (atL (x.lose l).L i).isSome then { (x.lose l).lose1 i with lo := (x.lose l).lo + 1 } else x.lose l := by
  unfold PS.lose
  rw [PS.lose_app, PS.lostN_app]
  simp only [PS.lose0, PS.lostN]
  cases hq : (atL (x.lose0 l).L i).isSome with
  | true => simp [PS.lose1]; omega
  | false =>
    simp only [Bool.false_eq_true, if_false]
    have : cutAt (x.lose0 l).L i = (x.lose0 l).L := cutAt_none hq
    simp [PS.lose1, this]
theorem PS.lostN_snoc (x : PS) (l : List Int) (i : Int) : x.lostN (l ++ [i]) = x.lostN l + (if (atL (x.lose l).L i).isSome then 1 else 0) := by
  rw [PS.lostN_app]; rfl
end Go.Proofs.Ytfllkpdhkeiofaa
