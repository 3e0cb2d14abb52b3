import Derived.Test.YtmomphnkngbgjaaD24K
set_option linter.unusedSimpArgs false
set_option linter.unusedVariables false
namespace Go.Proofs.Ytmomphnkngbgjaa
open Go Go.Al
set_option maxRecDepth 20000

def clrA (x : Bd) : Bd := { x with user := ByteArray.empty }
theorem getL_logout {L : List (Int × Bd)} (hS : Srt L) (m k : Int) : getL (logoutB L m).1 k = if k = m then (getL L m).map clrA else getL L k := by
  unfold logoutB
  cases hg : getL L m with
  | none => simp only; split; (rename_i h; rw [h, hg]; rfl); rfl
  | some x =>
    simp only
    split
    · rename_i hu
      split
      · rename_i h; rw [h, hg]; show some x = some (clrA x); unfold clrA; cases x; simp at hu; simp [hu]
      · rfl
    · rw [getL_set hS]; rfl
end Go.Proofs.Ytmomphnkngbgjaa
