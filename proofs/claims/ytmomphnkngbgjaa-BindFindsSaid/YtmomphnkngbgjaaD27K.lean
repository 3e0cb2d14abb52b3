import Derived.Test.YtmomphnkngbgjaaD26K
set_option linter.unusedSimpArgs false
set_option linter.unusedVariables false
namespace Go.Proofs.Ytmomphnkngbgjaa
open Go Go.Al
set_option maxRecDepth 20000

def clrP (s : ByteArray) (p : Int × Bd) : Int × Bd := (p.1, clrF s p.2)
theorem srt_clr {M : List (Int × Bd)} (h : Srt M) (s : ByteArray) : Srt (M.map (clrP s)) := by
  unfold Srt at *
  rw [List.pairwise_map]
  exact h
theorem getL_clr (M : List (Int × Bd)) (s : ByteArray) (k : Int) : getL (M.map (clrP s)) k = (getL M k).map (clrF s) := by
  induction M with
  | nil => rfl
  | cons p r ih =>
    rw [List.map_cons, getL, getL, ih]
    show (if p.1 = k then some (clrF s p.2) else _) = _
    split <;> rfl
end Go.Proofs.Ytmomphnkngbgjaa
