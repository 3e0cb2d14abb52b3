import Derived.Test.YtmomphnkngbgjaaD25K
set_option linter.unusedSimpArgs false
set_option linter.unusedVariables false
namespace Go.Proofs.Ytmomphnkngbgjaa
open Go Go.Al
set_option maxRecDepth 20000

/-- who is logged out by the second round of Forget -/
def outM (s : ByteArray) (l : List Bd) (k : Int) : Bool := l.any fun y => decide (y.host ≠ s ∧ y.mac = k)
theorem clrA_clrA (x : Bd) : clrA (clrA x) = clrA x := rfl
theorem fold_out {l : List Bd} {s : ByteArray} {M : List (Int × Bd)} (h : JB M) (k : Int) : getL (l.foldl (outF s) M) k = if outM s l k then (getL M k).map clrA else getL M k := by
  induction l generalizing M with
  | nil => rfl
  | cons y r ih =>
    rw [List.foldl_cons]
    have hj : JB (outF s M y) := by unfold outF; split; exact h; exact h.logout _
    rw [ih hj]
    have e : outM s (y :: r) k = (decide (y.host ≠ s ∧ y.mac = k) || outM s r k) := rfl
    rw [e]
    unfold outF
    by_cases h1 : y.host = s
    · rw [if_pos h1]; simp [h1]
    · rw [if_neg h1, getL_logout h.s]
      by_cases h2 : k = y.mac
      · subst h2
        cases hr : outM s r y.mac <;> cases hg : getL M y.mac <;> simp [h1, hg, clrA_clrA]
      · have h3 : ¬ y.mac = k := fun h => h2 h.symm
        simp [h2, h3]
end Go.Proofs.Ytmomphnkngbgjaa
