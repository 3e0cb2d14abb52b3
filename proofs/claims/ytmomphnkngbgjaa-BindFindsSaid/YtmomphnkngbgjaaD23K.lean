import Derived.Test.YtmomphnkngbgjaaD22K
set_option linter.unusedSimpArgs false
set_option linter.unusedVariables false
namespace Go.Proofs.Ytmomphnkngbgjaa
open Go Go.Al
set_option maxRecDepth 20000

theorem setU_id {m : Int} {s : ByteArray} {l : List Bd} (h : ∀ x ∈ l, x.mac ≠ m) : l.map (setU m s) = l := by
  induction l with
  | nil => rfl
  | cons x r ih => rw [List.map_cons, ih fun y hy => h y (by simp [hy])]; unfold setU; rw [if_neg (h x (by simp))]
theorem setU_map {L : List (Int × Bd)} {m : Int} {s : ByteArray} {x : Bd} (hS : Srt L) (hK : KM L) (hg : getL L m = some x) : (setL L m { x with user := s }).map Prod.snd = (L.map Prod.snd).map (setU m s) := by
  induction L with
  | nil => cases hg
  | cons p r ih =>
    have hp := hK p (by simp)
    by_cases e : p.1 = m
    · have hx : x = p.2 := by rw [getL, if_pos e] at hg; injection hg with hg; exact hg.symm
      subst hx
      unfold setL
      rw [if_neg (by rw [KO_int]; simp; omega), if_pos e, List.map_cons, List.map_cons, List.map_cons, setU_id (by have := hK.ne hS; intro y hy; have h1 := this y hy; omega)]
      unfold setU; rw [if_pos (by omega)]
    · rw [getL, if_neg e] at hg
      have hlt : p.1 < m := by
        have h1 := (Srt.cons.1 hS).1 _ (getL_mem hg)
        rw [KO_int] at h1
        exact of_decide_eq_true h1
      unfold setL
      rw [if_pos (by rw [KO_int]; simpa using hlt), List.map_cons, ih (Srt.cons.1 hS).2 (fun x hx => hK x (by simp [hx])) hg, List.map_cons, List.map_cons]
      unfold setU; rw [if_neg (by omega)]
end Go.Proofs.Ytmomphnkngbgjaa
