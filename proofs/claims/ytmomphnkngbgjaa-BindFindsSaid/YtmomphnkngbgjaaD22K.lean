import Derived.Test.YtmomphnkngbgjaaD21K
set_option linter.unusedSimpArgs false
set_option linter.unusedVariables false
namespace Go.Proofs.Ytmomphnkngbgjaa
open Go Go.Al
set_option maxRecDepth 20000

theorem fold_no {m : Int} {l : List Bd} (h : ∀ x ∈ l, x.mac ≠ m) (a : Option Bd) : l.foldl (fun a x => if x.mac = m then some x else a) a = a := by
  induction l generalizing a with
  | nil => rfl
  | cons x r ih => rw [List.foldl_cons, if_neg (h x (by simp))]; exact ih (fun y hy => h y (by simp [hy])) a
theorem KM.ne {p : Int × Bd} {r : List (Int × Bd)} (hS : Srt (p :: r)) (hK : KM (p :: r)) : ∀ x ∈ r.map Prod.snd, x.mac ≠ p.2.mac := by
  intro x hx e
  obtain ⟨y, hy, rfl⟩ := List.mem_map.1 hx
  have h1 := (Srt.cons.1 hS).1 y hy
  have h2 := hK p (by simp)
  have h3 := hK y (by simp [hy])
  rw [KO_int] at h1
  have := of_decide_eq_true h1
  omega
theorem lastM_get {L : List (Int × Bd)} {m : Int} (hS : Srt L) (hK : KM L) : lastM m (L.map Prod.snd) = getL L m := by
  have key : ∀ (L : List (Int × Bd)) (a : Option Bd), Srt L → KM L → (L.map Prod.snd).foldl (fun a x => if x.mac = m then some x else a) a = (getL L m).or a := by
    intro L
    induction L with
    | nil => intro a _ _; rfl
    | cons p r ih =>
      intro a hS hK
      have hp := hK p (by simp)
      rw [List.map_cons, List.foldl_cons]
      by_cases e : p.2.mac = m
      · rw [if_pos e, fold_no (by rw [← e]; exact hK.ne hS)]
        unfold getL; rw [if_pos (by omega)]; rfl
      · rw [if_neg e, ih a (Srt.cons.1 hS).2 (fun x hx => hK x (by simp [hx]))]
        have : getL (p :: r) m = getL r m := by rw [getL, if_neg (by omega)]
        rw [this]
  have := key L none hS hK
  unfold lastM
  rw [this]; cases getL L m <;> rfl
end Go.Proofs.Ytmomphnkngbgjaa
