import Derived.Test.YtmomphnkngbgjaaD19K
set_option linter.unusedSimpArgs false
set_option linter.unusedVariables false
namespace Go.Proofs.Ytmomphnkngbgjaa
open Go Go.Al
set_option maxRecDepth 20000

def KM (L : List (Int × Bd)) : Prop := ∀ x ∈ L, x.1 = x.2.mac
theorem ins_set {M : List (Int × Bd)} {b : Bd} (hk : KM M) (hh : ∀ x ∈ M, x.2.mac ≠ b.mac) : (setL M b.mac b).map Prod.snd = insM b (M.map Prod.snd) := by
  induction M with
  | nil => rfl
  | cons p r ih =>
    have hp := hk p (by simp)
    have hn := hh p (by simp)
    have ih' := ih (fun x hx => hk x (by simp [hx])) (fun x hx => hh x (by simp [hx]))
    unfold setL
    simp only [List.map_cons, insM]
    by_cases h1 : p.1 < b.mac
    · rw [if_pos (by rw [KO_int]; simpa using h1), if_neg (by omega), List.map_cons, ih']
    · rw [if_neg (by rw [KO_int]; simpa using h1), if_neg (by omega), if_pos (by omega)]; rfl
theorem KM.filter {L : List (Int × Bd)} (h : KM L) (p : Int × Bd → Bool) : KM (L.filter p) := fun x hx => h x (List.mem_filter.1 hx).1
theorem KM.set {L : List (Int × Bd)} (h : KM L) {v : Bd} {k : Int} (hv : k = v.mac) : KM (setL L k v) := by
  intro x hx
  rcases setL_mem hx with rfl | hx
  · exact hv
  · exact h x hx
theorem filter_snd (L : List (Int × Bd)) (p : Bd → Bool) : (L.filter fun x => p x.2).map Prod.snd = (L.map Prod.snd).filter p := by
  induction L with
  | nil => rfl
  | cons x r ih => simp only [List.filter_cons, List.map_cons]; cases h : p x.2 <;> simp [ih]
end Go.Proofs.Ytmomphnkngbgjaa
