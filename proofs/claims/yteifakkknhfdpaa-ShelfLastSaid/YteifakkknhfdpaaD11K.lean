import Derived.Test.YteifakkknhfdpaaD8K
set_option linter.unusedSimpArgs false
set_option linter.unusedVariables false
namespace Go.Proofs.Yteifakkknhfdpaa
open Go Go.Al
set_option maxRecDepth 20000

def prs (a b : List Int) (n : Nat) : List (Int × Int) := (a.zip b).take n
theorem prs_len {a b : List Int} {n : Nat} (ha : n ≤ a.length) (hb : n ≤ b.length) : (prs a b n).length = n := by simp [prs]; omega
theorem prs_at {a b : List Int} {n i : Nat} (hi : i < (prs a b n).length) (ha : i < a.length) (hb : i < b.length) : (prs a b n)[i] = (a[i], b[i]) := by simp [prs]
theorem setI_ok {sb : Nat} {h : Hp} {L : List (Int × Int)} {k v : Int} (hs : SHI sb h L 64) (hl : L.length < 64) : ACalls Try.prog 9 [.ptr sb 0, .int .i64 k, .int .i64 v] h fun r h' => SHI sb h' (setL L k v) 64 ∧ r = .int .i64 0 := by
  have hr : setRI L 64 k = true := by unfold setRI; rw [decide_eq_true (by omega)]; simp
  exact setI_E hs (by omega) (by rw [if_pos hr]) (by rw [if_pos hr])

/-- behind i steps from the first one on, and from the last one on -/
def InvA (P L : List (Int × Int)) (i : Nat) : Prop := L.length = i ∧ ∀ x, x ∈ L ↔ x ∈ P.take i
def InvB (P L : List (Int × Int)) (i : Nat) : Prop := L.length = i ∧ ∀ x, x ∈ L ↔ x ∈ P.drop (P.length - i)
def Dst (P : List (Int × Int)) : Prop := ∀ i j (hi : i < P.length) (hj : j < P.length), (P[i]).1 = (P[j]).1 → i = j
theorem InvA.step {P L : List (Int × Int)} {i : Nat} (h : InvA P L i) (hS : Srt L) (hd : Dst P) (hi : i < P.length) : InvA P (setL L (P[i]).1 (P[i]).2) (i + 1) := by
  have hno : ∀ v, ((P[i]).1, v) ∉ L := by
    intro v hm
    obtain ⟨j, hj, e⟩ := List.getElem_of_mem ((h.2 _).1 hm)
    rw [List.length_take] at hj
    rw [List.getElem_take] at e
    have := hd j i (by omega) hi (by rw [e])
    omega
  have hh : hasL L (P[i]).1 = false := by
    cases hq : hasL L (P[i]).1 with
    | false => rfl
    | true => obtain ⟨v, hv⟩ := hasL_mem.1 hq; exact absurd hv (hno v)
  refine ⟨by rw [setL_len hS, hh, h.1]; rfl, ?_⟩
  rintro ⟨k, e⟩
  rw [mem_setL hS, h.2, take_succ_get P i hi, List.mem_append, List.mem_singleton]
  constructor
  · rintro (⟨rfl, rfl⟩ | ⟨_, hm⟩)
    · exact .inr rfl
    · exact .inl hm
  · rintro (hm | hm)
    · refine .inr ⟨?_, hm⟩
      rintro rfl
      exact hno e ((h.2 _).2 hm)
    · exact .inl ⟨congrArg Prod.fst hm, congrArg Prod.snd hm⟩
theorem InvB.step {P L : List (Int × Int)} {i : Nat} (h : InvB P L i) (hS : Srt L) (hd : Dst P) (hi : i < P.length) : InvB P (setL L (P[P.length - 1 - i]'(by omega)).1 (P[P.length - 1 - i]'(by omega)).2) (i + 1) := by
  obtain ⟨m, hm⟩ : ∃ m, m = P.length - 1 - i := ⟨_, rfl⟩
  have hml : m < P.length := by omega
  have e1 : P[P.length - 1 - i]'(by omega) = P[m] := by simp only [hm]
  rw [e1]
  have hno : ∀ v, ((P[m]).1, v) ∉ L := by
    intro v hx
    obtain ⟨j, hj, e⟩ := List.getElem_of_mem ((h.2 _).1 hx)
    rw [List.length_drop] at hj
    rw [List.getElem_drop] at e
    have := hd (P.length - i + j) m (by omega) hml (by rw [e])
    omega
  have hh : hasL L (P[m]).1 = false := by
    cases hq : hasL L (P[m]).1 with
    | false => rfl
    | true => obtain ⟨v, hv⟩ := hasL_mem.1 hq; exact absurd hv (hno v)
  refine ⟨by rw [setL_len hS, hh, h.1]; rfl, ?_⟩
  rintro ⟨k, e⟩
  have e2 : P.drop (P.length - (i + 1)) = P[m] :: P.drop (P.length - i) := by
    rw [show P.length - (i + 1) = m by omega, List.drop_eq_getElem_cons hml, show m + 1 = P.length - i by omega]
  rw [mem_setL hS, h.2, e2, List.mem_cons]
  constructor
  · rintro (⟨rfl, rfl⟩ | ⟨_, hx⟩)
    · exact .inl rfl
    · exact .inr hx
  · rintro (hx | hx)
    · exact .inl ⟨congrArg Prod.fst hx, congrArg Prod.snd hx⟩
    · refine .inr ⟨?_, hx⟩
      rintro rfl
      exact hno e ((h.2 _).2 hx)
end Go.Proofs.Yteifakkknhfdpaa
