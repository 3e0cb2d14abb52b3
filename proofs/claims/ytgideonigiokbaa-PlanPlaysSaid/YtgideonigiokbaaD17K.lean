import Derived.Test.YtgideonigiokbaaD16K
set_option linter.unusedSimpArgs false
set_option linter.unusedVariables false
namespace Go.Proofs.Ytgideonigiokbaa
open Go Go.Al
set_option maxRecDepth 20000

/-- a plan, but for how its path is written -/
def nz (v : On) : On := { v with path := some (LL v.path) }
theorem mayO_nz (v : On) : mayO (nz v) = mayO v := rfl
theorem dueO_nz (now rt : Int) (v : On) : dueO now rt (nz v) = dueO now rt v := rfl
theorem nowM_nz (v : On) : nowM (nz v) = nowM v := rfl
theorem matchO_nz (a b c d : Int) (v : On) : matchO a b c d (nz v) = matchO a b c d v := rfl
theorem okAt_nz (v : On) : okAt (nz v) ↔ okAt v := Iff.rfl
theorem id_nz (v : On) : (nz v).id = v.id := rfl
theorem updV_nz (now rt : Int) (v : On) : updV now rt (nz v) = nz (updV now rt v) := by
  unfold updV; rw [dueO_nz]; split <;> rfl
theorem doneR_nz (sq sw life ep s : Int) (M : List On) : doneR sq sw life ep s (M.map nz) = ((doneR sq sw life ep s M).1.map nz, (doneR sq sw life ep s M).2) := by
  induction M with
  | nil => rfl
  | cons v r ih =>
    rw [List.map_cons]
    unfold doneR
    rw [matchO_nz, ih]
    split
    · show (if v.at_ = 0 then _ else _) = _
      split <;> rfl
    · rfl
theorem any_nz (M : List On) (i : Int) : (M.map nz).any (fun q => decide (q.id = i)) = M.any (fun q => decide (q.id = i)) := by
  rw [List.any_map]; rfl
theorem cntV_nz (M : List On) (i : Int) : cntV (M.map nz) i = cntV M i := by
  unfold cntV; rw [List.filter_map, List.length_map]; rfl
theorem rstartP_nz (M : List On) (sq : Int) (x : On) : rstartP (M.map nz) sq (nz x) = ((rstartP M sq x).1.map nz, (rstartP M sq x).2) := by
  unfold rstartP insV
  rw [id_nz, any_nz, mayO_nz, cntV_nz]
  split
  · rfl
  · split
    · simp [List.map_take, List.map_drop]
    · rfl
theorem cntV_pos {L : List (Int × On)} (h : Srt L) (hk : ∀ q ∈ L, q.1 = q.2.id) (i : Int) : cntV (L.map Prod.snd) i = posL L i := by
  induction L with
  | nil => rfl
  | cons p r ih =>
    obtain ⟨h1, h2⟩ := Srt.cons.1 h
    have hp := hk p (List.mem_cons_self ..)
    have ih := ih h2 fun q hq => hk q (List.mem_cons_of_mem _ hq)
    unfold cntV at ih ⊢
    unfold posL
    rw [List.map_cons, List.filter_cons]
    by_cases hlt : p.2.id < i
    · rw [if_pos (decide_eq_true hlt), if_pos (show KO.lt p.1 i = true by rw [KO_int, hp]; exact decide_eq_true hlt), List.length_cons, ih]
    · rw [if_neg (by simpa using hlt), if_neg (show ¬ KO.lt p.1 i = true by rw [KO_int, hp]; simpa using hlt)]
      rw [List.length_eq_zero_iff, List.filter_eq_nil_iff]
      intro v hv
      obtain ⟨q, hq, rfl⟩ := List.mem_map.1 hv
      have e := h1 q hq
      rw [KO_int] at e
      have e := of_decide_eq_true e
      have := hk q (List.mem_cons_of_mem _ hq)
      simp only [decide_eq_true_eq]
      omega
theorem hasL_any {L : List (Int × On)} (hk : ∀ q ∈ L, q.1 = q.2.id) (i : Int) : (L.map Prod.snd).any (fun q => decide (q.id = i)) = hasL L i := by
  unfold hasL
  rw [List.any_map]
  induction L with
  | nil => rfl
  | cons p r ih =>
    rw [List.any_cons, List.any_cons, ih fun q hq => hk q (List.mem_cons_of_mem _ hq), Function.comp, hk p (List.mem_cons_self ..)]
theorem startP_map {L : List (Int × On)} (h : Srt L) (hk : ∀ q ∈ L, q.1 = q.2.id) (sq : Int) (x : On) : rstartP (L.map Prod.snd) sq x = ((startP L sq x).1.map Prod.snd, (startP L sq x).2) := by
  unfold rstartP startP insV
  rw [hasL_any hk, cntV_pos h hk]
  cases hh : hasL L x.id with
  | true => rfl
  | false =>
    cases hm : mayO x with
    | false => rfl
    | true =>
      simp only [Bool.false_eq_true, if_false, if_true]
      rw [setL_new h hh]
      simp [List.map_take, List.map_drop]
theorem doneP_map {L : List (Int × On)} (h : Srt L) (hk : ∀ q ∈ L, q.1 = q.2.id) (sq sw life ep s : Int) : doneR sq sw life ep s (L.map Prod.snd) = ((doneP L sq sw life ep s).1.map Prod.snd, (doneP L sq sw life ep s).2) := by
  induction L with
  | nil => rfl
  | cons p r ih =>
    obtain ⟨h1, h2⟩ := Srt.cons.1 h
    have ih := ih h2 fun q hq => hk q (List.mem_cons_of_mem _ hq)
    have hp := hk p (List.mem_cons_self ..)
    rw [List.map_cons]
    unfold doneR doneP
    rw [List.find?_cons]
    cases hm : matchO sw life ep s p.2 with
    | true =>
      simp only [if_true]
      by_cases ha : p.2.at_ = 0
      · rw [if_pos ha, if_pos ha, delL_head h, hp]
      · rw [if_neg ha, if_neg ha]
        have := setL_mid (A := []) (B := r) (k := p.1) (v := p.2) (v' := stepO sq p.2) h
        simp only [List.nil_append] at this
        rw [show p = (p.1, p.2) from rfl, this]
        simp [hp]
    | false =>
      simp only [Bool.false_eq_true, if_false]
      rw [ih]
      unfold doneP
      cases hf : r.find? fun q => matchO sw life ep s q.2 with
      | none => rfl
      | some q =>
        have hq := List.mem_of_find?_eq_some hf
        have hlt := h1 q hq
        simp only
        by_cases ha : q.2.at_ = 0
        · rw [if_pos ha, if_pos ha]
          unfold delL
          rw [List.filter_cons, if_pos (by simpa using KO.ne hlt)]
          rfl
        · rw [if_neg ha, if_neg ha]
          conv => rhs; unfold setL
          rw [if_pos hlt]
          rfl
/-- both sides' plans -/
structure JR (L : List (Int × On)) (M : List On) : Prop where
  s : Srt L
  k : ∀ q ∈ L, q.1 = q.2.id
  o : ∀ q ∈ L, okAt q.2
  e : M.map nz = (L.map Prod.snd).map nz
theorem JR.nil : JR [] [] := ⟨Srt.nil, by simp, by simp, rfl⟩
theorem JR.okM {L : List (Int × On)} {M : List On} (h : JR L M) : ∀ v ∈ M, okAt v := by
  intro v hv
  have hm : nz v ∈ M.map nz := List.mem_map.2 ⟨v, hv, rfl⟩
  rw [h.e] at hm
  obtain ⟨u, hu, e⟩ := List.mem_map.1 hm
  obtain ⟨q, hq, rfl⟩ := List.mem_map.1 hu
  rw [← okAt_nz, ← e, okAt_nz]; exact h.o q hq
theorem JR.len {L : List (Int × On)} {M : List On} (h : JR L M) : M.length = L.length := by
  have := congrArg List.length h.e
  simpa using this
theorem JR.ids {L : List (Int × On)} {M : List On} (h : JR L M) : L.map Prod.fst = M.map On.id := by
  have e : (M.map nz).map On.id = M.map On.id := by rw [List.map_map]; rfl
  rw [← e, h.e, List.map_map, List.map_map]
  exact List.map_congr_left fun q hq => h.k q hq
theorem JR.start {L : List (Int × On)} {M : List On} (h : JR L M) {x1 x2 : On} {sq : Int} (hx : nz x1 = nz x2) (ho : mayO x1 = true → okAt x1) (hs : Srt (startP L sq x1).1) : JR (startP L sq x1).1 (rstartP M sq x2).1 ∧ (startP L sq x1).2 = (rstartP M sq x2).2 := by
  have a := startP_map h.s h.k sq x1
  have b := rstartP_nz (L.map Prod.snd) sq x1
  have c := rstartP_nz M sq x2
  rw [h.e, ← hx, b] at c
  rw [a] at c
  have c1 := congrArg Prod.fst c
  have c2 := congrArg Prod.snd c
  simp only at c1 c2
  refine ⟨⟨hs, ?_, ?_, c1.symm⟩, c2⟩
  · intro q hq
    unfold startP at hq
    split at hq
    · exact h.k q hq
    · split at hq
      · rcases setL_mem hq with rfl | hq
        · rfl
        · exact h.k q hq
      · exact h.k q hq
  · intro q hq
    unfold startP at hq
    split at hq
    · exact h.o q hq
    · split at hq
      · rename_i hm
        rcases setL_mem hq with rfl | hq
        · exact ho hm
        · exact h.o q hq
      · exact h.o q hq
theorem JR.next {L : List (Int × On)} {M : List On} (h : JR L M) (now rt : Int) (hs : Srt (L.map (updN now rt))) : JR (L.map (updN now rt)) (M.map (updV now rt)) := by
  have u : ∀ q : Int × On, (updN now rt q).2 = updV now rt q.2 ∧ (updN now rt q).1 = q.1 := by
    intro q; unfold updN updV; split <;> exact ⟨rfl, rfl⟩
  have w : ∀ v : On, (updV now rt v).id = v.id ∧ (updV now rt v).at_ = v.at_ ∧ (updV now rt v).path = v.path := by
    intro v; unfold updV; split <;> exact ⟨rfl, rfl, rfl⟩
  refine ⟨hs, ?_, ?_, ?_⟩
  · intro q hq
    obtain ⟨p, hp, rfl⟩ := List.mem_map.1 hq
    rw [(u p).1, (u p).2, (w p.2).1]; exact h.k p hp
  · intro q hq
    obtain ⟨p, hp, rfl⟩ := List.mem_map.1 hq
    have := h.o p hp
    unfold okAt at this ⊢
    rw [(u p).1, (w p.2).2.1, (w p.2).2.2]; exact this
  · have e1 : (M.map (updV now rt)).map nz = (M.map nz).map (updV now rt) := by
      rw [List.map_map, List.map_map]; exact List.map_congr_left fun v _ => (updV_nz now rt v).symm
    have e2 : (((L.map (updN now rt)).map Prod.snd).map nz) = ((L.map Prod.snd).map nz).map (updV now rt) := by
      rw [List.map_map, List.map_map, List.map_map, List.map_map]
      refine List.map_congr_left fun q _ => ?_
      show nz (updN now rt q).2 = updV now rt (nz q.2)
      rw [(u q).1, updV_nz]
    rw [e1, e2, h.e]
theorem JR.msgs {L : List (Int × On)} {M : List On} (h : JR L M) (now rt : Int) : (L.filter fun q => dueO now rt q.2).map (fun q => nowM q.2) = (M.filter (dueO now rt)).map nowM := by
  have a : ∀ X : List On, (X.filter (dueO now rt)).map nowM = ((X.map nz).filter (dueO now rt)).map nowM := by
    intro X; rw [List.filter_map, List.map_map]; rfl
  have b : (L.filter fun q => dueO now rt q.2).map (fun q => nowM q.2) = ((L.map Prod.snd).filter (dueO now rt)).map nowM := by
    rw [List.filter_map, List.map_map]; rfl
  rw [b, a M, a (L.map Prod.snd), h.e]
theorem JR.done {L : List (Int × On)} {M : List On} (h : JR L M) (sq sw life ep s : Int) (hs : Srt (doneP L sq sw life ep s).1) : JR (doneP L sq sw life ep s).1 (doneR sq sw life ep s M).1 ∧ (doneP L sq sw life ep s).2 = (doneR sq sw life ep s M).2 := by
  have a := doneP_map h.s h.k sq sw life ep s
  have b := doneR_nz sq sw life ep s (L.map Prod.snd)
  have c := doneR_nz sq sw life ep s M
  rw [h.e, b, a] at c
  have c1 := congrArg Prod.fst c
  have c2 := congrArg Prod.snd c
  simp only at c1 c2
  have m : ∀ q ∈ (doneP L sq sw life ep s).1, q ∈ L ∨ ∃ p ∈ L, q = (p.1, stepO sq p.2) ∧ p.2.at_ ≠ 0 := by
    intro q hq
    unfold doneP at hq
    split at hq
    · exact .inl hq
    · rename_i p hf
      split at hq
      · exact .inl ((List.mem_filter.1 hq).1)
      · rename_i ha
        rcases setL_mem hq with rfl | hq
        · exact .inr ⟨p, List.mem_of_find?_eq_some hf, rfl, ha⟩
        · exact .inl hq
  refine ⟨⟨hs, ?_, ?_, c1.symm⟩, c2⟩
  · intro q hq
    rcases m q hq with hq | ⟨p, hp, rfl, _⟩
    · exact h.k q hq
    · exact h.k p hp
  · intro q hq
    rcases m q hq with hq | ⟨p, hp, rfl, ha⟩
    · exact h.o q hq
    · have := h.o p hp
      unfold okAt stepO at *
      simp only
      omega
theorem startP_len {L : List (Int × On)} (h : Srt L) (sq : Int) (x : On) : (startP L sq x).1.length ≤ L.length + 1 ∧ sq ≤ (startP L sq x).2.1 ∧ (startP L sq x).2.1 ≤ sq + 1 := by
  unfold startP
  split
  · exact ⟨by simp, by simp, by simp; omega⟩
  · split
    · exact ⟨setL_len_le h _ _, by simp; omega, by simp⟩
    · exact ⟨by simp, by simp, by simp; omega⟩
theorem doneP_len {L : List (Int × On)} (h : Srt L) (sq sw life ep s : Int) : (doneP L sq sw life ep s).1.length ≤ L.length + 1 ∧ sq ≤ (doneP L sq sw life ep s).2.1 ∧ (doneP L sq sw life ep s).2.1 ≤ sq + 1 := by
  unfold doneP
  split
  · exact ⟨by simp, by simp, by simp; omega⟩
  · split
    · exact ⟨Nat.le_succ_of_le (List.length_filter_le _ _), by simp, by simp; omega⟩
    · exact ⟨setL_len_le h _ _, by simp; omega, by simp⟩
end Go.Proofs.Ytgideonigiokbaa
