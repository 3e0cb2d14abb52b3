import Derived.Test.YteifakkknhfdpaaD6K
set_option linter.unusedSimpArgs false
set_option linter.unusedVariables false
namespace Go.Proofs.Yteifakkknhfdpaa
open Go Go.Al
set_option maxRecDepth 20000
attribute [local irreducible] awp aops aopsD eop pv ACalls CallK AppK AEnds ti

def NextI (L : List (Int × Int)) : Prop := ∀ p ∈ L, p.2 = 2 * (p.1.tmod 1000)
set_option maxHeartbeats 4000000 in
theorem shelfNext_c {s0 : Option (List Int)} : ACalls Try.prog 3 [ofS cI s0] emptyH fun r G' => G' = emptyH ∧ r = .bool true := by
  refine ACalls.hide fun post hpost => ?_
  refine F3_in (by simp) (by simp) fun hbd => ?_
  refine awp_seqH fun K1 hK1 => ?_
  simp (disch := first | (with_reducible assumption) | (simp; done) | omega | (simp; omega)) [F3_r0]
  refine hK1.out _ _ ?_
  refine awp_seqH fun K2 hK2 => ?_
  have main : ∀ (s : Option (List Int)) (T : Tm), (LL s).length ≤ 40 → T 0 = ofS cI s → K2 T emptyH := by
    intro s T hl e0
    refine hK2.out _ _ ?_
    repeat' (first
      | refine awp_seqK fun K' hpK => ?_
      | refine awp_block ?_
      | refine awp_condG fun A' B' hpA hpB => ?_
      | refine useK (by with_reducible assumption) ?_
      | refine useP (by with_reducible assumption) ?_
      | refine ED_cons (fun _ => ?_) ?_
      | (refine stable_mk ?_; simp (disch := first | (with_reducible assumption) | (simp; done) | omega | (simp; omega)) [e0]; done)
      | (refine stable_no ?_; simp (disch := first | (with_reducible assumption) | (simp; done) | omega | (simp; omega)) [e0]; done)
      | (with_reducible refine And.intro ?_ ?_)
      | (with_reducible intro hc; try (exfalso; omega))
      | (with_reducible refine GDsplit (fun hc => ?_) (fun hc => ?_) <;> try simp [hc])
      | (with_reducible refine GDsplitN (fun hc => ?_) (fun hc => ?_) <;> try simp [hc])
      | (with_reducible refine GDsplitNB (fun hc => ?_) (fun hc => ?_) <;> try simp [hc])
      | (with_reducible refine GDsplitB (fun hc => ?_) (fun hc => ?_) <;> try simp [hc])
      | (with_reducible refine GKsplit (fun hc => ?_) (fun hc => ?_) <;> try simp [hc])
      | (with_reducible refine GKsplitN (fun hc => ?_) (fun hc => ?_) <;> try simp [hc])
      | (with_reducible refine GKsplitNB (fun hc => ?_) (fun hc => ?_) <;> try simp [hc])
      | (with_reducible refine GKsplitB (fun hc => ?_) (fun hc => ?_) <;> try simp [hc])
      | simp (disch := first | (with_reducible assumption) | (simp; done) | omega | (simp; omega)) [e0])
    refine CallK.use (newI_E (m := 64) rfl) ?_
    rintro r G1 _ _ ⟨sb, rfl, hs⟩
    repeat' (first
      | refine awp_seqK fun K' hpK => ?_
      | refine awp_block ?_
      | refine awp_condG fun A' B' hpA hpB => ?_
      | refine useK (by with_reducible assumption) ?_
      | refine useP (by with_reducible assumption) ?_
      | refine ED_cons (fun _ => ?_) ?_
      | (refine stable_mk ?_; simp (disch := first | (with_reducible assumption) | (simp; done) | omega | (simp; omega)) [e0]; done)
      | (refine stable_no ?_; simp (disch := first | (with_reducible assumption) | (simp; done) | omega | (simp; omega)) [e0]; done)
      | (with_reducible refine And.intro ?_ ?_)
      | (with_reducible intro hc; try (exfalso; omega))
      | (with_reducible refine GDsplit (fun hc => ?_) (fun hc => ?_) <;> try simp [hc])
      | (with_reducible refine GDsplitN (fun hc => ?_) (fun hc => ?_) <;> try simp [hc])
      | (with_reducible refine GDsplitNB (fun hc => ?_) (fun hc => ?_) <;> try simp [hc])
      | (with_reducible refine GDsplitB (fun hc => ?_) (fun hc => ?_) <;> try simp [hc])
      | (with_reducible refine GKsplit (fun hc => ?_) (fun hc => ?_) <;> try simp [hc])
      | (with_reducible refine GKsplitN (fun hc => ?_) (fun hc => ?_) <;> try simp [hc])
      | (with_reducible refine GKsplitNB (fun hc => ?_) (fun hc => ?_) <;> try simp [hc])
      | (with_reducible refine GKsplitB (fun hc => ?_) (fun hc => ?_) <;> try simp [hc])
      | simp (disch := first | (with_reducible assumption) | (simp; done) | omega | (simp; omega)) [e0])
    refine awp_loop' (fun w T G' => ∃ (k : Nat) (L : List (Int × Int)), k + w = (LL s).length ∧ SHI sb G' L 64 ∧ L.length ≤ k ∧ (L = [] → k = 0) ∧ NextI L ∧ T = ofL [(0, ofS cI s), (3, .ptr sb 0), (21, ofS cI s), (22, .int .i64 (LL s).length), (23, .int .i64 k)]) (LL s).length ⟨0, [], by omega, hs, by simp, by simp, by simp [NextI], by simp⟩ ?_
    rintro w T G' ⟨k, L, hk, hsk, hLk, hL0, hNx, rfl⟩ N hN
    by_cases hkl : k < (LL s).length
    · have hS := hsk.2
      have hset := setI_E (k := (LL s)[k]) (v := 2 * ((LL s)[k]).tmod 1000) (M := setL L (LL s)[k] (2 * ((LL s)[k]).tmod 1000)) (e := 0) hsk (by omega) (by rw [if_pos]; unfold setRI; rw [decide_eq_true (by omega)]; simp) (by rw [if_pos]; unfold setRI; rw [decide_eq_true (by omega)]; simp)
      have ht1 : -1000 < ((LL s)[k]).tmod 1000 := by have := Int.lt_tmod_of_pos ((LL s)[k]) (show (0 : Int) < 1000 by omega); omega
      have ht2 : ((LL s)[k]).tmod 1000 < 1000 := Int.tmod_lt_of_pos _ (by omega)
      obtain ⟨q, hq⟩ : ∃ q, q = ((LL s)[k]).tmod 1000 := ⟨_, rfl⟩
      rw [← hq] at hset ht1 ht2
      repeat' (first
        | refine awp_seqK fun K' hpK => ?_
        | refine awp_block ?_
        | refine awp_condG fun A' B' hpA hpB => ?_
        | refine useK (by with_reducible assumption) ?_
        | refine useP (by with_reducible assumption) ?_
        | refine ED_cons (fun _ => ?_) ?_
        | (refine stable_mk ?_; simp (disch := first | (with_reducible assumption) | (simp; done) | omega | (simp; omega)) [hkl, ofS_idx (f := cI), cI, ← hq]; done)
        | (refine stable_no ?_; simp (disch := first | (with_reducible assumption) | (simp; done) | omega | (simp; omega)) [hkl, ofS_idx (f := cI), cI, ← hq]; done)
        | (with_reducible refine And.intro ?_ ?_)
        | (with_reducible intro hc; try (exfalso; omega))
        | (with_reducible refine GDsplit (fun hc => ?_) (fun hc => ?_) <;> try simp [hc])
        | (with_reducible refine GDsplitN (fun hc => ?_) (fun hc => ?_) <;> try simp [hc])
        | (with_reducible refine GDsplitNB (fun hc => ?_) (fun hc => ?_) <;> try simp [hc])
        | (with_reducible refine GDsplitB (fun hc => ?_) (fun hc => ?_) <;> try simp [hc])
        | (with_reducible refine GKsplit (fun hc => ?_) (fun hc => ?_) <;> try simp [hc])
        | (with_reducible refine GKsplitN (fun hc => ?_) (fun hc => ?_) <;> try simp [hc])
        | (with_reducible refine GKsplitNB (fun hc => ?_) (fun hc => ?_) <;> try simp [hc])
        | (with_reducible refine GKsplitB (fun hc => ?_) (fun hc => ?_) <;> try simp [hc])
        | (refine CallK.use (hset) ?_; rintro r G' _ _ ⟨hs1, rfl⟩)
        | simp (disch := first | (with_reducible assumption) | (simp; done) | omega | (simp; omega)) [hkl, ofS_idx (f := cI), cI, ← hq])
      refine hN (w - 1) _ _ (by omega) ⟨k + 1, _, by omega, hs1, ?_, ?_, ?_, by simp⟩
      · have := setL_len_le hS (LL s)[k] (2 * q); omega
      · intro h; have := setL_len hS (LL s)[k] (2 * q); rw [h] at this
        cases hh : hasL L (LL s)[k] <;> rw [hh] at this
        · simp at this
        · simp at this; rw [List.eq_nil_of_length_eq_zero this.symm] at hh; simp [hasL] at hh
      · intro p hp
        rcases setL_mem hp with rfl | hp
        · simp [hq]
        · exact hNx p hp
    · have hke : k = (LL s).length := by omega
      have hS := hsk.2
      repeat' (first
        | refine awp_seqK fun K' hpK => ?_
        | refine awp_block ?_
        | refine awp_condG fun A' B' hpA hpB => ?_
        | refine useK (by with_reducible assumption) ?_
        | refine useP (by with_reducible assumption) ?_
        | refine ED_cons (fun _ => ?_) ?_
        | (refine stable_mk ?_; simp (disch := first | (with_reducible assumption) | (simp; done) | omega | (simp; omega)) [hkl]; done)
        | (refine stable_no ?_; simp (disch := first | (with_reducible assumption) | (simp; done) | omega | (simp; omega)) [hkl]; done)
        | (with_reducible refine And.intro ?_ ?_)
        | (with_reducible intro hc; try (exfalso; omega))
        | (with_reducible refine GDsplit (fun hc => ?_) (fun hc => ?_) <;> try simp [hc])
        | (with_reducible refine GDsplitN (fun hc => ?_) (fun hc => ?_) <;> try simp [hc])
        | (with_reducible refine GDsplitNB (fun hc => ?_) (fun hc => ?_) <;> try simp [hc])
        | (with_reducible refine GDsplitB (fun hc => ?_) (fun hc => ?_) <;> try simp [hc])
        | (with_reducible refine GKsplit (fun hc => ?_) (fun hc => ?_) <;> try simp [hc])
        | (with_reducible refine GKsplitN (fun hc => ?_) (fun hc => ?_) <;> try simp [hc])
        | (with_reducible refine GKsplitNB (fun hc => ?_) (fun hc => ?_) <;> try simp [hc])
        | (with_reducible refine GKsplitB (fun hc => ?_) (fun hc => ?_) <;> try simp [hc])
        | simp (disch := first | (with_reducible assumption) | (simp; done) | omega | (simp; omega)) [hkl])
      refine CallK.use (keysI_c hsk (by omega)) ?_
      rintro r G' _ _ ⟨rfl, sk, rfl, hsk2⟩
      have hlen : (LL sk).length = L.length := by rw [hsk2]; simp
      by_cases hsk0 : LL sk = []
      · have hle : L = [] := List.eq_nil_of_length_eq_zero (by rw [← hlen, hsk0]; rfl)
        have h0 : LL s = [] := List.eq_nil_of_length_eq_zero (by have := hL0 hle; omega)
        repeat' (first
          | refine awp_seqK fun K' hpK => ?_
          | refine awp_block ?_
          | refine awp_condG fun A' B' hpA hpB => ?_
          | refine useK (by with_reducible assumption) ?_
          | refine useP (by with_reducible assumption) ?_
          | refine ED_cons (fun _ => ?_) ?_
          | (refine stable_mk ?_; simp (disch := first | (with_reducible assumption) | (simp; done) | omega | (simp; omega)) [h0, hsk0]; done)
          | (refine stable_no ?_; simp (disch := first | (with_reducible assumption) | (simp; done) | omega | (simp; omega)) [h0, hsk0]; done)
          | (with_reducible refine And.intro ?_ ?_)
          | (with_reducible intro hc; try (exfalso; omega))
          | (with_reducible refine GDsplit (fun hc => ?_) (fun hc => ?_) <;> try simp [hc])
          | (with_reducible refine GDsplitN (fun hc => ?_) (fun hc => ?_) <;> try simp [hc])
          | (with_reducible refine GDsplitNB (fun hc => ?_) (fun hc => ?_) <;> try simp [hc])
          | (with_reducible refine GDsplitB (fun hc => ?_) (fun hc => ?_) <;> try simp [hc])
          | (with_reducible refine GKsplit (fun hc => ?_) (fun hc => ?_) <;> try simp [hc])
          | (with_reducible refine GKsplitN (fun hc => ?_) (fun hc => ?_) <;> try simp [hc])
          | (with_reducible refine GKsplitNB (fun hc => ?_) (fun hc => ?_) <;> try simp [hc])
          | (with_reducible refine GKsplitB (fun hc => ?_) (fun hc => ?_) <;> try simp [hc])
          | (refine CallK.use (awake_c _) ?_; rintro r G' _ _ ⟨rfl, rfl⟩)
          | simp (disch := first | (with_reducible assumption) | (simp; done) | omega | (simp; omega)) [h0, hsk0])
        exact ends_drop (by simp <;> rfl) (by simp) (hpost _ _ ⟨rfl, rfl⟩)
      · have hc' : (LL sk).length ≠ 0 := fun h => hsk0 (List.eq_nil_of_length_eq_zero h)
        have hpos : 0 < L.length := by omega
        have hget : ∀ (i : Nat) (hi : i < (LL sk).length), (LL sk)[i] = (L[i]'(by omega)).1 := by
          intro i hi; simp only [hsk2, List.getElem_map]
        have hg0 := hget 0 (by omega)
        have hpos' : 0 < (LL sk).length := by omega
        repeat' (first
          | refine awp_seqK fun K' hpK => ?_
          | refine awp_block ?_
          | refine awp_condG fun A' B' hpA hpB => ?_
          | refine useK (by with_reducible assumption) ?_
          | refine useP (by with_reducible assumption) ?_
          | refine ED_cons (fun _ => ?_) ?_
          | (refine stable_mk ?_; simp (disch := first | (with_reducible assumption) | (simp; done) | omega | (simp; omega)) [ofS_idx (f := cKI), cKI, hpos', hg0, hsk0]; done)
          | (refine stable_no ?_; simp (disch := first | (with_reducible assumption) | (simp; done) | omega | (simp; omega)) [ofS_idx (f := cKI), cKI, hpos', hg0, hsk0]; done)
          | (with_reducible refine And.intro ?_ ?_)
          | (with_reducible intro hc; try (exfalso; omega))
          | (with_reducible refine GDsplit (fun hc => ?_) (fun hc => ?_) <;> try simp [hc])
          | (with_reducible refine GDsplitN (fun hc => ?_) (fun hc => ?_) <;> try simp [hc])
          | (with_reducible refine GDsplitNB (fun hc => ?_) (fun hc => ?_) <;> try simp [hc])
          | (with_reducible refine GDsplitB (fun hc => ?_) (fun hc => ?_) <;> try simp [hc])
          | (with_reducible refine GKsplit (fun hc => ?_) (fun hc => ?_) <;> try simp [hc])
          | (with_reducible refine GKsplitN (fun hc => ?_) (fun hc => ?_) <;> try simp [hc])
          | (with_reducible refine GKsplitNB (fun hc => ?_) (fun hc => ?_) <;> try simp [hc])
          | (with_reducible refine GKsplitB (fun hc => ?_) (fun hc => ?_) <;> try simp [hc])
          | simp (disch := first | (with_reducible assumption) | (simp; done) | omega | (simp; omega)) [ofS_idx (f := cKI), cKI, hpos', hg0, hsk0])
        refine awp_loop' (fun w T G2 => ∃ (j : Nat) (hj : j < L.length), j + 1 + w = L.length ∧ G2 = G' ∧ T = ofL [(3, .ptr sb 0), (6, ofS cKI sk), (7, .int .i64 (L[j]).1), (8, .int .i64 ((j : Int) + 1))]) (L.length - 1) ⟨0, hpos, by omega, rfl, by simp⟩ ?_
        rintro w T G2 ⟨j, hj, hjw, rfl, rfl⟩ N hN
        have hnx := nextI_c (k := (L[j]).1) hsk (by omega)
        rw [nextL_at hS hj] at hnx
        by_cases hjl : j + 1 < L.length
        · rw [List.getElem?_eq_getElem hjl] at hnx
          have hg1 := hget (j + 1) (by omega)
          have hjl' : (j : Int) + 1 < (LL sk).length := by omega
          have hjl2 : j + 1 < (LL sk).length := by omega
          have hcast : ((j : Int) + 1).toNat = j + 1 := by omega
          have hval := hNx (L[j + 1]) (List.getElem_mem hjl)
          have ht1 : -1000 < ((L[j + 1]).1).tmod 1000 := by have := Int.lt_tmod_of_pos ((L[j + 1]).1) (show (0 : Int) < 1000 by omega); omega
          have ht2 : ((L[j + 1]).1).tmod 1000 < 1000 := Int.tmod_lt_of_pos _ (by omega)
          obtain ⟨q, hq⟩ : ∃ q, q = ((L[j + 1]).1).tmod 1000 := ⟨_, rfl⟩
          rw [← hq] at ht1 ht2 hval
          repeat' (first
            | refine awp_seqK fun K' hpK => ?_
            | refine awp_block ?_
            | refine awp_condG fun A' B' hpA hpB => ?_
            | refine useK (by with_reducible assumption) ?_
            | refine useP (by with_reducible assumption) ?_
            | refine ED_cons (fun _ => ?_) ?_
            | (refine stable_mk ?_; simp (disch := first | (with_reducible assumption) | (simp; done) | omega | (simp; omega)) [hjl', ofS_idx (f := cKI), cKI, hcast, hg1, hjl2, hval, ← hq]; done)
            | (refine stable_no ?_; simp (disch := first | (with_reducible assumption) | (simp; done) | omega | (simp; omega)) [hjl', ofS_idx (f := cKI), cKI, hcast, hg1, hjl2, hval, ← hq]; done)
            | (with_reducible refine And.intro ?_ ?_)
            | (with_reducible intro hc; try (exfalso; omega))
            | (with_reducible refine GDsplit (fun hc => ?_) (fun hc => ?_) <;> try simp [hc])
            | (with_reducible refine GDsplitN (fun hc => ?_) (fun hc => ?_) <;> try simp [hc])
            | (with_reducible refine GDsplitNB (fun hc => ?_) (fun hc => ?_) <;> try simp [hc])
            | (with_reducible refine GDsplitB (fun hc => ?_) (fun hc => ?_) <;> try simp [hc])
            | (with_reducible refine GKsplit (fun hc => ?_) (fun hc => ?_) <;> try simp [hc])
            | (with_reducible refine GKsplitN (fun hc => ?_) (fun hc => ?_) <;> try simp [hc])
            | (with_reducible refine GKsplitNB (fun hc => ?_) (fun hc => ?_) <;> try simp [hc])
            | (with_reducible refine GKsplitB (fun hc => ?_) (fun hc => ?_) <;> try simp [hc])
            | (refine CallK.use (hnx) ?_; rintro r G' _ _ ⟨rfl, rfl⟩)
            | simp (disch := first | (with_reducible assumption) | (simp; done) | omega | (simp; omega)) [hjl', ofS_idx (f := cKI), cKI, hcast, hg1, hjl2, hval, ← hq])
          exact hN (w - 1) _ _ (by omega) ⟨j + 1, hjl, by omega, rfl, by simp⟩
        · rw [List.getElem?_eq_none (by omega)] at hnx
          have hjl' : ¬ (j : Int) + 1 < (LL sk).length := by omega
          repeat' (first
            | refine awp_seqK fun K' hpK => ?_
            | refine awp_block ?_
            | refine awp_condG fun A' B' hpA hpB => ?_
            | refine useK (by with_reducible assumption) ?_
            | refine useP (by with_reducible assumption) ?_
            | refine ED_cons (fun _ => ?_) ?_
            | (refine stable_mk ?_; simp (disch := first | (with_reducible assumption) | (simp; done) | omega | (simp; omega)) [hjl']; done)
            | (refine stable_no ?_; simp (disch := first | (with_reducible assumption) | (simp; done) | omega | (simp; omega)) [hjl']; done)
            | (with_reducible refine And.intro ?_ ?_)
            | (with_reducible intro hc; try (exfalso; omega))
            | (with_reducible refine GDsplit (fun hc => ?_) (fun hc => ?_) <;> try simp [hc])
            | (with_reducible refine GDsplitN (fun hc => ?_) (fun hc => ?_) <;> try simp [hc])
            | (with_reducible refine GDsplitNB (fun hc => ?_) (fun hc => ?_) <;> try simp [hc])
            | (with_reducible refine GDsplitB (fun hc => ?_) (fun hc => ?_) <;> try simp [hc])
            | (with_reducible refine GKsplit (fun hc => ?_) (fun hc => ?_) <;> try simp [hc])
            | (with_reducible refine GKsplitN (fun hc => ?_) (fun hc => ?_) <;> try simp [hc])
            | (with_reducible refine GKsplitNB (fun hc => ?_) (fun hc => ?_) <;> try simp [hc])
            | (with_reducible refine GKsplitB (fun hc => ?_) (fun hc => ?_) <;> try simp [hc])
            | (refine CallK.use (hnx) ?_; rintro r G' _ _ ⟨rfl, rfl⟩)
            | (refine CallK.use (awake_c _) ?_; rintro r G' _ _ ⟨rfl, rfl⟩)
            | simp (disch := first | (with_reducible assumption) | (simp; done) | omega | (simp; omega)) [hjl'])
          exact ends_drop (by simp <;> rfl) (by simp) (hpost _ _ ⟨rfl, rfl⟩)
  have h40 : (LL (s0.map fun l => l.take 40)).length ≤ 40 := by
    cases s0 with
    | none => simp [LL]
    | some l => simp [LL]; omega
  by_cases hc : (40 : Int) < (LL s0).length
  · repeat' (first
      | refine awp_seqK fun K' hpK => ?_
      | refine awp_block ?_
      | refine awp_condG fun A' B' hpA hpB => ?_
      | refine useK (by with_reducible assumption) ?_
      | refine useP (by with_reducible assumption) ?_
      | refine ED_cons (fun _ => ?_) ?_
      | (refine stable_mk ?_; simp (disch := first | (with_reducible assumption) | (simp; done) | omega | (simp; omega)) [hc, aslc_hi (f := cI)]; done)
      | (refine stable_no ?_; simp (disch := first | (with_reducible assumption) | (simp; done) | omega | (simp; omega)) [hc, aslc_hi (f := cI)]; done)
      | (with_reducible refine And.intro ?_ ?_)
      | (with_reducible intro hc; try (exfalso; omega))
      | (with_reducible refine GDsplit (fun hc => ?_) (fun hc => ?_) <;> try simp [hc])
      | (with_reducible refine GDsplitN (fun hc => ?_) (fun hc => ?_) <;> try simp [hc])
      | (with_reducible refine GDsplitNB (fun hc => ?_) (fun hc => ?_) <;> try simp [hc])
      | (with_reducible refine GDsplitB (fun hc => ?_) (fun hc => ?_) <;> try simp [hc])
      | (with_reducible refine GKsplit (fun hc => ?_) (fun hc => ?_) <;> try simp [hc])
      | (with_reducible refine GKsplitN (fun hc => ?_) (fun hc => ?_) <;> try simp [hc])
      | (with_reducible refine GKsplitNB (fun hc => ?_) (fun hc => ?_) <;> try simp [hc])
      | (with_reducible refine GKsplitB (fun hc => ?_) (fun hc => ?_) <;> try simp [hc])
      | simp (disch := first | (with_reducible assumption) | (simp; done) | omega | (simp; omega)) [hc, aslc_hi (f := cI)])
    exact main _ _ h40 (by simp)
  · repeat' (first
      | refine awp_seqK fun K' hpK => ?_
      | refine awp_block ?_
      | refine awp_condG fun A' B' hpA hpB => ?_
      | refine useK (by with_reducible assumption) ?_
      | refine useP (by with_reducible assumption) ?_
      | refine ED_cons (fun _ => ?_) ?_
      | (refine stable_mk ?_; simp (disch := first | (with_reducible assumption) | (simp; done) | omega | (simp; omega)) [hc]; done)
      | (refine stable_no ?_; simp (disch := first | (with_reducible assumption) | (simp; done) | omega | (simp; omega)) [hc]; done)
      | (with_reducible refine And.intro ?_ ?_)
      | (with_reducible intro hc; try (exfalso; omega))
      | (with_reducible refine GDsplit (fun hc => ?_) (fun hc => ?_) <;> try simp [hc])
      | (with_reducible refine GDsplitN (fun hc => ?_) (fun hc => ?_) <;> try simp [hc])
      | (with_reducible refine GDsplitNB (fun hc => ?_) (fun hc => ?_) <;> try simp [hc])
      | (with_reducible refine GDsplitB (fun hc => ?_) (fun hc => ?_) <;> try simp [hc])
      | (with_reducible refine GKsplit (fun hc => ?_) (fun hc => ?_) <;> try simp [hc])
      | (with_reducible refine GKsplitN (fun hc => ?_) (fun hc => ?_) <;> try simp [hc])
      | (with_reducible refine GKsplitNB (fun hc => ?_) (fun hc => ?_) <;> try simp [hc])
      | (with_reducible refine GKsplitB (fun hc => ?_) (fun hc => ?_) <;> try simp [hc])
      | simp (disch := first | (with_reducible assumption) | (simp; done) | omega | (simp; omega)) [hc])
    exact main s0 _ (by omega) (by simp)
theorem shelfNext_law (z0 : (TD.slc (.int .i64)).T) (_ : (TD.slc (.int .i64)).ok z0) :
    ACalls Try.prog 3 [(TD.slc (.int .i64)).av z0] emptyH fun r G' => G' = emptyH ∧ r = .bool true := shelfNext_c (s0 := z0)
end Go.Proofs.Yteifakkknhfdpaa
