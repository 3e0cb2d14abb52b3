import Derived.Test.YteifakkknhfdpaaD11K
set_option linter.unusedSimpArgs false
set_option linter.unusedVariables false
namespace Go.Proofs.Yteifakkknhfdpaa
open Go Go.Al
set_option maxRecDepth 20000
attribute [local irreducible] awp aops aopsD eop pv ACalls CallK AppK AEnds ti

set_option maxHeartbeats 8000000 in
theorem shelfLast_c {ks vs : Option (List Int)} (hk0 : (LL ks).length ≤ 140737488355328) (hv0 : (LL vs).length ≤ 140737488355328) : ACalls Try.prog 4 [ofS cI ks, ofS cI vs] emptyH fun r G' => G' = emptyH ∧ r = .bool true := by
  refine ACalls.hide fun post hpost => ?_
  refine F4_in (by simp) (by simp) fun hbd => ?_
  refine awp_seqH fun K1 hK1 => ?_
  simp (disch := first | (with_reducible assumption) | (simp; done) | omega | (simp; omega)) [F4_r0]
  refine hK1.out _ _ ?_
  refine awp_seqH fun K2 hK2 => ?_
  simp (disch := first | (with_reducible assumption) | (simp; done) | omega | (simp; omega)) [F4_r1]
  refine CallK.use (newI_E (m := 64) rfl) ?_
  rintro r ha _ _ ⟨sa, rfl, hA⟩
  simp (disch := first | (with_reducible assumption) | (simp; done) | omega | (simp; omega)) []
  refine CallK.new (newI_E (m := 64) rfl) ?_
  rintro r hb hdis _ _ ⟨sb, rfl, hB⟩
  simp (disch := first | (with_reducible assumption) | (simp; done) | omega | (simp; omega)) []
  refine hK2.out _ _ ?_
  refine awp_seqH fun K3 hK3 => ?_
  simp (disch := first | (with_reducible assumption) | (simp; done) | omega | (simp; omega)) [F4_r2]
  refine hK3.out _ _ ?_
  refine awp_seqH fun K4 hK4 => ?_
  have main4 : ∀ (n0 : Nat) (T : Tm), n0 ≤ (LL ks).length → n0 ≤ (LL vs).length → T 0 = ofS cI ks → T 1 = ofS cI vs → T 5 = .ptr sa 0 → T 6 = .ptr sb 0 → T 7 = .int .i64 n0 → K4 T (uni ha hb) := by
    intro n0 T hnk0 hnv0 e0 e1 e5 e6 e7
    refine hK4.out _ _ ?_
    refine awp_seqH fun K5 hK5 => ?_
    have main5 : ∀ (n : Nat) (T : Tm), n ≤ 40 → n ≤ (LL ks).length → n ≤ (LL vs).length → T 0 = ofS cI ks → T 1 = ofS cI vs → T 5 = .ptr sa 0 → T 6 = .ptr sb 0 → T 7 = .int .i64 n → K5 T (uni ha hb) := by
      intro n T hn40 hnk hnv e0 e1 e5 e6 e7
      refine hK5.out _ _ ?_
      repeat' (first
        | refine awp_seqK fun K' hpK => ?_
        | refine awp_block ?_
        | refine awp_condG fun A' B' hpA hpB => ?_
        | refine useK (by with_reducible assumption) ?_
        | refine useP (by with_reducible assumption) ?_
        | refine ED_cons (fun _ => ?_) ?_
        | (refine stable_mk ?_; simp (disch := first | (with_reducible assumption) | (simp; done) | omega | (simp; omega)) [e0, e1, e5, e6, e7]; done)
        | (refine stable_no ?_; simp (disch := first | (with_reducible assumption) | (simp; done) | omega | (simp; omega)) [e0, e1, e5, e6, e7]; done)
        | (with_reducible refine And.intro ?_ ?_)
        | (with_reducible intro hc; try (exfalso; omega))
        | (with_reducible refine GDsplit (fun hc => ?_) (fun hc => ?_) <;> try simp [hc])
        | (with_reducible refine GDsplitN (fun hc => ?_) (fun hc => ?_) <;> try simp [hc])
        | (with_reducible refine GDsplitNB (fun hc => ?_) (fun hc => ?_) <;> try simp [hc])
        | (with_reducible refine GDsplitB (fun hc => ?_) (fun hc => ?_) <;> try simp [hc])
        | (with_reducible refine GKsplit (fun hc => ?_) (fun hc => ?_) <;> try simp [hc])
        | (with_reducible refine GKsplitN (fun hc => ?_) (fun hc => ?_) <;> try simp [hc])
        | (with_reducible refine GKsplitNB (fun hc => ?_) (fun hc => ?_) <;> try simp [hc])
        | (with_reducible refine GKsplitB (fun hc => ?_) (fun hc => ?_) <;> try simp [hc])
        | simp (disch := first | (with_reducible assumption) | (simp; done) | omega | (simp; omega)) [e0, e1, e5, e6, e7])
      refine awp_loop' (fun w T G' => ∃ i : Nat, i + w = n ∧ G' = uni ha hb ∧ (∀ j m, j < i → m < j → (LL ks).getD m 0 ≠ (LL ks).getD j 0) ∧ T = ofL [(0, ofS cI ks), (1, ofS cI vs), (5, .ptr sa 0), (6, .ptr sb 0), (7, .int .i64 n), (8, .int .i64 i)]) n ⟨0, by omega, rfl, fun j m hj => absurd hj (by omega), by simp⟩ ?_
      rintro w T G' ⟨i, hi, rfl, hne, rfl⟩ N hN
      by_cases hin : i < n
      · have hik : i < (LL ks).length := by omega
        have hlt : (LL (ks.map fun l => l.take i)).length = i := by
          cases ks with
          | none => simp [LL] at hik
          | some l => simp [LL] at hik ⊢; omega
        have hget : ∀ j (hj : j < i), (LL (ks.map fun l => l.take i))[j]'(by omega) = (LL ks)[j]'(by omega) := by
          intro j hj
          cases ks with
          | none => simp [LL] at hik
          | some l => simp [LL]
        repeat' (first
          | refine awp_seqK fun K' hpK => ?_
          | refine awp_block ?_
          | refine awp_condG fun A' B' hpA hpB => ?_
          | refine useK (by with_reducible assumption) ?_
          | refine useP (by with_reducible assumption) ?_
          | refine ED_cons (fun _ => ?_) ?_
          | (refine stable_mk ?_; simp (disch := first | (with_reducible assumption) | (simp; done) | omega | (simp; omega)) [hin, aslc_hi (f := cI)]; done)
          | (refine stable_no ?_; simp (disch := first | (with_reducible assumption) | (simp; done) | omega | (simp; omega)) [hin, aslc_hi (f := cI)]; done)
          | (with_reducible refine And.intro ?_ ?_)
          | (with_reducible intro hc; try (exfalso; omega))
          | (with_reducible refine GDsplit (fun hc => ?_) (fun hc => ?_) <;> try simp [hc])
          | (with_reducible refine GDsplitN (fun hc => ?_) (fun hc => ?_) <;> try simp [hc])
          | (with_reducible refine GDsplitNB (fun hc => ?_) (fun hc => ?_) <;> try simp [hc])
          | (with_reducible refine GDsplitB (fun hc => ?_) (fun hc => ?_) <;> try simp [hc])
          | (with_reducible refine GKsplit (fun hc => ?_) (fun hc => ?_) <;> try simp [hc])
          | (with_reducible refine GKsplitN (fun hc => ?_) (fun hc => ?_) <;> try simp [hc])
          | (with_reducible refine GKsplitNB (fun hc => ?_) (fun hc => ?_) <;> try simp [hc])
          | (with_reducible refine GKsplitB (fun hc => ?_) (fun hc => ?_) <;> try simp [hc])
          | simp (disch := first | (with_reducible assumption) | (simp; done) | omega | (simp; omega)) [hin, aslc_hi (f := cI)])
        refine awp_loop' (fun v T G' => ∃ (j : Nat) (c : Bool), j + v = i ∧ G' = uni ha hb ∧ (c = false → ∀ m, m < j → (LL ks).getD m 0 ≠ (LL ks).getD i 0) ∧ T = ofL [(0, ofS cI ks), (1, ofS cI vs), (5, .ptr sa 0), (6, .ptr sb 0), (7, .int .i64 n), (8, .int .i64 i), (9, .bool c), (35, ofS cI (ks.map fun l => l.take i)), (36, .int .i64 i), (37, .int .i64 j)]) i ⟨0, false, by omega, rfl, fun _ m hm => absurd hm (by omega), by simp⟩ ?_
        rintro v T G' ⟨j, c, hj, rfl, hc, rfl⟩ M hM
        by_cases hji : j < i
        · have hj2 : j < (LL (ks.map fun l => l.take i)).length := by omega
          have hg := hget j hji
          cases c with
          | true =>
            repeat' (first
              | refine awp_seqK fun K' hpK => ?_
              | refine awp_block ?_
              | refine awp_condG fun A' B' hpA hpB => ?_
              | refine useK (by with_reducible assumption) ?_
              | refine useP (by with_reducible assumption) ?_
              | refine ED_cons (fun _ => ?_) ?_
              | (refine stable_mk ?_; simp (disch := first | (with_reducible assumption) | (simp; done) | omega | (simp; omega)) [hji, hj2, ofS_idx (f := cI), cI, hg, hik]; done)
              | (refine stable_no ?_; simp (disch := first | (with_reducible assumption) | (simp; done) | omega | (simp; omega)) [hji, hj2, ofS_idx (f := cI), cI, hg, hik]; done)
              | (with_reducible refine And.intro ?_ ?_)
              | (with_reducible intro hc; try (exfalso; omega))
              | (with_reducible refine GDsplit (fun hc => ?_) (fun hc => ?_) <;> try simp [hc])
              | (with_reducible refine GDsplitN (fun hc => ?_) (fun hc => ?_) <;> try simp [hc])
              | (with_reducible refine GDsplitNB (fun hc => ?_) (fun hc => ?_) <;> try simp [hc])
              | (with_reducible refine GDsplitB (fun hc => ?_) (fun hc => ?_) <;> try simp [hc])
              | (with_reducible refine GKsplit (fun hc => ?_) (fun hc => ?_) <;> try simp [hc])
              | (with_reducible refine GKsplitN (fun hc => ?_) (fun hc => ?_) <;> try simp [hc])
              | (with_reducible refine GKsplitNB (fun hc => ?_) (fun hc => ?_) <;> try simp [hc])
              | (with_reducible refine GKsplitB (fun hc => ?_) (fun hc => ?_) <;> try simp [hc])
              | simp (disch := first | (with_reducible assumption) | (simp; done) | omega | (simp; omega)) [hji, hj2, ofS_idx (f := cI), cI, hg, hik])
            exact hM (v - 1) _ _ (by omega) ⟨j + 1, true, by omega, rfl, fun h => (by cases h), by simp⟩
          | false =>
            by_cases hq : (LL ks)[j]'(by omega) = (LL ks)[i]
            · repeat' (first
                | refine awp_seqK fun K' hpK => ?_
                | refine awp_block ?_
                | refine awp_condG fun A' B' hpA hpB => ?_
                | refine useK (by with_reducible assumption) ?_
                | refine useP (by with_reducible assumption) ?_
                | refine ED_cons (fun _ => ?_) ?_
                | (refine stable_mk ?_; simp (disch := first | (with_reducible assumption) | (simp; done) | omega | (simp; omega)) [hji, hj2, ofS_idx (f := cI), cI, hg, hik, hq]; done)
                | (refine stable_no ?_; simp (disch := first | (with_reducible assumption) | (simp; done) | omega | (simp; omega)) [hji, hj2, ofS_idx (f := cI), cI, hg, hik, hq]; done)
                | (with_reducible refine And.intro ?_ ?_)
                | (with_reducible intro hc; try (exfalso; omega))
                | (with_reducible refine GDsplit (fun hc => ?_) (fun hc => ?_) <;> try simp [hc])
                | (with_reducible refine GDsplitN (fun hc => ?_) (fun hc => ?_) <;> try simp [hc])
                | (with_reducible refine GDsplitNB (fun hc => ?_) (fun hc => ?_) <;> try simp [hc])
                | (with_reducible refine GDsplitB (fun hc => ?_) (fun hc => ?_) <;> try simp [hc])
                | (with_reducible refine GKsplit (fun hc => ?_) (fun hc => ?_) <;> try simp [hc])
                | (with_reducible refine GKsplitN (fun hc => ?_) (fun hc => ?_) <;> try simp [hc])
                | (with_reducible refine GKsplitNB (fun hc => ?_) (fun hc => ?_) <;> try simp [hc])
                | (with_reducible refine GKsplitB (fun hc => ?_) (fun hc => ?_) <;> try simp [hc])
                | simp (disch := first | (with_reducible assumption) | (simp; done) | omega | (simp; omega)) [hji, hj2, ofS_idx (f := cI), cI, hg, hik, hq])
              exact hM (v - 1) _ _ (by omega) ⟨j + 1, true, by omega, rfl, fun h => (by cases h), by simp⟩
            · repeat' (first
                | refine awp_seqK fun K' hpK => ?_
                | refine awp_block ?_
                | refine awp_condG fun A' B' hpA hpB => ?_
                | refine useK (by with_reducible assumption) ?_
                | refine useP (by with_reducible assumption) ?_
                | refine ED_cons (fun _ => ?_) ?_
                | (refine stable_mk ?_; simp (disch := first | (with_reducible assumption) | (simp; done) | omega | (simp; omega)) [hji, hj2, ofS_idx (f := cI), cI, hg, hik, hq]; done)
                | (refine stable_no ?_; simp (disch := first | (with_reducible assumption) | (simp; done) | omega | (simp; omega)) [hji, hj2, ofS_idx (f := cI), cI, hg, hik, hq]; done)
                | (with_reducible refine And.intro ?_ ?_)
                | (with_reducible intro hc; try (exfalso; omega))
                | (with_reducible refine GDsplit (fun hc => ?_) (fun hc => ?_) <;> try simp [hc])
                | (with_reducible refine GDsplitN (fun hc => ?_) (fun hc => ?_) <;> try simp [hc])
                | (with_reducible refine GDsplitNB (fun hc => ?_) (fun hc => ?_) <;> try simp [hc])
                | (with_reducible refine GDsplitB (fun hc => ?_) (fun hc => ?_) <;> try simp [hc])
                | (with_reducible refine GKsplit (fun hc => ?_) (fun hc => ?_) <;> try simp [hc])
                | (with_reducible refine GKsplitN (fun hc => ?_) (fun hc => ?_) <;> try simp [hc])
                | (with_reducible refine GKsplitNB (fun hc => ?_) (fun hc => ?_) <;> try simp [hc])
                | (with_reducible refine GKsplitB (fun hc => ?_) (fun hc => ?_) <;> try simp [hc])
                | simp (disch := first | (with_reducible assumption) | (simp; done) | omega | (simp; omega)) [hji, hj2, ofS_idx (f := cI), cI, hg, hik, hq])
              refine hM (v - 1) _ _ (by omega) ⟨j + 1, false, by omega, rfl, fun _ m hm => ?_, by simp⟩
              by_cases hmj : m < j
              · exact hc rfl m hmj
              · have : m = j := by omega
                subst this; rw [getD_in hik, getD_in (show m < (LL ks).length by omega)]; exact hq
        · cases c with
          | true =>
            repeat' (first
              | refine awp_seqK fun K' hpK => ?_
              | refine awp_block ?_
              | refine awp_condG fun A' B' hpA hpB => ?_
              | refine useK (by with_reducible assumption) ?_
              | refine useP (by with_reducible assumption) ?_
              | refine ED_cons (fun _ => ?_) ?_
              | (refine stable_mk ?_; simp (disch := first | (with_reducible assumption) | (simp; done) | omega | (simp; omega)) [hji]; done)
              | (refine stable_no ?_; simp (disch := first | (with_reducible assumption) | (simp; done) | omega | (simp; omega)) [hji]; done)
              | (with_reducible refine And.intro ?_ ?_)
              | (with_reducible intro hc; try (exfalso; omega))
              | (with_reducible refine GDsplit (fun hc => ?_) (fun hc => ?_) <;> try simp [hc])
              | (with_reducible refine GDsplitN (fun hc => ?_) (fun hc => ?_) <;> try simp [hc])
              | (with_reducible refine GDsplitNB (fun hc => ?_) (fun hc => ?_) <;> try simp [hc])
              | (with_reducible refine GDsplitB (fun hc => ?_) (fun hc => ?_) <;> try simp [hc])
              | (with_reducible refine GKsplit (fun hc => ?_) (fun hc => ?_) <;> try simp [hc])
              | (with_reducible refine GKsplitN (fun hc => ?_) (fun hc => ?_) <;> try simp [hc])
              | (with_reducible refine GKsplitNB (fun hc => ?_) (fun hc => ?_) <;> try simp [hc])
              | (with_reducible refine GKsplitB (fun hc => ?_) (fun hc => ?_) <;> try simp [hc])
              | (refine CallK.use (awake_c _) ?_; rintro r G' _ _ ⟨rfl, rfl⟩)
              | simp (disch := first | (with_reducible assumption) | (simp; done) | omega | (simp; omega)) [hji])
            exact ends_drop (by simp <;> rfl) (by simp) (hpost _ _ ⟨rfl, rfl⟩)
          | false =>
            repeat' (first
              | refine awp_seqK fun K' hpK => ?_
              | refine awp_block ?_
              | refine awp_condG fun A' B' hpA hpB => ?_
              | refine useK (by with_reducible assumption) ?_
              | refine useP (by with_reducible assumption) ?_
              | refine ED_cons (fun _ => ?_) ?_
              | (refine stable_mk ?_; simp (disch := first | (with_reducible assumption) | (simp; done) | omega | (simp; omega)) [hji]; done)
              | (refine stable_no ?_; simp (disch := first | (with_reducible assumption) | (simp; done) | omega | (simp; omega)) [hji]; done)
              | (with_reducible refine And.intro ?_ ?_)
              | (with_reducible intro hc; try (exfalso; omega))
              | (with_reducible refine GDsplit (fun hc => ?_) (fun hc => ?_) <;> try simp [hc])
              | (with_reducible refine GDsplitN (fun hc => ?_) (fun hc => ?_) <;> try simp [hc])
              | (with_reducible refine GDsplitNB (fun hc => ?_) (fun hc => ?_) <;> try simp [hc])
              | (with_reducible refine GDsplitB (fun hc => ?_) (fun hc => ?_) <;> try simp [hc])
              | (with_reducible refine GKsplit (fun hc => ?_) (fun hc => ?_) <;> try simp [hc])
              | (with_reducible refine GKsplitN (fun hc => ?_) (fun hc => ?_) <;> try simp [hc])
              | (with_reducible refine GKsplitNB (fun hc => ?_) (fun hc => ?_) <;> try simp [hc])
              | (with_reducible refine GKsplitB (fun hc => ?_) (fun hc => ?_) <;> try simp [hc])
              | simp (disch := first | (with_reducible assumption) | (simp; done) | omega | (simp; omega)) [hji])
            refine hN (w - 1) _ _ (by omega) ⟨i + 1, by omega, rfl, fun j' m hj' hm => ?_, by simp⟩
            by_cases h2 : j' < i
            · exact hne j' m h2 hm
            · have h3 : j' = i := by omega
              subst h3; exact hc rfl m (by omega)
      · repeat' (first
          | refine awp_seqK fun K' hpK => ?_
          | refine awp_block ?_
          | refine awp_condG fun A' B' hpA hpB => ?_
          | refine useK (by with_reducible assumption) ?_
          | refine useP (by with_reducible assumption) ?_
          | refine ED_cons (fun _ => ?_) ?_
          | (refine stable_mk ?_; simp (disch := first | (with_reducible assumption) | (simp; done) | omega | (simp; omega)) [hin]; done)
          | (refine stable_no ?_; simp (disch := first | (with_reducible assumption) | (simp; done) | omega | (simp; omega)) [hin]; done)
          | (with_reducible refine And.intro ?_ ?_)
          | (with_reducible intro hc; try (exfalso; omega))
          | (with_reducible refine GDsplit (fun hc => ?_) (fun hc => ?_) <;> try simp [hc])
          | (with_reducible refine GDsplitN (fun hc => ?_) (fun hc => ?_) <;> try simp [hc])
          | (with_reducible refine GDsplitNB (fun hc => ?_) (fun hc => ?_) <;> try simp [hc])
          | (with_reducible refine GDsplitB (fun hc => ?_) (fun hc => ?_) <;> try simp [hc])
          | (with_reducible refine GKsplit (fun hc => ?_) (fun hc => ?_) <;> try simp [hc])
          | (with_reducible refine GKsplitN (fun hc => ?_) (fun hc => ?_) <;> try simp [hc])
          | (with_reducible refine GKsplitNB (fun hc => ?_) (fun hc => ?_) <;> try simp [hc])
          | (with_reducible refine GKsplitB (fun hc => ?_) (fun hc => ?_) <;> try simp [hc])
          | simp (disch := first | (with_reducible assumption) | (simp; done) | omega | (simp; omega)) [hin])
        clear hN
        obtain ⟨P, hP⟩ : ∃ P, P = prs (LL ks) (LL vs) n := ⟨_, rfl⟩
        have hPl : P.length = n := by rw [hP]; exact prs_len hnk hnv
        have hPat : ∀ i (hi : i < P.length), P[i] = ((LL ks)[i]'(by omega), (LL vs)[i]'(by omega)) := by
          intro i hi; subst hP; exact prs_at hi (by omega) (by omega)
        have hd : Dst P := by
          intro a b ha hb e
          rw [hPat a ha, hPat b hb] at e
          simp only [← getD_in (d := (0 : Int))] at e
          rcases Nat.lt_trichotomy a b with h | h | h
          · exact absurd e (hne b a (by omega) h)
          · exact h
          · exact absurd e.symm (hne a b (by omega) h)
        refine awp_loop' (fun w T G' => ∃ (i : Nat) (ha hb : Hp) (A B : List (Int × Int)), i + w = n ∧ G' = uni ha hb ∧ Dis ha hb ∧ SHI sa ha A 64 ∧ SHI sb hb B 64 ∧ InvA P A i ∧ InvB P B i ∧ T = ofL [(0, ofS cI ks), (1, ofS cI vs), (5, .ptr sa 0), (6, .ptr sb 0), (7, .int .i64 n), (12, .int .i64 i)]) n ⟨0, ha, hb, [], [], by omega, rfl, hdis, hA, hB, ⟨rfl, by simp⟩, ⟨rfl, by simp⟩, by simp⟩ ?_
        clear hA hB hdis
        rintro w T G' ⟨i, ha, hb, A, B, hi, rfl, hdis, hA, hB, iA, iB, rfl⟩ N hN
        by_cases hin : i < n
        · have hik : i < (LL ks).length := by omega
          have hiv : i < (LL vs).length := by omega
          obtain ⟨m, hm⟩ : ∃ m : Nat, (n : Int) - 1 - i = m ∧ m = P.length - 1 - i := ⟨n - 1 - i, by omega, by omega⟩
          have hmk : m < (LL ks).length := by omega
          have hmv : m < (LL vs).length := by omega
          have s1 := setI_ok (k := (LL ks)[i]) (v := (LL vs)[i]) hA (by have := iA.1; omega)
          have s2 := setI_ok (k := (LL ks)[m]) (v := (LL vs)[m]) hB (by have := iB.1; omega)
          have jA := iA.step hA.2 hd (by omega)
          have jB := iB.step hB.2 hd (by omega)
          have e1 := hPat i (by omega)
          have e2 := hPat m (by omega)
          have e3 : P[P.length - 1 - i]'(by omega) = P[m]'(by omega) := by simp only [hm.2]
          rw [e1] at jA
          rw [e3, e2] at jB
          repeat' (first
            | refine awp_seqK fun K' hpK => ?_
            | refine awp_block ?_
            | refine awp_condG fun A' B' hpA hpB => ?_
            | refine useK (by with_reducible assumption) ?_
            | refine useP (by with_reducible assumption) ?_
            | refine ED_cons (fun _ => ?_) ?_
            | (refine stable_mk ?_; simp (disch := first | (with_reducible assumption) | (simp; done) | omega | (simp; omega)) [hin, hik, hiv, hm.1, hmk, hmv, ofS_idx (f := cI), cI]; done)
            | (refine stable_no ?_; simp (disch := first | (with_reducible assumption) | (simp; done) | omega | (simp; omega)) [hin, hik, hiv, hm.1, hmk, hmv, ofS_idx (f := cI), cI]; done)
            | (with_reducible refine And.intro ?_ ?_)
            | (with_reducible intro hc; try (exfalso; omega))
            | (with_reducible refine GDsplit (fun hc => ?_) (fun hc => ?_) <;> try simp [hc])
            | (with_reducible refine GDsplitN (fun hc => ?_) (fun hc => ?_) <;> try simp [hc])
            | (with_reducible refine GDsplitNB (fun hc => ?_) (fun hc => ?_) <;> try simp [hc])
            | (with_reducible refine GDsplitB (fun hc => ?_) (fun hc => ?_) <;> try simp [hc])
            | (with_reducible refine GKsplit (fun hc => ?_) (fun hc => ?_) <;> try simp [hc])
            | (with_reducible refine GKsplitN (fun hc => ?_) (fun hc => ?_) <;> try simp [hc])
            | (with_reducible refine GKsplitNB (fun hc => ?_) (fun hc => ?_) <;> try simp [hc])
            | (with_reducible refine GKsplitB (fun hc => ?_) (fun hc => ?_) <;> try simp [hc])
            | (refine CallK.fl (s1) hdis ?_; rintro r h' hdis _ _ ⟨hA', rfl⟩)
            | (refine CallK.fr (s2) hdis ?_; rintro r h' hdis _ _ ⟨hB', rfl⟩)
            | simp (disch := first | (with_reducible assumption) | (simp; done) | omega | (simp; omega)) [hin, hik, hiv, hm.1, hmk, hmv, ofS_idx (f := cI), cI])
          exact hN (w - 1) _ _ (by omega) ⟨i + 1, _, _, _, _, by omega, rfl, hdis, hA', hB', jA, jB, by simp⟩
        · have hie : i = n := by omega
          subst hie
          have hAB : A = B := hA.2.mem_ext hB.2 fun x => by
            rw [iA.2, iB.2, List.take_of_length_le (by omega), show P.length - i = 0 by omega, List.drop_zero]
          subst hAB
          have hAl : A.length = i := iA.1
          repeat' (first
            | refine awp_seqK fun K' hpK => ?_
            | refine awp_block ?_
            | refine awp_condG fun A' B' hpA hpB => ?_
            | refine useK (by with_reducible assumption) ?_
            | refine useP (by with_reducible assumption) ?_
            | refine ED_cons (fun _ => ?_) ?_
            | (refine stable_mk ?_; simp (disch := first | (with_reducible assumption) | (simp; done) | omega | (simp; omega)) [hin]; done)
            | (refine stable_no ?_; simp (disch := first | (with_reducible assumption) | (simp; done) | omega | (simp; omega)) [hin]; done)
            | (with_reducible refine And.intro ?_ ?_)
            | (with_reducible intro hc; try (exfalso; omega))
            | (with_reducible refine GDsplit (fun hc => ?_) (fun hc => ?_) <;> try simp [hc])
            | (with_reducible refine GDsplitN (fun hc => ?_) (fun hc => ?_) <;> try simp [hc])
            | (with_reducible refine GDsplitNB (fun hc => ?_) (fun hc => ?_) <;> try simp [hc])
            | (with_reducible refine GDsplitB (fun hc => ?_) (fun hc => ?_) <;> try simp [hc])
            | (with_reducible refine GKsplit (fun hc => ?_) (fun hc => ?_) <;> try simp [hc])
            | (with_reducible refine GKsplitN (fun hc => ?_) (fun hc => ?_) <;> try simp [hc])
            | (with_reducible refine GKsplitNB (fun hc => ?_) (fun hc => ?_) <;> try simp [hc])
            | (with_reducible refine GKsplitB (fun hc => ?_) (fun hc => ?_) <;> try simp [hc])
            | (refine CallK.fl (keysI_c hA (by omega)) hdis ?_; rintro r h' hdis _ _ ⟨rfl, sx, rfl, hsx⟩)
            | (refine CallK.fr (keysI_c hB (by omega)) hdis ?_; rintro r h' hdis _ _ ⟨rfl, sy, rfl, hsy⟩)
            | simp (disch := first | (with_reducible assumption) | (simp; done) | omega | (simp; omega)) [hin])
          have hxl : (LL sx).length = i := by rw [hsx]; simp [hAl]
          have hxe : LL sx = LL sy := by rw [hsx, hsy]
          refine awp_loop' (fun w T G' => ∃ (j : Nat), j + w = i ∧ G' = uni _ _ ∧ T = ofL [(5, .ptr sa 0), (6, .ptr sb 0), (7, .int .i64 i), (13, ofS cKI sx), (14, ofS cKI sy), (15, .int .i64 ((j : Int) + 1))]) i ⟨0, by omega, rfl, by simp⟩ ?_
          rintro w T G' ⟨j, hj, rfl, rfl⟩ M hM
          by_cases hjl : j + 1 < i
          · have h1 : (j : Int) + 1 < (LL sx).length := by omega
            have h2 : j < (LL sx).length := by omega
            have h3 : j + 1 < (LL sx).length := by omega
            have hc1 : ((j : Int) + 1).toNat = j + 1 := by omega
            have hgt : ¬ (LL sx)[j + 1] ≤ (LL sx)[j] := by
              have := (List.pairwise_iff_getElem.1 hA.2) j (j + 1) (by omega) (by omega) (by omega)
              rw [KO_int] at this
              simp only [hsx, List.getElem_map]
              have := of_decide_eq_true this
              omega
            repeat' (first
              | refine awp_seqK fun K' hpK => ?_
              | refine awp_block ?_
              | refine awp_condG fun A' B' hpA hpB => ?_
              | refine useK (by with_reducible assumption) ?_
              | refine useP (by with_reducible assumption) ?_
              | refine ED_cons (fun _ => ?_) ?_
              | (refine stable_mk ?_; simp (disch := first | (with_reducible assumption) | (simp; done) | omega | (simp; omega)) [h1, h2, h3, hc1, hgt, ofS_idx (f := cKI), cKI]; done)
              | (refine stable_no ?_; simp (disch := first | (with_reducible assumption) | (simp; done) | omega | (simp; omega)) [h1, h2, h3, hc1, hgt, ofS_idx (f := cKI), cKI]; done)
              | (with_reducible refine And.intro ?_ ?_)
              | (with_reducible intro hc; try (exfalso; omega))
              | (with_reducible refine GDsplit (fun hc => ?_) (fun hc => ?_) <;> try simp [hc])
              | (with_reducible refine GDsplitN (fun hc => ?_) (fun hc => ?_) <;> try simp [hc])
              | (with_reducible refine GDsplitNB (fun hc => ?_) (fun hc => ?_) <;> try simp [hc])
              | (with_reducible refine GDsplitB (fun hc => ?_) (fun hc => ?_) <;> try simp [hc])
              | (with_reducible refine GKsplit (fun hc => ?_) (fun hc => ?_) <;> try simp [hc])
              | (with_reducible refine GKsplitN (fun hc => ?_) (fun hc => ?_) <;> try simp [hc])
              | (with_reducible refine GKsplitNB (fun hc => ?_) (fun hc => ?_) <;> try simp [hc])
              | (with_reducible refine GKsplitB (fun hc => ?_) (fun hc => ?_) <;> try simp [hc])
              | simp (disch := first | (with_reducible assumption) | (simp; done) | omega | (simp; omega)) [h1, h2, h3, hc1, hgt, ofS_idx (f := cKI), cKI])
            exact hM (w - 1) _ _ (by omega) ⟨j + 1, by omega, rfl, by simp⟩
          · have h1 : ¬ (j : Int) + 1 < (LL sx).length := by omega
            repeat' (first
              | refine awp_seqK fun K' hpK => ?_
              | refine awp_block ?_
              | refine awp_condG fun A' B' hpA hpB => ?_
              | refine useK (by with_reducible assumption) ?_
              | refine useP (by with_reducible assumption) ?_
              | refine ED_cons (fun _ => ?_) ?_
              | (refine stable_mk ?_; simp (disch := first | (with_reducible assumption) | (simp; done) | omega | (simp; omega)) [h1, hxl]; done)
              | (refine stable_no ?_; simp (disch := first | (with_reducible assumption) | (simp; done) | omega | (simp; omega)) [h1, hxl]; done)
              | (with_reducible refine And.intro ?_ ?_)
              | (with_reducible intro hc; try (exfalso; omega))
              | (with_reducible refine GDsplit (fun hc => ?_) (fun hc => ?_) <;> try simp [hc])
              | (with_reducible refine GDsplitN (fun hc => ?_) (fun hc => ?_) <;> try simp [hc])
              | (with_reducible refine GDsplitNB (fun hc => ?_) (fun hc => ?_) <;> try simp [hc])
              | (with_reducible refine GDsplitB (fun hc => ?_) (fun hc => ?_) <;> try simp [hc])
              | (with_reducible refine GKsplit (fun hc => ?_) (fun hc => ?_) <;> try simp [hc])
              | (with_reducible refine GKsplitN (fun hc => ?_) (fun hc => ?_) <;> try simp [hc])
              | (with_reducible refine GKsplitNB (fun hc => ?_) (fun hc => ?_) <;> try simp [hc])
              | (with_reducible refine GKsplitB (fun hc => ?_) (fun hc => ?_) <;> try simp [hc])
              | (refine CallK.use (same_t hxe (by omega)) ?_; rintro r G' _ _ ⟨rfl, rfl⟩)
              | (refine CallK.fl (valsI_c hA (by omega)) hdis ?_; rintro r h' hdis _ _ ⟨rfl, vx, rfl, hvx⟩)
              | (refine CallK.fr (valsI_c hB (by omega)) hdis ?_; rintro r h' hdis _ _ ⟨rfl, vy, rfl, hvy⟩)
              | simp (disch := first | (with_reducible assumption) | (simp; done) | omega | (simp; omega)) [h1, hxl])
            repeat' (first
              | refine awp_seqK fun K' hpK => ?_
              | refine awp_block ?_
              | refine awp_condG fun A' B' hpA hpB => ?_
              | refine useK (by with_reducible assumption) ?_
              | refine useP (by with_reducible assumption) ?_
              | refine ED_cons (fun _ => ?_) ?_
              | (refine stable_mk ?_; simp (disch := first | (with_reducible assumption) | (simp; done) | omega | (simp; omega)); done)
              | (refine stable_no ?_; simp (disch := first | (with_reducible assumption) | (simp; done) | omega | (simp; omega)); done)
              | (with_reducible refine And.intro ?_ ?_)
              | (with_reducible intro hc; try (exfalso; omega))
              | (with_reducible refine GDsplit (fun hc => ?_) (fun hc => ?_) <;> try simp [hc])
              | (with_reducible refine GDsplitN (fun hc => ?_) (fun hc => ?_) <;> try simp [hc])
              | (with_reducible refine GDsplitNB (fun hc => ?_) (fun hc => ?_) <;> try simp [hc])
              | (with_reducible refine GDsplitB (fun hc => ?_) (fun hc => ?_) <;> try simp [hc])
              | (with_reducible refine GKsplit (fun hc => ?_) (fun hc => ?_) <;> try simp [hc])
              | (with_reducible refine GKsplitN (fun hc => ?_) (fun hc => ?_) <;> try simp [hc])
              | (with_reducible refine GKsplitNB (fun hc => ?_) (fun hc => ?_) <;> try simp [hc])
              | (with_reducible refine GKsplitB (fun hc => ?_) (fun hc => ?_) <;> try simp [hc])
              | (refine CallK.use (same_t (hvx.trans hvy.symm) (by rw [hvx]; simp; omega)) ?_; rintro r G' _ _ ⟨rfl, rfl⟩)
              | (refine CallK.use (awake_c _) ?_; rintro r G' _ _ ⟨rfl, rfl⟩)
              | simp (disch := first | (with_reducible assumption) | (simp; done) | omega | (simp; omega)))
            exact ends_drop (by simp <;> rfl) (by simp) (hpost _ _ ⟨rfl, rfl⟩)
    by_cases h40 : (40 : Int) < n0
    · repeat' (first
        | refine awp_seqK fun K' hpK => ?_
        | refine awp_block ?_
        | refine awp_condG fun A' B' hpA hpB => ?_
        | refine useK (by with_reducible assumption) ?_
        | refine useP (by with_reducible assumption) ?_
        | refine ED_cons (fun _ => ?_) ?_
        | (refine stable_mk ?_; simp (disch := first | (with_reducible assumption) | (simp; done) | omega | (simp; omega)) [e0, e1, e5, e6, e7, h40]; done)
        | (refine stable_no ?_; simp (disch := first | (with_reducible assumption) | (simp; done) | omega | (simp; omega)) [e0, e1, e5, e6, e7, h40]; done)
        | (with_reducible refine And.intro ?_ ?_)
        | (with_reducible intro hc; try (exfalso; omega))
        | (with_reducible refine GDsplit (fun hc => ?_) (fun hc => ?_) <;> try simp [hc])
        | (with_reducible refine GDsplitN (fun hc => ?_) (fun hc => ?_) <;> try simp [hc])
        | (with_reducible refine GDsplitNB (fun hc => ?_) (fun hc => ?_) <;> try simp [hc])
        | (with_reducible refine GDsplitB (fun hc => ?_) (fun hc => ?_) <;> try simp [hc])
        | (with_reducible refine GKsplit (fun hc => ?_) (fun hc => ?_) <;> try simp [hc])
        | (with_reducible refine GKsplitN (fun hc => ?_) (fun hc => ?_) <;> try simp [hc])
        | (with_reducible refine GKsplitNB (fun hc => ?_) (fun hc => ?_) <;> try simp [hc])
        | (with_reducible refine GKsplitB (fun hc => ?_) (fun hc => ?_) <;> try simp [hc])
        | simp (disch := first | (with_reducible assumption) | (simp; done) | omega | (simp; omega)) [e0, e1, e5, e6, e7, h40])
      exact main5 40 _ (by omega) (by omega) (by omega) (by simp [e0]) (by simp [e1]) (by simp [e5]) (by simp [e6]) (by simp)
    · repeat' (first
        | refine awp_seqK fun K' hpK => ?_
        | refine awp_block ?_
        | refine awp_condG fun A' B' hpA hpB => ?_
        | refine useK (by with_reducible assumption) ?_
        | refine useP (by with_reducible assumption) ?_
        | refine ED_cons (fun _ => ?_) ?_
        | (refine stable_mk ?_; simp (disch := first | (with_reducible assumption) | (simp; done) | omega | (simp; omega)) [e0, e1, e5, e6, e7, h40]; done)
        | (refine stable_no ?_; simp (disch := first | (with_reducible assumption) | (simp; done) | omega | (simp; omega)) [e0, e1, e5, e6, e7, h40]; done)
        | (with_reducible refine And.intro ?_ ?_)
        | (with_reducible intro hc; try (exfalso; omega))
        | (with_reducible refine GDsplit (fun hc => ?_) (fun hc => ?_) <;> try simp [hc])
        | (with_reducible refine GDsplitN (fun hc => ?_) (fun hc => ?_) <;> try simp [hc])
        | (with_reducible refine GDsplitNB (fun hc => ?_) (fun hc => ?_) <;> try simp [hc])
        | (with_reducible refine GDsplitB (fun hc => ?_) (fun hc => ?_) <;> try simp [hc])
        | (with_reducible refine GKsplit (fun hc => ?_) (fun hc => ?_) <;> try simp [hc])
        | (with_reducible refine GKsplitN (fun hc => ?_) (fun hc => ?_) <;> try simp [hc])
        | (with_reducible refine GKsplitNB (fun hc => ?_) (fun hc => ?_) <;> try simp [hc])
        | (with_reducible refine GKsplitB (fun hc => ?_) (fun hc => ?_) <;> try simp [hc])
        | simp (disch := first | (with_reducible assumption) | (simp; done) | omega | (simp; omega)) [e0, e1, e5, e6, e7, h40])
      exact main5 n0 _ (by omega) (by omega) (by omega) (by simp [e0]) (by simp [e1]) (by simp [e5]) (by simp [e6]) (by simp [e7])
  by_cases hc : ((LL vs).length : Int) < (LL ks).length
  · repeat' (first
      | refine awp_seqK fun K' hpK => ?_
      | refine awp_block ?_
      | refine awp_condG fun A' B' hpA hpB => ?_
      | refine useK (by with_reducible assumption) ?_
      | refine useP (by with_reducible assumption) ?_
      | refine ED_cons (fun _ => ?_) ?_
      | (refine stable_mk ?_; simp (disch := first | (with_reducible assumption) | (simp; done) | omega | (simp; omega)) [hc]; done)
      | (refine stable_no ?_; simp (disch := first | (with_reducible assumption) | (simp; done) | omega | (simp; omega)) [hc]; done)
      | (with_reducible refine And.intro ?_ ?_)
      | (with_reducible intro hc; try (exfalso; omega))
      | (with_reducible refine GDsplit (fun hc => ?_) (fun hc => ?_) <;> try simp [hc])
      | (with_reducible refine GDsplitN (fun hc => ?_) (fun hc => ?_) <;> try simp [hc])
      | (with_reducible refine GDsplitNB (fun hc => ?_) (fun hc => ?_) <;> try simp [hc])
      | (with_reducible refine GDsplitB (fun hc => ?_) (fun hc => ?_) <;> try simp [hc])
      | (with_reducible refine GKsplit (fun hc => ?_) (fun hc => ?_) <;> try simp [hc])
      | (with_reducible refine GKsplitN (fun hc => ?_) (fun hc => ?_) <;> try simp [hc])
      | (with_reducible refine GKsplitNB (fun hc => ?_) (fun hc => ?_) <;> try simp [hc])
      | (with_reducible refine GKsplitB (fun hc => ?_) (fun hc => ?_) <;> try simp [hc])
      | simp (disch := first | (with_reducible assumption) | (simp; done) | omega | (simp; omega)) [hc])
    exact main4 (LL vs).length _ (by omega) (by omega) (by simp) (by simp) (by simp) (by simp) (by simp)
  · repeat' (first
      | refine awp_seqK fun K' hpK => ?_
      | refine awp_block ?_
      | refine awp_condG fun A' B' hpA hpB => ?_
      | refine useK (by with_reducible assumption) ?_
      | refine useP (by with_reducible assumption) ?_
      | refine ED_cons (fun _ => ?_) ?_
      | (refine stable_mk ?_; simp (disch := first | (with_reducible assumption) | (simp; done) | omega | (simp; omega)) [hc]; done)
      | (refine stable_no ?_; simp (disch := first | (with_reducible assumption) | (simp; done) | omega | (simp; omega)) [hc]; done)
      | (with_reducible refine And.intro ?_ ?_)
      | (with_reducible intro hc; try (exfalso; omega))
      | (with_reducible refine GDsplit (fun hc => ?_) (fun hc => ?_) <;> try simp [hc])
      | (with_reducible refine GDsplitN (fun hc => ?_) (fun hc => ?_) <;> try simp [hc])
      | (with_reducible refine GDsplitNB (fun hc => ?_) (fun hc => ?_) <;> try simp [hc])
      | (with_reducible refine GDsplitB (fun hc => ?_) (fun hc => ?_) <;> try simp [hc])
      | (with_reducible refine GKsplit (fun hc => ?_) (fun hc => ?_) <;> try simp [hc])
      | (with_reducible refine GKsplitN (fun hc => ?_) (fun hc => ?_) <;> try simp [hc])
      | (with_reducible refine GKsplitNB (fun hc => ?_) (fun hc => ?_) <;> try simp [hc])
      | (with_reducible refine GKsplitB (fun hc => ?_) (fun hc => ?_) <;> try simp [hc])
      | simp (disch := first | (with_reducible assumption) | (simp; done) | omega | (simp; omega)) [hc])
    exact main4 (LL ks).length _ (by omega) (by omega) (by simp) (by simp) (by simp) (by simp) (by simp)
theorem shelfLast_law (z0 z1 : (TD.slc (.int .i64)).T) (o0 : (TD.slc (.int .i64)).ok z0) (o1 : (TD.slc (.int .i64)).ok z1) :
    ACalls Try.prog 4 [(TD.slc (.int .i64)).av z0, (TD.slc (.int .i64)).av z1] emptyH fun r G' => G' = emptyH ∧ r = .bool true := shelfLast_c (ks := z0) (vs := z1) o0.1 o1.1
end Go.Proofs.Yteifakkknhfdpaa
