import Derived.Test.YtfllkpdhkeiofaaD11K
set_option linter.unusedSimpArgs false
set_option linter.unusedVariables false
namespace Go.Proofs.Ytfllkpdhkeiofaa
open Go Go.Al
set_option maxRecDepth 20000
attribute [local irreducible] awp aops aopsD eop pv ACalls CallK AppK AEnds ti

set_option maxHeartbeats 4000000 in
theorem step_kdo {pb : Nat} {G : Hp} {x : PS} {p : RPipe} {kd at_ also : Int} {sl : Option (List Int)} {k : Nat} (n0 : ¬ kd = 0) (n1 : ¬ kd = 1) (n2 : ¬ kd = 2) (n3 : ¬ kd = 3) (n4 : ¬ kd = 4) (n5 : ¬ kd = 5) (hp : PipeH pb G x) (hr : RP p x) (hbd0 : x.bd k) (hk : k ≤ 60) (hsl : (LL sl).length ≤ 140737488355328) :
    ACalls Try.prog 17 [.ptr pb 0, p.av, .agg [.int .i64 kd, .int .i64 at_, .int .i64 also, ofS cI sl]] G fun r G' => ∃ x' p', r = .tup [p'.av, .bool true] ∧ PipeH pb G' x' ∧ RP p' x' ∧ x'.bd (k + 1) := by
  have hx := PS.bd_ok (n := 10) hbd0 (by omega) (by omega)
  have hr0 := hr
  obtain ⟨h1, h2, h3, h4, h5, h6⟩ := hr0
  obtain ⟨ps, mo, se, ca, tw, lo⟩ := p
  simp only at h1 h2 h3 h4 h5 h6
  subst h2 h3 h4 h5 h6
  skip
  have hlen : (LL ps).length = x.L.length := by rw [h1]
  refine ACalls.hide fun post hpost => ?_
  refine F17_in (by simp [RPipe.av]) (by simp) fun hbd => ?_
  refine awp_seqH fun K1 hK1 => ?_
  simp (disch := first | (with_reducible assumption) | (simp; done) | omega | (simp; omega)) [F17_r0, RPipe.av]
  refine hK1.out _ _ ?_
  refine awp_seqH fun K2 hK2 => ?_
  have main : ∀ (m : Option (List Int)) (T : Tm), (LL m).length ≤ 6 → T 0 = .ptr pb 0 → T 4 = .box [ofS cI ps, .int .i64 x.mx, .int .i64 x.s, .int .i64 x.c, .int .i64 x.w, .int .i64 x.lo] → T 5 = .box [.int .i64 kd, .int .i64 at_, .int .i64 also, ofS cI m] → T 6 = .box [.nils, .int .i64 0, .int .i64 0, .int .i64 0, .int .i64 0, .int .i64 0] → K2 T G := by
    intro m T hm6 e0 e4 e5 e6
    refine hK2.out _ _ ?_
    repeat' (first
      | refine awp_seqK fun K' hpK => ?_
      | refine awp_block ?_
      | refine awp_condG fun A' B' hpA hpB => ?_
      | refine useK (by with_reducible assumption) ?_
      | refine useP (by with_reducible assumption) ?_
      | refine ED_cons (fun _ => ?_) ?_
      | (refine stable_mk ?_; simp (disch := first | (with_reducible assumption) | (simp; done) | omega | (simp; omega)) [hlen, fI2, e0, e4, e5, e6, n0, n1, n2, n3, n4, n5]; done)
      | (refine stable_no ?_; simp (disch := first | (with_reducible assumption) | (simp; done) | omega | (simp; omega)) [hlen, fI2, e0, e4, e5, e6, n0, n1, n2, n3, n4, n5]; done)
      | (with_reducible refine And.intro ?_ ?_)
      | (with_reducible intro hc; try (exfalso; omega))
      | (with_reducible refine GDsplit (fun hc => ?_) (fun hc => ?_) <;> try simp [hc])
      | (with_reducible refine GDsplitN (fun hc => ?_) (fun hc => ?_) <;> try simp [hc])
      | (with_reducible refine GDsplitNB (fun hc => ?_) (fun hc => ?_) <;> try simp [hc])
      | (with_reducible refine GDsplitB (fun hc => ?_) (fun hc => ?_) <;> try simp [hc])
      | (with_reducible refine GKsplit (fun hc => ?_) (fun hc => ?_) <;> try simp [hc])
      | (with_reducible refine GKsplitN (fun hc => ?_) (fun hc => ?_) <;> try simp [hc])
      | (with_reducible refine GKsplitNB (fun hc => ?_) (fun hc => ?_) <;> try simp [hc])
      | (with_reducible refine GKsplitB (fun hc => ?_) (fun hc => ?_) <;> try simp [hc])
      | simp (disch := first | (with_reducible assumption) | (simp; done) | omega | (simp; omega)) [hlen, fI2, e0, e4, e5, e6, n0, n1, n2, n3, n4, n5])
    have hpa := pat_c (i := at_) hp
    cases hq : atL x.L at_ with
    | none =>
      have hb := fun G => has_b (G := G) hr (i := at_) (b := false) (by rw [hq]; rfl)
      rw [hq] at hpa
      simp only [RPipe.av] at hb
      repeat' (first
        | refine awp_seqK fun K' hpK => ?_
        | refine awp_block ?_
        | refine awp_condG fun A' B' hpA hpB => ?_
        | refine useK (by with_reducible assumption) ?_
        | refine useP (by with_reducible assumption) ?_
        | refine ED_cons (fun _ => ?_) ?_
        | (refine stable_mk ?_; simp (disch := first | (with_reducible assumption) | (simp; done) | omega | (simp; omega)); done)
        | (refine stable_no ?_; simp (disch := first | (with_reducible assumption) | (simp; done) | omega | (simp; omega)); done)
        | (with_reducible refine And.intro ?_ ?_)
        | (with_reducible intro hc; try (exfalso; omega))
        | (with_reducible refine GDsplit (fun hc => ?_) (fun hc => ?_) <;> try simp [hc])
        | (with_reducible refine GDsplitN (fun hc => ?_) (fun hc => ?_) <;> try simp [hc])
        | (with_reducible refine GDsplitNB (fun hc => ?_) (fun hc => ?_) <;> try simp [hc])
        | (with_reducible refine GDsplitB (fun hc => ?_) (fun hc => ?_) <;> try simp [hc])
        | (with_reducible refine GKsplit (fun hc => ?_) (fun hc => ?_) <;> try simp [hc])
        | (with_reducible refine GKsplitN (fun hc => ?_) (fun hc => ?_) <;> try simp [hc])
        | (with_reducible refine GKsplitNB (fun hc => ?_) (fun hc => ?_) <;> try simp [hc])
        | (with_reducible refine GKsplitB (fun hc => ?_) (fun hc => ?_) <;> try simp [hc])
        | (refine CallK.use (hpa) ?_; rintro r G' _ _ ⟨rfl, rfl⟩)
        | (refine CallK.use (hb _) ?_; rintro r G' _ _ ⟨rfl, rfl⟩)
        | simp (disch := first | (with_reducible assumption) | (simp; done) | omega | (simp; omega)))
      refine ends_two (by simp <;> exact ⟨rfl, rfl⟩) (by simp) (by simp) (hpost _ _ ?_)
      exact ⟨x, ⟨ps, x.mx, x.s, x.c, x.w, x.lo⟩, rfl, hp, hr, PS.bd_le hbd0 (by omega)⟩
    | some v =>
      obtain ⟨j, rfl, hj, hjv⟩ := atL_some hq
      have hb := fun G => has_b (G := G) hr (i := (j : Int)) (b := true) (by rw [hq]; rfl)
      rw [hq] at hpa
      simp only [RPipe.av] at hb
      have hjl : j < (LL ps).length := by omega
      have hjv2 : (LL ps)[j] = v := by rw [← hjv]; simp only [h1]
      repeat' (first
        | refine awp_seqK fun K' hpK => ?_
        | refine awp_block ?_
        | refine awp_condG fun A' B' hpA hpB => ?_
        | refine useK (by with_reducible assumption) ?_
        | refine useP (by with_reducible assumption) ?_
        | refine ED_cons (fun _ => ?_) ?_
        | (refine stable_mk ?_; simp (disch := first | (with_reducible assumption) | (simp; done) | omega | (simp; omega)) [ofS_idx (f := cI), cI, hjl, hjv2]; done)
        | (refine stable_no ?_; simp (disch := first | (with_reducible assumption) | (simp; done) | omega | (simp; omega)) [ofS_idx (f := cI), cI, hjl, hjv2]; done)
        | (with_reducible refine And.intro ?_ ?_)
        | (with_reducible intro hc; try (exfalso; omega))
        | (with_reducible refine GDsplit (fun hc => ?_) (fun hc => ?_) <;> try simp [hc])
        | (with_reducible refine GDsplitN (fun hc => ?_) (fun hc => ?_) <;> try simp [hc])
        | (with_reducible refine GDsplitNB (fun hc => ?_) (fun hc => ?_) <;> try simp [hc])
        | (with_reducible refine GDsplitB (fun hc => ?_) (fun hc => ?_) <;> try simp [hc])
        | (with_reducible refine GKsplit (fun hc => ?_) (fun hc => ?_) <;> try simp [hc])
        | (with_reducible refine GKsplitN (fun hc => ?_) (fun hc => ?_) <;> try simp [hc])
        | (with_reducible refine GKsplitNB (fun hc => ?_) (fun hc => ?_) <;> try simp [hc])
        | (with_reducible refine GKsplitB (fun hc => ?_) (fun hc => ?_) <;> try simp [hc])
        | (refine CallK.use (hpa) ?_; rintro r G' _ _ ⟨rfl, rfl⟩)
        | (refine CallK.use (hb _) ?_; rintro r G' _ _ ⟨rfl, rfl⟩)
        | simp (disch := first | (with_reducible assumption) | (simp; done) | omega | (simp; omega)) [ofS_idx (f := cI), cI, hjl, hjv2])
      refine ends_two (by simp <;> exact ⟨rfl, rfl⟩) (by simp) (by simp) (hpost _ _ ?_)
      exact ⟨x, ⟨ps, x.mx, x.s, x.c, x.w, x.lo⟩, rfl, hp, hr, PS.bd_le hbd0 (by omega)⟩
  have h6 : (LL (sl.map fun l => l.take 6)).length ≤ 6 := by
    cases sl with
    | none => simp [LL]
    | some l => simp [LL]; omega
  by_cases hc6 : (6 : Int) < (LL sl).length
  · repeat' (first
      | refine awp_seqK fun K' hpK => ?_
      | refine awp_block ?_
      | refine awp_condG fun A' B' hpA hpB => ?_
      | refine useK (by with_reducible assumption) ?_
      | refine useP (by with_reducible assumption) ?_
      | refine ED_cons (fun _ => ?_) ?_
      | (refine stable_mk ?_; simp (disch := first | (with_reducible assumption) | (simp; done) | omega | (simp; omega)) [hc6, aslc_hi (f := cI)]; done)
      | (refine stable_no ?_; simp (disch := first | (with_reducible assumption) | (simp; done) | omega | (simp; omega)) [hc6, aslc_hi (f := cI)]; done)
      | (with_reducible refine And.intro ?_ ?_)
      | (with_reducible intro hc; try (exfalso; omega))
      | (with_reducible refine GDsplit (fun hc => ?_) (fun hc => ?_) <;> try simp [hc])
      | (with_reducible refine GDsplitN (fun hc => ?_) (fun hc => ?_) <;> try simp [hc])
      | (with_reducible refine GDsplitNB (fun hc => ?_) (fun hc => ?_) <;> try simp [hc])
      | (with_reducible refine GDsplitB (fun hc => ?_) (fun hc => ?_) <;> try simp [hc])
      | (with_reducible refine GKsplit (fun hc => ?_) (fun hc => ?_) <;> try simp [hc])
      | (with_reducible refine GKsplitN (fun hc => ?_) (fun hc => ?_) <;> try simp [hc])
      | (with_reducible refine GKsplitNB (fun hc => ?_) (fun hc => ?_) <;> try simp [hc])
      | (with_reducible refine GKsplitB (fun hc => ?_) (fun hc => ?_) <;> try simp [hc])
      | simp (disch := first | (with_reducible assumption) | (simp; done) | omega | (simp; omega)) [hc6, aslc_hi (f := cI)])
    exact main _ _ h6 (by simp) (by simp) (by simp) (by simp)
  · repeat' (first
      | refine awp_seqK fun K' hpK => ?_
      | refine awp_block ?_
      | refine awp_condG fun A' B' hpA hpB => ?_
      | refine useK (by with_reducible assumption) ?_
      | refine useP (by with_reducible assumption) ?_
      | refine ED_cons (fun _ => ?_) ?_
      | (refine stable_mk ?_; simp (disch := first | (with_reducible assumption) | (simp; done) | omega | (simp; omega)) [hc6]; done)
      | (refine stable_no ?_; simp (disch := first | (with_reducible assumption) | (simp; done) | omega | (simp; omega)) [hc6]; done)
      | (with_reducible refine And.intro ?_ ?_)
      | (with_reducible intro hc; try (exfalso; omega))
      | (with_reducible refine GDsplit (fun hc => ?_) (fun hc => ?_) <;> try simp [hc])
      | (with_reducible refine GDsplitN (fun hc => ?_) (fun hc => ?_) <;> try simp [hc])
      | (with_reducible refine GDsplitNB (fun hc => ?_) (fun hc => ?_) <;> try simp [hc])
      | (with_reducible refine GDsplitB (fun hc => ?_) (fun hc => ?_) <;> try simp [hc])
      | (with_reducible refine GKsplit (fun hc => ?_) (fun hc => ?_) <;> try simp [hc])
      | (with_reducible refine GKsplitN (fun hc => ?_) (fun hc => ?_) <;> try simp [hc])
      | (with_reducible refine GKsplitNB (fun hc => ?_) (fun hc => ?_) <;> try simp [hc])
      | (with_reducible refine GKsplitB (fun hc => ?_) (fun hc => ?_) <;> try simp [hc])
      | simp (disch := first | (with_reducible assumption) | (simp; done) | omega | (simp; omega)) [hc6])
    exact main sl _ (by omega) (by simp) (by simp) (by simp) (by simp)
end Go.Proofs.Ytfllkpdhkeiofaa
