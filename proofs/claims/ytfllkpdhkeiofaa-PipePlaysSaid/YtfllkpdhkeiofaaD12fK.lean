import Derived.Test.YtfllkpdhkeiofaaD11K
set_option linter.unusedSimpArgs false
set_option linter.unusedVariables false
namespace Go.Proofs.Ytfllkpdhkeiofaa
open Go Go.Al
set_option maxRecDepth 20000
attribute [local irreducible] awp aops aopsD eop pv ACalls CallK AppK AEnds ti

set_option maxHeartbeats 4000000 in
theorem step_kd5 {pb : Nat} {G : Hp} {x : PS} {p : RPipe} {kd at_ also : Int} {sl : Option (List Int)} {k : Nat} (hkd : kd = 5) (hp : PipeH pb G x) (hr : RP p x) (hbd0 : x.bd k) (hk : k ≤ 60) (hsl : (LL sl).length ≤ 140737488355328) :
    ACalls Try.prog 17 [.ptr pb 0, p.av, .agg [.int .i64 kd, .int .i64 at_, .int .i64 also, ofS cI sl]] G fun r G' => ∃ x' p', r = .tup [p'.av, .bool true] ∧ PipeH pb G' x' ∧ RP p' x' ∧ x'.bd (k + 1) := by
  have hx := PS.bd_ok (n := 10) hbd0 (by omega) (by omega)
  have hr0 := hr
  obtain ⟨h1, h2, h3, h4, h5, h6⟩ := hr0
  obtain ⟨ps, mo, se, ca, tw, lo⟩ := p
  simp only at h1 h2 h3 h4 h5 h6
  subst h2 h3 h4 h5 h6
  subst hkd
  have hlen : (LL ps).length = x.L.length := by rw [h1]
  refine ACalls.hide fun post hpost => ?_
  refine F17_in (by simp [RPipe.av]) (by simp) fun hbd => ?_
  refine awp_seqH fun K1 hK1 => ?_
  simp (disch := first | (with_reducible assumption) | (simp; done) | omega | (simp; omega)) [F17_r0, RPipe.av]
  refine hK1.out _ _ ?_
  refine awp_seqH fun K2 hK2 => ?_
  have main : ∀ (m : Option (List Int)) (T : Tm), (LL m).length ≤ 6 → T 0 = .ptr pb 0 → T 4 = .box [ofS cI ps, .int .i64 x.mx, .int .i64 x.s, .int .i64 x.c, .int .i64 x.w, .int .i64 x.lo] → T 5 = .box [.int .i64 5, .int .i64 at_, .int .i64 also, ofS cI m] → T 6 = .box [.nils, .int .i64 0, .int .i64 0, .int .i64 0, .int .i64 0, .int .i64 0] → K2 T G := by
    intro m T hm6 e0 e4 e5 e6
    refine hK2.out _ _ ?_
    repeat' (first
      | refine awp_seqK fun K' hpK => ?_
      | refine awp_block ?_
      | refine awp_condG fun A' B' hpA hpB => ?_
      | refine useK (by with_reducible assumption) ?_
      | refine useP (by with_reducible assumption) ?_
      | refine ED_cons (fun _ => ?_) ?_
      | (refine stable_mk ?_; simp (disch := first | (with_reducible assumption) | (simp; done) | omega | (simp; omega)) [hlen, fI2, e0, e4, e5, e6]; done)
      | (refine stable_no ?_; simp (disch := first | (with_reducible assumption) | (simp; done) | omega | (simp; omega)) [hlen, fI2, e0, e4, e5, e6]; done)
      | (with_reducible refine And.intro ?_ ?_)
      | (with_reducible intro hc; try (exfalso; omega))
      | (with_reducible refine GDsplit (fun hc => ?_) (fun hc => ?_) <;> try simp [hc])
      | (with_reducible refine GDsplitN (fun hc => ?_) (fun hc => ?_) <;> try simp [hc])
      | (with_reducible refine GDsplitNB (fun hc => ?_) (fun hc => ?_) <;> try simp [hc])
      | (with_reducible refine GDsplitB (fun hc => ?_) (fun hc => ?_) <;> try simp [hc])
      | (with_reducible refine GKsplit (fun hc => ?_) (fun hc => ?_) <;> try simp [hc])
      | (with_reducible refine GKsplitN (fun hc => ?_) (fun hc => ?_) <;> try simp [hc])
      | (with_reducible refine GKsplitNB (fun hc => ?_) (fun hc => ?_) <;> try simp [hc])
      | (with_reducible refine GKsplitB (fun hc => ?_) (fun hc => ?_) <;> try simp [hc])
      | simp (disch := first | (with_reducible assumption) | (simp; done) | omega | (simp; omega)) [hlen, fI2, e0, e4, e5, e6])
    have hcb := hbd0
    obtain ⟨x1, x2, x3, x4, x5, x6, x7, x8, x9, x10, x11⟩ := hcb
    refine awp_loop' (fun w T G' => ∃ (k : Nat) (q : RPipe), k + w = 2 ∧ G' = G ∧ RP q (x.lose ([at_, also].take k)) ∧ T = ofL [(0, .ptr pb 0), (4, .box [ofS cI q.L, .int .i64 q.most, .int .i64 q.sent, .int .i64 q.came, .int .i64 q.twice, .int .i64 q.lost]), (5, .box [.int .i64 5, .int .i64 at_, .int .i64 also, ofS cI m]), (6, .box [.nils, .int .i64 0, .int .i64 0, .int .i64 0, .int .i64 0, .int .i64 0]), (17, .int .i64 (x.lostN ([at_, also].take k))), (150, ofS cI (some [at_, also])), (151, .int .i64 2), (152, .int .i64 k)]) 2 ⟨0, ⟨ps, x.mx, x.s, x.c, x.w, x.lo⟩, by omega, rfl, by simpa [PS.lose, PS.lose0, PS.lostN] using hr, by simp [PS.lostN]⟩ ?_
    rintro w T G' ⟨k, q, hk, rfl, hq, rfl⟩ N hN
    by_cases hkl : k < ([at_, also] : List Int).length
    · have htk := take_succ_get [at_, also] k hkl
      have hk2 : k < 2 := hkl
      have hsl := PS.lostN_le x ([at_, also].take k)
      rw [List.length_take] at hsl
      simp only [List.length_cons, List.length_nil] at hsl
      have e1 := PS.lose_snoc x ([at_, also].take k) ([at_, also][k])
      have e2 := PS.lostN_snoc x ([at_, also].take k) ([at_, also][k])
      rw [← htk] at e1 e2
      have hbk := PS.lose_bd (is := [at_, also].take k) hbd0 (by rw [List.length_take]; simp; omega)
      generalize hi : ([at_, also] : List Int)[k] = i at *
      generalize x.lose ([at_, also].take k) = y at *
      have hyl : y.L.length ≤ 1000000 := by have := hbk.1; omega
      have hylo := hbk.2.2.2.2.2.2.2.2.2
      have hix := fun {t : TypeId} {kk : IntKind} => ofS_idx (P := Try.prog) (t := t) (k := kk) (f := cI) (s := some [at_, also]) (i := (k : Int))
      have hgo := fun G => rgone_c (G := G) (i := i) hq hyl
      simp only [RPipe.av] at hgo
      cases ha : (atL y.L i).isSome with
      | false =>
        rw [ha] at e1 e2
        have hb := fun G => has_b (G := G) hq ha
        simp only [RPipe.av] at hb
        repeat' (first
          | refine awp_seqK fun K' hpK => ?_
          | refine awp_block ?_
          | refine awp_condG fun A' B' hpA hpB => ?_
          | refine useK (by with_reducible assumption) ?_
          | refine useP (by with_reducible assumption) ?_
          | refine ED_cons (fun _ => ?_) ?_
          | (refine stable_mk ?_; simp (disch := first | (with_reducible assumption) | (simp; done) | omega | (simp; omega)) [hkl, hk2, ofS_idx (f := cI), cI, hi]; done)
          | (refine stable_no ?_; simp (disch := first | (with_reducible assumption) | (simp; done) | omega | (simp; omega)) [hkl, hk2, ofS_idx (f := cI), cI, hi]; done)
          | (with_reducible refine And.intro ?_ ?_)
          | (with_reducible intro hc; try (exfalso; omega))
          | (with_reducible refine GDsplit (fun hc => ?_) (fun hc => ?_) <;> try simp [hc])
          | (with_reducible refine GDsplitN (fun hc => ?_) (fun hc => ?_) <;> try simp [hc])
          | (with_reducible refine GDsplitNB (fun hc => ?_) (fun hc => ?_) <;> try simp [hc])
          | (with_reducible refine GDsplitB (fun hc => ?_) (fun hc => ?_) <;> try simp [hc])
          | (with_reducible refine GKsplit (fun hc => ?_) (fun hc => ?_) <;> try simp [hc])
          | (with_reducible refine GKsplitN (fun hc => ?_) (fun hc => ?_) <;> try simp [hc])
          | (with_reducible refine GKsplitNB (fun hc => ?_) (fun hc => ?_) <;> try simp [hc])
          | (with_reducible refine GKsplitB (fun hc => ?_) (fun hc => ?_) <;> try simp [hc])
          | (refine CallK.use (hb _) ?_; rintro r G' _ _ ⟨rfl, rfl⟩)
          | simp (disch := first | (with_reducible assumption) | (simp; done) | omega | (simp; omega)) [hkl, hk2, ofS_idx (f := cI), cI, hi])
        exact hN (w - 1) _ _ (by omega) ⟨k + 1, q, by omega, rfl, by rw [e1]; exact hq, by rw [e2]; simp⟩
      | true =>
        rw [ha] at e1 e2
        have hb := fun G => has_b (G := G) hq ha
        simp only [RPipe.av] at hb
        repeat' (first
          | refine awp_seqK fun K' hpK => ?_
          | refine awp_block ?_
          | refine awp_condG fun A' B' hpA hpB => ?_
          | refine useK (by with_reducible assumption) ?_
          | refine useP (by with_reducible assumption) ?_
          | refine ED_cons (fun _ => ?_) ?_
          | (refine stable_mk ?_; simp (disch := first | (with_reducible assumption) | (simp; done) | omega | (simp; omega)) [hkl, hk2, ofS_idx (f := cI), cI, hi]; done)
          | (refine stable_no ?_; simp (disch := first | (with_reducible assumption) | (simp; done) | omega | (simp; omega)) [hkl, hk2, ofS_idx (f := cI), cI, hi]; done)
          | (with_reducible refine And.intro ?_ ?_)
          | (with_reducible intro hc; try (exfalso; omega))
          | (with_reducible refine GDsplit (fun hc => ?_) (fun hc => ?_) <;> try simp [hc])
          | (with_reducible refine GDsplitN (fun hc => ?_) (fun hc => ?_) <;> try simp [hc])
          | (with_reducible refine GDsplitNB (fun hc => ?_) (fun hc => ?_) <;> try simp [hc])
          | (with_reducible refine GDsplitB (fun hc => ?_) (fun hc => ?_) <;> try simp [hc])
          | (with_reducible refine GKsplit (fun hc => ?_) (fun hc => ?_) <;> try simp [hc])
          | (with_reducible refine GKsplitN (fun hc => ?_) (fun hc => ?_) <;> try simp [hc])
          | (with_reducible refine GKsplitNB (fun hc => ?_) (fun hc => ?_) <;> try simp [hc])
          | (with_reducible refine GKsplitB (fun hc => ?_) (fun hc => ?_) <;> try simp [hc])
          | (refine CallK.use (hb _) ?_; rintro r G' _ _ ⟨rfl, rfl⟩)
          | simp (disch := first | (with_reducible assumption) | (simp; done) | omega | (simp; omega)) [hkl, hk2, ofS_idx (f := cI), cI, hi])
        refine CallK.use (hgo _) ?_
        rintro r G2 _ _ ⟨rfl, q', rfl, k1, k2, k3, k4, k5, k6⟩
        obtain ⟨qs, qm, q1, q2, q3, q4⟩ := q'
        simp only at k1 k2 k3 k4 k5 k6
        subst k2 k3 k4 k5 k6
        simp only [PS.lose1] at k1
        repeat' (first
          | refine awp_seqK fun K' hpK => ?_
          | refine awp_block ?_
          | refine awp_condG fun A' B' hpA hpB => ?_
          | refine useK (by with_reducible assumption) ?_
          | refine useP (by with_reducible assumption) ?_
          | refine ED_cons (fun _ => ?_) ?_
          | (refine stable_mk ?_; simp (disch := first | (with_reducible assumption) | (simp; done) | omega | (simp; omega)) [PS.lose1]; done)
          | (refine stable_no ?_; simp (disch := first | (with_reducible assumption) | (simp; done) | omega | (simp; omega)) [PS.lose1]; done)
          | (with_reducible refine And.intro ?_ ?_)
          | (with_reducible intro hc; try (exfalso; omega))
          | (with_reducible refine GDsplit (fun hc => ?_) (fun hc => ?_) <;> try simp [hc])
          | (with_reducible refine GDsplitN (fun hc => ?_) (fun hc => ?_) <;> try simp [hc])
          | (with_reducible refine GDsplitNB (fun hc => ?_) (fun hc => ?_) <;> try simp [hc])
          | (with_reducible refine GDsplitB (fun hc => ?_) (fun hc => ?_) <;> try simp [hc])
          | (with_reducible refine GKsplit (fun hc => ?_) (fun hc => ?_) <;> try simp [hc])
          | (with_reducible refine GKsplitN (fun hc => ?_) (fun hc => ?_) <;> try simp [hc])
          | (with_reducible refine GKsplitNB (fun hc => ?_) (fun hc => ?_) <;> try simp [hc])
          | (with_reducible refine GKsplitB (fun hc => ?_) (fun hc => ?_) <;> try simp [hc])
          | simp (disch := first | (with_reducible assumption) | (simp; done) | omega | (simp; omega)) [PS.lose1])
        exact hN (w - 1) _ _ (by omega) ⟨k + 1, ⟨qs, y.mx, y.s, y.c, y.w, y.lo + 1⟩, by omega, rfl, by rw [e1]; exact ⟨k1, rfl, rfl, rfl, rfl, rfl⟩, by rw [e2]; simp⟩
    · have hke : k = 2 := by simp at hkl; omega
      subst hke
      rw [show [at_, also].take 2 = [at_, also] from rfl] at hq
      rw [show [at_, also].take 2 = [at_, also] from rfl]
      repeat' (first
        | refine awp_seqK fun K' hpK => ?_
        | refine awp_block ?_
        | refine awp_condG fun A' B' hpA hpB => ?_
        | refine useK (by with_reducible assumption) ?_
        | refine useP (by with_reducible assumption) ?_
        | refine ED_cons (fun _ => ?_) ?_
        | (refine stable_mk ?_; simp (disch := first | (with_reducible assumption) | (simp; done) | omega | (simp; omega)) [fI2]; done)
        | (refine stable_no ?_; simp (disch := first | (with_reducible assumption) | (simp; done) | omega | (simp; omega)) [fI2]; done)
        | (with_reducible refine And.intro ?_ ?_)
        | (with_reducible intro hc; try (exfalso; omega))
        | (with_reducible refine GDsplit (fun hc => ?_) (fun hc => ?_) <;> try simp [hc])
        | (with_reducible refine GDsplitN (fun hc => ?_) (fun hc => ?_) <;> try simp [hc])
        | (with_reducible refine GDsplitNB (fun hc => ?_) (fun hc => ?_) <;> try simp [hc])
        | (with_reducible refine GDsplitB (fun hc => ?_) (fun hc => ?_) <;> try simp [hc])
        | (with_reducible refine GKsplit (fun hc => ?_) (fun hc => ?_) <;> try simp [hc])
        | (with_reducible refine GKsplitN (fun hc => ?_) (fun hc => ?_) <;> try simp [hc])
        | (with_reducible refine GKsplitNB (fun hc => ?_) (fun hc => ?_) <;> try simp [hc])
        | (with_reducible refine GKsplitB (fun hc => ?_) (fun hc => ?_) <;> try simp [hc])
        | (refine CallK.use (plose_c (s := some [at_, also]) hp (PS.ok_le hx (by simp)) (by simp)) ?_; rintro r G' _ _ ⟨hp1, rfl⟩)
        | simp (disch := first | (with_reducible assumption) | (simp; done) | omega | (simp; omega)) [fI2])
      refine ends_two (by simp <;> exact ⟨rfl, rfl⟩) (by simp) (by simp) (hpost _ _ ?_)
      exact ⟨_, q, rfl, hp1, hq, PS.lose_bd hbd0 (by simp)⟩
  have h6 : (LL (sl.map fun l => l.take 6)).length ≤ 6 := by
    cases sl with
    | none => simp [LL]
    | some l => simp [LL]; omega
  by_cases hc6 : (6 : Int) < (LL sl).length
  · repeat' (first
      | refine awp_seqK fun K' hpK => ?_
      | refine awp_block ?_
      | refine awp_condG fun A' B' hpA hpB => ?_
      | refine useK (by with_reducible assumption) ?_
      | refine useP (by with_reducible assumption) ?_
      | refine ED_cons (fun _ => ?_) ?_
      | (refine stable_mk ?_; simp (disch := first | (with_reducible assumption) | (simp; done) | omega | (simp; omega)) [hc6, aslc_hi (f := cI)]; done)
      | (refine stable_no ?_; simp (disch := first | (with_reducible assumption) | (simp; done) | omega | (simp; omega)) [hc6, aslc_hi (f := cI)]; done)
      | (with_reducible refine And.intro ?_ ?_)
      | (with_reducible intro hc; try (exfalso; omega))
      | (with_reducible refine GDsplit (fun hc => ?_) (fun hc => ?_) <;> try simp [hc])
      | (with_reducible refine GDsplitN (fun hc => ?_) (fun hc => ?_) <;> try simp [hc])
      | (with_reducible refine GDsplitNB (fun hc => ?_) (fun hc => ?_) <;> try simp [hc])
      | (with_reducible refine GDsplitB (fun hc => ?_) (fun hc => ?_) <;> try simp [hc])
      | (with_reducible refine GKsplit (fun hc => ?_) (fun hc => ?_) <;> try simp [hc])
      | (with_reducible refine GKsplitN (fun hc => ?_) (fun hc => ?_) <;> try simp [hc])
      | (with_reducible refine GKsplitNB (fun hc => ?_) (fun hc => ?_) <;> try simp [hc])
      | (with_reducible refine GKsplitB (fun hc => ?_) (fun hc => ?_) <;> try simp [hc])
      | simp (disch := first | (with_reducible assumption) | (simp; done) | omega | (simp; omega)) [hc6, aslc_hi (f := cI)])
    exact main _ _ h6 (by simp) (by simp) (by simp) (by simp)
  · repeat' (first
      | refine awp_seqK fun K' hpK => ?_
      | refine awp_block ?_
      | refine awp_condG fun A' B' hpA hpB => ?_
      | refine useK (by with_reducible assumption) ?_
      | refine useP (by with_reducible assumption) ?_
      | refine ED_cons (fun _ => ?_) ?_
      | (refine stable_mk ?_; simp (disch := first | (with_reducible assumption) | (simp; done) | omega | (simp; omega)) [hc6]; done)
      | (refine stable_no ?_; simp (disch := first | (with_reducible assumption) | (simp; done) | omega | (simp; omega)) [hc6]; done)
      | (with_reducible refine And.intro ?_ ?_)
      | (with_reducible intro hc; try (exfalso; omega))
      | (with_reducible refine GDsplit (fun hc => ?_) (fun hc => ?_) <;> try simp [hc])
      | (with_reducible refine GDsplitN (fun hc => ?_) (fun hc => ?_) <;> try simp [hc])
      | (with_reducible refine GDsplitNB (fun hc => ?_) (fun hc => ?_) <;> try simp [hc])
      | (with_reducible refine GDsplitB (fun hc => ?_) (fun hc => ?_) <;> try simp [hc])
      | (with_reducible refine GKsplit (fun hc => ?_) (fun hc => ?_) <;> try simp [hc])
      | (with_reducible refine GKsplitN (fun hc => ?_) (fun hc => ?_) <;> try simp [hc])
      | (with_reducible refine GKsplitNB (fun hc => ?_) (fun hc => ?_) <;> try simp [hc])
      | (with_reducible refine GKsplitB (fun hc => ?_) (fun hc => ?_) <;> try simp [hc])
      | simp (disch := first | (with_reducible assumption) | (simp; done) | omega | (simp; omega)) [hc6])
    exact main sl _ (by omega) (by simp) (by simp) (by simp) (by simp)
end Go.Proofs.Ytfllkpdhkeiofaa
