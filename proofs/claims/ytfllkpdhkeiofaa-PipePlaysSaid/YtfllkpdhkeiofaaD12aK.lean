import Derived.Test.YtfllkpdhkeiofaaD11K
set_option linter.unusedSimpArgs false
set_option linter.unusedVariables false
namespace Go.Proofs.Ytfllkpdhkeiofaa
open Go Go.Al
set_option maxRecDepth 20000
attribute [local irreducible] awp aops aopsD eop pv ACalls CallK AppK AEnds ti

set_option maxHeartbeats 4000000 in
theorem step_kd0 {pb : Nat} {G : Hp} {x : PS} {p : RPipe} {kd at_ also : Int} {sl : Option (List Int)} {k : Nat} (hkd : kd = 0) (hp : PipeH pb G x) (hr : RP p x) (hbd0 : x.bd k) (hk : k ≤ 60) (hsl : (LL sl).length ≤ 140737488355328) :
    ACalls Try.prog 17 [.ptr pb 0, p.av, .agg [.int .i64 kd, .int .i64 at_, .int .i64 also, ofS cI sl]] G fun r G' => ∃ x' p', r = .tup [p'.av, .bool true] ∧ PipeH pb G' x' ∧ RP p' x' ∧ x'.bd (k + 1) := by
  have hx := PS.bd_ok (n := 10) hbd0 (by omega) (by omega)
  have hr0 := hr
  obtain ⟨h1, h2, h3, h4, h5, h6⟩ := hr0
  obtain ⟨ps, mo, se, ca, tw, lo⟩ := p
  simp only at h1 h2 h3 h4 h5 h6
  subst h2 h3 h4 h5 h6
  subst hkd
  have hlen : (LL ps).length = x.L.length := by rw [h1]
  refine ACalls.hide fun post hpost => ?_
  refine F17_in (by simp [RPipe.av]) (by simp) fun hbd => ?_
  refine awp_seqH fun K1 hK1 => ?_
  simp (disch := first | (with_reducible assumption) | (simp; done) | omega | (simp; omega)) [F17_r0, RPipe.av]
  refine hK1.out _ _ ?_
  refine awp_seqH fun K2 hK2 => ?_
  have main : ∀ (m : Option (List Int)) (T : Tm), (LL m).length ≤ 6 → T 0 = .ptr pb 0 → T 4 = .box [ofS cI ps, .int .i64 x.mx, .int .i64 x.s, .int .i64 x.c, .int .i64 x.w, .int .i64 x.lo] → T 5 = .box [.int .i64 0, .int .i64 at_, .int .i64 also, ofS cI m] → T 6 = .box [.nils, .int .i64 0, .int .i64 0, .int .i64 0, .int .i64 0, .int .i64 0] → K2 T G := by
    intro m T hm6 e0 e4 e5 e6
    refine hK2.out _ _ ?_
    repeat' (first
      | refine awp_seqK fun K' hpK => ?_
      | refine awp_block ?_
      | refine awp_condG fun A' B' hpA hpB => ?_
      | refine useK (by with_reducible assumption) ?_
      | refine useP (by with_reducible assumption) ?_
      | refine ED_cons (fun _ => ?_) ?_
      | (refine stable_mk ?_; simp (disch := first | (with_reducible assumption) | (simp; done) | omega | (simp; omega)) [hlen, fI2, e0, e4, e5, e6]; done)
      | (refine stable_no ?_; simp (disch := first | (with_reducible assumption) | (simp; done) | omega | (simp; omega)) [hlen, fI2, e0, e4, e5, e6]; done)
      | (with_reducible refine And.intro ?_ ?_)
      | (with_reducible intro hc; try (exfalso; omega))
      | (with_reducible refine GDsplit (fun hc => ?_) (fun hc => ?_) <;> try simp [hc])
      | (with_reducible refine GDsplitN (fun hc => ?_) (fun hc => ?_) <;> try simp [hc])
      | (with_reducible refine GDsplitNB (fun hc => ?_) (fun hc => ?_) <;> try simp [hc])
      | (with_reducible refine GDsplitB (fun hc => ?_) (fun hc => ?_) <;> try simp [hc])
      | (with_reducible refine GKsplit (fun hc => ?_) (fun hc => ?_) <;> try simp [hc])
      | (with_reducible refine GKsplitN (fun hc => ?_) (fun hc => ?_) <;> try simp [hc])
      | (with_reducible refine GKsplitNB (fun hc => ?_) (fun hc => ?_) <;> try simp [hc])
      | (with_reducible refine GKsplitB (fun hc => ?_) (fun hc => ?_) <;> try simp [hc])
      | simp (disch := first | (with_reducible assumption) | (simp; done) | omega | (simp; omega)) [hlen, fI2, e0, e4, e5, e6])
    refine awp_loop' (fun w T G' => ∃ (k : Nat) (q : RPipe), k + w = (LL m).length ∧ G' = G ∧ RP q (x.send ((LL m).take k)) ∧ T = ofL [(0, .ptr pb 0), (4, .box [ofS cI q.L, .int .i64 q.most, .int .i64 q.sent, .int .i64 q.came, .int .i64 q.twice, .int .i64 q.lost]), (5, .box [.int .i64 0, .int .i64 at_, .int .i64 also, ofS cI m]), (6, .box [.nils, .int .i64 0, .int .i64 0, .int .i64 0, .int .i64 0, .int .i64 0]), (8, .int .i64 (x.sent ((LL m).take k))), (36, ofS cI m), (37, .int .i64 (LL m).length), (38, .int .i64 k)]) (LL m).length ⟨0, ⟨ps, x.mx, x.s, x.c, x.w, x.lo⟩, by omega, rfl, hr, by simp [PS.sent]⟩ ?_
    rintro w T G' ⟨k, q, hk, rfl, hq, rfl⟩ N hN
    by_cases hkl : k < (LL m).length
    · have htk := take_succ_get (LL m) k hkl
      have hsl := PS.sent_le x ((LL m).take k)
      rw [List.length_take] at hsl
      have hxk : (x.send ((LL m).take k)).ok 1 := PS.ok_le (n := 2) (PS.send_ok (by rw [List.length_take]; exact PS.ok_le hx (by omega))) (by omega)
      have e1 : x.send ((LL m).take (k + 1)) = (x.send ((LL m).take k)).send1 (LL m)[k] := by rw [htk, PS.send_app]; rfl
      have e2 : x.sent ((LL m).take (k + 1)) = x.sent ((LL m).take k) + (if (x.send ((LL m).take k)).room then 1 else 0) := by rw [htk, PS.sent_app]; simp [PS.sent]
      have hsc := fun G => rsend_c (G := G) (v := (LL m)[k]) hq hxk
      simp only [RPipe.av] at hsc
      cases hrm : (x.send ((LL m).take k)).room with
      | false =>
        rw [hrm] at hsc e2
        repeat' (first
          | refine awp_seqK fun K' hpK => ?_
          | refine awp_block ?_
          | refine awp_condG fun A' B' hpA hpB => ?_
          | refine useK (by with_reducible assumption) ?_
          | refine useP (by with_reducible assumption) ?_
          | refine ED_cons (fun _ => ?_) ?_
          | (refine stable_mk ?_; simp (disch := first | (with_reducible assumption) | (simp; done) | omega | (simp; omega)) [hkl, ofS_idx (f := cI), cI]; done)
          | (refine stable_no ?_; simp (disch := first | (with_reducible assumption) | (simp; done) | omega | (simp; omega)) [hkl, ofS_idx (f := cI), cI]; done)
          | (with_reducible refine And.intro ?_ ?_)
          | (with_reducible intro hc; try (exfalso; omega))
          | (with_reducible refine GDsplit (fun hc => ?_) (fun hc => ?_) <;> try simp [hc])
          | (with_reducible refine GDsplitN (fun hc => ?_) (fun hc => ?_) <;> try simp [hc])
          | (with_reducible refine GDsplitNB (fun hc => ?_) (fun hc => ?_) <;> try simp [hc])
          | (with_reducible refine GDsplitB (fun hc => ?_) (fun hc => ?_) <;> try simp [hc])
          | (with_reducible refine GKsplit (fun hc => ?_) (fun hc => ?_) <;> try simp [hc])
          | (with_reducible refine GKsplitN (fun hc => ?_) (fun hc => ?_) <;> try simp [hc])
          | (with_reducible refine GKsplitNB (fun hc => ?_) (fun hc => ?_) <;> try simp [hc])
          | (with_reducible refine GKsplitB (fun hc => ?_) (fun hc => ?_) <;> try simp [hc])
          | (refine CallK.use (hsc _) ?_; rintro r G' _ _ ⟨rfl, q', rfl, hq'⟩)
          | simp (disch := first | (with_reducible assumption) | (simp; done) | omega | (simp; omega)) [hkl, ofS_idx (f := cI), cI])
        exact hN (w - 1) _ _ (by omega) ⟨k + 1, q', by omega, rfl, by rw [e1]; exact hq', by rw [e2]; simp⟩
      | true =>
        rw [hrm] at hsc e2
        repeat' (first
          | refine awp_seqK fun K' hpK => ?_
          | refine awp_block ?_
          | refine awp_condG fun A' B' hpA hpB => ?_
          | refine useK (by with_reducible assumption) ?_
          | refine useP (by with_reducible assumption) ?_
          | refine ED_cons (fun _ => ?_) ?_
          | (refine stable_mk ?_; simp (disch := first | (with_reducible assumption) | (simp; done) | omega | (simp; omega)) [hkl, ofS_idx (f := cI), cI]; done)
          | (refine stable_no ?_; simp (disch := first | (with_reducible assumption) | (simp; done) | omega | (simp; omega)) [hkl, ofS_idx (f := cI), cI]; done)
          | (with_reducible refine And.intro ?_ ?_)
          | (with_reducible intro hc; try (exfalso; omega))
          | (with_reducible refine GDsplit (fun hc => ?_) (fun hc => ?_) <;> try simp [hc])
          | (with_reducible refine GDsplitN (fun hc => ?_) (fun hc => ?_) <;> try simp [hc])
          | (with_reducible refine GDsplitNB (fun hc => ?_) (fun hc => ?_) <;> try simp [hc])
          | (with_reducible refine GDsplitB (fun hc => ?_) (fun hc => ?_) <;> try simp [hc])
          | (with_reducible refine GKsplit (fun hc => ?_) (fun hc => ?_) <;> try simp [hc])
          | (with_reducible refine GKsplitN (fun hc => ?_) (fun hc => ?_) <;> try simp [hc])
          | (with_reducible refine GKsplitNB (fun hc => ?_) (fun hc => ?_) <;> try simp [hc])
          | (with_reducible refine GKsplitB (fun hc => ?_) (fun hc => ?_) <;> try simp [hc])
          | (refine CallK.use (hsc _) ?_; rintro r G' _ _ ⟨rfl, q', rfl, hq'⟩)
          | simp (disch := first | (with_reducible assumption) | (simp; done) | omega | (simp; omega)) [hkl, ofS_idx (f := cI), cI])
        exact hN (w - 1) _ _ (by omega) ⟨k + 1, q', by omega, rfl, by rw [e1]; exact hq', by rw [e2]; simp⟩
    · have hke : k = (LL m).length := by omega
      rw [hke, List.take_length] at hq
      rw [hke, List.take_length]
      repeat' (first
        | refine awp_seqK fun K' hpK => ?_
        | refine awp_block ?_
        | refine awp_condG fun A' B' hpA hpB => ?_
        | refine useK (by with_reducible assumption) ?_
        | refine useP (by with_reducible assumption) ?_
        | refine ED_cons (fun _ => ?_) ?_
        | (refine stable_mk ?_; simp (disch := first | (with_reducible assumption) | (simp; done) | omega | (simp; omega)) [hkl]; done)
        | (refine stable_no ?_; simp (disch := first | (with_reducible assumption) | (simp; done) | omega | (simp; omega)) [hkl]; done)
        | (with_reducible refine And.intro ?_ ?_)
        | (with_reducible intro hc; try (exfalso; omega))
        | (with_reducible refine GDsplit (fun hc => ?_) (fun hc => ?_) <;> try simp [hc])
        | (with_reducible refine GDsplitN (fun hc => ?_) (fun hc => ?_) <;> try simp [hc])
        | (with_reducible refine GDsplitNB (fun hc => ?_) (fun hc => ?_) <;> try simp [hc])
        | (with_reducible refine GDsplitB (fun hc => ?_) (fun hc => ?_) <;> try simp [hc])
        | (with_reducible refine GKsplit (fun hc => ?_) (fun hc => ?_) <;> try simp [hc])
        | (with_reducible refine GKsplitN (fun hc => ?_) (fun hc => ?_) <;> try simp [hc])
        | (with_reducible refine GKsplitNB (fun hc => ?_) (fun hc => ?_) <;> try simp [hc])
        | (with_reducible refine GKsplitB (fun hc => ?_) (fun hc => ?_) <;> try simp [hc])
        | (refine CallK.use (psend_c hp (PS.ok_le hx (by omega)) (by omega)) ?_; rintro r G' _ _ ⟨hp1, rfl⟩)
        | simp (disch := first | (with_reducible assumption) | (simp; done) | omega | (simp; omega)) [hkl])
      refine ends_two (by simp <;> exact ⟨rfl, rfl⟩) (by simp) (by simp) (hpost _ _ ?_)
      exact ⟨_, q, rfl, hp1, hq, PS.send_bd hbd0 (by omega)⟩
  have h6 : (LL (sl.map fun l => l.take 6)).length ≤ 6 := by
    cases sl with
    | none => simp [LL]
    | some l => simp [LL]; omega
  by_cases hc6 : (6 : Int) < (LL sl).length
  · repeat' (first
      | refine awp_seqK fun K' hpK => ?_
      | refine awp_block ?_
      | refine awp_condG fun A' B' hpA hpB => ?_
      | refine useK (by with_reducible assumption) ?_
      | refine useP (by with_reducible assumption) ?_
      | refine ED_cons (fun _ => ?_) ?_
      | (refine stable_mk ?_; simp (disch := first | (with_reducible assumption) | (simp; done) | omega | (simp; omega)) [hc6, aslc_hi (f := cI)]; done)
      | (refine stable_no ?_; simp (disch := first | (with_reducible assumption) | (simp; done) | omega | (simp; omega)) [hc6, aslc_hi (f := cI)]; done)
      | (with_reducible refine And.intro ?_ ?_)
      | (with_reducible intro hc; try (exfalso; omega))
      | (with_reducible refine GDsplit (fun hc => ?_) (fun hc => ?_) <;> try simp [hc])
      | (with_reducible refine GDsplitN (fun hc => ?_) (fun hc => ?_) <;> try simp [hc])
      | (with_reducible refine GDsplitNB (fun hc => ?_) (fun hc => ?_) <;> try simp [hc])
      | (with_reducible refine GDsplitB (fun hc => ?_) (fun hc => ?_) <;> try simp [hc])
      | (with_reducible refine GKsplit (fun hc => ?_) (fun hc => ?_) <;> try simp [hc])
      | (with_reducible refine GKsplitN (fun hc => ?_) (fun hc => ?_) <;> try simp [hc])
      | (with_reducible refine GKsplitNB (fun hc => ?_) (fun hc => ?_) <;> try simp [hc])
      | (with_reducible refine GKsplitB (fun hc => ?_) (fun hc => ?_) <;> try simp [hc])
      | simp (disch := first | (with_reducible assumption) | (simp; done) | omega | (simp; omega)) [hc6, aslc_hi (f := cI)])
    exact main _ _ h6 (by simp) (by simp) (by simp) (by simp)
  · repeat' (first
      | refine awp_seqK fun K' hpK => ?_
      | refine awp_block ?_
      | refine awp_condG fun A' B' hpA hpB => ?_
      | refine useK (by with_reducible assumption) ?_
      | refine useP (by with_reducible assumption) ?_
      | refine ED_cons (fun _ => ?_) ?_
      | (refine stable_mk ?_; simp (disch := first | (with_reducible assumption) | (simp; done) | omega | (simp; omega)) [hc6]; done)
      | (refine stable_no ?_; simp (disch := first | (with_reducible assumption) | (simp; done) | omega | (simp; omega)) [hc6]; done)
      | (with_reducible refine And.intro ?_ ?_)
      | (with_reducible intro hc; try (exfalso; omega))
      | (with_reducible refine GDsplit (fun hc => ?_) (fun hc => ?_) <;> try simp [hc])
      | (with_reducible refine GDsplitN (fun hc => ?_) (fun hc => ?_) <;> try simp [hc])
      | (with_reducible refine GDsplitNB (fun hc => ?_) (fun hc => ?_) <;> try simp [hc])
      | (with_reducible refine GDsplitB (fun hc => ?_) (fun hc => ?_) <;> try simp [hc])
      | (with_reducible refine GKsplit (fun hc => ?_) (fun hc => ?_) <;> try simp [hc])
      | (with_reducible refine GKsplitN (fun hc => ?_) (fun hc => ?_) <;> try simp [hc])
      | (with_reducible refine GKsplitNB (fun hc => ?_) (fun hc => ?_) <;> try simp [hc])
      | (with_reducible refine GKsplitB (fun hc => ?_) (fun hc => ?_) <;> try simp [hc])
      | simp (disch := first | (with_reducible assumption) | (simp; done) | omega | (simp; omega)) [hc6])
    exact main sl _ (by omega) (by simp) (by simp) (by simp) (by simp)
end Go.Proofs.Ytfllkpdhkeiofaa
