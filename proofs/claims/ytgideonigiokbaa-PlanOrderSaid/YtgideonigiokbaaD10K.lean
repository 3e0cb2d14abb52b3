import Derived.Test.YtgideonigiokbaaD9K
set_option linter.unusedSimpArgs false
set_option linter.unusedVariables false
namespace Go.Proofs.Ytgideonigiokbaa
open Go Go.Al
set_option maxRecDepth 20000
attribute [local irreducible] awp aops aopsD eop pv ACalls CallK AppK AEnds ti

theorem andM {c : Nat} (hc : (c : Int) ≤ 1000000) (n : Int) : ∃ q : Nat, q ≤ c ∧ ibits .and .i64 n c = some (q : Int) := by
  rw [ibits_and]
  have e : (((c : Nat) : Int) % ((2 ^ IntKind.i64.bits : Nat) : Int)).toNat = c := by
    have : ((2 ^ IntKind.i64.bits : Nat) : Int) = 18446744073709551616 := by decide
    rw [this]; omega
  rw [e]
  refine ⟨(n % ((2 ^ IntKind.i64.bits : Nat) : Int)).toNat &&& c, Nat.and_le_right, ?_⟩
  have h := Nat.and_le_right (n := (n % ((2 ^ IntKind.i64.bits : Nat) : Int)).toNat) (m := c)
  congr 1
  rw [IntKind.wrap_i64]; omega
theorem start_one {sq : Int} {x : On} : startP [] sq x = if mayO x then ([(x.id, x)], sq + 1, 0) else ([], sq, 1) := by
  unfold startP; rw [if_neg (by rw [show hasL ([] : List (Int × On)) x.id = false from rfl]; simp)]; rfl
theorem may_pos {v : On} (h : mayO v = true) : 0 < (LL v.path).length := by
  unfold mayO at h
  simp only [Bool.and_eq_true, decide_eq_true_eq] at h
  exact h.2
theorem xO_ok {v : On} {s : Option (List Ho)} {sq : Int} (hs : LL s = LL v.path) (hm : mayO (xO v s sq) = true) (hl : (LL v.path).length ≤ 1000) : okAt (xO v s sq) := by
  have hp := may_pos hm
  have e : (LL (xO v s sq).path).length = (LL v.path).length := by show (LL s).length = _; rw [hs]
  refine ⟨?_, ?_, by omega⟩
  · show (0 : Int) ≤ (LL v.path).length - 1; omega
  · show ((LL v.path).length : Int) - 1 < (LL (xO v s sq).path).length; omega
set_option maxHeartbeats 8000000 in
theorem planRetry_c {v : On} {retry : Int} {gs : Option (List Int)} (hl : (LL v.path).length ≤ 140737488355328) (hgl : (LL gs).length ≤ 140737488355328) : ACalls Try.prog 4 [v.fl, v.lv, .int .i64 retry, ofS cI gs] emptyH fun r G' => G' = emptyH ∧ r = .bool true := by
  obtain ⟨q, hq, hqa⟩ : ∃ q : Nat, q ≤ 63 ∧ ibits .and .i64 retry 63 = some (q : Int) := andM (c := 63) (by omega) retry
  have cc := fun G => cut_c (v := v) (G := G) hl
  have oc := fun G => ours_c (v := cutO v) (G := G)
  have hcl := cut_len v.path
  simp only [On.fl, cutO] at cc oc
  by_cases hq1 : (q : Int) < 1
  · have hcr : clR q = 1 := by unfold clR; rw [if_pos hq1]
    refine ACalls.hide fun post hpost => ?_
    refine F4_in (by simp) (by simp) fun hbd => ?_
    repeat' (first
      | refine awp_seqK fun K' hpK => ?_
      | refine awp_block ?_
      | refine awp_condG fun A' B' hpA hpB => ?_
      | refine useK (by with_reducible assumption) ?_
      | refine useP (by with_reducible assumption) ?_
      | refine ED_cons (fun _ => ?_) ?_
      | (refine stable_mk ?_; simp (disch := first | (with_reducible assumption) | (simp; done) | omega | (simp; omega)) [On.fl, On.lv, hqa, hq1]; done)
      | (refine stable_no ?_; simp (disch := first | (with_reducible assumption) | (simp; done) | omega | (simp; omega)) [On.fl, On.lv, hqa, hq1]; done)
      | (with_reducible refine And.intro ?_ ?_)
      | (with_reducible intro hc)
      | (with_reducible refine GDsplit (fun hc => ?_) (fun hc => ?_) <;> try simp [hc])
      | (with_reducible refine GDsplitN (fun hc => ?_) (fun hc => ?_) <;> try simp [hc])
      | (with_reducible refine GDsplitNB (fun hc => ?_) (fun hc => ?_) <;> try simp [hc])
      | (with_reducible refine GDsplitB (fun hc => ?_) (fun hc => ?_) <;> try simp [hc])
      | (with_reducible refine GKsplit (fun hc => ?_) (fun hc => ?_) <;> try simp [hc])
      | (with_reducible refine GKsplitN (fun hc => ?_) (fun hc => ?_) <;> try simp [hc])
      | (with_reducible refine GKsplitNB (fun hc => ?_) (fun hc => ?_) <;> try simp [hc])
      | (with_reducible refine GKsplitB (fun hc => ?_) (fun hc => ?_) <;> try simp [hc])
      | (refine CallK.use (cc _) ?_; rintro r G' _ _ ⟨rfl, rfl⟩)
      | (refine CallK.use (new_c (r0 := q)) ?_; rintro r G' _ _ ⟨pb, rfl, hP⟩)
      | (refine CallK.use (oc _) ?_; rintro r G' _ _ ⟨rfl, rfl⟩)
      | simp (disch := first | (with_reducible assumption) | (simp; done) | omega | (simp; omega)) [On.fl, On.lv, hqa, hq1])
    have sc := start_c (v := { cutO v with idle := 0, hard := 0 }) hP (by decide) (by decide) (by decide) (by show (LL (cutP v.path)).length ≤ 1000; omega)
    simp only [On.fl, On.lv, cutO] at sc
    refine CallK.use sc ?_
    rintro r G2 _ _ ⟨s, hse, hP2, rfl⟩
    obtain ⟨v1, hv1⟩ : ∃ v1, v1 = { cutO v with idle := 0, hard := 0 } := ⟨_, rfl⟩
    have hpl : (LL v1.path).length ≤ 1000 := by rw [hv1]; show (LL (cutP v.path)).length ≤ 1000; omega
    have hse1 : LL s = LL v1.path := by rw [hv1]; exact hse
    have hx : xO { cutO v with idle := 0, hard := 0 } s 0 = xO v1 s 0 := by rw [hv1]
    simp only [cutO] at hx
    rw [hx, start_one] at hP2
    simp only [hx, start_one]
    cases hm : mayO (xO v1 s 0) with
    | false =>
      simp only [Bool.false_eq_true, if_false]
      repeat' (first
        | refine awp_seqK fun K' hpK => ?_
        | refine awp_block ?_
        | refine awp_condG fun A' B' hpA hpB => ?_
        | refine useK (by with_reducible assumption) ?_
        | refine useP (by with_reducible assumption) ?_
        | refine ED_cons (fun _ => ?_) ?_
        | (refine stable_mk ?_; simp (disch := first | (with_reducible assumption) | (simp; done) | omega | (simp; omega)); done)
        | (refine stable_no ?_; simp (disch := first | (with_reducible assumption) | (simp; done) | omega | (simp; omega)); done)
        | (with_reducible refine And.intro ?_ ?_)
        | (with_reducible intro hc)
        | (with_reducible refine GDsplit (fun hc => ?_) (fun hc => ?_) <;> try simp [hc])
        | (with_reducible refine GDsplitN (fun hc => ?_) (fun hc => ?_) <;> try simp [hc])
        | (with_reducible refine GDsplitNB (fun hc => ?_) (fun hc => ?_) <;> try simp [hc])
        | (with_reducible refine GDsplitB (fun hc => ?_) (fun hc => ?_) <;> try simp [hc])
        | (with_reducible refine GKsplit (fun hc => ?_) (fun hc => ?_) <;> try simp [hc])
        | (with_reducible refine GKsplitN (fun hc => ?_) (fun hc => ?_) <;> try simp [hc])
        | (with_reducible refine GKsplitNB (fun hc => ?_) (fun hc => ?_) <;> try simp [hc])
        | (with_reducible refine GKsplitB (fun hc => ?_) (fun hc => ?_) <;> try simp [hc])
        | (refine CallK.use (awake_c _) ?_; rintro r G' _ _ ⟨rfl, rfl⟩)
        | simp (disch := first | (with_reducible assumption) | (simp; done) | omega | (simp; omega)))
      exact ends_drop (by simp <;> rfl) (by simp) (hpost _ _ ⟨rfl, rfl⟩)
    | true =>
      rw [hm, if_pos rfl, hcr] at hP2
      simp only [if_true] at hP2 ⊢
      have hok := xO_ok hse1 hm hpl
      generalize xO v1 s 0 = x at hP2 hok hx hm
      have hsd : x.said = false := by rw [← hx]; rfl
      repeat' (first
        | refine awp_seqK fun K' hpK => ?_
        | refine awp_block ?_
        | refine awp_condG fun A' B' hpA hpB => ?_
        | refine useK (by with_reducible assumption) ?_
        | refine useP (by with_reducible assumption) ?_
        | refine ED_cons (fun _ => ?_) ?_
        | (refine stable_mk ?_; simp (disch := first | (with_reducible assumption) | (simp; done) | omega | (simp; omega)); done)
        | (refine stable_no ?_; simp (disch := first | (with_reducible assumption) | (simp; done) | omega | (simp; omega)); done)
        | (with_reducible refine And.intro ?_ ?_)
        | (with_reducible intro hc)
        | (with_reducible refine GDsplit (fun hc => ?_) (fun hc => ?_) <;> try simp [hc])
        | (with_reducible refine GDsplitN (fun hc => ?_) (fun hc => ?_) <;> try simp [hc])
        | (with_reducible refine GDsplitNB (fun hc => ?_) (fun hc => ?_) <;> try simp [hc])
        | (with_reducible refine GDsplitB (fun hc => ?_) (fun hc => ?_) <;> try simp [hc])
        | (with_reducible refine GKsplit (fun hc => ?_) (fun hc => ?_) <;> try simp [hc])
        | (with_reducible refine GKsplitN (fun hc => ?_) (fun hc => ?_) <;> try simp [hc])
        | (with_reducible refine GKsplitNB (fun hc => ?_) (fun hc => ?_) <;> try simp [hc])
        | (with_reducible refine GKsplitB (fun hc => ?_) (fun hc => ?_) <;> try simp [hc])
        | simp (disch := first | (with_reducible assumption) | (simp; done) | omega | (simp; omega)))
      refine CallK.use (next_c (now := 0) hP2 (by simp) (by intro y hy; rw [List.mem_singleton.1 hy]; exact hok)) ?_
      rintro r G3 _ _ ⟨hP3, s3, rfl, hs3⟩
      have hdue : dueO 0 1 x = true := by unfold dueO; rw [hsd]; rfl
      have e1 : [(x.id, x)].map (updN 0 1) = [(x.id, sayO 0 x)] := by simp [updN, hdue]
      have e2 : (LL s3).length = 1 := by rw [hs3]; simp [hdue]
      rw [e1] at hP3
      repeat' (first
        | refine awp_seqK fun K' hpK => ?_
        | refine awp_block ?_
        | refine awp_condG fun A' B' hpA hpB => ?_
        | refine useK (by with_reducible assumption) ?_
        | refine useP (by with_reducible assumption) ?_
        | refine ED_cons (fun _ => ?_) ?_
        | (refine stable_mk ?_; simp (disch := first | (with_reducible assumption) | (simp; done) | omega | (simp; omega)) [e2]; done)
        | (refine stable_no ?_; simp (disch := first | (with_reducible assumption) | (simp; done) | omega | (simp; omega)) [e2]; done)
        | (with_reducible refine And.intro ?_ ?_)
        | (with_reducible intro hc)
        | (with_reducible refine GDsplit (fun hc => ?_) (fun hc => ?_) <;> try simp [hc])
        | (with_reducible refine GDsplitN (fun hc => ?_) (fun hc => ?_) <;> try simp [hc])
        | (with_reducible refine GDsplitNB (fun hc => ?_) (fun hc => ?_) <;> try simp [hc])
        | (with_reducible refine GDsplitB (fun hc => ?_) (fun hc => ?_) <;> try simp [hc])
        | (with_reducible refine GKsplit (fun hc => ?_) (fun hc => ?_) <;> try simp [hc])
        | (with_reducible refine GKsplitN (fun hc => ?_) (fun hc => ?_) <;> try simp [hc])
        | (with_reducible refine GKsplitNB (fun hc => ?_) (fun hc => ?_) <;> try simp [hc])
        | (with_reducible refine GKsplitB (fun hc => ?_) (fun hc => ?_) <;> try simp [hc])
        | simp (disch := first | (with_reducible assumption) | (simp; done) | omega | (simp; omega)) [e2])
      refine awp_loop' (fun w T G' => ∃ (k : Nat) (now sd : Int) (y : On), k + w = (LL gs).length ∧ 0 ≤ sd ∧ sd ≤ now ∧ now ≤ 15 * k ∧ k ≤ 30 ∧ y.said = true ∧ y.when = sd ∧ okAt y ∧ TH pb G' [(x.id, y)] 1 (0 + 1) ∧ T = ofL [(2, .int .i64 1), (9, .ptr pb 0), (10, .int .i64 now), (11, .int .i64 sd), (34, ofS cI gs), (35, .int .i64 (LL gs).length), (36, .int .i64 k)]) (LL gs).length ⟨0, 0, 0, sayO 0 x, by omega, by omega, by omega, by omega, by omega, rfl, rfl, hok, hP3, by simp⟩ ?_
      rintro w T G' ⟨k, now, sd, y, hk, t0, t1, t2, h30, ysd, ywh, yok, hPy, rfl⟩ N hN
      by_cases hkl : k < (LL gs).length
      · obtain ⟨g, hg⟩ : ∃ g, g = (LL gs)[k] := ⟨_, rfl⟩
        by_cases h3 : (30 : Int) ≤ k
        · repeat' (first
            | refine awp_seqK fun K' hpK => ?_
            | refine awp_block ?_
            | refine awp_condG fun A' B' hpA hpB => ?_
            | refine useK (by with_reducible assumption) ?_
            | refine useP (by with_reducible assumption) ?_
            | refine ED_cons (fun _ => ?_) ?_
            | (refine stable_mk ?_; simp (disch := first | (with_reducible assumption) | (simp; done) | omega | (simp; omega)) [hkl, h3, ofS_idx (f := cI), cI, ← hg]; done)
            | (refine stable_no ?_; simp (disch := first | (with_reducible assumption) | (simp; done) | omega | (simp; omega)) [hkl, h3, ofS_idx (f := cI), cI, ← hg]; done)
            | (with_reducible refine And.intro ?_ ?_)
            | (with_reducible intro hc)
            | (with_reducible refine GDsplit (fun hc => ?_) (fun hc => ?_) <;> try simp [hc])
            | (with_reducible refine GDsplitN (fun hc => ?_) (fun hc => ?_) <;> try simp [hc])
            | (with_reducible refine GDsplitNB (fun hc => ?_) (fun hc => ?_) <;> try simp [hc])
            | (with_reducible refine GDsplitB (fun hc => ?_) (fun hc => ?_) <;> try simp [hc])
            | (with_reducible refine GKsplit (fun hc => ?_) (fun hc => ?_) <;> try simp [hc])
            | (with_reducible refine GKsplitN (fun hc => ?_) (fun hc => ?_) <;> try simp [hc])
            | (with_reducible refine GKsplitNB (fun hc => ?_) (fun hc => ?_) <;> try simp [hc])
            | (with_reducible refine GKsplitB (fun hc => ?_) (fun hc => ?_) <;> try simp [hc])
            | (refine CallK.use (awake_c _) ?_; rintro r G' _ _ ⟨rfl, rfl⟩)
            | simp (disch := first | (with_reducible assumption) | (simp; done) | omega | (simp; omega)) [hkl, h3, ofS_idx (f := cI), cI, ← hg])
          exact ends_drop (by simp <;> rfl) (by simp) (hpost _ _ ⟨rfl, rfl⟩)
        · obtain ⟨a, ha, haa⟩ : ∃ a : Nat, a ≤ 15 ∧ ibits .and .i64 g 15 = some (a : Int) := andM (c := 15) (by omega) g
          have hw : IntKind.i64.wrap (now + a) = now + a := by rw [IntKind.wrap_i64]; omega
          have hw2 : IntKind.i64.wrap (now + a - sd) = now + a - sd := by rw [IntKind.wrap_i64]; omega
          repeat' (first
            | refine awp_seqK fun K' hpK => ?_
            | refine awp_block ?_
            | refine awp_condG fun A' B' hpA hpB => ?_
            | refine useK (by with_reducible assumption) ?_
            | refine useP (by with_reducible assumption) ?_
            | refine ED_cons (fun _ => ?_) ?_
            | (refine stable_mk ?_; simp (disch := first | (with_reducible assumption) | (simp; done) | omega | (simp; omega)) [hkl, h3, ofS_idx (f := cI), cI, ← hg, haa, hw]; done)
            | (refine stable_no ?_; simp (disch := first | (with_reducible assumption) | (simp; done) | omega | (simp; omega)) [hkl, h3, ofS_idx (f := cI), cI, ← hg, haa, hw]; done)
            | (with_reducible refine And.intro ?_ ?_)
            | (with_reducible intro hc)
            | (with_reducible refine GDsplit (fun hc => ?_) (fun hc => ?_) <;> try simp [hc])
            | (with_reducible refine GDsplitN (fun hc => ?_) (fun hc => ?_) <;> try simp [hc])
            | (with_reducible refine GDsplitNB (fun hc => ?_) (fun hc => ?_) <;> try simp [hc])
            | (with_reducible refine GDsplitB (fun hc => ?_) (fun hc => ?_) <;> try simp [hc])
            | (with_reducible refine GKsplit (fun hc => ?_) (fun hc => ?_) <;> try simp [hc])
            | (with_reducible refine GKsplitN (fun hc => ?_) (fun hc => ?_) <;> try simp [hc])
            | (with_reducible refine GKsplitNB (fun hc => ?_) (fun hc => ?_) <;> try simp [hc])
            | (with_reducible refine GKsplitB (fun hc => ?_) (fun hc => ?_) <;> try simp [hc])
            | simp (disch := first | (with_reducible assumption) | (simp; done) | omega | (simp; omega)) [hkl, h3, ofS_idx (f := cI), cI, ← hg, haa, hw])
          refine CallK.use (next_c (now := now + a) hPy (by simp) (by intro z hz; rw [List.mem_singleton.1 hz]; exact yok)) ?_
          rintro r G5 _ _ ⟨hP5, s5, rfl, hs5⟩
          by_cases hlt : now + a - sd < 1
          · have hd : dueO (now + a) 1 y = false := by unfold dueO; rw [ysd, ywh, hw2, decide_eq_true hlt]; rfl
            have f1 : [(x.id, y)].map (updN (now + a) 1) = [(x.id, y)] := by simp [updN, hd]
            have f2 : (LL s5).length = 0 := by rw [hs5]; simp [hd]
            have hnr : ¬ 1 ≤ now + a - sd := by omega
            rw [f1] at hP5
            repeat' (first
              | refine awp_seqK fun K' hpK => ?_
              | refine awp_block ?_
              | refine awp_condG fun A' B' hpA hpB => ?_
              | refine useK (by with_reducible assumption) ?_
              | refine useP (by with_reducible assumption) ?_
              | refine ED_cons (fun _ => ?_) ?_
              | (refine stable_mk ?_; simp (disch := first | (with_reducible assumption) | (simp; done) | omega | (simp; omega)) [f2, hw2, hnr]; done)
              | (refine stable_no ?_; simp (disch := first | (with_reducible assumption) | (simp; done) | omega | (simp; omega)) [f2, hw2, hnr]; done)
              | (with_reducible refine And.intro ?_ ?_)
              | (with_reducible intro hc)
              | (with_reducible refine GDsplit (fun hc => ?_) (fun hc => ?_) <;> try simp [hc])
              | (with_reducible refine GDsplitN (fun hc => ?_) (fun hc => ?_) <;> try simp [hc])
              | (with_reducible refine GDsplitNB (fun hc => ?_) (fun hc => ?_) <;> try simp [hc])
              | (with_reducible refine GDsplitB (fun hc => ?_) (fun hc => ?_) <;> try simp [hc])
              | (with_reducible refine GKsplit (fun hc => ?_) (fun hc => ?_) <;> try simp [hc])
              | (with_reducible refine GKsplitN (fun hc => ?_) (fun hc => ?_) <;> try simp [hc])
              | (with_reducible refine GKsplitNB (fun hc => ?_) (fun hc => ?_) <;> try simp [hc])
              | (with_reducible refine GKsplitB (fun hc => ?_) (fun hc => ?_) <;> try simp [hc])
              | simp (disch := first | (with_reducible assumption) | (simp; done) | omega | (simp; omega)) [f2, hw2, hnr])
            exact hN (w - 1) _ _ (by omega) ⟨k + 1, now + a, sd, y, by omega, by omega, by omega, by omega, by omega, ysd, ywh, yok, hP5, by simp⟩
          · have hd : dueO (now + a) 1 y = true := by unfold dueO; rw [ysd, ywh, hw2, decide_eq_false hlt]; rfl
            have f1 : [(x.id, y)].map (updN (now + a) 1) = [(x.id, sayO (now + a) y)] := by simp [updN, hd]
            have f2 : (LL s5).length = 1 := by rw [hs5]; simp [hd]
            have hnr : 1 ≤ now + a - sd := by omega
            rw [f1] at hP5
            repeat' (first
              | refine awp_seqK fun K' hpK => ?_
              | refine awp_block ?_
              | refine awp_condG fun A' B' hpA hpB => ?_
              | refine useK (by with_reducible assumption) ?_
              | refine useP (by with_reducible assumption) ?_
              | refine ED_cons (fun _ => ?_) ?_
              | (refine stable_mk ?_; simp (disch := first | (with_reducible assumption) | (simp; done) | omega | (simp; omega)) [f2, hw2, hnr]; done)
              | (refine stable_no ?_; simp (disch := first | (with_reducible assumption) | (simp; done) | omega | (simp; omega)) [f2, hw2, hnr]; done)
              | (with_reducible refine And.intro ?_ ?_)
              | (with_reducible intro hc)
              | (with_reducible refine GDsplit (fun hc => ?_) (fun hc => ?_) <;> try simp [hc])
              | (with_reducible refine GDsplitN (fun hc => ?_) (fun hc => ?_) <;> try simp [hc])
              | (with_reducible refine GDsplitNB (fun hc => ?_) (fun hc => ?_) <;> try simp [hc])
              | (with_reducible refine GDsplitB (fun hc => ?_) (fun hc => ?_) <;> try simp [hc])
              | (with_reducible refine GKsplit (fun hc => ?_) (fun hc => ?_) <;> try simp [hc])
              | (with_reducible refine GKsplitN (fun hc => ?_) (fun hc => ?_) <;> try simp [hc])
              | (with_reducible refine GKsplitNB (fun hc => ?_) (fun hc => ?_) <;> try simp [hc])
              | (with_reducible refine GKsplitB (fun hc => ?_) (fun hc => ?_) <;> try simp [hc])
              | simp (disch := first | (with_reducible assumption) | (simp; done) | omega | (simp; omega)) [f2, hw2, hnr])
            exact hN (w - 1) _ _ (by omega) ⟨k + 1, now + a, now + a, sayO (now + a) y, by omega, by omega, by omega, by omega, by omega, rfl, rfl, yok, hP5, by simp⟩
      · repeat' (first
          | refine awp_seqK fun K' hpK => ?_
          | refine awp_block ?_
          | refine awp_condG fun A' B' hpA hpB => ?_
          | refine useK (by with_reducible assumption) ?_
          | refine useP (by with_reducible assumption) ?_
          | refine ED_cons (fun _ => ?_) ?_
          | (refine stable_mk ?_; simp (disch := first | (with_reducible assumption) | (simp; done) | omega | (simp; omega)) [hkl]; done)
          | (refine stable_no ?_; simp (disch := first | (with_reducible assumption) | (simp; done) | omega | (simp; omega)) [hkl]; done)
          | (with_reducible refine And.intro ?_ ?_)
          | (with_reducible intro hc)
          | (with_reducible refine GDsplit (fun hc => ?_) (fun hc => ?_) <;> try simp [hc])
          | (with_reducible refine GDsplitN (fun hc => ?_) (fun hc => ?_) <;> try simp [hc])
          | (with_reducible refine GDsplitNB (fun hc => ?_) (fun hc => ?_) <;> try simp [hc])
          | (with_reducible refine GDsplitB (fun hc => ?_) (fun hc => ?_) <;> try simp [hc])
          | (with_reducible refine GKsplit (fun hc => ?_) (fun hc => ?_) <;> try simp [hc])
          | (with_reducible refine GKsplitN (fun hc => ?_) (fun hc => ?_) <;> try simp [hc])
          | (with_reducible refine GKsplitNB (fun hc => ?_) (fun hc => ?_) <;> try simp [hc])
          | (with_reducible refine GKsplitB (fun hc => ?_) (fun hc => ?_) <;> try simp [hc])
          | (refine CallK.use (awake_c _) ?_; rintro r G' _ _ ⟨rfl, rfl⟩)
          | simp (disch := first | (with_reducible assumption) | (simp; done) | omega | (simp; omega)) [hkl])
        exact ends_drop (by simp <;> rfl) (by simp) (hpost _ _ ⟨rfl, rfl⟩)
  · have hcr : clR q = q := by unfold clR; rw [if_neg hq1, if_neg (by omega)]
    refine ACalls.hide fun post hpost => ?_
    refine F4_in (by simp) (by simp) fun hbd => ?_
    repeat' (first
      | refine awp_seqK fun K' hpK => ?_
      | refine awp_block ?_
      | refine awp_condG fun A' B' hpA hpB => ?_
      | refine useK (by with_reducible assumption) ?_
      | refine useP (by with_reducible assumption) ?_
      | refine ED_cons (fun _ => ?_) ?_
      | (refine stable_mk ?_; simp (disch := first | (with_reducible assumption) | (simp; done) | omega | (simp; omega)) [On.fl, On.lv, hqa, hq1]; done)
      | (refine stable_no ?_; simp (disch := first | (with_reducible assumption) | (simp; done) | omega | (simp; omega)) [On.fl, On.lv, hqa, hq1]; done)
      | (with_reducible refine And.intro ?_ ?_)
      | (with_reducible intro hc)
      | (with_reducible refine GDsplit (fun hc => ?_) (fun hc => ?_) <;> try simp [hc])
      | (with_reducible refine GDsplitN (fun hc => ?_) (fun hc => ?_) <;> try simp [hc])
      | (with_reducible refine GDsplitNB (fun hc => ?_) (fun hc => ?_) <;> try simp [hc])
      | (with_reducible refine GDsplitB (fun hc => ?_) (fun hc => ?_) <;> try simp [hc])
      | (with_reducible refine GKsplit (fun hc => ?_) (fun hc => ?_) <;> try simp [hc])
      | (with_reducible refine GKsplitN (fun hc => ?_) (fun hc => ?_) <;> try simp [hc])
      | (with_reducible refine GKsplitNB (fun hc => ?_) (fun hc => ?_) <;> try simp [hc])
      | (with_reducible refine GKsplitB (fun hc => ?_) (fun hc => ?_) <;> try simp [hc])
      | (refine CallK.use (cc _) ?_; rintro r G' _ _ ⟨rfl, rfl⟩)
      | (refine CallK.use (new_c (r0 := q)) ?_; rintro r G' _ _ ⟨pb, rfl, hP⟩)
      | (refine CallK.use (oc _) ?_; rintro r G' _ _ ⟨rfl, rfl⟩)
      | simp (disch := first | (with_reducible assumption) | (simp; done) | omega | (simp; omega)) [On.fl, On.lv, hqa, hq1])
    have sc := start_c (v := { cutO v with idle := 0, hard := 0 }) hP (by decide) (by decide) (by decide) (by show (LL (cutP v.path)).length ≤ 1000; omega)
    simp only [On.fl, On.lv, cutO] at sc
    refine CallK.use sc ?_
    rintro r G2 _ _ ⟨s, hse, hP2, rfl⟩
    obtain ⟨v1, hv1⟩ : ∃ v1, v1 = { cutO v with idle := 0, hard := 0 } := ⟨_, rfl⟩
    have hpl : (LL v1.path).length ≤ 1000 := by rw [hv1]; show (LL (cutP v.path)).length ≤ 1000; omega
    have hse1 : LL s = LL v1.path := by rw [hv1]; exact hse
    have hx : xO { cutO v with idle := 0, hard := 0 } s 0 = xO v1 s 0 := by rw [hv1]
    simp only [cutO] at hx
    rw [hx, start_one] at hP2
    simp only [hx, start_one]
    cases hm : mayO (xO v1 s 0) with
    | false =>
      simp only [Bool.false_eq_true, if_false]
      repeat' (first
        | refine awp_seqK fun K' hpK => ?_
        | refine awp_block ?_
        | refine awp_condG fun A' B' hpA hpB => ?_
        | refine useK (by with_reducible assumption) ?_
        | refine useP (by with_reducible assumption) ?_
        | refine ED_cons (fun _ => ?_) ?_
        | (refine stable_mk ?_; simp (disch := first | (with_reducible assumption) | (simp; done) | omega | (simp; omega)); done)
        | (refine stable_no ?_; simp (disch := first | (with_reducible assumption) | (simp; done) | omega | (simp; omega)); done)
        | (with_reducible refine And.intro ?_ ?_)
        | (with_reducible intro hc)
        | (with_reducible refine GDsplit (fun hc => ?_) (fun hc => ?_) <;> try simp [hc])
        | (with_reducible refine GDsplitN (fun hc => ?_) (fun hc => ?_) <;> try simp [hc])
        | (with_reducible refine GDsplitNB (fun hc => ?_) (fun hc => ?_) <;> try simp [hc])
        | (with_reducible refine GDsplitB (fun hc => ?_) (fun hc => ?_) <;> try simp [hc])
        | (with_reducible refine GKsplit (fun hc => ?_) (fun hc => ?_) <;> try simp [hc])
        | (with_reducible refine GKsplitN (fun hc => ?_) (fun hc => ?_) <;> try simp [hc])
        | (with_reducible refine GKsplitNB (fun hc => ?_) (fun hc => ?_) <;> try simp [hc])
        | (with_reducible refine GKsplitB (fun hc => ?_) (fun hc => ?_) <;> try simp [hc])
        | (refine CallK.use (awake_c _) ?_; rintro r G' _ _ ⟨rfl, rfl⟩)
        | simp (disch := first | (with_reducible assumption) | (simp; done) | omega | (simp; omega)))
      exact ends_drop (by simp <;> rfl) (by simp) (hpost _ _ ⟨rfl, rfl⟩)
    | true =>
      rw [hm, if_pos rfl, hcr] at hP2
      simp only [if_true] at hP2 ⊢
      have hok := xO_ok hse1 hm hpl
      generalize xO v1 s 0 = x at hP2 hok hx hm
      have hsd : x.said = false := by rw [← hx]; rfl
      repeat' (first
        | refine awp_seqK fun K' hpK => ?_
        | refine awp_block ?_
        | refine awp_condG fun A' B' hpA hpB => ?_
        | refine useK (by with_reducible assumption) ?_
        | refine useP (by with_reducible assumption) ?_
        | refine ED_cons (fun _ => ?_) ?_
        | (refine stable_mk ?_; simp (disch := first | (with_reducible assumption) | (simp; done) | omega | (simp; omega)); done)
        | (refine stable_no ?_; simp (disch := first | (with_reducible assumption) | (simp; done) | omega | (simp; omega)); done)
        | (with_reducible refine And.intro ?_ ?_)
        | (with_reducible intro hc)
        | (with_reducible refine GDsplit (fun hc => ?_) (fun hc => ?_) <;> try simp [hc])
        | (with_reducible refine GDsplitN (fun hc => ?_) (fun hc => ?_) <;> try simp [hc])
        | (with_reducible refine GDsplitNB (fun hc => ?_) (fun hc => ?_) <;> try simp [hc])
        | (with_reducible refine GDsplitB (fun hc => ?_) (fun hc => ?_) <;> try simp [hc])
        | (with_reducible refine GKsplit (fun hc => ?_) (fun hc => ?_) <;> try simp [hc])
        | (with_reducible refine GKsplitN (fun hc => ?_) (fun hc => ?_) <;> try simp [hc])
        | (with_reducible refine GKsplitNB (fun hc => ?_) (fun hc => ?_) <;> try simp [hc])
        | (with_reducible refine GKsplitB (fun hc => ?_) (fun hc => ?_) <;> try simp [hc])
        | simp (disch := first | (with_reducible assumption) | (simp; done) | omega | (simp; omega)))
      refine CallK.use (next_c (now := 0) hP2 (by simp) (by intro y hy; rw [List.mem_singleton.1 hy]; exact hok)) ?_
      rintro r G3 _ _ ⟨hP3, s3, rfl, hs3⟩
      have hdue : dueO 0 (q : Int) x = true := by unfold dueO; rw [hsd]; rfl
      have e1 : [(x.id, x)].map (updN 0 (q : Int)) = [(x.id, sayO 0 x)] := by simp [updN, hdue]
      have e2 : (LL s3).length = 1 := by rw [hs3]; simp [hdue]
      rw [e1] at hP3
      repeat' (first
        | refine awp_seqK fun K' hpK => ?_
        | refine awp_block ?_
        | refine awp_condG fun A' B' hpA hpB => ?_
        | refine useK (by with_reducible assumption) ?_
        | refine useP (by with_reducible assumption) ?_
        | refine ED_cons (fun _ => ?_) ?_
        | (refine stable_mk ?_; simp (disch := first | (with_reducible assumption) | (simp; done) | omega | (simp; omega)) [e2]; done)
        | (refine stable_no ?_; simp (disch := first | (with_reducible assumption) | (simp; done) | omega | (simp; omega)) [e2]; done)
        | (with_reducible refine And.intro ?_ ?_)
        | (with_reducible intro hc)
        | (with_reducible refine GDsplit (fun hc => ?_) (fun hc => ?_) <;> try simp [hc])
        | (with_reducible refine GDsplitN (fun hc => ?_) (fun hc => ?_) <;> try simp [hc])
        | (with_reducible refine GDsplitNB (fun hc => ?_) (fun hc => ?_) <;> try simp [hc])
        | (with_reducible refine GDsplitB (fun hc => ?_) (fun hc => ?_) <;> try simp [hc])
        | (with_reducible refine GKsplit (fun hc => ?_) (fun hc => ?_) <;> try simp [hc])
        | (with_reducible refine GKsplitN (fun hc => ?_) (fun hc => ?_) <;> try simp [hc])
        | (with_reducible refine GKsplitNB (fun hc => ?_) (fun hc => ?_) <;> try simp [hc])
        | (with_reducible refine GKsplitB (fun hc => ?_) (fun hc => ?_) <;> try simp [hc])
        | simp (disch := first | (with_reducible assumption) | (simp; done) | omega | (simp; omega)) [e2])
      refine awp_loop' (fun w T G' => ∃ (k : Nat) (now sd : Int) (y : On), k + w = (LL gs).length ∧ 0 ≤ sd ∧ sd ≤ now ∧ now ≤ 15 * k ∧ k ≤ 30 ∧ y.said = true ∧ y.when = sd ∧ okAt y ∧ TH pb G' [(x.id, y)] (q : Int) (0 + 1) ∧ T = ofL [(2, .int .i64 (q : Int)), (9, .ptr pb 0), (10, .int .i64 now), (11, .int .i64 sd), (34, ofS cI gs), (35, .int .i64 (LL gs).length), (36, .int .i64 k)]) (LL gs).length ⟨0, 0, 0, sayO 0 x, by omega, by omega, by omega, by omega, by omega, rfl, rfl, hok, hP3, by simp⟩ ?_
      rintro w T G' ⟨k, now, sd, y, hk, t0, t1, t2, h30, ysd, ywh, yok, hPy, rfl⟩ N hN
      by_cases hkl : k < (LL gs).length
      · obtain ⟨g, hg⟩ : ∃ g, g = (LL gs)[k] := ⟨_, rfl⟩
        by_cases h3 : (30 : Int) ≤ k
        · repeat' (first
            | refine awp_seqK fun K' hpK => ?_
            | refine awp_block ?_
            | refine awp_condG fun A' B' hpA hpB => ?_
            | refine useK (by with_reducible assumption) ?_
            | refine useP (by with_reducible assumption) ?_
            | refine ED_cons (fun _ => ?_) ?_
            | (refine stable_mk ?_; simp (disch := first | (with_reducible assumption) | (simp; done) | omega | (simp; omega)) [hkl, h3, ofS_idx (f := cI), cI, ← hg]; done)
            | (refine stable_no ?_; simp (disch := first | (with_reducible assumption) | (simp; done) | omega | (simp; omega)) [hkl, h3, ofS_idx (f := cI), cI, ← hg]; done)
            | (with_reducible refine And.intro ?_ ?_)
            | (with_reducible intro hc)
            | (with_reducible refine GDsplit (fun hc => ?_) (fun hc => ?_) <;> try simp [hc])
            | (with_reducible refine GDsplitN (fun hc => ?_) (fun hc => ?_) <;> try simp [hc])
            | (with_reducible refine GDsplitNB (fun hc => ?_) (fun hc => ?_) <;> try simp [hc])
            | (with_reducible refine GDsplitB (fun hc => ?_) (fun hc => ?_) <;> try simp [hc])
            | (with_reducible refine GKsplit (fun hc => ?_) (fun hc => ?_) <;> try simp [hc])
            | (with_reducible refine GKsplitN (fun hc => ?_) (fun hc => ?_) <;> try simp [hc])
            | (with_reducible refine GKsplitNB (fun hc => ?_) (fun hc => ?_) <;> try simp [hc])
            | (with_reducible refine GKsplitB (fun hc => ?_) (fun hc => ?_) <;> try simp [hc])
            | (refine CallK.use (awake_c _) ?_; rintro r G' _ _ ⟨rfl, rfl⟩)
            | simp (disch := first | (with_reducible assumption) | (simp; done) | omega | (simp; omega)) [hkl, h3, ofS_idx (f := cI), cI, ← hg])
          exact ends_drop (by simp <;> rfl) (by simp) (hpost _ _ ⟨rfl, rfl⟩)
        · obtain ⟨a, ha, haa⟩ : ∃ a : Nat, a ≤ 15 ∧ ibits .and .i64 g 15 = some (a : Int) := andM (c := 15) (by omega) g
          have hw : IntKind.i64.wrap (now + a) = now + a := by rw [IntKind.wrap_i64]; omega
          have hw2 : IntKind.i64.wrap (now + a - sd) = now + a - sd := by rw [IntKind.wrap_i64]; omega
          repeat' (first
            | refine awp_seqK fun K' hpK => ?_
            | refine awp_block ?_
            | refine awp_condG fun A' B' hpA hpB => ?_
            | refine useK (by with_reducible assumption) ?_
            | refine useP (by with_reducible assumption) ?_
            | refine ED_cons (fun _ => ?_) ?_
            | (refine stable_mk ?_; simp (disch := first | (with_reducible assumption) | (simp; done) | omega | (simp; omega)) [hkl, h3, ofS_idx (f := cI), cI, ← hg, haa, hw]; done)
            | (refine stable_no ?_; simp (disch := first | (with_reducible assumption) | (simp; done) | omega | (simp; omega)) [hkl, h3, ofS_idx (f := cI), cI, ← hg, haa, hw]; done)
            | (with_reducible refine And.intro ?_ ?_)
            | (with_reducible intro hc)
            | (with_reducible refine GDsplit (fun hc => ?_) (fun hc => ?_) <;> try simp [hc])
            | (with_reducible refine GDsplitN (fun hc => ?_) (fun hc => ?_) <;> try simp [hc])
            | (with_reducible refine GDsplitNB (fun hc => ?_) (fun hc => ?_) <;> try simp [hc])
            | (with_reducible refine GDsplitB (fun hc => ?_) (fun hc => ?_) <;> try simp [hc])
            | (with_reducible refine GKsplit (fun hc => ?_) (fun hc => ?_) <;> try simp [hc])
            | (with_reducible refine GKsplitN (fun hc => ?_) (fun hc => ?_) <;> try simp [hc])
            | (with_reducible refine GKsplitNB (fun hc => ?_) (fun hc => ?_) <;> try simp [hc])
            | (with_reducible refine GKsplitB (fun hc => ?_) (fun hc => ?_) <;> try simp [hc])
            | simp (disch := first | (with_reducible assumption) | (simp; done) | omega | (simp; omega)) [hkl, h3, ofS_idx (f := cI), cI, ← hg, haa, hw])
          refine CallK.use (next_c (now := now + a) hPy (by simp) (by intro z hz; rw [List.mem_singleton.1 hz]; exact yok)) ?_
          rintro r G5 _ _ ⟨hP5, s5, rfl, hs5⟩
          by_cases hlt : now + a - sd < (q : Int)
          · have hd : dueO (now + a) (q : Int) y = false := by unfold dueO; rw [ysd, ywh, hw2, decide_eq_true hlt]; rfl
            have f1 : [(x.id, y)].map (updN (now + a) (q : Int)) = [(x.id, y)] := by simp [updN, hd]
            have f2 : (LL s5).length = 0 := by rw [hs5]; simp [hd]
            have hnr : ¬ (q : Int) ≤ now + a - sd := by omega
            rw [f1] at hP5
            repeat' (first
              | refine awp_seqK fun K' hpK => ?_
              | refine awp_block ?_
              | refine awp_condG fun A' B' hpA hpB => ?_
              | refine useK (by with_reducible assumption) ?_
              | refine useP (by with_reducible assumption) ?_
              | refine ED_cons (fun _ => ?_) ?_
              | (refine stable_mk ?_; simp (disch := first | (with_reducible assumption) | (simp; done) | omega | (simp; omega)) [f2, hw2, hnr]; done)
              | (refine stable_no ?_; simp (disch := first | (with_reducible assumption) | (simp; done) | omega | (simp; omega)) [f2, hw2, hnr]; done)
              | (with_reducible refine And.intro ?_ ?_)
              | (with_reducible intro hc)
              | (with_reducible refine GDsplit (fun hc => ?_) (fun hc => ?_) <;> try simp [hc])
              | (with_reducible refine GDsplitN (fun hc => ?_) (fun hc => ?_) <;> try simp [hc])
              | (with_reducible refine GDsplitNB (fun hc => ?_) (fun hc => ?_) <;> try simp [hc])
              | (with_reducible refine GDsplitB (fun hc => ?_) (fun hc => ?_) <;> try simp [hc])
              | (with_reducible refine GKsplit (fun hc => ?_) (fun hc => ?_) <;> try simp [hc])
              | (with_reducible refine GKsplitN (fun hc => ?_) (fun hc => ?_) <;> try simp [hc])
              | (with_reducible refine GKsplitNB (fun hc => ?_) (fun hc => ?_) <;> try simp [hc])
              | (with_reducible refine GKsplitB (fun hc => ?_) (fun hc => ?_) <;> try simp [hc])
              | simp (disch := first | (with_reducible assumption) | (simp; done) | omega | (simp; omega)) [f2, hw2, hnr])
            exact hN (w - 1) _ _ (by omega) ⟨k + 1, now + a, sd, y, by omega, by omega, by omega, by omega, by omega, ysd, ywh, yok, hP5, by simp⟩
          · have hd : dueO (now + a) (q : Int) y = true := by unfold dueO; rw [ysd, ywh, hw2, decide_eq_false hlt]; rfl
            have f1 : [(x.id, y)].map (updN (now + a) (q : Int)) = [(x.id, sayO (now + a) y)] := by simp [updN, hd]
            have f2 : (LL s5).length = 1 := by rw [hs5]; simp [hd]
            have hnr : (q : Int) ≤ now + a - sd := by omega
            rw [f1] at hP5
            repeat' (first
              | refine awp_seqK fun K' hpK => ?_
              | refine awp_block ?_
              | refine awp_condG fun A' B' hpA hpB => ?_
              | refine useK (by with_reducible assumption) ?_
              | refine useP (by with_reducible assumption) ?_
              | refine ED_cons (fun _ => ?_) ?_
              | (refine stable_mk ?_; simp (disch := first | (with_reducible assumption) | (simp; done) | omega | (simp; omega)) [f2, hw2, hnr]; done)
              | (refine stable_no ?_; simp (disch := first | (with_reducible assumption) | (simp; done) | omega | (simp; omega)) [f2, hw2, hnr]; done)
              | (with_reducible refine And.intro ?_ ?_)
              | (with_reducible intro hc)
              | (with_reducible refine GDsplit (fun hc => ?_) (fun hc => ?_) <;> try simp [hc])
              | (with_reducible refine GDsplitN (fun hc => ?_) (fun hc => ?_) <;> try simp [hc])
              | (with_reducible refine GDsplitNB (fun hc => ?_) (fun hc => ?_) <;> try simp [hc])
              | (with_reducible refine GDsplitB (fun hc => ?_) (fun hc => ?_) <;> try simp [hc])
              | (with_reducible refine GKsplit (fun hc => ?_) (fun hc => ?_) <;> try simp [hc])
              | (with_reducible refine GKsplitN (fun hc => ?_) (fun hc => ?_) <;> try simp [hc])
              | (with_reducible refine GKsplitNB (fun hc => ?_) (fun hc => ?_) <;> try simp [hc])
              | (with_reducible refine GKsplitB (fun hc => ?_) (fun hc => ?_) <;> try simp [hc])
              | simp (disch := first | (with_reducible assumption) | (simp; done) | omega | (simp; omega)) [f2, hw2, hnr])
            exact hN (w - 1) _ _ (by omega) ⟨k + 1, now + a, now + a, sayO (now + a) y, by omega, by omega, by omega, by omega, by omega, rfl, rfl, yok, hP5, by simp⟩
      · repeat' (first
          | refine awp_seqK fun K' hpK => ?_
          | refine awp_block ?_
          | refine awp_condG fun A' B' hpA hpB => ?_
          | refine useK (by with_reducible assumption) ?_
          | refine useP (by with_reducible assumption) ?_
          | refine ED_cons (fun _ => ?_) ?_
          | (refine stable_mk ?_; simp (disch := first | (with_reducible assumption) | (simp; done) | omega | (simp; omega)) [hkl]; done)
          | (refine stable_no ?_; simp (disch := first | (with_reducible assumption) | (simp; done) | omega | (simp; omega)) [hkl]; done)
          | (with_reducible refine And.intro ?_ ?_)
          | (with_reducible intro hc)
          | (with_reducible refine GDsplit (fun hc => ?_) (fun hc => ?_) <;> try simp [hc])
          | (with_reducible refine GDsplitN (fun hc => ?_) (fun hc => ?_) <;> try simp [hc])
          | (with_reducible refine GDsplitNB (fun hc => ?_) (fun hc => ?_) <;> try simp [hc])
          | (with_reducible refine GDsplitB (fun hc => ?_) (fun hc => ?_) <;> try simp [hc])
          | (with_reducible refine GKsplit (fun hc => ?_) (fun hc => ?_) <;> try simp [hc])
          | (with_reducible refine GKsplitN (fun hc => ?_) (fun hc => ?_) <;> try simp [hc])
          | (with_reducible refine GKsplitNB (fun hc => ?_) (fun hc => ?_) <;> try simp [hc])
          | (with_reducible refine GKsplitB (fun hc => ?_) (fun hc => ?_) <;> try simp [hc])
          | (refine CallK.use (awake_c _) ?_; rintro r G' _ _ ⟨rfl, rfl⟩)
          | simp (disch := first | (with_reducible assumption) | (simp; done) | omega | (simp; omega)) [hkl])
        exact ends_drop (by simp <;> rfl) (by simp) (hpost _ _ ⟨rfl, rfl⟩)
def lvOn (v : On) (x : Int × Int × Int × Int × Int × Int × Int × Int × Int × Unit) : On := { v with l0 := x.1, l1 := x.2.1, l2 := x.2.2.1, l3 := x.2.2.2.1, l4 := x.2.2.2.2.1, l5 := x.2.2.2.2.2.1, l6 := x.2.2.2.2.2.2.1, l7 := x.2.2.2.2.2.2.2.1, l8 := x.2.2.2.2.2.2.2.2.1 }
theorem planRetry_law (z0 : (TD.two (.int .u32) (.two (.int .u32) (.two (.two (.int .u64) (.two (.int .u64) (.two (.int .u32) (.two (.int .u32) (.two (.int .i64) (.two (.int .i64) (.two (.int .i64) .unit))))))) (.two (.two (.int .i64) (.two (.int .i64) .unit)) (.two (.two (.int .i64) (.two (.int .i64) .unit)) (.two (.two .str (.two .str .unit)) (.two (.two .str (.two .str .unit)) (.two (.int .i64) (.two (.int .i64) (.two (.slc (.two (.int .i64) (.two (.int .i64) (.two (.int .i64) .unit)))) .unit)))))))))).T) (z1 : (TD.two (.int .u32) (.two (.int .u32) (.two (.int .u32) (.two (.int .u32) (.two (.int .u32) (.two (.int .u32) (.two (.int .u32) (.two (.int .u32) (.two (.int .u32) .unit))))))))).T) (z2 : (TD.int .i64).T) (z3 : (TD.slc (.int .i64)).T) (o0 : (TD.two (.int .u32) (.two (.int .u32) (.two (.two (.int .u64) (.two (.int .u64) (.two (.int .u32) (.two (.int .u32) (.two (.int .i64) (.two (.int .i64) (.two (.int .i64) .unit))))))) (.two (.two (.int .i64) (.two (.int .i64) .unit)) (.two (.two (.int .i64) (.two (.int .i64) .unit)) (.two (.two .str (.two .str .unit)) (.two (.two .str (.two .str .unit)) (.two (.int .i64) (.two (.int .i64) (.two (.slc (.two (.int .i64) (.two (.int .i64) (.two (.int .i64) .unit)))) .unit)))))))))).ok z0) (o1 : (TD.two (.int .u32) (.two (.int .u32) (.two (.int .u32) (.two (.int .u32) (.two (.int .u32) (.two (.int .u32) (.two (.int .u32) (.two (.int .u32) (.two (.int .u32) .unit))))))))).ok z1) (o2 : (TD.int .i64).ok z2) (o3 : (TD.slc (.int .i64)).ok z3) :
    ACalls Try.prog 4 [(TD.two (.int .u32) (.two (.int .u32) (.two (.two (.int .u64) (.two (.int .u64) (.two (.int .u32) (.two (.int .u32) (.two (.int .i64) (.two (.int .i64) (.two (.int .i64) .unit))))))) (.two (.two (.int .i64) (.two (.int .i64) .unit)) (.two (.two (.int .i64) (.two (.int .i64) .unit)) (.two (.two .str (.two .str .unit)) (.two (.two .str (.two .str .unit)) (.two (.int .i64) (.two (.int .i64) (.two (.slc (.two (.int .i64) (.two (.int .i64) (.two (.int .i64) .unit)))) .unit)))))))))).av z0, (TD.two (.int .u32) (.two (.int .u32) (.two (.int .u32) (.two (.int .u32) (.two (.int .u32) (.two (.int .u32) (.two (.int .u32) (.two (.int .u32) (.two (.int .u32) .unit))))))))).av z1, (TD.int .i64).av z2, (TD.slc (.int .i64)).av z3] emptyH fun r G' => G' = emptyH ∧ r = .bool true := by
  rw [fl_av]
  refine planRetry_c (v := lvOn (toOn z0) z1) (retry := z2) (gs := z3) ?_ o3.1
  show (LL (Option.map _ _)).length ≤ _
  rw [LL_ho]
  exact o0.2.2.2.2.2.2.2.2.2.1.1
end Go.Proofs.Ytgideonigiokbaa
