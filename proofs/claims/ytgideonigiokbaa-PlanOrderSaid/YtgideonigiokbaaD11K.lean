import Derived.Test.YtgideonigiokbaaD10K
set_option linter.unusedSimpArgs false
set_option linter.unusedVariables false
namespace Go.Proofs.Ytgideonigiokbaa
open Go Go.Al
set_option maxRecDepth 20000
attribute [local irreducible] awp aops aopsD eop pv ACalls CallK AppK AEnds ti

theorem one_ms (m : Ms) : ofS cMs (some [m]) = .sl 1 [.int .i64 9, .int .i64 m.sw, .int .u32 m.life, .int .u32 m.ep, .int .u32 m.seq, .int .i64 m.port, .int .i64 m.out, .int .i64 0, .bool m.enter, .bool m.last, .int .i64 m.idle, .int .i64 m.hard, .int .i64 0, .int .i64 0, .int .i64 0, .int .u64 m.k1, .int .u64 m.k2, .int .u32 m.k3, .int .u32 m.k4, .int .i64 m.k5, .int .i64 m.k6, .int .i64 m.k7, .nils] := nrfl rfl
theorem nowM_say (n : Int) (v : On) : nowM (sayO n v) = nowM v := rfl
theorem nowM_at {v : On} {k : Nat} {l : List Ho} (ha : v.at_ = (k : Int)) (hp : LL v.path = l) (hk : k < l.length) : (nowM v).sw = l[k].sw ∧ (nowM v).port = l[k].inn ∧ (nowM v).out = l[k].out ∧ (nowM v).enter = decide ((k : Int) = 0) ∧ (nowM v).last = decide ((k : Int) = (l.length : Int) - 1) := by
  have e : v.at_.toNat = k := by omega
  unfold nowM On.msg
  rw [e, hp, List.getElem?_eq_getElem hk]
  refine ⟨rfl, rfl, rfl, ?_, ?_⟩
  · show decide (k = 0) = _; rw [decide_eq_decide]; omega
  · show decide (k + 1 = l.length) = _; rw [decide_eq_decide]; omega
theorem done_hit {id sq : Int} {y : On} (hs : y.said = true) : doneP [(id, y)] sq (nowM y).sw (nowM y).life (nowM y).ep (nowM y).seq = if y.at_ = 0 then ([], sq, id, true) else ([(id, stepO sq y)], sq + 1, id, false) := by
  unfold doneP
  have : matchO (nowM y).sw (nowM y).life (nowM y).ep (nowM y).seq y = true := by unfold matchO; rw [hs]; simp
  rw [List.find?_cons, this]
  simp only
  split
  · have e : delL [(id, y)] id = [] := by unfold delL; simp
    rw [e]
  · have e : setL [(id, y)] id (stepO sq y) = [(id, stepO sq y)] := by
      unfold setL; rw [if_neg (by rw [KO_int]; simp), if_pos rfl]
    rw [e]
theorem done_miss {id sq a b c d : Int} {y : On} (hs : y.said = false) : doneP [(id, y)] sq a b c d = ([(id, y)], sq, 0, false) := by
  unfold doneP
  have : matchO a b c d y = false := by unfold matchO; rw [hs]; rfl
  rw [List.find?_cons, this]
  rfl
theorem done_nilL {sq a b c d : Int} : doneP [] sq a b c d = ([], sq, 0, false) := rfl
set_option maxHeartbeats 16000000 in
theorem planOrder_c {v : On} {retry : Int} {gs : Option (List Int)} (hl : (LL v.path).length ≤ 140737488355328) (hgl : (LL gs).length ≤ 140737488355328) : ACalls Try.prog 3 [v.fl, v.lv, .int .i64 retry, ofS cI gs] emptyH fun r G' => G' = emptyH ∧ r = .bool true := by
  have cc := fun G => cut_c (v := v) (G := G) hl
  have oc := fun G => ours_c (v := cutO v) (G := G)
  have hcl := cut_len v.path
  have hr1 : 1 ≤ clR retry ∧ clR retry ≤ 65535 := by unfold clR; repeat (split <;> try omega)
  simp only [On.fl, cutO] at cc oc
  refine ACalls.hide fun post hpost => ?_
  refine F3_in (by simp) (by simp) fun hbd => ?_
  repeat' (first
    | refine awp_seqK fun K' hpK => ?_
    | refine awp_block ?_
    | refine awp_condG fun A' B' hpA hpB => ?_
    | refine useK (by with_reducible assumption) ?_
    | refine useP (by with_reducible assumption) ?_
    | refine ED_cons (fun _ => ?_) ?_
    | (refine stable_mk ?_; simp (disch := first | (with_reducible assumption) | (simp; done) | omega | (simp; omega)) [On.fl, On.lv]; done)
    | (refine stable_no ?_; simp (disch := first | (with_reducible assumption) | (simp; done) | omega | (simp; omega)) [On.fl, On.lv]; done)
    | (with_reducible refine And.intro ?_ ?_)
    | (with_reducible intro hc)
    | (with_reducible refine GDsplit (fun hc => ?_) (fun hc => ?_) <;> try simp [hc])
    | (with_reducible refine GDsplitN (fun hc => ?_) (fun hc => ?_) <;> try simp [hc])
    | (with_reducible refine GDsplitNB (fun hc => ?_) (fun hc => ?_) <;> try simp [hc])
    | (with_reducible refine GDsplitB (fun hc => ?_) (fun hc => ?_) <;> try simp [hc])
    | (with_reducible refine GKsplit (fun hc => ?_) (fun hc => ?_) <;> try simp [hc])
    | (with_reducible refine GKsplitN (fun hc => ?_) (fun hc => ?_) <;> try simp [hc])
    | (with_reducible refine GKsplitNB (fun hc => ?_) (fun hc => ?_) <;> try simp [hc])
    | (with_reducible refine GKsplitB (fun hc => ?_) (fun hc => ?_) <;> try simp [hc])
    | (refine CallK.use (cc _) ?_; rintro r G' _ _ ⟨rfl, rfl⟩)
    | (refine CallK.use (new_c (r0 := retry)) ?_; rintro r G' _ _ ⟨pb, rfl, hP⟩)
    | (refine CallK.use (oc _) ?_; rintro r G' _ _ ⟨rfl, rfl⟩)
    | simp (disch := first | (with_reducible assumption) | (simp; done) | omega | (simp; omega)) [On.fl, On.lv])
  generalize clR retry = rt at hr1 hP
  have sc := start_c (v := { cutO v with idle := 5, hard := 50 }) hP (by decide) (by decide) (by decide) (by show (LL (cutP v.path)).length ≤ 1000; omega)
  simp only [On.fl, On.lv, cutO] at sc
  refine CallK.use sc ?_
  rintro r G2 _ _ ⟨s, hse, hP2, rfl⟩
  obtain ⟨v1, hv1⟩ : ∃ v1, v1 = { cutO v with idle := 5, hard := 50 } := ⟨_, rfl⟩
  have hpl : (LL v1.path).length ≤ 1000 := by rw [hv1]; show (LL (cutP v.path)).length ≤ 1000; omega
  have hse1 : LL s = LL v1.path := by rw [hv1]; exact hse
  have hv1p : LL v1.path = LL (cutP v.path) := by rw [hv1]; rfl
  have hx : xO { cutO v with idle := 5, hard := 50 } s 0 = xO v1 s 0 := by rw [hv1]
  have hid : (xO v1 s 0).id = v.id := by rw [hv1]; rfl
  simp only [cutO] at hx
  rw [hx, start_one] at hP2
  simp only [hx, start_one]
  cases hm : mayO (xO v1 s 0) with
  | false =>
    rw [hm] at hP2
    simp only [Bool.false_eq_true, if_false] at hP2 ⊢
    repeat' (first
      | refine awp_seqK fun K' hpK => ?_
      | refine awp_block ?_
      | refine awp_condG fun A' B' hpA hpB => ?_
      | refine useK (by with_reducible assumption) ?_
      | refine useP (by with_reducible assumption) ?_
      | refine ED_cons (fun _ => ?_) ?_
      | (refine stable_mk ?_; simp (disch := first | (with_reducible assumption) | (simp; done) | omega | (simp; omega)); done)
      | (refine stable_no ?_; simp (disch := first | (with_reducible assumption) | (simp; done) | omega | (simp; omega)); done)
      | (with_reducible refine And.intro ?_ ?_)
      | (with_reducible intro hc)
      | (with_reducible refine GDsplit (fun hc => ?_) (fun hc => ?_) <;> try simp [hc])
      | (with_reducible refine GDsplitN (fun hc => ?_) (fun hc => ?_) <;> try simp [hc])
      | (with_reducible refine GDsplitNB (fun hc => ?_) (fun hc => ?_) <;> try simp [hc])
      | (with_reducible refine GDsplitB (fun hc => ?_) (fun hc => ?_) <;> try simp [hc])
      | (with_reducible refine GKsplit (fun hc => ?_) (fun hc => ?_) <;> try simp [hc])
      | (with_reducible refine GKsplitN (fun hc => ?_) (fun hc => ?_) <;> try simp [hc])
      | (with_reducible refine GKsplitNB (fun hc => ?_) (fun hc => ?_) <;> try simp [hc])
      | (with_reducible refine GKsplitB (fun hc => ?_) (fun hc => ?_) <;> try simp [hc])
      | simp (disch := first | (with_reducible assumption) | (simp; done) | omega | (simp; omega)))
    refine CallK.use (waiting_c hP2 (by simp)) ?_
    rintro r G3 _ _ ⟨rfl, s3, rfl, hs3⟩
    have e3 : (LL s3).length = 0 := by rw [hs3]; rfl
    repeat' (first
      | refine awp_seqK fun K' hpK => ?_
      | refine awp_block ?_
      | refine awp_condG fun A' B' hpA hpB => ?_
      | refine useK (by with_reducible assumption) ?_
      | refine useP (by with_reducible assumption) ?_
      | refine ED_cons (fun _ => ?_) ?_
      | (refine stable_mk ?_; simp (disch := first | (with_reducible assumption) | (simp; done) | omega | (simp; omega)) [e3]; done)
      | (refine stable_no ?_; simp (disch := first | (with_reducible assumption) | (simp; done) | omega | (simp; omega)) [e3]; done)
      | (with_reducible refine And.intro ?_ ?_)
      | (with_reducible intro hc)
      | (with_reducible refine GDsplit (fun hc => ?_) (fun hc => ?_) <;> try simp [hc])
      | (with_reducible refine GDsplitN (fun hc => ?_) (fun hc => ?_) <;> try simp [hc])
      | (with_reducible refine GDsplitNB (fun hc => ?_) (fun hc => ?_) <;> try simp [hc])
      | (with_reducible refine GDsplitB (fun hc => ?_) (fun hc => ?_) <;> try simp [hc])
      | (with_reducible refine GKsplit (fun hc => ?_) (fun hc => ?_) <;> try simp [hc])
      | (with_reducible refine GKsplitN (fun hc => ?_) (fun hc => ?_) <;> try simp [hc])
      | (with_reducible refine GKsplitNB (fun hc => ?_) (fun hc => ?_) <;> try simp [hc])
      | (with_reducible refine GKsplitB (fun hc => ?_) (fun hc => ?_) <;> try simp [hc])
      | (refine CallK.use (awake_c _) ?_; rintro r G' _ _ ⟨rfl, rfl⟩)
      | simp (disch := first | (with_reducible assumption) | (simp; done) | omega | (simp; omega)) [e3])
    exact ends_drop (by simp <;> rfl) (by simp) (hpost _ _ ⟨rfl, rfl⟩)
  | true =>
    rw [hm, if_pos rfl, hid] at hP2
    simp only [if_true] at hP2 ⊢
    have hok := xO_ok hse1 hm hpl
    have hsd : (xO v1 s 0).said = false := rfl
    have hat : (xO v1 s 0).at_ = ((LL (cutP v.path)).length : Int) - 1 := by show ((LL v1.path).length : Int) - 1 = _; rw [hv1p]
    have hpa : LL (xO v1 s 0).path = LL (cutP v.path) := by show LL s = _; rw [hse1, hv1p]
    have hpos := may_pos hm
    rw [hpa] at hpos
    generalize xO v1 s 0 = x at hP2 hok hsd hat hpa
    have hw0 : IntKind.i64.wrap ((LL (cutP v.path)).length - 1) = (LL (cutP v.path)).length - 1 := by rw [IntKind.wrap_i64]; omega
    repeat' (first
      | refine awp_seqK fun K' hpK => ?_
      | refine awp_block ?_
      | refine awp_condG fun A' B' hpA hpB => ?_
      | refine useK (by with_reducible assumption) ?_
      | refine useP (by with_reducible assumption) ?_
      | refine ED_cons (fun _ => ?_) ?_
      | (refine stable_mk ?_; simp (disch := first | (with_reducible assumption) | (simp; done) | omega | (simp; omega)) [hw0]; done)
      | (refine stable_no ?_; simp (disch := first | (with_reducible assumption) | (simp; done) | omega | (simp; omega)) [hw0]; done)
      | (with_reducible refine And.intro ?_ ?_)
      | (with_reducible intro hc)
      | (with_reducible refine GDsplit (fun hc => ?_) (fun hc => ?_) <;> try simp [hc])
      | (with_reducible refine GDsplitN (fun hc => ?_) (fun hc => ?_) <;> try simp [hc])
      | (with_reducible refine GDsplitNB (fun hc => ?_) (fun hc => ?_) <;> try simp [hc])
      | (with_reducible refine GDsplitB (fun hc => ?_) (fun hc => ?_) <;> try simp [hc])
      | (with_reducible refine GKsplit (fun hc => ?_) (fun hc => ?_) <;> try simp [hc])
      | (with_reducible refine GKsplitN (fun hc => ?_) (fun hc => ?_) <;> try simp [hc])
      | (with_reducible refine GKsplitNB (fun hc => ?_) (fun hc => ?_) <;> try simp [hc])
      | (with_reducible refine GKsplitB (fun hc => ?_) (fun hc => ?_) <;> try simp [hc])
      | simp (disch := first | (with_reducible assumption) | (simp; done) | omega | (simp; omega)) [hw0])
    refine awp_loop' (fun w T G' => ∃ (now kk sq : Int) (L : List (Int × On)), kk = (w : Int) - 1 ∧ (w : Int) ≤ (LL (cutP v.path)).length ∧ 0 ≤ now ∧ now ≤ 262140 * (((LL (cutP v.path)).length : Int) - w) ∧ 0 ≤ sq ∧ sq ≤ 1 + ((LL (cutP v.path)).length : Int) - w ∧ (w = 0 → L = []) ∧ (0 < w → ∃ y, L = [(v.id, y)] ∧ okAt y ∧ y.at_ = kk ∧ y.said = false ∧ LL y.path = LL (cutP v.path)) ∧ TH pb G' L rt sq ∧ T = ofL [(3, ofS cI gs), (4, .box [.int .u32 v.id, .int .u32 v.ep, .int .u64 v.k1, .int .u64 v.k2, .int .u32 v.k3, .int .u32 v.k4, .int .i64 v.k5, .int .i64 v.k6, .int .i64 v.k7, .int .i64 v.f1, .int .i64 v.f2, .int .i64 v.t1, .int .i64 v.t2, .str v.su, .str v.sh, .str v.du, .str v.dh, .int .i64 v.act, .int .i64 v.rule, ofS cHo (cutP v.path)]), (9, .ptr pb 0), (10, .int .i64 now), (11, .int .i64 kk)]) (LL (cutP v.path)).length ⟨0, _, 0 + 1, _, rfl, by omega, by omega, by omega, by omega, by omega, fun h => absurd h (by omega), fun _ => ⟨x, rfl, hok, hat, hsd, hpa⟩, hP2, by simp⟩ ?_
    clear hP2 hP hok hsd hat hpa
    rintro w T G' ⟨now, kk, sq, L, hkk, hwl, t0, t1, q0, q1, hL0, hL1, hPL, rfl⟩ N hN
    by_cases hw : 0 < w
    · obtain ⟨y, rfl, yok, yat, ysd, ypa⟩ := hL1 hw
      obtain ⟨k, rfl⟩ : ∃ k : Nat, kk = (k : Int) := ⟨kk.toNat, by omega⟩
      have hkl : k < (LL (cutP v.path)).length := by omega
      have hkge : (0 : Int) ≤ k := by omega
      by_cases hgk : k < (LL gs).length
      · obtain ⟨g, hg⟩ : ∃ g, g = (LL gs)[k] := ⟨_, rfl⟩
        obtain ⟨q, hq, hqa⟩ : ∃ q : Nat, q ≤ 3 ∧ ibits .and .i64 g 3 = some (q : Int) := andM (c := 3) (by omega) g
        have hgki : (k : Int) < ((LL gs).length : Int) := by omega
        have hnq : IntKind.i64.wrap (1 + (q : Int)) = 1 + (q : Int) := by rw [IntKind.wrap_i64]; omega
        repeat' (first
          | refine awp_seqK fun K' hpK => ?_
          | refine awp_block ?_
          | refine awp_condG fun A' B' hpA hpB => ?_
          | refine useK (by with_reducible assumption) ?_
          | refine useP (by with_reducible assumption) ?_
          | refine ED_cons (fun _ => ?_) ?_
          | (refine stable_mk ?_; simp (disch := first | (with_reducible assumption) | (simp; done) | omega | (simp; omega)) [hkge, hgk, hgki, ofS_idx (f := cI), cI, ← hg, hqa, hnq]; done)
          | (refine stable_no ?_; simp (disch := first | (with_reducible assumption) | (simp; done) | omega | (simp; omega)) [hkge, hgk, hgki, ofS_idx (f := cI), cI, ← hg, hqa, hnq]; done)
          | (with_reducible refine And.intro ?_ ?_)
          | (with_reducible intro hc)
          | (with_reducible refine GDsplit (fun hc => ?_) (fun hc => ?_) <;> try simp [hc])
          | (with_reducible refine GDsplitN (fun hc => ?_) (fun hc => ?_) <;> try simp [hc])
          | (with_reducible refine GDsplitNB (fun hc => ?_) (fun hc => ?_) <;> try simp [hc])
          | (with_reducible refine GDsplitB (fun hc => ?_) (fun hc => ?_) <;> try simp [hc])
          | (with_reducible refine GKsplit (fun hc => ?_) (fun hc => ?_) <;> try simp [hc])
          | (with_reducible refine GKsplitN (fun hc => ?_) (fun hc => ?_) <;> try simp [hc])
          | (with_reducible refine GKsplitNB (fun hc => ?_) (fun hc => ?_) <;> try simp [hc])
          | (with_reducible refine GKsplitB (fun hc => ?_) (fun hc => ?_) <;> try simp [hc])
          | simp (disch := first | (with_reducible assumption) | (simp; done) | omega | (simp; omega)) [hkge, hgk, hgki, ofS_idx (f := cI), cI, ← hg, hqa, hnq])
        refine awp_loop' (fun w2 T G' => ∃ (i : Nat) (mv : AV) (y2 : On), i + w2 = (1 + q) ∧ okAt y2 ∧ y2.at_ = (k : Int) ∧ LL y2.path = LL (cutP v.path) ∧ (i = 0 → y2.said = false ∧ mv = .nils) ∧ (0 < i → y2.said = true ∧ y2.when = now + 65535 * ((i : Int) - 1) ∧ ∃ s, mv = ofS cMs s ∧ LL s = [nowM y2]) ∧ TH pb G' [(v.id, y2)] rt sq ∧ T = ofL [(3, ofS cI gs), (4, .box [.int .u32 v.id, .int .u32 v.ep, .int .u64 v.k1, .int .u64 v.k2, .int .u32 v.k3, .int .u32 v.k4, .int .i64 v.k5, .int .i64 v.k6, .int .i64 v.k7, .int .i64 v.f1, .int .i64 v.f2, .int .i64 v.t1, .int .i64 v.t2, .str v.su, .str v.sh, .str v.du, .str v.dh, .int .i64 v.act, .int .i64 v.rule, ofS cHo (cutP v.path)]), (9, .ptr pb 0), (10, .int .i64 (now + 65535 * i)), (11, .int .i64 k), (12, .int .i64 (1 + (q : Int))), (13, mv), (14, .int .i64 i)]) ((1 + q)) ⟨0, .nils, y, by omega, yok, yat, ypa, fun _ => ⟨ysd, rfl⟩, fun h => absurd h (by omega), hPL, by simp⟩ ?_
        rintro w2 T2 G2 ⟨i, mv, y2, hi, yok2, yat2, ypa2, hi0, hi1, hP2, rfl⟩ N2 hN2
        by_cases hin : i < (1 + q)
        · have hini : (i : Int) < (1 + (q : Int)) := by omega
          have hmv : mv.plain = true := by
            rcases Nat.eq_zero_or_pos i with h | h
            · rw [(hi0 h).2]; rfl
            · obtain ⟨_, _, s, e, _⟩ := hi1 h; rw [e]; simp
          have hdue : dueO (now + 65535 * i) rt y2 = true := by
            unfold dueO
            rcases Nat.eq_zero_or_pos i with h | h
            · rw [(hi0 h).1]; rfl
            · obtain ⟨e1, e2, _⟩ := hi1 h
              have e3 : IntKind.i64.wrap (now + 65535 * (i : Int) - y2.when) = 65535 := by rw [e2, IntKind.wrap_i64]; omega
              rw [e3, decide_eq_false (by omega)]; simp
          have hwn : IntKind.i64.wrap (now + 65535 * (i : Int) + 65535) = now + 65535 * ((i : Int) + 1) := by rw [IntKind.wrap_i64]; omega
          have f1 : [(v.id, y2)].map (updN (now + 65535 * i) rt) = [(v.id, sayO (now + 65535 * i) y2)] := by simp [updN, hdue]
          have nx := next_c (now := now + 65535 * i) hP2 (by simp) (by intro z hz; rw [List.mem_singleton.1 hz]; exact yok2)
          rw [f1] at nx
          have f2 : (([(v.id, y2)].filter fun q => dueO (now + 65535 * i) rt q.2).map fun q => nowM q.2) = [nowM y2] := by simp [hdue]
          rw [f2] at nx
          obtain ⟨m1, m2, m3, m4, m5⟩ := nowM_at yat2 ypa2 hkl
          obtain ⟨hh, hhh⟩ : ∃ hh, hh = (LL (cutP v.path))[k] := ⟨_, rfl⟩
          rw [← hhh] at m1 m2 m3
          have hmm := one_ms (nowM y2)
          have hwl : IntKind.i64.wrap (((LL (cutP v.path)).length : Int) - 1) = ((LL (cutP v.path)).length : Int) - 1 := by rw [IntKind.wrap_i64]; omega
          repeat' (first
            | refine awp_seqK fun K' hpK => ?_
            | refine awp_block ?_
            | refine awp_condG fun A' B' hpA hpB => ?_
            | refine useK (by with_reducible assumption) ?_
            | refine useP (by with_reducible assumption) ?_
            | refine ED_cons (fun _ => ?_) ?_
            | (refine stable_mk ?_; simp (disch := first | (with_reducible assumption) | (simp; done) | omega | (simp; omega)) [hini, hmv]; done)
            | (refine stable_no ?_; simp (disch := first | (with_reducible assumption) | (simp; done) | omega | (simp; omega)) [hini, hmv]; done)
            | (with_reducible refine And.intro ?_ ?_)
            | (with_reducible intro hc)
            | (with_reducible refine GDsplit (fun hc => ?_) (fun hc => ?_) <;> try simp [hc])
            | (with_reducible refine GDsplitN (fun hc => ?_) (fun hc => ?_) <;> try simp [hc])
            | (with_reducible refine GDsplitNB (fun hc => ?_) (fun hc => ?_) <;> try simp [hc])
            | (with_reducible refine GDsplitB (fun hc => ?_) (fun hc => ?_) <;> try simp [hc])
            | (with_reducible refine GKsplit (fun hc => ?_) (fun hc => ?_) <;> try simp [hc])
            | (with_reducible refine GKsplitN (fun hc => ?_) (fun hc => ?_) <;> try simp [hc])
            | (with_reducible refine GKsplitNB (fun hc => ?_) (fun hc => ?_) <;> try simp [hc])
            | (with_reducible refine GKsplitB (fun hc => ?_) (fun hc => ?_) <;> try simp [hc])
            | simp (disch := first | (with_reducible assumption) | (simp; done) | omega | (simp; omega)) [hini, hmv])
          refine CallK.use nx ?_
          rintro r G5 _ _ ⟨hP5, s5, rfl, hs5⟩
          obtain rfl := one_some hs5
          repeat' (first
            | refine awp_seqK fun K' hpK => ?_
            | refine awp_block ?_
            | refine awp_condG fun A' B' hpA hpB => ?_
            | refine useK (by with_reducible assumption) ?_
            | refine useP (by with_reducible assumption) ?_
            | refine ED_cons (fun _ => ?_) ?_
            | (refine stable_mk ?_; simp (disch := first | (with_reducible assumption) | (simp; done) | omega | (simp; omega)) [hmm, hkl, ofS_idx (f := cHo), cHo, ← hhh, m1, m2, m3, m4, m5, hwn, hwl]; done)
            | (refine stable_no ?_; simp (disch := first | (with_reducible assumption) | (simp; done) | omega | (simp; omega)) [hmm, hkl, ofS_idx (f := cHo), cHo, ← hhh, m1, m2, m3, m4, m5, hwn, hwl]; done)
            | (with_reducible refine And.intro ?_ ?_)
            | (with_reducible intro hc)
            | (with_reducible refine GDsplit (fun hc => ?_) (fun hc => ?_) <;> try simp [hc])
            | (with_reducible refine GDsplitN (fun hc => ?_) (fun hc => ?_) <;> try simp [hc])
            | (with_reducible refine GDsplitNB (fun hc => ?_) (fun hc => ?_) <;> try simp [hc])
            | (with_reducible refine GDsplitB (fun hc => ?_) (fun hc => ?_) <;> try simp [hc])
            | (with_reducible refine GKsplit (fun hc => ?_) (fun hc => ?_) <;> try simp [hc])
            | (with_reducible refine GKsplitN (fun hc => ?_) (fun hc => ?_) <;> try simp [hc])
            | (with_reducible refine GKsplitNB (fun hc => ?_) (fun hc => ?_) <;> try simp [hc])
            | (with_reducible refine GKsplitB (fun hc => ?_) (fun hc => ?_) <;> try simp [hc])
            | simp (disch := first | (with_reducible assumption) | (simp; done) | omega | (simp; omega)) [hmm, hkl, ofS_idx (f := cHo), cHo, ← hhh, m1, m2, m3, m4, m5, hwn, hwl])
          refine hN2 (w2 - 1) _ _ (by omega) ⟨i + 1, ofS cMs (some [nowM y2]), sayO (now + 65535 * i) y2, by omega, yok2, yat2, ypa2, fun h => absurd h (by omega), fun _ => ⟨rfl, by show now + 65535 * (i : Int) = _; omega, some [nowM y2], rfl, rfl⟩, hP5, ?_⟩
          simp [hmm, m1, m2, m3, m4, m5]
        · have hie : i = (1 + q) := by omega
          have hini : ¬ (i : Int) < (1 + (q : Int)) := by omega
          obtain ⟨e1, e2, s, rfl, hs⟩ := hi1 (by omega)
          obtain rfl := one_some hs
          have hmm := one_ms (nowM y2)
          have dc := done_c (sw := (nowM y2).sw) (life := (nowM y2).life) (ep := (nowM y2).ep) (s := (nowM y2).seq) hP2 (by simp) q0 (by omega) (by intro z hz; rw [List.mem_singleton.1 hz]; exact yok2)
          rw [done_hit e1] at dc
          by_cases hk0 : (k : Int) = 0
          · have ha0 : y2.at_ = 0 := by rw [yat2]; exact hk0
            obtain rfl : k = 0 := by omega
            rw [if_pos ha0] at dc
            repeat' (first
              | refine awp_seqK fun K' hpK => ?_
              | refine awp_block ?_
              | refine awp_condG fun A' B' hpA hpB => ?_
              | refine useK (by with_reducible assumption) ?_
              | refine useP (by with_reducible assumption) ?_
              | refine ED_cons (fun _ => ?_) ?_
              | (refine stable_mk ?_; simp (disch := first | (with_reducible assumption) | (simp; done) | omega | (simp; omega)) [hini, hmm]; done)
              | (refine stable_no ?_; simp (disch := first | (with_reducible assumption) | (simp; done) | omega | (simp; omega)) [hini, hmm]; done)
              | (with_reducible refine And.intro ?_ ?_)
              | (with_reducible intro hc)
              | (with_reducible refine GDsplit (fun hc => ?_) (fun hc => ?_) <;> try simp [hc])
              | (with_reducible refine GDsplitN (fun hc => ?_) (fun hc => ?_) <;> try simp [hc])
              | (with_reducible refine GDsplitNB (fun hc => ?_) (fun hc => ?_) <;> try simp [hc])
              | (with_reducible refine GDsplitB (fun hc => ?_) (fun hc => ?_) <;> try simp [hc])
              | (with_reducible refine GKsplit (fun hc => ?_) (fun hc => ?_) <;> try simp [hc])
              | (with_reducible refine GKsplitN (fun hc => ?_) (fun hc => ?_) <;> try simp [hc])
              | (with_reducible refine GKsplitNB (fun hc => ?_) (fun hc => ?_) <;> try simp [hc])
              | (with_reducible refine GKsplitB (fun hc => ?_) (fun hc => ?_) <;> try simp [hc])
              | simp (disch := first | (with_reducible assumption) | (simp; done) | omega | (simp; omega)) [hini, hmm])
            refine CallK.use dc ?_
            rintro r G6 _ _ ⟨hP6, rfl⟩
            have dc2 := done_c (sw := (nowM y2).sw) (life := (nowM y2).life) (ep := (nowM y2).ep) (s := (nowM y2).seq) hP6 (by simp) q0 (by show sq ≤ 1000000; omega) (by intro z hz; cases hz)
            rw [done_nilL] at dc2
            repeat' (first
              | refine awp_seqK fun K' hpK => ?_
              | refine awp_block ?_
              | refine awp_condG fun A' B' hpA hpB => ?_
              | refine useK (by with_reducible assumption) ?_
              | refine useP (by with_reducible assumption) ?_
              | refine ED_cons (fun _ => ?_) ?_
              | (refine stable_mk ?_; simp (disch := first | (with_reducible assumption) | (simp; done) | omega | (simp; omega)); done)
              | (refine stable_no ?_; simp (disch := first | (with_reducible assumption) | (simp; done) | omega | (simp; omega)); done)
              | (with_reducible refine And.intro ?_ ?_)
              | (with_reducible intro hc)
              | (with_reducible refine GDsplit (fun hc => ?_) (fun hc => ?_) <;> try simp [hc])
              | (with_reducible refine GDsplitN (fun hc => ?_) (fun hc => ?_) <;> try simp [hc])
              | (with_reducible refine GDsplitNB (fun hc => ?_) (fun hc => ?_) <;> try simp [hc])
              | (with_reducible refine GDsplitB (fun hc => ?_) (fun hc => ?_) <;> try simp [hc])
              | (with_reducible refine GKsplit (fun hc => ?_) (fun hc => ?_) <;> try simp [hc])
              | (with_reducible refine GKsplitN (fun hc => ?_) (fun hc => ?_) <;> try simp [hc])
              | (with_reducible refine GKsplitNB (fun hc => ?_) (fun hc => ?_) <;> try simp [hc])
              | (with_reducible refine GKsplitB (fun hc => ?_) (fun hc => ?_) <;> try simp [hc])
              | simp (disch := first | (with_reducible assumption) | (simp; done) | omega | (simp; omega)))
            refine CallK.use dc2 ?_
            rintro r G7 _ _ ⟨hP7, rfl⟩
            have hwk : IntKind.i64.wrap (0 - 1) = -1 := by decide
            repeat' (first
              | refine awp_seqK fun K' hpK => ?_
              | refine awp_block ?_
              | refine awp_condG fun A' B' hpA hpB => ?_
              | refine useK (by with_reducible assumption) ?_
              | refine useP (by with_reducible assumption) ?_
              | refine ED_cons (fun _ => ?_) ?_
              | (refine stable_mk ?_; simp (disch := first | (with_reducible assumption) | (simp; done) | omega | (simp; omega)) [hwk]; done)
              | (refine stable_no ?_; simp (disch := first | (with_reducible assumption) | (simp; done) | omega | (simp; omega)) [hwk]; done)
              | (with_reducible refine And.intro ?_ ?_)
              | (with_reducible intro hc)
              | (with_reducible refine GDsplit (fun hc => ?_) (fun hc => ?_) <;> try simp [hc])
              | (with_reducible refine GDsplitN (fun hc => ?_) (fun hc => ?_) <;> try simp [hc])
              | (with_reducible refine GDsplitNB (fun hc => ?_) (fun hc => ?_) <;> try simp [hc])
              | (with_reducible refine GDsplitB (fun hc => ?_) (fun hc => ?_) <;> try simp [hc])
              | (with_reducible refine GKsplit (fun hc => ?_) (fun hc => ?_) <;> try simp [hc])
              | (with_reducible refine GKsplitN (fun hc => ?_) (fun hc => ?_) <;> try simp [hc])
              | (with_reducible refine GKsplitNB (fun hc => ?_) (fun hc => ?_) <;> try simp [hc])
              | (with_reducible refine GKsplitB (fun hc => ?_) (fun hc => ?_) <;> try simp [hc])
              | simp (disch := first | (with_reducible assumption) | (simp; done) | omega | (simp; omega)) [hwk])
            refine hN (w - 1) _ _ (by omega) ⟨now + 65535 * i, -1, sq, [], by omega, by omega, by omega, by omega, by omega, by omega, fun _ => rfl, fun h => absurd h (by omega), hP7, ?_⟩
            simp
          · have ha0 : ¬ y2.at_ = 0 := by rw [yat2]; exact hk0
            have hk0n : ¬ k = 0 := by omega
            rw [if_neg ha0] at dc
            repeat' (first
              | refine awp_seqK fun K' hpK => ?_
              | refine awp_block ?_
              | refine awp_condG fun A' B' hpA hpB => ?_
              | refine useK (by with_reducible assumption) ?_
              | refine useP (by with_reducible assumption) ?_
              | refine ED_cons (fun _ => ?_) ?_
              | (refine stable_mk ?_; simp (disch := first | (with_reducible assumption) | (simp; done) | omega | (simp; omega)) [hini, hmm]; done)
              | (refine stable_no ?_; simp (disch := first | (with_reducible assumption) | (simp; done) | omega | (simp; omega)) [hini, hmm]; done)
              | (with_reducible refine And.intro ?_ ?_)
              | (with_reducible intro hc)
              | (with_reducible refine GDsplit (fun hc => ?_) (fun hc => ?_) <;> try simp [hc])
              | (with_reducible refine GDsplitN (fun hc => ?_) (fun hc => ?_) <;> try simp [hc])
              | (with_reducible refine GDsplitNB (fun hc => ?_) (fun hc => ?_) <;> try simp [hc])
              | (with_reducible refine GDsplitB (fun hc => ?_) (fun hc => ?_) <;> try simp [hc])
              | (with_reducible refine GKsplit (fun hc => ?_) (fun hc => ?_) <;> try simp [hc])
              | (with_reducible refine GKsplitN (fun hc => ?_) (fun hc => ?_) <;> try simp [hc])
              | (with_reducible refine GKsplitNB (fun hc => ?_) (fun hc => ?_) <;> try simp [hc])
              | (with_reducible refine GKsplitB (fun hc => ?_) (fun hc => ?_) <;> try simp [hc])
              | simp (disch := first | (with_reducible assumption) | (simp; done) | omega | (simp; omega)) [hini, hmm])
            refine CallK.use dc ?_
            rintro r G6 _ _ ⟨hP6, rfl⟩
            have yok3 : okAt (stepO sq y2) := by
              obtain ⟨o1, o2, o3⟩ := yok2
              exact ⟨by show 0 ≤ y2.at_ - 1; omega, by show y2.at_ - 1 < _; exact Int.lt_of_le_of_lt (by omega) o2, o3⟩
            have dc2 := done_c (sw := (nowM y2).sw) (life := (nowM y2).life) (ep := (nowM y2).ep) (s := (nowM y2).seq) hP6 (by simp) (by show 0 ≤ sq + 1; omega) (by show sq + 1 ≤ 1000000; omega) (by intro z hz; rw [List.mem_singleton.1 hz]; exact yok3)
            rw [done_miss (show (stepO sq y2).said = false from rfl)] at dc2
            repeat' (first
              | refine awp_seqK fun K' hpK => ?_
              | refine awp_block ?_
              | refine awp_condG fun A' B' hpA hpB => ?_
              | refine useK (by with_reducible assumption) ?_
              | refine useP (by with_reducible assumption) ?_
              | refine ED_cons (fun _ => ?_) ?_
              | (refine stable_mk ?_; simp (disch := first | (with_reducible assumption) | (simp; done) | omega | (simp; omega)) [hk0n]; done)
              | (refine stable_no ?_; simp (disch := first | (with_reducible assumption) | (simp; done) | omega | (simp; omega)) [hk0n]; done)
              | (with_reducible refine And.intro ?_ ?_)
              | (with_reducible intro hc)
              | (with_reducible refine GDsplit (fun hc => ?_) (fun hc => ?_) <;> try simp [hc])
              | (with_reducible refine GDsplitN (fun hc => ?_) (fun hc => ?_) <;> try simp [hc])
              | (with_reducible refine GDsplitNB (fun hc => ?_) (fun hc => ?_) <;> try simp [hc])
              | (with_reducible refine GDsplitB (fun hc => ?_) (fun hc => ?_) <;> try simp [hc])
              | (with_reducible refine GKsplit (fun hc => ?_) (fun hc => ?_) <;> try simp [hc])
              | (with_reducible refine GKsplitN (fun hc => ?_) (fun hc => ?_) <;> try simp [hc])
              | (with_reducible refine GKsplitNB (fun hc => ?_) (fun hc => ?_) <;> try simp [hc])
              | (with_reducible refine GKsplitB (fun hc => ?_) (fun hc => ?_) <;> try simp [hc])
              | simp (disch := first | (with_reducible assumption) | (simp; done) | omega | (simp; omega)) [hk0n])
            refine CallK.use dc2 ?_
            rintro r G7 _ _ ⟨hP7, rfl⟩
            have hwk : IntKind.i64.wrap ((k : Int) - 1) = (k : Int) - 1 := by rw [IntKind.wrap_i64]; omega
            repeat' (first
              | refine awp_seqK fun K' hpK => ?_
              | refine awp_block ?_
              | refine awp_condG fun A' B' hpA hpB => ?_
              | refine useK (by with_reducible assumption) ?_
              | refine useP (by with_reducible assumption) ?_
              | refine ED_cons (fun _ => ?_) ?_
              | (refine stable_mk ?_; simp (disch := first | (with_reducible assumption) | (simp; done) | omega | (simp; omega)) [hk0n, hwk]; done)
              | (refine stable_no ?_; simp (disch := first | (with_reducible assumption) | (simp; done) | omega | (simp; omega)) [hk0n, hwk]; done)
              | (with_reducible refine And.intro ?_ ?_)
              | (with_reducible intro hc)
              | (with_reducible refine GDsplit (fun hc => ?_) (fun hc => ?_) <;> try simp [hc])
              | (with_reducible refine GDsplitN (fun hc => ?_) (fun hc => ?_) <;> try simp [hc])
              | (with_reducible refine GDsplitNB (fun hc => ?_) (fun hc => ?_) <;> try simp [hc])
              | (with_reducible refine GDsplitB (fun hc => ?_) (fun hc => ?_) <;> try simp [hc])
              | (with_reducible refine GKsplit (fun hc => ?_) (fun hc => ?_) <;> try simp [hc])
              | (with_reducible refine GKsplitN (fun hc => ?_) (fun hc => ?_) <;> try simp [hc])
              | (with_reducible refine GKsplitNB (fun hc => ?_) (fun hc => ?_) <;> try simp [hc])
              | (with_reducible refine GKsplitB (fun hc => ?_) (fun hc => ?_) <;> try simp [hc])
              | simp (disch := first | (with_reducible assumption) | (simp; done) | omega | (simp; omega)) [hk0n, hwk])
            refine hN (w - 1) _ _ (by omega) ⟨now + 65535 * i, (k : Int) - 1, sq + 1, _, by omega, by omega, by omega, by omega, by omega, by omega, fun h => absurd h (by omega), fun _ => ⟨stepO sq y2, rfl, yok3, by show y2.at_ - 1 = _; rw [yat2], rfl, ypa2⟩, hP7, ?_⟩
            simp
      · have hgki : ¬ (k : Int) < ((LL gs).length : Int) := by omega
        repeat' (first
          | refine awp_seqK fun K' hpK => ?_
          | refine awp_block ?_
          | refine awp_condG fun A' B' hpA hpB => ?_
          | refine useK (by with_reducible assumption) ?_
          | refine useP (by with_reducible assumption) ?_
          | refine ED_cons (fun _ => ?_) ?_
          | (refine stable_mk ?_; simp (disch := first | (with_reducible assumption) | (simp; done) | omega | (simp; omega)) [hkge, hgk, hgki]; done)
          | (refine stable_no ?_; simp (disch := first | (with_reducible assumption) | (simp; done) | omega | (simp; omega)) [hkge, hgk, hgki]; done)
          | (with_reducible refine And.intro ?_ ?_)
          | (with_reducible intro hc)
          | (with_reducible refine GDsplit (fun hc => ?_) (fun hc => ?_) <;> try simp [hc])
          | (with_reducible refine GDsplitN (fun hc => ?_) (fun hc => ?_) <;> try simp [hc])
          | (with_reducible refine GDsplitNB (fun hc => ?_) (fun hc => ?_) <;> try simp [hc])
          | (with_reducible refine GDsplitB (fun hc => ?_) (fun hc => ?_) <;> try simp [hc])
          | (with_reducible refine GKsplit (fun hc => ?_) (fun hc => ?_) <;> try simp [hc])
          | (with_reducible refine GKsplitN (fun hc => ?_) (fun hc => ?_) <;> try simp [hc])
          | (with_reducible refine GKsplitNB (fun hc => ?_) (fun hc => ?_) <;> try simp [hc])
          | (with_reducible refine GKsplitB (fun hc => ?_) (fun hc => ?_) <;> try simp [hc])
          | simp (disch := first | (with_reducible assumption) | (simp; done) | omega | (simp; omega)) [hkge, hgk, hgki])
        refine awp_loop' (fun w2 T G' => ∃ (i : Nat) (mv : AV) (y2 : On), i + w2 = 1 ∧ okAt y2 ∧ y2.at_ = (k : Int) ∧ LL y2.path = LL (cutP v.path) ∧ (i = 0 → y2.said = false ∧ mv = .nils) ∧ (0 < i → y2.said = true ∧ y2.when = now + 65535 * ((i : Int) - 1) ∧ ∃ s, mv = ofS cMs s ∧ LL s = [nowM y2]) ∧ TH pb G' [(v.id, y2)] rt sq ∧ T = ofL [(3, ofS cI gs), (4, .box [.int .u32 v.id, .int .u32 v.ep, .int .u64 v.k1, .int .u64 v.k2, .int .u32 v.k3, .int .u32 v.k4, .int .i64 v.k5, .int .i64 v.k6, .int .i64 v.k7, .int .i64 v.f1, .int .i64 v.f2, .int .i64 v.t1, .int .i64 v.t2, .str v.su, .str v.sh, .str v.du, .str v.dh, .int .i64 v.act, .int .i64 v.rule, ofS cHo (cutP v.path)]), (9, .ptr pb 0), (10, .int .i64 (now + 65535 * i)), (11, .int .i64 k), (12, .int .i64 (1)), (13, mv), (14, .int .i64 i)]) (1) ⟨0, .nils, y, by omega, yok, yat, ypa, fun _ => ⟨ysd, rfl⟩, fun h => absurd h (by omega), hPL, by simp⟩ ?_
        rintro w2 T2 G2 ⟨i, mv, y2, hi, yok2, yat2, ypa2, hi0, hi1, hP2, rfl⟩ N2 hN2
        by_cases hin : i < 1
        · have hini : (i : Int) < (1) := by omega
          have hmv : mv.plain = true := by
            rcases Nat.eq_zero_or_pos i with h | h
            · rw [(hi0 h).2]; rfl
            · obtain ⟨_, _, s, e, _⟩ := hi1 h; rw [e]; simp
          have hdue : dueO (now + 65535 * i) rt y2 = true := by
            unfold dueO
            rcases Nat.eq_zero_or_pos i with h | h
            · rw [(hi0 h).1]; rfl
            · obtain ⟨e1, e2, _⟩ := hi1 h
              have e3 : IntKind.i64.wrap (now + 65535 * (i : Int) - y2.when) = 65535 := by rw [e2, IntKind.wrap_i64]; omega
              rw [e3, decide_eq_false (by omega)]; simp
          have hwn : IntKind.i64.wrap (now + 65535 * (i : Int) + 65535) = now + 65535 * ((i : Int) + 1) := by rw [IntKind.wrap_i64]; omega
          have f1 : [(v.id, y2)].map (updN (now + 65535 * i) rt) = [(v.id, sayO (now + 65535 * i) y2)] := by simp [updN, hdue]
          have nx := next_c (now := now + 65535 * i) hP2 (by simp) (by intro z hz; rw [List.mem_singleton.1 hz]; exact yok2)
          rw [f1] at nx
          have f2 : (([(v.id, y2)].filter fun q => dueO (now + 65535 * i) rt q.2).map fun q => nowM q.2) = [nowM y2] := by simp [hdue]
          rw [f2] at nx
          obtain ⟨m1, m2, m3, m4, m5⟩ := nowM_at yat2 ypa2 hkl
          obtain ⟨hh, hhh⟩ : ∃ hh, hh = (LL (cutP v.path))[k] := ⟨_, rfl⟩
          rw [← hhh] at m1 m2 m3
          have hmm := one_ms (nowM y2)
          have hwl : IntKind.i64.wrap (((LL (cutP v.path)).length : Int) - 1) = ((LL (cutP v.path)).length : Int) - 1 := by rw [IntKind.wrap_i64]; omega
          repeat' (first
            | refine awp_seqK fun K' hpK => ?_
            | refine awp_block ?_
            | refine awp_condG fun A' B' hpA hpB => ?_
            | refine useK (by with_reducible assumption) ?_
            | refine useP (by with_reducible assumption) ?_
            | refine ED_cons (fun _ => ?_) ?_
            | (refine stable_mk ?_; simp (disch := first | (with_reducible assumption) | (simp; done) | omega | (simp; omega)) [hini, hmv]; done)
            | (refine stable_no ?_; simp (disch := first | (with_reducible assumption) | (simp; done) | omega | (simp; omega)) [hini, hmv]; done)
            | (with_reducible refine And.intro ?_ ?_)
            | (with_reducible intro hc)
            | (with_reducible refine GDsplit (fun hc => ?_) (fun hc => ?_) <;> try simp [hc])
            | (with_reducible refine GDsplitN (fun hc => ?_) (fun hc => ?_) <;> try simp [hc])
            | (with_reducible refine GDsplitNB (fun hc => ?_) (fun hc => ?_) <;> try simp [hc])
            | (with_reducible refine GDsplitB (fun hc => ?_) (fun hc => ?_) <;> try simp [hc])
            | (with_reducible refine GKsplit (fun hc => ?_) (fun hc => ?_) <;> try simp [hc])
            | (with_reducible refine GKsplitN (fun hc => ?_) (fun hc => ?_) <;> try simp [hc])
            | (with_reducible refine GKsplitNB (fun hc => ?_) (fun hc => ?_) <;> try simp [hc])
            | (with_reducible refine GKsplitB (fun hc => ?_) (fun hc => ?_) <;> try simp [hc])
            | simp (disch := first | (with_reducible assumption) | (simp; done) | omega | (simp; omega)) [hini, hmv])
          refine CallK.use nx ?_
          rintro r G5 _ _ ⟨hP5, s5, rfl, hs5⟩
          obtain rfl := one_some hs5
          repeat' (first
            | refine awp_seqK fun K' hpK => ?_
            | refine awp_block ?_
            | refine awp_condG fun A' B' hpA hpB => ?_
            | refine useK (by with_reducible assumption) ?_
            | refine useP (by with_reducible assumption) ?_
            | refine ED_cons (fun _ => ?_) ?_
            | (refine stable_mk ?_; simp (disch := first | (with_reducible assumption) | (simp; done) | omega | (simp; omega)) [hmm, hkl, ofS_idx (f := cHo), cHo, ← hhh, m1, m2, m3, m4, m5, hwn, hwl]; done)
            | (refine stable_no ?_; simp (disch := first | (with_reducible assumption) | (simp; done) | omega | (simp; omega)) [hmm, hkl, ofS_idx (f := cHo), cHo, ← hhh, m1, m2, m3, m4, m5, hwn, hwl]; done)
            | (with_reducible refine And.intro ?_ ?_)
            | (with_reducible intro hc)
            | (with_reducible refine GDsplit (fun hc => ?_) (fun hc => ?_) <;> try simp [hc])
            | (with_reducible refine GDsplitN (fun hc => ?_) (fun hc => ?_) <;> try simp [hc])
            | (with_reducible refine GDsplitNB (fun hc => ?_) (fun hc => ?_) <;> try simp [hc])
            | (with_reducible refine GDsplitB (fun hc => ?_) (fun hc => ?_) <;> try simp [hc])
            | (with_reducible refine GKsplit (fun hc => ?_) (fun hc => ?_) <;> try simp [hc])
            | (with_reducible refine GKsplitN (fun hc => ?_) (fun hc => ?_) <;> try simp [hc])
            | (with_reducible refine GKsplitNB (fun hc => ?_) (fun hc => ?_) <;> try simp [hc])
            | (with_reducible refine GKsplitB (fun hc => ?_) (fun hc => ?_) <;> try simp [hc])
            | simp (disch := first | (with_reducible assumption) | (simp; done) | omega | (simp; omega)) [hmm, hkl, ofS_idx (f := cHo), cHo, ← hhh, m1, m2, m3, m4, m5, hwn, hwl])
          refine hN2 (w2 - 1) _ _ (by omega) ⟨i + 1, ofS cMs (some [nowM y2]), sayO (now + 65535 * i) y2, by omega, yok2, yat2, ypa2, fun h => absurd h (by omega), fun _ => ⟨rfl, by show now + 65535 * (i : Int) = _; omega, some [nowM y2], rfl, rfl⟩, hP5, ?_⟩
          simp [hmm, m1, m2, m3, m4, m5]
        · have hie : i = 1 := by omega
          have hini : ¬ (i : Int) < (1) := by omega
          obtain ⟨e1, e2, s, rfl, hs⟩ := hi1 (by omega)
          obtain rfl := one_some hs
          have hmm := one_ms (nowM y2)
          have dc := done_c (sw := (nowM y2).sw) (life := (nowM y2).life) (ep := (nowM y2).ep) (s := (nowM y2).seq) hP2 (by simp) q0 (by omega) (by intro z hz; rw [List.mem_singleton.1 hz]; exact yok2)
          rw [done_hit e1] at dc
          by_cases hk0 : (k : Int) = 0
          · have ha0 : y2.at_ = 0 := by rw [yat2]; exact hk0
            obtain rfl : k = 0 := by omega
            rw [if_pos ha0] at dc
            repeat' (first
              | refine awp_seqK fun K' hpK => ?_
              | refine awp_block ?_
              | refine awp_condG fun A' B' hpA hpB => ?_
              | refine useK (by with_reducible assumption) ?_
              | refine useP (by with_reducible assumption) ?_
              | refine ED_cons (fun _ => ?_) ?_
              | (refine stable_mk ?_; simp (disch := first | (with_reducible assumption) | (simp; done) | omega | (simp; omega)) [hini, hmm]; done)
              | (refine stable_no ?_; simp (disch := first | (with_reducible assumption) | (simp; done) | omega | (simp; omega)) [hini, hmm]; done)
              | (with_reducible refine And.intro ?_ ?_)
              | (with_reducible intro hc)
              | (with_reducible refine GDsplit (fun hc => ?_) (fun hc => ?_) <;> try simp [hc])
              | (with_reducible refine GDsplitN (fun hc => ?_) (fun hc => ?_) <;> try simp [hc])
              | (with_reducible refine GDsplitNB (fun hc => ?_) (fun hc => ?_) <;> try simp [hc])
              | (with_reducible refine GDsplitB (fun hc => ?_) (fun hc => ?_) <;> try simp [hc])
              | (with_reducible refine GKsplit (fun hc => ?_) (fun hc => ?_) <;> try simp [hc])
              | (with_reducible refine GKsplitN (fun hc => ?_) (fun hc => ?_) <;> try simp [hc])
              | (with_reducible refine GKsplitNB (fun hc => ?_) (fun hc => ?_) <;> try simp [hc])
              | (with_reducible refine GKsplitB (fun hc => ?_) (fun hc => ?_) <;> try simp [hc])
              | simp (disch := first | (with_reducible assumption) | (simp; done) | omega | (simp; omega)) [hini, hmm])
            refine CallK.use dc ?_
            rintro r G6 _ _ ⟨hP6, rfl⟩
            have dc2 := done_c (sw := (nowM y2).sw) (life := (nowM y2).life) (ep := (nowM y2).ep) (s := (nowM y2).seq) hP6 (by simp) q0 (by show sq ≤ 1000000; omega) (by intro z hz; cases hz)
            rw [done_nilL] at dc2
            repeat' (first
              | refine awp_seqK fun K' hpK => ?_
              | refine awp_block ?_
              | refine awp_condG fun A' B' hpA hpB => ?_
              | refine useK (by with_reducible assumption) ?_
              | refine useP (by with_reducible assumption) ?_
              | refine ED_cons (fun _ => ?_) ?_
              | (refine stable_mk ?_; simp (disch := first | (with_reducible assumption) | (simp; done) | omega | (simp; omega)); done)
              | (refine stable_no ?_; simp (disch := first | (with_reducible assumption) | (simp; done) | omega | (simp; omega)); done)
              | (with_reducible refine And.intro ?_ ?_)
              | (with_reducible intro hc)
              | (with_reducible refine GDsplit (fun hc => ?_) (fun hc => ?_) <;> try simp [hc])
              | (with_reducible refine GDsplitN (fun hc => ?_) (fun hc => ?_) <;> try simp [hc])
              | (with_reducible refine GDsplitNB (fun hc => ?_) (fun hc => ?_) <;> try simp [hc])
              | (with_reducible refine GDsplitB (fun hc => ?_) (fun hc => ?_) <;> try simp [hc])
              | (with_reducible refine GKsplit (fun hc => ?_) (fun hc => ?_) <;> try simp [hc])
              | (with_reducible refine GKsplitN (fun hc => ?_) (fun hc => ?_) <;> try simp [hc])
              | (with_reducible refine GKsplitNB (fun hc => ?_) (fun hc => ?_) <;> try simp [hc])
              | (with_reducible refine GKsplitB (fun hc => ?_) (fun hc => ?_) <;> try simp [hc])
              | simp (disch := first | (with_reducible assumption) | (simp; done) | omega | (simp; omega)))
            refine CallK.use dc2 ?_
            rintro r G7 _ _ ⟨hP7, rfl⟩
            have hwk : IntKind.i64.wrap (0 - 1) = -1 := by decide
            repeat' (first
              | refine awp_seqK fun K' hpK => ?_
              | refine awp_block ?_
              | refine awp_condG fun A' B' hpA hpB => ?_
              | refine useK (by with_reducible assumption) ?_
              | refine useP (by with_reducible assumption) ?_
              | refine ED_cons (fun _ => ?_) ?_
              | (refine stable_mk ?_; simp (disch := first | (with_reducible assumption) | (simp; done) | omega | (simp; omega)) [hwk]; done)
              | (refine stable_no ?_; simp (disch := first | (with_reducible assumption) | (simp; done) | omega | (simp; omega)) [hwk]; done)
              | (with_reducible refine And.intro ?_ ?_)
              | (with_reducible intro hc)
              | (with_reducible refine GDsplit (fun hc => ?_) (fun hc => ?_) <;> try simp [hc])
              | (with_reducible refine GDsplitN (fun hc => ?_) (fun hc => ?_) <;> try simp [hc])
              | (with_reducible refine GDsplitNB (fun hc => ?_) (fun hc => ?_) <;> try simp [hc])
              | (with_reducible refine GDsplitB (fun hc => ?_) (fun hc => ?_) <;> try simp [hc])
              | (with_reducible refine GKsplit (fun hc => ?_) (fun hc => ?_) <;> try simp [hc])
              | (with_reducible refine GKsplitN (fun hc => ?_) (fun hc => ?_) <;> try simp [hc])
              | (with_reducible refine GKsplitNB (fun hc => ?_) (fun hc => ?_) <;> try simp [hc])
              | (with_reducible refine GKsplitB (fun hc => ?_) (fun hc => ?_) <;> try simp [hc])
              | simp (disch := first | (with_reducible assumption) | (simp; done) | omega | (simp; omega)) [hwk])
            refine hN (w - 1) _ _ (by omega) ⟨now + 65535 * i, -1, sq, [], by omega, by omega, by omega, by omega, by omega, by omega, fun _ => rfl, fun h => absurd h (by omega), hP7, ?_⟩
            simp
          · have ha0 : ¬ y2.at_ = 0 := by rw [yat2]; exact hk0
            have hk0n : ¬ k = 0 := by omega
            rw [if_neg ha0] at dc
            repeat' (first
              | refine awp_seqK fun K' hpK => ?_
              | refine awp_block ?_
              | refine awp_condG fun A' B' hpA hpB => ?_
              | refine useK (by with_reducible assumption) ?_
              | refine useP (by with_reducible assumption) ?_
              | refine ED_cons (fun _ => ?_) ?_
              | (refine stable_mk ?_; simp (disch := first | (with_reducible assumption) | (simp; done) | omega | (simp; omega)) [hini, hmm]; done)
              | (refine stable_no ?_; simp (disch := first | (with_reducible assumption) | (simp; done) | omega | (simp; omega)) [hini, hmm]; done)
              | (with_reducible refine And.intro ?_ ?_)
              | (with_reducible intro hc)
              | (with_reducible refine GDsplit (fun hc => ?_) (fun hc => ?_) <;> try simp [hc])
              | (with_reducible refine GDsplitN (fun hc => ?_) (fun hc => ?_) <;> try simp [hc])
              | (with_reducible refine GDsplitNB (fun hc => ?_) (fun hc => ?_) <;> try simp [hc])
              | (with_reducible refine GDsplitB (fun hc => ?_) (fun hc => ?_) <;> try simp [hc])
              | (with_reducible refine GKsplit (fun hc => ?_) (fun hc => ?_) <;> try simp [hc])
              | (with_reducible refine GKsplitN (fun hc => ?_) (fun hc => ?_) <;> try simp [hc])
              | (with_reducible refine GKsplitNB (fun hc => ?_) (fun hc => ?_) <;> try simp [hc])
              | (with_reducible refine GKsplitB (fun hc => ?_) (fun hc => ?_) <;> try simp [hc])
              | simp (disch := first | (with_reducible assumption) | (simp; done) | omega | (simp; omega)) [hini, hmm])
            refine CallK.use dc ?_
            rintro r G6 _ _ ⟨hP6, rfl⟩
            have yok3 : okAt (stepO sq y2) := by
              obtain ⟨o1, o2, o3⟩ := yok2
              exact ⟨by show 0 ≤ y2.at_ - 1; omega, by show y2.at_ - 1 < _; exact Int.lt_of_le_of_lt (by omega) o2, o3⟩
            have dc2 := done_c (sw := (nowM y2).sw) (life := (nowM y2).life) (ep := (nowM y2).ep) (s := (nowM y2).seq) hP6 (by simp) (by show 0 ≤ sq + 1; omega) (by show sq + 1 ≤ 1000000; omega) (by intro z hz; rw [List.mem_singleton.1 hz]; exact yok3)
            rw [done_miss (show (stepO sq y2).said = false from rfl)] at dc2
            repeat' (first
              | refine awp_seqK fun K' hpK => ?_
              | refine awp_block ?_
              | refine awp_condG fun A' B' hpA hpB => ?_
              | refine useK (by with_reducible assumption) ?_
              | refine useP (by with_reducible assumption) ?_
              | refine ED_cons (fun _ => ?_) ?_
              | (refine stable_mk ?_; simp (disch := first | (with_reducible assumption) | (simp; done) | omega | (simp; omega)) [hk0n]; done)
              | (refine stable_no ?_; simp (disch := first | (with_reducible assumption) | (simp; done) | omega | (simp; omega)) [hk0n]; done)
              | (with_reducible refine And.intro ?_ ?_)
              | (with_reducible intro hc)
              | (with_reducible refine GDsplit (fun hc => ?_) (fun hc => ?_) <;> try simp [hc])
              | (with_reducible refine GDsplitN (fun hc => ?_) (fun hc => ?_) <;> try simp [hc])
              | (with_reducible refine GDsplitNB (fun hc => ?_) (fun hc => ?_) <;> try simp [hc])
              | (with_reducible refine GDsplitB (fun hc => ?_) (fun hc => ?_) <;> try simp [hc])
              | (with_reducible refine GKsplit (fun hc => ?_) (fun hc => ?_) <;> try simp [hc])
              | (with_reducible refine GKsplitN (fun hc => ?_) (fun hc => ?_) <;> try simp [hc])
              | (with_reducible refine GKsplitNB (fun hc => ?_) (fun hc => ?_) <;> try simp [hc])
              | (with_reducible refine GKsplitB (fun hc => ?_) (fun hc => ?_) <;> try simp [hc])
              | simp (disch := first | (with_reducible assumption) | (simp; done) | omega | (simp; omega)) [hk0n])
            refine CallK.use dc2 ?_
            rintro r G7 _ _ ⟨hP7, rfl⟩
            have hwk : IntKind.i64.wrap ((k : Int) - 1) = (k : Int) - 1 := by rw [IntKind.wrap_i64]; omega
            repeat' (first
              | refine awp_seqK fun K' hpK => ?_
              | refine awp_block ?_
              | refine awp_condG fun A' B' hpA hpB => ?_
              | refine useK (by with_reducible assumption) ?_
              | refine useP (by with_reducible assumption) ?_
              | refine ED_cons (fun _ => ?_) ?_
              | (refine stable_mk ?_; simp (disch := first | (with_reducible assumption) | (simp; done) | omega | (simp; omega)) [hk0n, hwk]; done)
              | (refine stable_no ?_; simp (disch := first | (with_reducible assumption) | (simp; done) | omega | (simp; omega)) [hk0n, hwk]; done)
              | (with_reducible refine And.intro ?_ ?_)
              | (with_reducible intro hc)
              | (with_reducible refine GDsplit (fun hc => ?_) (fun hc => ?_) <;> try simp [hc])
              | (with_reducible refine GDsplitN (fun hc => ?_) (fun hc => ?_) <;> try simp [hc])
              | (with_reducible refine GDsplitNB (fun hc => ?_) (fun hc => ?_) <;> try simp [hc])
              | (with_reducible refine GDsplitB (fun hc => ?_) (fun hc => ?_) <;> try simp [hc])
              | (with_reducible refine GKsplit (fun hc => ?_) (fun hc => ?_) <;> try simp [hc])
              | (with_reducible refine GKsplitN (fun hc => ?_) (fun hc => ?_) <;> try simp [hc])
              | (with_reducible refine GKsplitNB (fun hc => ?_) (fun hc => ?_) <;> try simp [hc])
              | (with_reducible refine GKsplitB (fun hc => ?_) (fun hc => ?_) <;> try simp [hc])
              | simp (disch := first | (with_reducible assumption) | (simp; done) | omega | (simp; omega)) [hk0n, hwk])
            refine hN (w - 1) _ _ (by omega) ⟨now + 65535 * i, (k : Int) - 1, sq + 1, _, by omega, by omega, by omega, by omega, by omega, by omega, fun h => absurd h (by omega), fun _ => ⟨stepO sq y2, rfl, yok3, by show y2.at_ - 1 = _; rw [yat2], rfl, ypa2⟩, hP7, ?_⟩
            simp
    · have hw00 : w = 0 := by omega
      subst hw00
      have hLn := hL0 rfl
      subst hLn
      have hkn : kk = -1 := by omega
      subst hkn
      repeat' (first
        | refine awp_seqK fun K' hpK => ?_
        | refine awp_block ?_
        | refine awp_condG fun A' B' hpA hpB => ?_
        | refine useK (by with_reducible assumption) ?_
        | refine useP (by with_reducible assumption) ?_
        | refine ED_cons (fun _ => ?_) ?_
        | (refine stable_mk ?_; simp (disch := first | (with_reducible assumption) | (simp; done) | omega | (simp; omega)); done)
        | (refine stable_no ?_; simp (disch := first | (with_reducible assumption) | (simp; done) | omega | (simp; omega)); done)
        | (with_reducible refine And.intro ?_ ?_)
        | (with_reducible intro hc)
        | (with_reducible refine GDsplit (fun hc => ?_) (fun hc => ?_) <;> try simp [hc])
        | (with_reducible refine GDsplitN (fun hc => ?_) (fun hc => ?_) <;> try simp [hc])
        | (with_reducible refine GDsplitNB (fun hc => ?_) (fun hc => ?_) <;> try simp [hc])
        | (with_reducible refine GDsplitB (fun hc => ?_) (fun hc => ?_) <;> try simp [hc])
        | (with_reducible refine GKsplit (fun hc => ?_) (fun hc => ?_) <;> try simp [hc])
        | (with_reducible refine GKsplitN (fun hc => ?_) (fun hc => ?_) <;> try simp [hc])
        | (with_reducible refine GKsplitNB (fun hc => ?_) (fun hc => ?_) <;> try simp [hc])
        | (with_reducible refine GKsplitB (fun hc => ?_) (fun hc => ?_) <;> try simp [hc])
        | simp (disch := first | (with_reducible assumption) | (simp; done) | omega | (simp; omega)))
      refine CallK.use (waiting_c hPL (by simp)) ?_
      rintro r G3 _ _ ⟨rfl, s3, rfl, hs3⟩
      have e3 : (LL s3).length = 0 := by rw [hs3]; rfl
      repeat' (first
        | refine awp_seqK fun K' hpK => ?_
        | refine awp_block ?_
        | refine awp_condG fun A' B' hpA hpB => ?_
        | refine useK (by with_reducible assumption) ?_
        | refine useP (by with_reducible assumption) ?_
        | refine ED_cons (fun _ => ?_) ?_
        | (refine stable_mk ?_; simp (disch := first | (with_reducible assumption) | (simp; done) | omega | (simp; omega)) [e3]; done)
        | (refine stable_no ?_; simp (disch := first | (with_reducible assumption) | (simp; done) | omega | (simp; omega)) [e3]; done)
        | (with_reducible refine And.intro ?_ ?_)
        | (with_reducible intro hc)
        | (with_reducible refine GDsplit (fun hc => ?_) (fun hc => ?_) <;> try simp [hc])
        | (with_reducible refine GDsplitN (fun hc => ?_) (fun hc => ?_) <;> try simp [hc])
        | (with_reducible refine GDsplitNB (fun hc => ?_) (fun hc => ?_) <;> try simp [hc])
        | (with_reducible refine GDsplitB (fun hc => ?_) (fun hc => ?_) <;> try simp [hc])
        | (with_reducible refine GKsplit (fun hc => ?_) (fun hc => ?_) <;> try simp [hc])
        | (with_reducible refine GKsplitN (fun hc => ?_) (fun hc => ?_) <;> try simp [hc])
        | (with_reducible refine GKsplitNB (fun hc => ?_) (fun hc => ?_) <;> try simp [hc])
        | (with_reducible refine GKsplitB (fun hc => ?_) (fun hc => ?_) <;> try simp [hc])
        | simp (disch := first | (with_reducible assumption) | (simp; done) | omega | (simp; omega)) [e3])
      refine CallK.use (next_c (now := now) hPL (by simp) (by intro z hz; cases hz)) ?_
      rintro r G5 _ _ ⟨_, s5, rfl, hs5⟩
      have e5 : (LL s5).length = 0 := by rw [hs5]; rfl
      repeat' (first
        | refine awp_seqK fun K' hpK => ?_
        | refine awp_block ?_
        | refine awp_condG fun A' B' hpA hpB => ?_
        | refine useK (by with_reducible assumption) ?_
        | refine useP (by with_reducible assumption) ?_
        | refine ED_cons (fun _ => ?_) ?_
        | (refine stable_mk ?_; simp (disch := first | (with_reducible assumption) | (simp; done) | omega | (simp; omega)) [e5]; done)
        | (refine stable_no ?_; simp (disch := first | (with_reducible assumption) | (simp; done) | omega | (simp; omega)) [e5]; done)
        | (with_reducible refine And.intro ?_ ?_)
        | (with_reducible intro hc)
        | (with_reducible refine GDsplit (fun hc => ?_) (fun hc => ?_) <;> try simp [hc])
        | (with_reducible refine GDsplitN (fun hc => ?_) (fun hc => ?_) <;> try simp [hc])
        | (with_reducible refine GDsplitNB (fun hc => ?_) (fun hc => ?_) <;> try simp [hc])
        | (with_reducible refine GDsplitB (fun hc => ?_) (fun hc => ?_) <;> try simp [hc])
        | (with_reducible refine GKsplit (fun hc => ?_) (fun hc => ?_) <;> try simp [hc])
        | (with_reducible refine GKsplitN (fun hc => ?_) (fun hc => ?_) <;> try simp [hc])
        | (with_reducible refine GKsplitNB (fun hc => ?_) (fun hc => ?_) <;> try simp [hc])
        | (with_reducible refine GKsplitB (fun hc => ?_) (fun hc => ?_) <;> try simp [hc])
        | (refine CallK.use (awake_c _) ?_; rintro r G' _ _ ⟨rfl, rfl⟩)
        | simp (disch := first | (with_reducible assumption) | (simp; done) | omega | (simp; omega)) [e5])
      exact ends_drop (by simp <;> rfl) (by simp) (hpost _ _ ⟨rfl, rfl⟩)
theorem planOrder_law (z0 : (TD.two (.int .u32) (.two (.int .u32) (.two (.two (.int .u64) (.two (.int .u64) (.two (.int .u32) (.two (.int .u32) (.two (.int .i64) (.two (.int .i64) (.two (.int .i64) .unit))))))) (.two (.two (.int .i64) (.two (.int .i64) .unit)) (.two (.two (.int .i64) (.two (.int .i64) .unit)) (.two (.two .str (.two .str .unit)) (.two (.two .str (.two .str .unit)) (.two (.int .i64) (.two (.int .i64) (.two (.slc (.two (.int .i64) (.two (.int .i64) (.two (.int .i64) .unit)))) .unit)))))))))).T) (z1 : (TD.two (.int .u32) (.two (.int .u32) (.two (.int .u32) (.two (.int .u32) (.two (.int .u32) (.two (.int .u32) (.two (.int .u32) (.two (.int .u32) (.two (.int .u32) .unit))))))))).T) (z2 : (TD.int .i64).T) (z3 : (TD.slc (.int .i64)).T) (o0 : (TD.two (.int .u32) (.two (.int .u32) (.two (.two (.int .u64) (.two (.int .u64) (.two (.int .u32) (.two (.int .u32) (.two (.int .i64) (.two (.int .i64) (.two (.int .i64) .unit))))))) (.two (.two (.int .i64) (.two (.int .i64) .unit)) (.two (.two (.int .i64) (.two (.int .i64) .unit)) (.two (.two .str (.two .str .unit)) (.two (.two .str (.two .str .unit)) (.two (.int .i64) (.two (.int .i64) (.two (.slc (.two (.int .i64) (.two (.int .i64) (.two (.int .i64) .unit)))) .unit)))))))))).ok z0) (o1 : (TD.two (.int .u32) (.two (.int .u32) (.two (.int .u32) (.two (.int .u32) (.two (.int .u32) (.two (.int .u32) (.two (.int .u32) (.two (.int .u32) (.two (.int .u32) .unit))))))))).ok z1) (o2 : (TD.int .i64).ok z2) (o3 : (TD.slc (.int .i64)).ok z3) :
    ACalls Try.prog 3 [(TD.two (.int .u32) (.two (.int .u32) (.two (.two (.int .u64) (.two (.int .u64) (.two (.int .u32) (.two (.int .u32) (.two (.int .i64) (.two (.int .i64) (.two (.int .i64) .unit))))))) (.two (.two (.int .i64) (.two (.int .i64) .unit)) (.two (.two (.int .i64) (.two (.int .i64) .unit)) (.two (.two .str (.two .str .unit)) (.two (.two .str (.two .str .unit)) (.two (.int .i64) (.two (.int .i64) (.two (.slc (.two (.int .i64) (.two (.int .i64) (.two (.int .i64) .unit)))) .unit)))))))))).av z0, (TD.two (.int .u32) (.two (.int .u32) (.two (.int .u32) (.two (.int .u32) (.two (.int .u32) (.two (.int .u32) (.two (.int .u32) (.two (.int .u32) (.two (.int .u32) .unit))))))))).av z1, (TD.int .i64).av z2, (TD.slc (.int .i64)).av z3] emptyH fun r G' => G' = emptyH ∧ r = .bool true := by
  rw [fl_av]
  refine planOrder_c (v := lvOn (toOn z0) z1) (retry := z2) (gs := z3) ?_ o3.1
  show (LL (Option.map _ _)).length ≤ _
  rw [LL_ho]
  exact o0.2.2.2.2.2.2.2.2.2.1.1
end Go.Proofs.Ytgideonigiokbaa
