import Derived.Test.YtapocekfkbkefaaD22K
set_option linter.unusedSimpArgs false
set_option linter.unusedVariables false
namespace Go.Proofs.Ytapocekfkbkefaa
open Go Go.Al
set_option maxRecDepth 20000
attribute [local irreducible] awp aops aopsD eop pv ACalls CallK AppK AEnds ti

theorem link_swap {P : List (Int × Int)} {a1 a2 b1 b2 : Int} (hm : mayL P a1 a2 b1 b2 = true) : linkL b1 b2 a1 a2 = linkL a1 a2 b1 b2 := by
  obtain ⟨m1, m2, m3⟩ := mayL_ups hm
  have g1 := goodP_iff.1 (upP_good m2)
  have g2 := goodP_iff.1 (upP_good m3)
  unfold linkL
  by_cases h : 100 * b1 + b2 < 100 * a1 + a2
  · rw [if_pos h, if_neg (by omega)]
  · rw [if_neg h]
    have : ¬ (100 * a1 + a2 = 100 * b1 + b2) := fun e => m1 ⟨by omega, by omega⟩
    rw [if_pos (by omega)]
theorem may_swap {P : List (Int × Int)} {a1 a2 b1 b2 : Int} : mayL P b1 b2 a1 a2 = mayL P a1 a2 b1 b2 := by
  unfold mayL
  have : decide (b1 = a1 ∧ b2 = a2) = decide (a1 = b1 ∧ a2 = b2) := by rw [decide_eq_decide]; constructor <;> rintro ⟨rfl, rfl⟩ <;> exact ⟨rfl, rfl⟩
  rw [this]
  cases upP P a1 a2 <;> cases upP P b1 b2 <;> simp
theorem learn_get {P : List (Int × Int)} {L : List (Int × Sn)} {n0 now a1 a2 b1 b2 : Int} (h : JV P L n0) (hm : mayL P a1 a2 b1 b2 = true) : getL (learnP P L a1 a2 b1 b2 now).1 (numL (linkL a1 a2 b1 b2)) = some (mkS (linkL a1 a2 b1 b2) now) := by
  unfold learnP
  rw [if_pos hm]
  split
  · simp only; rw [getL_set h.s, if_pos rfl]
  · simp only; rw [getL_set (h.s.filter _), if_pos rfl]
theorem again {P : List (Int × Int)} {L : List (Int × Sn)} {n0 now a1 a2 b1 b2 : Int} (h : JV P L n0) (hm : mayL P a1 a2 b1 b2 = true) (hg : getL L (numL (linkL a1 a2 b1 b2)) = some (mkS (linkL a1 a2 b1 b2) now)) : learnP P L b1 b2 a1 a2 now = (setL L (numL (linkL a1 a2 b1 b2)) (mkS (linkL a1 a2 b1 b2) now), [], false) ∧ (setL L (numL (linkL a1 a2 b1 b2)) (mkS (linkL a1 a2 b1 b2) now)).length = L.length := by
  constructor
  · unfold learnP
    rw [may_swap, if_pos hm, link_swap hm, hg, if_pos (show Option.map Sn.lk (some (mkS (linkL a1 a2 b1 b2) now)) = some (linkL a1 a2 b1 b2) from rfl)]
  · rw [setL_len h.s, if_pos (by rw [hasL_get, hg]; rfl)]
theorem edge_at {P : List (Int × Int)} {L : List (Int × Sn)} {n0 k sw port : Int} {v : Sn} (h : JV P L n0) (hg : getL L k = some v) (hu : upP P sw port = true) (he : endsP v sw port = true) (q : Sn → Bool) : edgeP P ((L.filter fun x => q x.2).map Prod.snd) sw port = !(q v) := by
  have hm := getL_mem hg
  unfold edgeP
  rw [hu, Bool.true_and]
  congr 1
  rw [Bool.eq_iff_iff, List.any_eq_true]
  constructor
  · rintro ⟨y, hy, hy2⟩
    obtain ⟨p, hp, rfl⟩ := List.mem_map.1 hy
    obtain ⟨hpL, hq⟩ := List.mem_filter.1 hp
    have ht : touchP v.a1 v.a2 v.b1 v.b2 p.2 = true := by
      unfold endsP at he hy2
      rw [touch_iff]
      rcases of_decide_eq_true he with ⟨h1, h2⟩ | ⟨h1, h2⟩
      · rw [h1, h2]; exact .inl (of_decide_eq_true hy2)
      · rw [h1, h2]; exact .inr (of_decide_eq_true hy2)
    have e := h.d _ hm p hpL ht
    have g1 := mem_getL h.s (k := p.1) (v := p.2) hpL
    simp only at e
    rw [← e, hg] at g1
    injection g1 with g1
    rw [g1]; exact hq
  · intro hq
    exact ⟨v, List.mem_map.2 ⟨(k, v), List.mem_filter.2 ⟨hm, hq⟩, rfl⟩, he⟩
theorem ends_link (a1 a2 b1 b2 now : Int) : endsP (mkS (linkL a1 a2 b1 b2) now) a1 a2 = true ∧ endsP (mkS (linkL a1 a2 b1 b2) now) b1 b2 = true := by
  rcases link_or a1 a2 b1 b2 with e | e <;> rw [e] <;> unfold mkS endsP <;> simp
set_option maxHeartbeats 8000000 in
theorem viewAgain_c {l : Option (List CT)} {a1 a2 b1 b2 wait most : Int} (hll : (LL l).length ≤ 140737488355328) : ACalls Try.prog 4 [ofS cC l, .agg [.int .i64 a1, .int .i64 a2], .agg [.int .i64 b1, .int .i64 b2], .int .i64 wait, .int .i64 most] emptyH fun r G' => G' = emptyH ∧ r = .bool true := by
  refine ACalls.hide fun post hpost => ?_
  refine F4_in (by simp) (by simp) fun hbd => ?_
  repeat' (first
    | refine awp_seqK fun K' hpK => ?_
    | refine awp_block ?_
    | refine awp_condG fun A' B' hpA hpB => ?_
    | refine useK (by with_reducible assumption) ?_
    | refine useP (by with_reducible assumption) ?_
    | refine ED_cons (fun _ => ?_) ?_
    | (refine stable_mk ?_; simp (disch := first | (with_reducible assumption) | (simp; done) | omega | (simp; omega)); done)
    | (refine stable_no ?_; simp (disch := first | (with_reducible assumption) | (simp; done) | omega | (simp; omega)); done)
    | (with_reducible refine And.intro ?_ ?_)
    | (with_reducible intro hc)
    | (with_reducible refine GDsplit (fun hc => ?_) (fun hc => ?_) <;> try simp [hc])
    | (with_reducible refine GDsplitN (fun hc => ?_) (fun hc => ?_) <;> try simp [hc])
    | (with_reducible refine GDsplitNB (fun hc => ?_) (fun hc => ?_) <;> try simp [hc])
    | (with_reducible refine GDsplitB (fun hc => ?_) (fun hc => ?_) <;> try simp [hc])
    | (with_reducible refine GKsplit (fun hc => ?_) (fun hc => ?_) <;> try simp [hc])
    | (with_reducible refine GKsplitN (fun hc => ?_) (fun hc => ?_) <;> try simp [hc])
    | (with_reducible refine GKsplitNB (fun hc => ?_) (fun hc => ?_) <;> try simp [hc])
    | (with_reducible refine GKsplitB (fun hc => ?_) (fun hc => ?_) <;> try simp [hc])
    | (refine CallK.use (new_c) ?_; rintro r G' _ _ ⟨pb, rfl, hV⟩)
    | simp (disch := first | (with_reducible assumption) | (simp; done) | omega | (simp; omega)))
  intro rb hrb
  refine ⟨0, ?_⟩
  repeat' (first
    | refine awp_seqK fun K' hpK => ?_
    | refine awp_block ?_
    | refine awp_condG fun A' B' hpA hpB => ?_
    | refine useK (by with_reducible assumption) ?_
    | refine useP (by with_reducible assumption) ?_
    | refine ED_cons (fun _ => ?_) ?_
    | (refine stable_mk ?_; simp (disch := first | (with_reducible assumption) | (simp; done) | omega | (simp; omega)); done)
    | (refine stable_no ?_; simp (disch := first | (with_reducible assumption) | (simp; done) | omega | (simp; omega)); done)
    | (with_reducible refine And.intro ?_ ?_)
    | (with_reducible intro hc)
    | (with_reducible refine GDsplit (fun hc => ?_) (fun hc => ?_) <;> try simp [hc])
    | (with_reducible refine GDsplitN (fun hc => ?_) (fun hc => ?_) <;> try simp [hc])
    | (with_reducible refine GDsplitNB (fun hc => ?_) (fun hc => ?_) <;> try simp [hc])
    | (with_reducible refine GDsplitB (fun hc => ?_) (fun hc => ?_) <;> try simp [hc])
    | (with_reducible refine GKsplit (fun hc => ?_) (fun hc => ?_) <;> try simp [hc])
    | (with_reducible refine GKsplitN (fun hc => ?_) (fun hc => ?_) <;> try simp [hc])
    | (with_reducible refine GKsplitNB (fun hc => ?_) (fun hc => ?_) <;> try simp [hc])
    | (with_reducible refine GKsplitB (fun hc => ?_) (fun hc => ?_) <;> try simp [hc])
    | simp (disch := first | (with_reducible assumption) | (simp; done) | omega | (simp; omega)))
  rw [set_uni hrb]
  refine awp_loop' (fun w T G => ∃ (k : Nat) (now : Int) (P : List (Int × Int)) (L : List (Int × Sn)) (hv hr : Hp), k + w = (LL l).length ∧ 0 ≤ now ∧ now ≤ 450 ∧ now ≤ 15 * k ∧ L.length ≤ k ∧ L.length ≤ 30 ∧ G = uni hv hr ∧ Dis hv hr ∧ VH pb hv P L ∧ RH rb hr P (L.map Prod.snd) ∧ JV P L now ∧ T = ofL [(3, .int .i64 wait), (4, .int .i64 most), (6, .box [.int .i64 a1, .int .i64 a2]), (7, .box [.int .i64 b1, .int .i64 b2]), (11, .ptr pb 0), (12, .ptr rb 0), (13, .int .i64 now), (25, ofS cC l), (26, .int .i64 (LL l).length), (27, .int .i64 k)]) (LL l).length ⟨0, 0, [], [], _, _, by omega, by omega, by omega, by omega, by simp, by simp, rfl, (dis_one.2 hrb).symm, hV, new2, JV.nil, by simp⟩ ?_
  clear hV hrb
  rintro w T G ⟨k, now, P, L, hv, hr, hk, t0, t2, t1, hL, h30, rfl, hdis, hV, hR, hJ, rfl⟩ N hN
  by_cases hkl : k < (LL l).length
  · obtain ⟨y, hy⟩ : ∃ y, y = (LL l)[k] := ⟨_, rfl⟩
    by_cases h4 : (k : Int) < 30
    · obtain ⟨kd, ⟨c1, c2, _⟩, ⟨d1, d2, _⟩, up, mo, t, _⟩ := y
      obtain ⟨q, hq, hs2⟩ : ∃ q : Nat, q ≤ 15 ∧ ibits .and .i64 t 15 = some (q : Int) := andM (c := 15) (by omega) t
      have sc := step_c (kd := kd) (a1 := c1) (a2 := c2) (b1 := d1) (b2 := d2) (up := up) (most := mo) (t := t) (now := now + q) hdis hV hR hJ (by omega)
      simp only [opV] at sc
      have hw : IntKind.i64.wrap (now + q) = now + q := by rw [IntKind.wrap_i64]; omega
      repeat' (first
        | refine awp_seqK fun K' hpK => ?_
        | refine awp_block ?_
        | refine awp_condG fun A' B' hpA hpB => ?_
        | refine useK (by with_reducible assumption) ?_
        | refine useP (by with_reducible assumption) ?_
        | refine ED_cons (fun _ => ?_) ?_
        | (refine stable_mk ?_; simp (disch := first | (with_reducible assumption) | (simp; done) | omega | (simp; omega)) [hkl, h4, ofS_idx (f := cC), cC, ← hy, hs2, hw]; done)
        | (refine stable_no ?_; simp (disch := first | (with_reducible assumption) | (simp; done) | omega | (simp; omega)) [hkl, h4, ofS_idx (f := cC), cC, ← hy, hs2, hw]; done)
        | (with_reducible refine And.intro ?_ ?_)
        | (with_reducible intro hc)
        | (with_reducible refine GDsplit (fun hc => ?_) (fun hc => ?_) <;> try simp [hc])
        | (with_reducible refine GDsplitN (fun hc => ?_) (fun hc => ?_) <;> try simp [hc])
        | (with_reducible refine GDsplitNB (fun hc => ?_) (fun hc => ?_) <;> try simp [hc])
        | (with_reducible refine GDsplitB (fun hc => ?_) (fun hc => ?_) <;> try simp [hc])
        | (with_reducible refine GKsplit (fun hc => ?_) (fun hc => ?_) <;> try simp [hc])
        | (with_reducible refine GKsplitN (fun hc => ?_) (fun hc => ?_) <;> try simp [hc])
        | (with_reducible refine GKsplitNB (fun hc => ?_) (fun hc => ?_) <;> try simp [hc])
        | (with_reducible refine GKsplitB (fun hc => ?_) (fun hc => ?_) <;> try simp [hc])
        | simp (disch := first | (with_reducible assumption) | (simp; done) | omega | (simp; omega)) [hkl, h4, ofS_idx (f := cC), cC, ← hy, hs2, hw])
      refine CallK.use sc ?_
      rintro r G2 _ _ ⟨hv2, hr2, rfl, hdis2, rfl, hV2, hR2⟩
      have hJ2 := hJ.step (now := now + q) (by omega) (by omega) kd c1 c2 d1 d2 up mo
      have hlen := stepV_len (P := P) hJ.s kd c1 c2 d1 d2 up mo (now + q)
      repeat' (first
        | refine awp_seqK fun K' hpK => ?_
        | refine awp_block ?_
        | refine awp_condG fun A' B' hpA hpB => ?_
        | refine useK (by with_reducible assumption) ?_
        | refine useP (by with_reducible assumption) ?_
        | refine ED_cons (fun _ => ?_) ?_
        | (refine stable_mk ?_; simp (disch := first | (with_reducible assumption) | (simp; done) | omega | (simp; omega)); done)
        | (refine stable_no ?_; simp (disch := first | (with_reducible assumption) | (simp; done) | omega | (simp; omega)); done)
        | (with_reducible refine And.intro ?_ ?_)
        | (with_reducible intro hc)
        | (with_reducible refine GDsplit (fun hc => ?_) (fun hc => ?_) <;> try simp [hc])
        | (with_reducible refine GDsplitN (fun hc => ?_) (fun hc => ?_) <;> try simp [hc])
        | (with_reducible refine GDsplitNB (fun hc => ?_) (fun hc => ?_) <;> try simp [hc])
        | (with_reducible refine GDsplitB (fun hc => ?_) (fun hc => ?_) <;> try simp [hc])
        | (with_reducible refine GKsplit (fun hc => ?_) (fun hc => ?_) <;> try simp [hc])
        | (with_reducible refine GKsplitN (fun hc => ?_) (fun hc => ?_) <;> try simp [hc])
        | (with_reducible refine GKsplitNB (fun hc => ?_) (fun hc => ?_) <;> try simp [hc])
        | (with_reducible refine GKsplitB (fun hc => ?_) (fun hc => ?_) <;> try simp [hc])
        | simp (disch := first | (with_reducible assumption) | (simp; done) | omega | (simp; omega)))
      exact hN (w - 1) _ _ (by omega) ⟨k + 1, now + q, _, _, hv2, hr2, by omega, by omega, by omega, by omega, by omega, by omega, rfl, hdis2, hV2, hR2, hJ2, by simp⟩
    · repeat' (first
        | refine awp_seqK fun K' hpK => ?_
        | refine awp_block ?_
        | refine awp_condG fun A' B' hpA hpB => ?_
        | refine useK (by with_reducible assumption) ?_
        | refine useP (by with_reducible assumption) ?_
        | refine ED_cons (fun _ => ?_) ?_
        | (refine stable_mk ?_; simp (disch := first | (with_reducible assumption) | (simp; done) | omega | (simp; omega)) [hkl, h4, ofS_idx (f := cC), cC, ← hy]; done)
        | (refine stable_no ?_; simp (disch := first | (with_reducible assumption) | (simp; done) | omega | (simp; omega)) [hkl, h4, ofS_idx (f := cC), cC, ← hy]; done)
        | (with_reducible refine And.intro ?_ ?_)
        | (with_reducible intro hc)
        | (with_reducible refine GDsplit (fun hc => ?_) (fun hc => ?_) <;> try simp [hc])
        | (with_reducible refine GDsplitN (fun hc => ?_) (fun hc => ?_) <;> try simp [hc])
        | (with_reducible refine GDsplitNB (fun hc => ?_) (fun hc => ?_) <;> try simp [hc])
        | (with_reducible refine GDsplitB (fun hc => ?_) (fun hc => ?_) <;> try simp [hc])
        | (with_reducible refine GKsplit (fun hc => ?_) (fun hc => ?_) <;> try simp [hc])
        | (with_reducible refine GKsplitN (fun hc => ?_) (fun hc => ?_) <;> try simp [hc])
        | (with_reducible refine GKsplitNB (fun hc => ?_) (fun hc => ?_) <;> try simp [hc])
        | (with_reducible refine GKsplitB (fun hc => ?_) (fun hc => ?_) <;> try simp [hc])
        | simp (disch := first | (with_reducible assumption) | (simp; done) | omega | (simp; omega)) [hkl, h4, ofS_idx (f := cC), cC, ← hy])
      exact hN (w - 1) _ _ (by omega) ⟨k + 1, now, P, L, hv, hr, by omega, by omega, by omega, by omega, by omega, by omega, rfl, hdis, hV, hR, hJ, by simp⟩
  · have hO := hJ.p
    repeat' (first
      | refine awp_seqK fun K' hpK => ?_
      | refine awp_block ?_
      | refine awp_condG fun A' B' hpA hpB => ?_
      | refine useK (by with_reducible assumption) ?_
      | refine useP (by with_reducible assumption) ?_
      | refine ED_cons (fun _ => ?_) ?_
      | (refine stable_mk ?_; simp (disch := first | (with_reducible assumption) | (simp; done) | omega | (simp; omega)) [hkl]; done)
      | (refine stable_no ?_; simp (disch := first | (with_reducible assumption) | (simp; done) | omega | (simp; omega)) [hkl]; done)
      | (with_reducible refine And.intro ?_ ?_)
      | (with_reducible intro hc)
      | (with_reducible refine GDsplit (fun hc => ?_) (fun hc => ?_) <;> try simp [hc])
      | (with_reducible refine GDsplitN (fun hc => ?_) (fun hc => ?_) <;> try simp [hc])
      | (with_reducible refine GDsplitNB (fun hc => ?_) (fun hc => ?_) <;> try simp [hc])
      | (with_reducible refine GDsplitB (fun hc => ?_) (fun hc => ?_) <;> try simp [hc])
      | (with_reducible refine GKsplit (fun hc => ?_) (fun hc => ?_) <;> try simp [hc])
      | (with_reducible refine GKsplitN (fun hc => ?_) (fun hc => ?_) <;> try simp [hc])
      | (with_reducible refine GKsplitNB (fun hc => ?_) (fun hc => ?_) <;> try simp [hc])
      | (with_reducible refine GKsplitB (fun hc => ?_) (fun hc => ?_) <;> try simp [hc])
      | simp (disch := first | (with_reducible assumption) | (simp; done) | omega | (simp; omega)) [hkl])
    refine CallK.fl (learn_c (a1 := a1) (a2 := a2) (b1 := b1) (b2 := b2) (now := now) hV hO (by omega)) hdis ?_
    rintro r hv2 hdis2 _ _ ⟨hV2, s, rfl, hs⟩
    have hJ2 := hJ.learn (a1 := a1) (a2 := a2) (b1 := b1) (b2 := b2) (now := now) t0
    have hl2 := learn_len (P := P) hJ.s a1 a2 b1 b2 now
    have uc := fun sw port => (upV_c (sw := sw) (port := port) hV2 hO).ext (Ext.uni (h := hr))
    cases hm : mayL P a1 a2 b1 b2 with
    | false =>
      have e : learnP P L a1 a2 b1 b2 now = (L, [], false) := by unfold learnP; rw [hm]; rfl
      rw [e]
      have u1c := uc a1 a2
      have u2c := uc b1 b2
      cases u1 : upP P a1 a2 with
      | false =>
        rw [u1] at u1c
        repeat' (first
          | refine awp_seqK fun K' hpK => ?_
          | refine awp_block ?_
          | refine awp_condG fun A' B' hpA hpB => ?_
          | refine useK (by with_reducible assumption) ?_
          | refine useP (by with_reducible assumption) ?_
          | refine ED_cons (fun _ => ?_) ?_
          | (refine stable_mk ?_; simp (disch := first | (with_reducible assumption) | (simp; done) | omega | (simp; omega)); done)
          | (refine stable_no ?_; simp (disch := first | (with_reducible assumption) | (simp; done) | omega | (simp; omega)); done)
          | (with_reducible refine And.intro ?_ ?_)
          | (with_reducible intro hc)
          | (with_reducible refine GDsplit (fun hc => ?_) (fun hc => ?_) <;> try simp [hc])
          | (with_reducible refine GDsplitN (fun hc => ?_) (fun hc => ?_) <;> try simp [hc])
          | (with_reducible refine GDsplitNB (fun hc => ?_) (fun hc => ?_) <;> try simp [hc])
          | (with_reducible refine GDsplitB (fun hc => ?_) (fun hc => ?_) <;> try simp [hc])
          | (with_reducible refine GKsplit (fun hc => ?_) (fun hc => ?_) <;> try simp [hc])
          | (with_reducible refine GKsplitN (fun hc => ?_) (fun hc => ?_) <;> try simp [hc])
          | (with_reducible refine GKsplitNB (fun hc => ?_) (fun hc => ?_) <;> try simp [hc])
          | (with_reducible refine GKsplitB (fun hc => ?_) (fun hc => ?_) <;> try simp [hc])
          | (refine CallK.use (u1c) ?_; rintro r G' _ _ ⟨rfl, rfl⟩)
          | (refine CallK.use (awake_c _) ?_; rintro r G' _ _ ⟨rfl, rfl⟩)
          | simp (disch := first | (with_reducible assumption) | (simp; done) | omega | (simp; omega)))
        exact ends_drop (by simp <;> rfl) (by simp) (hpost _ _ ⟨rfl, rfl⟩)
      | true =>
        cases u2 : upP P b1 b2 with
        | false =>
          rw [u1] at u1c
          rw [u2] at u2c
          repeat' (first
            | refine awp_seqK fun K' hpK => ?_
            | refine awp_block ?_
            | refine awp_condG fun A' B' hpA hpB => ?_
            | refine useK (by with_reducible assumption) ?_
            | refine useP (by with_reducible assumption) ?_
            | refine ED_cons (fun _ => ?_) ?_
            | (refine stable_mk ?_; simp (disch := first | (with_reducible assumption) | (simp; done) | omega | (simp; omega)); done)
            | (refine stable_no ?_; simp (disch := first | (with_reducible assumption) | (simp; done) | omega | (simp; omega)); done)
            | (with_reducible refine And.intro ?_ ?_)
            | (with_reducible intro hc)
            | (with_reducible refine GDsplit (fun hc => ?_) (fun hc => ?_) <;> try simp [hc])
            | (with_reducible refine GDsplitN (fun hc => ?_) (fun hc => ?_) <;> try simp [hc])
            | (with_reducible refine GDsplitNB (fun hc => ?_) (fun hc => ?_) <;> try simp [hc])
            | (with_reducible refine GDsplitB (fun hc => ?_) (fun hc => ?_) <;> try simp [hc])
            | (with_reducible refine GKsplit (fun hc => ?_) (fun hc => ?_) <;> try simp [hc])
            | (with_reducible refine GKsplitN (fun hc => ?_) (fun hc => ?_) <;> try simp [hc])
            | (with_reducible refine GKsplitNB (fun hc => ?_) (fun hc => ?_) <;> try simp [hc])
            | (with_reducible refine GKsplitB (fun hc => ?_) (fun hc => ?_) <;> try simp [hc])
            | (refine CallK.use (u1c) ?_; rintro r G' _ _ ⟨rfl, rfl⟩)
            | (refine CallK.use (u2c) ?_; rintro r G' _ _ ⟨rfl, rfl⟩)
            | (refine CallK.use (awake_c _) ?_; rintro r G' _ _ ⟨rfl, rfl⟩)
            | simp (disch := first | (with_reducible assumption) | (simp; done) | omega | (simp; omega)))
          exact ends_drop (by simp <;> rfl) (by simp) (hpost _ _ ⟨rfl, rfl⟩)
        | true =>
          have hab : a1 = b1 ∧ a2 = b2 := by
            unfold mayL at hm; rw [u1, u2] at hm; simpa using hm
          obtain ⟨rfl, rfl⟩ := hab
          rw [u1] at u1c
          repeat' (first
            | refine awp_seqK fun K' hpK => ?_
            | refine awp_block ?_
            | refine awp_condG fun A' B' hpA hpB => ?_
            | refine useK (by with_reducible assumption) ?_
            | refine useP (by with_reducible assumption) ?_
            | refine ED_cons (fun _ => ?_) ?_
            | (refine stable_mk ?_; simp (disch := first | (with_reducible assumption) | (simp; done) | omega | (simp; omega)); done)
            | (refine stable_no ?_; simp (disch := first | (with_reducible assumption) | (simp; done) | omega | (simp; omega)); done)
            | (with_reducible refine And.intro ?_ ?_)
            | (with_reducible intro hc)
            | (with_reducible refine GDsplit (fun hc => ?_) (fun hc => ?_) <;> try simp [hc])
            | (with_reducible refine GDsplitN (fun hc => ?_) (fun hc => ?_) <;> try simp [hc])
            | (with_reducible refine GDsplitNB (fun hc => ?_) (fun hc => ?_) <;> try simp [hc])
            | (with_reducible refine GDsplitB (fun hc => ?_) (fun hc => ?_) <;> try simp [hc])
            | (with_reducible refine GKsplit (fun hc => ?_) (fun hc => ?_) <;> try simp [hc])
            | (with_reducible refine GKsplitN (fun hc => ?_) (fun hc => ?_) <;> try simp [hc])
            | (with_reducible refine GKsplitNB (fun hc => ?_) (fun hc => ?_) <;> try simp [hc])
            | (with_reducible refine GKsplitB (fun hc => ?_) (fun hc => ?_) <;> try simp [hc])
            | (refine CallK.use (u1c) ?_; rintro r G' _ _ ⟨rfl, rfl⟩)
            | (refine CallK.use (awake_c _) ?_; rintro r G' _ _ ⟨rfl, rfl⟩)
            | simp (disch := first | (with_reducible assumption) | (simp; done) | omega | (simp; omega)))
          exact ends_drop (by simp <;> rfl) (by simp) (hpost _ _ ⟨rfl, rfl⟩)
    | true =>
      obtain ⟨m1, m2, m3⟩ := mayL_ups hm
      have u1c := uc a1 a2
      have u2c := uc b1 b2
      rw [m2] at u1c
      rw [m3] at u2c
      have hg1 := learn_get (now := now) hJ hm
      generalize (learnP P L a1 a2 b1 b2 now).1 = L1 at *
      obtain ⟨ag1, ag2⟩ := again hJ2 hm hg1
      have lc1 := (links_c hV2 (by omega)).ext (Ext.uni (h := hr))
      have lr := learn_c (a1 := b1) (a2 := b2) (b1 := a1) (b2 := a2) (now := now) hV2 hO (by omega)
      rw [ag1] at lr
      have hJ3 := hJ2.learn (a1 := b1) (a2 := b2) (b1 := a1) (b2 := a2) (now := now) t0
      rw [ag1] at hJ3
      have hg3 : getL (setL L1 (numL (linkL a1 a2 b1 b2)) (mkS (linkL a1 a2 b1 b2) now)) (numL (linkL a1 a2 b1 b2)) = some (mkS (linkL a1 a2 b1 b2) now) := by rw [getL_set hJ2.s, if_pos rfl]
      simp only at lr hJ3
      obtain ⟨en1, en2⟩ := ends_link a1 a2 b1 b2 now
      generalize hv0 : mkS (linkL a1 a2 b1 b2) now = v at *
      generalize numL (linkL a1 a2 b1 b2) = key at *
      generalize setL L1 key v = L3 at *
      repeat' (first
        | refine awp_seqK fun K' hpK => ?_
        | refine awp_block ?_
        | refine awp_condG fun A' B' hpA hpB => ?_
        | refine useK (by with_reducible assumption) ?_
        | refine useP (by with_reducible assumption) ?_
        | refine ED_cons (fun _ => ?_) ?_
        | (refine stable_mk ?_; simp (disch := first | (with_reducible assumption) | (simp; done) | omega | (simp; omega)) [m1]; done)
        | (refine stable_no ?_; simp (disch := first | (with_reducible assumption) | (simp; done) | omega | (simp; omega)) [m1]; done)
        | (with_reducible refine And.intro ?_ ?_)
        | (with_reducible intro hc)
        | (with_reducible refine GDsplit (fun hc => ?_) (fun hc => ?_) <;> try simp [hc])
        | (with_reducible refine GDsplitN (fun hc => ?_) (fun hc => ?_) <;> try simp [hc])
        | (with_reducible refine GDsplitNB (fun hc => ?_) (fun hc => ?_) <;> try simp [hc])
        | (with_reducible refine GDsplitB (fun hc => ?_) (fun hc => ?_) <;> try simp [hc])
        | (with_reducible refine GKsplit (fun hc => ?_) (fun hc => ?_) <;> try simp [hc])
        | (with_reducible refine GKsplitN (fun hc => ?_) (fun hc => ?_) <;> try simp [hc])
        | (with_reducible refine GKsplitNB (fun hc => ?_) (fun hc => ?_) <;> try simp [hc])
        | (with_reducible refine GKsplitB (fun hc => ?_) (fun hc => ?_) <;> try simp [hc])
        | (refine CallK.use (u1c) ?_; rintro r G' _ _ ⟨rfl, rfl⟩)
        | (refine CallK.use (u2c) ?_; rintro r G' _ _ ⟨rfl, rfl⟩)
        | simp (disch := first | (with_reducible assumption) | (simp; done) | omega | (simp; omega)) [m1])
      refine CallK.use lc1 ?_
      rintro r G4 _ _ ⟨hG4, s4, rfl, hs4⟩
      subst hG4
      have hs4l : (LL s4).length = L1.length := by rw [hs4, List.length_map, List.length_map]
      repeat' (first
        | refine awp_seqK fun K' hpK => ?_
        | refine awp_block ?_
        | refine awp_condG fun A' B' hpA hpB => ?_
        | refine useK (by with_reducible assumption) ?_
        | refine useP (by with_reducible assumption) ?_
        | refine ED_cons (fun _ => ?_) ?_
        | (refine stable_mk ?_; simp (disch := first | (with_reducible assumption) | (simp; done) | omega | (simp; omega)) [hs4l]; done)
        | (refine stable_no ?_; simp (disch := first | (with_reducible assumption) | (simp; done) | omega | (simp; omega)) [hs4l]; done)
        | (with_reducible refine And.intro ?_ ?_)
        | (with_reducible intro hc)
        | (with_reducible refine GDsplit (fun hc => ?_) (fun hc => ?_) <;> try simp [hc])
        | (with_reducible refine GDsplitN (fun hc => ?_) (fun hc => ?_) <;> try simp [hc])
        | (with_reducible refine GDsplitNB (fun hc => ?_) (fun hc => ?_) <;> try simp [hc])
        | (with_reducible refine GDsplitB (fun hc => ?_) (fun hc => ?_) <;> try simp [hc])
        | (with_reducible refine GKsplit (fun hc => ?_) (fun hc => ?_) <;> try simp [hc])
        | (with_reducible refine GKsplitN (fun hc => ?_) (fun hc => ?_) <;> try simp [hc])
        | (with_reducible refine GKsplitNB (fun hc => ?_) (fun hc => ?_) <;> try simp [hc])
        | (with_reducible refine GKsplitB (fun hc => ?_) (fun hc => ?_) <;> try simp [hc])
        | simp (disch := first | (with_reducible assumption) | (simp; done) | omega | (simp; omega)) [hs4l])
      refine CallK.fl lr hdis2 ?_
      rintro r hv5 hdis5 _ _ ⟨hV5, s5, rfl, hs5⟩
      have hs5l : (LL s5).length = 0 := by rw [hs5]; rfl
      have tr : ∀ x ∈ L3, (fun _ : Int × Sn => true) x = true := fun _ _ => rfl
      have ed1 : edgeP P (L3.map Prod.snd) a1 a2 = false := by
        have := edge_at hJ3 hg3 m2 en1 (fun _ => true)
        rw [List.filter_eq_self.2 (fun _ _ => rfl)] at this; exact this
      have ed2 : edgeP P (L3.map Prod.snd) b1 b2 = false := by
        have := edge_at hJ3 hg3 m3 en2 (fun _ => true)
        rw [List.filter_eq_self.2 (fun _ _ => rfl)] at this; exact this
      have ec1 := (edge_c (sw := a1) (port := a2) hV5 hO (by omega)).ext (Ext.uni (h := hr))
      have ec2 := (edge_c (sw := b1) (port := b2) hV5 hO (by omega)).ext (Ext.uni (h := hr))
      rw [ed1] at ec1
      rw [ed2] at ec2
      repeat' (first
        | refine awp_seqK fun K' hpK => ?_
        | refine awp_block ?_
        | refine awp_condG fun A' B' hpA hpB => ?_
        | refine useK (by with_reducible assumption) ?_
        | refine useP (by with_reducible assumption) ?_
        | refine ED_cons (fun _ => ?_) ?_
        | (refine stable_mk ?_; simp (disch := first | (with_reducible assumption) | (simp; done) | omega | (simp; omega)) [hs5l]; done)
        | (refine stable_no ?_; simp (disch := first | (with_reducible assumption) | (simp; done) | omega | (simp; omega)) [hs5l]; done)
        | (with_reducible refine And.intro ?_ ?_)
        | (with_reducible intro hc)
        | (with_reducible refine GDsplit (fun hc => ?_) (fun hc => ?_) <;> try simp [hc])
        | (with_reducible refine GDsplitN (fun hc => ?_) (fun hc => ?_) <;> try simp [hc])
        | (with_reducible refine GDsplitNB (fun hc => ?_) (fun hc => ?_) <;> try simp [hc])
        | (with_reducible refine GDsplitB (fun hc => ?_) (fun hc => ?_) <;> try simp [hc])
        | (with_reducible refine GKsplit (fun hc => ?_) (fun hc => ?_) <;> try simp [hc])
        | (with_reducible refine GKsplitN (fun hc => ?_) (fun hc => ?_) <;> try simp [hc])
        | (with_reducible refine GKsplitNB (fun hc => ?_) (fun hc => ?_) <;> try simp [hc])
        | (with_reducible refine GKsplitB (fun hc => ?_) (fun hc => ?_) <;> try simp [hc])
        | simp (disch := first | (with_reducible assumption) | (simp; done) | omega | (simp; omega)) [hs5l])
      refine CallK.use ((links_c hV5 (by omega)).ext (Ext.uni (h := hr))) ?_
      rintro r G6 _ _ ⟨hG6, s6, rfl, hs6⟩
      subst hG6
      have hs6l : (LL s6).length = L1.length := by rw [hs6, List.length_map, List.length_map]; omega
      obtain ⟨qw, hqw, hw2⟩ : ∃ q : Nat, q ≤ 1023 ∧ ibits .and .i64 wait 1023 = some (q : Int) := andM (c := 1023) (by omega) wait
      obtain ⟨qm, hqm, hm2⟩ : ∃ q : Nat, q ≤ 1023 ∧ ibits .and .i64 most 1023 = some (q : Int) := andM (c := 1023) (by omega) most
      have hwr : IntKind.i64.wrap (now + qw) = now + qw := by rw [IntKind.wrap_i64]; omega
      repeat' (first
        | refine awp_seqK fun K' hpK => ?_
        | refine awp_block ?_
        | refine awp_condG fun A' B' hpA hpB => ?_
        | refine useK (by with_reducible assumption) ?_
        | refine useP (by with_reducible assumption) ?_
        | refine ED_cons (fun _ => ?_) ?_
        | (refine stable_mk ?_; simp (disch := first | (with_reducible assumption) | (simp; done) | omega | (simp; omega)) [hs6l, hw2, hm2, hwr]; done)
        | (refine stable_no ?_; simp (disch := first | (with_reducible assumption) | (simp; done) | omega | (simp; omega)) [hs6l, hw2, hm2, hwr]; done)
        | (with_reducible refine And.intro ?_ ?_)
        | (with_reducible intro hc)
        | (with_reducible refine GDsplit (fun hc => ?_) (fun hc => ?_) <;> try simp [hc])
        | (with_reducible refine GDsplitN (fun hc => ?_) (fun hc => ?_) <;> try simp [hc])
        | (with_reducible refine GDsplitNB (fun hc => ?_) (fun hc => ?_) <;> try simp [hc])
        | (with_reducible refine GDsplitB (fun hc => ?_) (fun hc => ?_) <;> try simp [hc])
        | (with_reducible refine GKsplit (fun hc => ?_) (fun hc => ?_) <;> try simp [hc])
        | (with_reducible refine GKsplitN (fun hc => ?_) (fun hc => ?_) <;> try simp [hc])
        | (with_reducible refine GKsplitNB (fun hc => ?_) (fun hc => ?_) <;> try simp [hc])
        | (with_reducible refine GKsplitB (fun hc => ?_) (fun hc => ?_) <;> try simp [hc])
        | (refine CallK.use (ec1) ?_; rintro r G' _ _ ⟨rfl, rfl⟩)
        | (refine CallK.use (ec2) ?_; rintro r G' _ _ ⟨rfl, rfl⟩)
        | simp (disch := first | (with_reducible assumption) | (simp; done) | omega | (simp; omega)) [hs6l, hw2, hm2, hwr])
      refine CallK.fl (age_c (now := now + qw) (most := qm) hV5 (by omega)) hdis5 ?_
      rintro r hv7 hdis7 _ _ ⟨hV7, s7, rfl, hs7⟩
      have eold : oldP (now + qw) qm v = decide ((qm : Int) < qw) := by
        unfold oldP
        have : v.t = now := by rw [← hv0]; rfl
        rw [this]
        have e2 : IntKind.i64.wrap (now + qw - now) = qw := by rw [IntKind.wrap_i64]; omega
        rw [e2]
      have fd1 := edge_at hJ3 hg3 m2 en1 (fun x => !oldP (now + qw) qm x)
      have fd2 := edge_at hJ3 hg3 m3 en2 (fun x => !oldP (now + qw) qm x)
      rw [eold, Bool.not_not] at fd1 fd2
      have fl : (L3.filter fun x => !oldP (now + qw) qm x.2).length ≤ 1000 := Nat.le_trans (List.length_filter_le _ _) (by omega)
      have gc1 := (edge_c (sw := a1) (port := a2) hV7 hO fl).ext (Ext.uni (h := hr))
      have gc2 := (edge_c (sw := b1) (port := b2) hV7 hO fl).ext (Ext.uni (h := hr))
      rw [fd1] at gc1
      rw [fd2] at gc2
      by_cases hlt : (qm : Int) < qw
      · rw [decide_eq_true hlt] at gc1 gc2
        repeat' (first
          | refine awp_seqK fun K' hpK => ?_
          | refine awp_block ?_
          | refine awp_condG fun A' B' hpA hpB => ?_
          | refine useK (by with_reducible assumption) ?_
          | refine useP (by with_reducible assumption) ?_
          | refine ED_cons (fun _ => ?_) ?_
          | (refine stable_mk ?_; simp (disch := first | (with_reducible assumption) | (simp; done) | omega | (simp; omega)) [hlt]; done)
          | (refine stable_no ?_; simp (disch := first | (with_reducible assumption) | (simp; done) | omega | (simp; omega)) [hlt]; done)
          | (with_reducible refine And.intro ?_ ?_)
          | (with_reducible intro hc)
          | (with_reducible refine GDsplit (fun hc => ?_) (fun hc => ?_) <;> try simp [hc])
          | (with_reducible refine GDsplitN (fun hc => ?_) (fun hc => ?_) <;> try simp [hc])
          | (with_reducible refine GDsplitNB (fun hc => ?_) (fun hc => ?_) <;> try simp [hc])
          | (with_reducible refine GDsplitB (fun hc => ?_) (fun hc => ?_) <;> try simp [hc])
          | (with_reducible refine GKsplit (fun hc => ?_) (fun hc => ?_) <;> try simp [hc])
          | (with_reducible refine GKsplitN (fun hc => ?_) (fun hc => ?_) <;> try simp [hc])
          | (with_reducible refine GKsplitNB (fun hc => ?_) (fun hc => ?_) <;> try simp [hc])
          | (with_reducible refine GKsplitB (fun hc => ?_) (fun hc => ?_) <;> try simp [hc])
          | (refine CallK.use (gc1) ?_; rintro r G' _ _ ⟨rfl, rfl⟩)
          | (refine CallK.use (gc2) ?_; rintro r G' _ _ ⟨rfl, rfl⟩)
          | (refine CallK.use (awake_c _) ?_; rintro r G' _ _ ⟨rfl, rfl⟩)
          | simp (disch := first | (with_reducible assumption) | (simp; done) | omega | (simp; omega)) [hlt])
        exact ends_drop (by simp <;> rfl) (by simp) (hpost _ _ ⟨rfl, rfl⟩)
      · rw [decide_eq_false hlt] at gc1 gc2
        repeat' (first
          | refine awp_seqK fun K' hpK => ?_
          | refine awp_block ?_
          | refine awp_condG fun A' B' hpA hpB => ?_
          | refine useK (by with_reducible assumption) ?_
          | refine useP (by with_reducible assumption) ?_
          | refine ED_cons (fun _ => ?_) ?_
          | (refine stable_mk ?_; simp (disch := first | (with_reducible assumption) | (simp; done) | omega | (simp; omega)) [hlt]; done)
          | (refine stable_no ?_; simp (disch := first | (with_reducible assumption) | (simp; done) | omega | (simp; omega)) [hlt]; done)
          | (with_reducible refine And.intro ?_ ?_)
          | (with_reducible intro hc)
          | (with_reducible refine GDsplit (fun hc => ?_) (fun hc => ?_) <;> try simp [hc])
          | (with_reducible refine GDsplitN (fun hc => ?_) (fun hc => ?_) <;> try simp [hc])
          | (with_reducible refine GDsplitNB (fun hc => ?_) (fun hc => ?_) <;> try simp [hc])
          | (with_reducible refine GDsplitB (fun hc => ?_) (fun hc => ?_) <;> try simp [hc])
          | (with_reducible refine GKsplit (fun hc => ?_) (fun hc => ?_) <;> try simp [hc])
          | (with_reducible refine GKsplitN (fun hc => ?_) (fun hc => ?_) <;> try simp [hc])
          | (with_reducible refine GKsplitNB (fun hc => ?_) (fun hc => ?_) <;> try simp [hc])
          | (with_reducible refine GKsplitB (fun hc => ?_) (fun hc => ?_) <;> try simp [hc])
          | (refine CallK.use (gc1) ?_; rintro r G' _ _ ⟨rfl, rfl⟩)
          | (refine CallK.use (gc2) ?_; rintro r G' _ _ ⟨rfl, rfl⟩)
          | (refine CallK.use (awake_c _) ?_; rintro r G' _ _ ⟨rfl, rfl⟩)
          | simp (disch := first | (with_reducible assumption) | (simp; done) | omega | (simp; omega)) [hlt])
        exact ends_drop (by simp <;> rfl) (by simp) (hpost _ _ ⟨rfl, rfl⟩)
theorem viewAgain_law (z0 : (TD.slc (.two (.int .i64) (.two (.two (.int .i64) (.two (.int .i64) .unit)) (.two (.two (.int .i64) (.two (.int .i64) .unit)) (.two (.int .i64) (.two (.int .i64) (.two (.int .i64) .unit))))))).T) (z1 z2 : (TD.two (.int .i64) (.two (.int .i64) .unit)).T) (z3 z4 : (TD.int .i64).T) (o0 : (TD.slc (.two (.int .i64) (.two (.two (.int .i64) (.two (.int .i64) .unit)) (.two (.two (.int .i64) (.two (.int .i64) .unit)) (.two (.int .i64) (.two (.int .i64) (.two (.int .i64) .unit))))))).ok z0) (o1 : (TD.two (.int .i64) (.two (.int .i64) .unit)).ok z1) (o2 : (TD.two (.int .i64) (.two (.int .i64) .unit)).ok z2) (o3 : (TD.int .i64).ok z3) (o4 : (TD.int .i64).ok z4) :
    ACalls Try.prog 4 [(TD.slc (.two (.int .i64) (.two (.two (.int .i64) (.two (.int .i64) .unit)) (.two (.two (.int .i64) (.two (.int .i64) .unit)) (.two (.int .i64) (.two (.int .i64) (.two (.int .i64) .unit))))))).av z0, (TD.two (.int .i64) (.two (.int .i64) .unit)).av z1, (TD.two (.int .i64) (.two (.int .i64) .unit)).av z2, (TD.int .i64).av z3, (TD.int .i64).av z4] emptyH fun r G' => G' = emptyH ∧ r = .bool true :=
  viewAgain_c (l := z0) (a1 := z1.1) (a2 := z1.2.1) (b1 := z2.1) (b2 := z2.2.1) (wait := z3) (most := z4) o0.1
end Go.Proofs.Ytapocekfkbkefaa
