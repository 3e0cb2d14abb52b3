import Derived.Test.YtbmlapcigkgdlaaD12K
set_option linter.unusedSimpArgs false
set_option linter.unusedVariables false
namespace Go.Proofs.Ytbmlapcigkgdlaa
open Go Go.Al
set_option maxRecDepth 20000
attribute [local irreducible] awp aops aopsD eop pv ACalls CallK AppK AEnds ti

theorem joinW_ok {w : List Cb} {a b : Pl} (h : (joinW w a b).2 = 0) : (joinW w a b).1 = w ++ [⟨a, b, 0, false⟩] ∧ a ≠ b ∧ (otherW w a).kind = 0 ∧ (otherW w b).kind = 0 := by
  unfold joinW at h ⊢
  by_cases h1 : goodP a = true ∧ goodP b = true ∧ a ≠ b
  · have hc := fun k : ¬ _ => k h1
    rw [if_neg hc] at h ⊢
    by_cases h2 : (otherW w a).kind ≠ 0 ∨ (otherW w b).kind ≠ 0
    · rw [if_pos h2] at h; cases h
    · rw [if_neg h2]
      exact ⟨rfl, h1.2.2, by simpa using fun k => h2 (.inl k), by simpa using fun k => h2 (.inr k)⟩
  · rw [if_pos h1] at h; cases h
theorem attachW_ok {w : List Cb} {ho : Int} {p : Pl} (h : (attachW w ho p).2 = 0) : (attachW w ho p).1 = w ++ [⟨p, p0, ho, true⟩] ∧ (otherW w p).kind = 0 := by
  unfold attachW at h ⊢
  by_cases h1 : 0 ≤ ho ∧ ho ≤ 15 ∧ goodP p = true
  · have hc := fun k : ¬ _ => k h1
    rw [if_neg hc] at h ⊢
    by_cases h2 : (whereW w ho).isSome = true ∨ (otherW w p).kind ≠ 0
    · rw [if_pos h2] at h; cases h
    · rw [if_neg h2]
      exact ⟨rfl, by simpa using fun k => h2 (.inr k)⟩
  · rw [if_pos h1] at h; cases h
theorem joinW_no {w : List Cb} {a b : Pl} (h : ¬ (joinW w a b).2 = 0) : (joinW w a b).1 = w := by
  unfold joinW at h ⊢
  split
  · rfl
  · rename_i h1
    rw [if_neg h1] at h
    split
    · rfl
    · rename_i h2; rw [if_neg h2] at h; exact absurd rfl h
theorem attachW_no {w : List Cb} {ho : Int} {p : Pl} (h : ¬ (attachW w ho p).2 = 0) : (attachW w ho p).1 = w := by
  unfold attachW at h ⊢
  split
  · rfl
  · rename_i h1
    rw [if_neg h1] at h
    split
    · rfl
    · rename_i h2; rw [if_neg h2] at h; exact absurd rfl h
theorem WOk.untouched {w : List Cb} (h : WOk w) {p : Pl} (hk : (otherW w p).kind = 0) : pullW w p = w := by
  unfold pullW
  rw [List.filter_eq_self]
  intro c hc
  have hn := h.none hk
  simp only [decide_eq_true_eq]
  refine ⟨?_, ?_⟩
  · rintro rfl
    cases hm : c.mach with
    | true => exact hn _ (mach_ends hc hm)
    | false => exact hn _ (List.mem_flatMap.2 ⟨c, hc, by unfold endsC; rw [if_neg (by simp [hm])]; exact List.mem_cons_self ..⟩)
  · cases hm : c.mach with
    | true => exact .inl rfl
    | false =>
      right
      rintro rfl
      exact hn _ (List.mem_flatMap.2 ⟨c, hc, by unfold endsC; rw [if_neg (by simp [hm])]; exact List.mem_cons_of_mem _ (List.mem_cons_self ..)⟩)
theorem pull_join {w : List Cb} (h : WOk w) {a b p : Pl} (hk : (otherW w p).kind = 0) (hp : p = a ∨ p = b) : pullW (w ++ [⟨a, b, 0, false⟩]) p = w := by
  have h1 := h.untouched hk
  unfold pullW at h1 ⊢
  rw [List.filter_append, h1]
  rcases hp with rfl | rfl <;> simp
theorem pull_attach {w : List Cb} (h : WOk w) {p : Pl} {ho : Int} (hk : (otherW w p).kind = 0) : pullW (w ++ [⟨p, p0, ho, true⟩]) p = w := by
  have h1 := h.untouched hk
  unfold pullW at h1 ⊢
  rw [List.filter_append, h1]
  simp
theorem other_join {w : List Cb} {a b : Pl} (h : WOk (w ++ [⟨a, b, 0, false⟩])) {p : Pl} (hp : p = a ∨ p = b) : (otherW (w ++ [⟨a, b, 0, false⟩]) p).kind = 1 := by
  have hm : ∃ e : End, e.kind = 1 ∧ (p, e) ∈ endsW (w ++ [⟨a, b, 0, false⟩]) := by
    rw [endsW_app]
    rcases hp with rfl | rfl
    · exact ⟨⟨1, b.sw, b.port, 0⟩, rfl, by simp [endsW, endsC]⟩
    · exact ⟨⟨1, a.sw, a.port, 0⟩, rfl, by simp [endsW, endsC]⟩
  obtain ⟨e, he, hm⟩ := hm
  rw [otherW_get, (nd_get h.nd).2 hm]; exact he
theorem other_attach {w : List Cb} {p : Pl} {ho : Int} (h : WOk (w ++ [⟨p, p0, ho, true⟩])) : otherW (w ++ [⟨p, p0, ho, true⟩]) p = ⟨2, 0, 0, ho⟩ := by
  have hm : (p, (⟨2, 0, 0, ho⟩ : End)) ∈ endsW (w ++ [⟨p, p0, ho, true⟩]) := by rw [endsW_app]; simp [endsW, endsC]
  rw [otherW_get, (nd_get h.nd).2 hm]; rfl

set_option maxHeartbeats 4000000 in
theorem cableUndo_c {l : Option (List ClT)} {a b : Pl} {ho : Int} {far : Bool} (hll : (LL l).length ≤ 140737488355328) : ACalls Try.prog 6 [ofS cT l, a.av, b.av, .int .i64 ho, .bool far] emptyH fun r G' => G' = emptyH ∧ r = .bool true := by
  refine ACalls.hide fun post hpost => ?_
  refine F6_in (by simp) (by simp) fun hbd => ?_
  repeat' (first
    | refine awp_seqK fun K' hpK => ?_
    | refine awp_block ?_
    | refine awp_condG fun A' B' hpA hpB => ?_
    | refine useK (by with_reducible assumption) ?_
    | refine useP (by with_reducible assumption) ?_
    | refine ED_cons (fun _ => ?_) ?_
    | (refine stable_mk ?_; simp (disch := first | (with_reducible assumption) | (simp; done) | omega | (simp; omega)); done)
    | (refine stable_no ?_; simp (disch := first | (with_reducible assumption) | (simp; done) | omega | (simp; omega)); done)
    | (with_reducible refine And.intro ?_ ?_)
    | (with_reducible intro hc)
    | (with_reducible refine GDsplit (fun hc => ?_) (fun hc => ?_) <;> try simp [hc])
    | (with_reducible refine GDsplitN (fun hc => ?_) (fun hc => ?_) <;> try simp [hc])
    | (with_reducible refine GDsplitNB (fun hc => ?_) (fun hc => ?_) <;> try simp [hc])
    | (with_reducible refine GDsplitB (fun hc => ?_) (fun hc => ?_) <;> try simp [hc])
    | (with_reducible refine GKsplit (fun hc => ?_) (fun hc => ?_) <;> try simp [hc])
    | (with_reducible refine GKsplitN (fun hc => ?_) (fun hc => ?_) <;> try simp [hc])
    | (with_reducible refine GKsplitNB (fun hc => ?_) (fun hc => ?_) <;> try simp [hc])
    | (with_reducible refine GKsplitB (fun hc => ?_) (fun hc => ?_) <;> try simp [hc])
    | (refine CallK.use (cnew_c) ?_; rintro r G' _ _ ⟨nb, rfl, hn⟩)
    | simp (disch := first | (with_reducible assumption) | (simp; done) | omega | (simp; omega)))
  refine awp_loop' (fun w T G' => ∃ (k : Nat) (L : List (Int × End)) (s : Option (List Cb)), k + w = (LL l).length ∧ NetH nb G' L ∧ Rl L (LL s) ∧ T = ofL [(3, .int .i64 ho), (4, .bool far), (6, .box [.int .i64 a.sw, .int .i64 a.port]), (7, .box [.int .i64 b.sw, .int .i64 b.port]), (11, .ptr nb 0), (12, ofS cC s), (21, ofS cT l), (22, .int .i64 (LL l).length), (23, .int .i64 k)]) (LL l).length ⟨0, [], none, by omega, hn, Rl.nil, by simp [ofS]⟩ ?_
  rintro w T G' ⟨k, L, s, hk, hnk, hR, rfl⟩ N hN
  by_cases hkl : k < (LL l).length
  · by_cases h40 : (k : Int) < 40
    · have st := step_c (x := toCl (LL l)[k]) hnk hR
      simp only [cCl] at st
      repeat' (first
        | refine awp_seqK fun K' hpK => ?_
        | refine awp_block ?_
        | refine awp_condG fun A' B' hpA hpB => ?_
        | refine useK (by with_reducible assumption) ?_
        | refine useP (by with_reducible assumption) ?_
        | refine ED_cons (fun _ => ?_) ?_
        | (refine stable_mk ?_; simp (disch := first | (with_reducible assumption) | (simp; done) | omega | (simp; omega)) [hkl, h40, ofS_idx (f := cT), cT, cCl]; done)
        | (refine stable_no ?_; simp (disch := first | (with_reducible assumption) | (simp; done) | omega | (simp; omega)) [hkl, h40, ofS_idx (f := cT), cT, cCl]; done)
        | (with_reducible refine And.intro ?_ ?_)
        | (with_reducible intro hc; try (exfalso; omega))
        | (with_reducible refine GDsplit (fun hc => ?_) (fun hc => ?_) <;> try simp [hc])
        | (with_reducible refine GDsplitN (fun hc => ?_) (fun hc => ?_) <;> try simp [hc])
        | (with_reducible refine GDsplitNB (fun hc => ?_) (fun hc => ?_) <;> try simp [hc])
        | (with_reducible refine GDsplitB (fun hc => ?_) (fun hc => ?_) <;> try simp [hc])
        | (with_reducible refine GKsplit (fun hc => ?_) (fun hc => ?_) <;> try simp [hc])
        | (with_reducible refine GKsplitN (fun hc => ?_) (fun hc => ?_) <;> try simp [hc])
        | (with_reducible refine GKsplitNB (fun hc => ?_) (fun hc => ?_) <;> try simp [hc])
        | (with_reducible refine GKsplitB (fun hc => ?_) (fun hc => ?_) <;> try simp [hc])
        | (refine CallK.use (st) ?_; rintro r G' _ _ ⟨L', s', rfl, hn', hR'⟩)
        | simp (disch := first | (with_reducible assumption) | (simp; done) | omega | (simp; omega)) [hkl, h40, ofS_idx (f := cT), cT, cCl])
      exact hN (w - 1) _ _ (by omega) ⟨k + 1, L', s', by omega, hn', hR', by simp⟩
    · repeat' (first
        | refine awp_seqK fun K' hpK => ?_
        | refine awp_block ?_
        | refine awp_condG fun A' B' hpA hpB => ?_
        | refine useK (by with_reducible assumption) ?_
        | refine useP (by with_reducible assumption) ?_
        | refine ED_cons (fun _ => ?_) ?_
        | (refine stable_mk ?_; simp (disch := first | (with_reducible assumption) | (simp; done) | omega | (simp; omega)) [hkl, h40, ofS_idx (f := cT), cT, cCl]; done)
        | (refine stable_no ?_; simp (disch := first | (with_reducible assumption) | (simp; done) | omega | (simp; omega)) [hkl, h40, ofS_idx (f := cT), cT, cCl]; done)
        | (with_reducible refine And.intro ?_ ?_)
        | (with_reducible intro hc; try (exfalso; omega))
        | (with_reducible refine GDsplit (fun hc => ?_) (fun hc => ?_) <;> try simp [hc])
        | (with_reducible refine GDsplitN (fun hc => ?_) (fun hc => ?_) <;> try simp [hc])
        | (with_reducible refine GDsplitNB (fun hc => ?_) (fun hc => ?_) <;> try simp [hc])
        | (with_reducible refine GDsplitB (fun hc => ?_) (fun hc => ?_) <;> try simp [hc])
        | (with_reducible refine GKsplit (fun hc => ?_) (fun hc => ?_) <;> try simp [hc])
        | (with_reducible refine GKsplitN (fun hc => ?_) (fun hc => ?_) <;> try simp [hc])
        | (with_reducible refine GKsplitNB (fun hc => ?_) (fun hc => ?_) <;> try simp [hc])
        | (with_reducible refine GKsplitB (fun hc => ?_) (fun hc => ?_) <;> try simp [hc])
        | simp (disch := first | (with_reducible assumption) | (simp; done) | omega | (simp; omega)) [hkl, h40, ofS_idx (f := cT), cT, cCl])
      exact hN (w - 1) _ _ (by omega) ⟨k + 1, L, s, by omega, hnk, hR, by simp⟩
  · repeat' (first
      | refine awp_seqK fun K' hpK => ?_
      | refine awp_block ?_
      | refine awp_condG fun A' B' hpA hpB => ?_
      | refine useK (by with_reducible assumption) ?_
      | refine useP (by with_reducible assumption) ?_
      | refine ED_cons (fun _ => ?_) ?_
      | (refine stable_mk ?_; simp (disch := first | (with_reducible assumption) | (simp; done) | omega | (simp; omega)) [hkl]; done)
      | (refine stable_no ?_; simp (disch := first | (with_reducible assumption) | (simp; done) | omega | (simp; omega)) [hkl]; done)
      | (with_reducible refine And.intro ?_ ?_)
      | (with_reducible intro hc; try (exfalso; omega))
      | (with_reducible refine GDsplit (fun hc => ?_) (fun hc => ?_) <;> try simp [hc])
      | (with_reducible refine GDsplitN (fun hc => ?_) (fun hc => ?_) <;> try simp [hc])
      | (with_reducible refine GDsplitNB (fun hc => ?_) (fun hc => ?_) <;> try simp [hc])
      | (with_reducible refine GDsplitB (fun hc => ?_) (fun hc => ?_) <;> try simp [hc])
      | (with_reducible refine GKsplit (fun hc => ?_) (fun hc => ?_) <;> try simp [hc])
      | (with_reducible refine GKsplitN (fun hc => ?_) (fun hc => ?_) <;> try simp [hc])
      | (with_reducible refine GKsplitNB (fun hc => ?_) (fun hc => ?_) <;> try simp [hc])
      | (with_reducible refine GKsplitB (fun hc => ?_) (fun hc => ?_) <;> try simp [hc])
      | simp (disch := first | (with_reducible assumption) | (simp; done) | omega | (simp; omega)) [hkl])
    clear hN
    have jc := joinC (a := a) (b := b) hnk hR.nok
    have hj := hR.join a b
    rw [hj.1] at jc
    refine CallK.use jc ?_
    rintro r G1 _ _ ⟨hn1, rfl⟩
    have hj2 := hj.2
    by_cases e0 : (joinW (LL s) a b).2 = 0
    · obtain ⟨ew, hab, ka, kb⟩ := joinW_ok e0
      rw [ew] at hj2
      obtain ⟨p, hp⟩ : ∃ p : Pl, (if far = true then b else a) = p := ⟨_, rfl⟩
      have hpab : p = a ∨ p = b := by rw [← hp]; split; exact .inr rfl; exact .inl rfl
      have kp : (otherW (LL s) p).kind = 0 := by rcases hpab with rfl | rfl <;> assumption
      have pc := pullC (p := p) hn1 hj2.nok
      rw [hj2.other p] at pc
      have ko := other_join hj2.2.1 hpab
      rw [decide_eq_false (by omega)] at pc
      have hR2 := hj2.pull p
      rw [pull_join hR.2.1 kp hpab] at hR2
      cases far with
      | true =>
        simp only [if_true] at hp
        subst hp
        repeat' (first
          | refine awp_seqK fun K' hpK => ?_
          | refine awp_block ?_
          | refine awp_condG fun A' B' hpA hpB => ?_
          | refine useK (by with_reducible assumption) ?_
          | refine useP (by with_reducible assumption) ?_
          | refine ED_cons (fun _ => ?_) ?_
          | (refine stable_mk ?_; simp (disch := first | (with_reducible assumption) | (simp; done) | omega | (simp; omega)) [e0]; done)
          | (refine stable_no ?_; simp (disch := first | (with_reducible assumption) | (simp; done) | omega | (simp; omega)) [e0]; done)
          | (with_reducible refine And.intro ?_ ?_)
          | (with_reducible intro hc; try (exfalso; omega))
          | (with_reducible refine GDsplit (fun hc => ?_) (fun hc => ?_) <;> try simp [hc])
          | (with_reducible refine GDsplitN (fun hc => ?_) (fun hc => ?_) <;> try simp [hc])
          | (with_reducible refine GDsplitNB (fun hc => ?_) (fun hc => ?_) <;> try simp [hc])
          | (with_reducible refine GDsplitB (fun hc => ?_) (fun hc => ?_) <;> try simp [hc])
          | (with_reducible refine GKsplit (fun hc => ?_) (fun hc => ?_) <;> try simp [hc])
          | (with_reducible refine GKsplitN (fun hc => ?_) (fun hc => ?_) <;> try simp [hc])
          | (with_reducible refine GKsplitNB (fun hc => ?_) (fun hc => ?_) <;> try simp [hc])
          | (with_reducible refine GKsplitB (fun hc => ?_) (fun hc => ?_) <;> try simp [hc])
          | (refine CallK.use (pc) ?_; rintro r G' _ _ ⟨hn2, rfl⟩)
          | (refine CallK.use (same_c hn2 hR2) ?_; rintro r G' _ _ ⟨rfl, rfl⟩)
          | simp (disch := first | (with_reducible assumption) | (simp; done) | omega | (simp; omega)) [e0])
        have ac := attachC (ho := ho) (p := a) hn2 (hR2).nok
        have ha := (hR2).attach ho a
        rw [ha.1] at ac
        have ha2 := ha.2
        by_cases f0 : (attachW (LL s) ho a).2 = 0
        · obtain ⟨ew2, ka2⟩ := attachW_ok f0
          rw [ew2] at ha2
          repeat' (first
            | refine awp_seqK fun K' hpK => ?_
            | refine awp_block ?_
            | refine awp_condG fun A' B' hpA hpB => ?_
            | refine useK (by with_reducible assumption) ?_
            | refine useP (by with_reducible assumption) ?_
            | refine ED_cons (fun _ => ?_) ?_
            | (refine stable_mk ?_; simp (disch := first | (with_reducible assumption) | (simp; done) | omega | (simp; omega)) [f0]; done)
            | (refine stable_no ?_; simp (disch := first | (with_reducible assumption) | (simp; done) | omega | (simp; omega)) [f0]; done)
            | (with_reducible refine And.intro ?_ ?_)
            | (with_reducible intro hc; try (exfalso; omega))
            | (with_reducible refine GDsplit (fun hc => ?_) (fun hc => ?_) <;> try simp [hc])
            | (with_reducible refine GDsplitN (fun hc => ?_) (fun hc => ?_) <;> try simp [hc])
            | (with_reducible refine GDsplitNB (fun hc => ?_) (fun hc => ?_) <;> try simp [hc])
            | (with_reducible refine GDsplitB (fun hc => ?_) (fun hc => ?_) <;> try simp [hc])
            | (with_reducible refine GKsplit (fun hc => ?_) (fun hc => ?_) <;> try simp [hc])
            | (with_reducible refine GKsplitN (fun hc => ?_) (fun hc => ?_) <;> try simp [hc])
            | (with_reducible refine GKsplitNB (fun hc => ?_) (fun hc => ?_) <;> try simp [hc])
            | (with_reducible refine GKsplitB (fun hc => ?_) (fun hc => ?_) <;> try simp [hc])
            | (refine CallK.use (ac) ?_; rintro r G' _ _ ⟨hn3, rfl⟩)
            | simp (disch := first | (with_reducible assumption) | (simp; done) | omega | (simp; omega)) [f0])
          have pc2 := pullC (p := a) hn3 ha2.nok
          rw [ha2.other a, other_attach ha2.2.1] at pc2
          have hR3 := ha2.pull a
          rw [pull_attach (hR2).2.1 ka2] at hR3
          repeat' (first
            | refine awp_seqK fun K' hpK => ?_
            | refine awp_block ?_
            | refine awp_condG fun A' B' hpA hpB => ?_
            | refine useK (by with_reducible assumption) ?_
            | refine useP (by with_reducible assumption) ?_
            | refine ED_cons (fun _ => ?_) ?_
            | (refine stable_mk ?_; simp (disch := first | (with_reducible assumption) | (simp; done) | omega | (simp; omega)); done)
            | (refine stable_no ?_; simp (disch := first | (with_reducible assumption) | (simp; done) | omega | (simp; omega)); done)
            | (with_reducible refine And.intro ?_ ?_)
            | (with_reducible intro hc; try (exfalso; omega))
            | (with_reducible refine GDsplit (fun hc => ?_) (fun hc => ?_) <;> try simp [hc])
            | (with_reducible refine GDsplitN (fun hc => ?_) (fun hc => ?_) <;> try simp [hc])
            | (with_reducible refine GDsplitNB (fun hc => ?_) (fun hc => ?_) <;> try simp [hc])
            | (with_reducible refine GDsplitB (fun hc => ?_) (fun hc => ?_) <;> try simp [hc])
            | (with_reducible refine GKsplit (fun hc => ?_) (fun hc => ?_) <;> try simp [hc])
            | (with_reducible refine GKsplitN (fun hc => ?_) (fun hc => ?_) <;> try simp [hc])
            | (with_reducible refine GKsplitNB (fun hc => ?_) (fun hc => ?_) <;> try simp [hc])
            | (with_reducible refine GKsplitB (fun hc => ?_) (fun hc => ?_) <;> try simp [hc])
            | (refine CallK.use (pc2) ?_; rintro r G' _ _ ⟨hn4, rfl⟩)
            | (refine CallK.use (same_c hn4 hR3) ?_; rintro r G' _ _ ⟨rfl, rfl⟩)
            | (refine CallK.use (awake_c _) ?_; rintro r G' _ _ ⟨rfl, rfl⟩)
            | simp (disch := first | (with_reducible assumption) | (simp; done) | omega | (simp; omega)))
          exact ends_drop (by simp <;> rfl) (by simp) (hpost _ _ ⟨rfl, rfl⟩)
        · rw [attachW_no f0] at ha2
          repeat' (first
            | refine awp_seqK fun K' hpK => ?_
            | refine awp_block ?_
            | refine awp_condG fun A' B' hpA hpB => ?_
            | refine useK (by with_reducible assumption) ?_
            | refine useP (by with_reducible assumption) ?_
            | refine ED_cons (fun _ => ?_) ?_
            | (refine stable_mk ?_; simp (disch := first | (with_reducible assumption) | (simp; done) | omega | (simp; omega)) [f0]; done)
            | (refine stable_no ?_; simp (disch := first | (with_reducible assumption) | (simp; done) | omega | (simp; omega)) [f0]; done)
            | (with_reducible refine And.intro ?_ ?_)
            | (with_reducible intro hc; try (exfalso; omega))
            | (with_reducible refine GDsplit (fun hc => ?_) (fun hc => ?_) <;> try simp [hc])
            | (with_reducible refine GDsplitN (fun hc => ?_) (fun hc => ?_) <;> try simp [hc])
            | (with_reducible refine GDsplitNB (fun hc => ?_) (fun hc => ?_) <;> try simp [hc])
            | (with_reducible refine GDsplitB (fun hc => ?_) (fun hc => ?_) <;> try simp [hc])
            | (with_reducible refine GKsplit (fun hc => ?_) (fun hc => ?_) <;> try simp [hc])
            | (with_reducible refine GKsplitN (fun hc => ?_) (fun hc => ?_) <;> try simp [hc])
            | (with_reducible refine GKsplitNB (fun hc => ?_) (fun hc => ?_) <;> try simp [hc])
            | (with_reducible refine GKsplitB (fun hc => ?_) (fun hc => ?_) <;> try simp [hc])
            | (refine CallK.use (ac) ?_; rintro r G' _ _ ⟨hn3, rfl⟩)
            | (refine CallK.use (same_c hn3 ha2) ?_; rintro r G' _ _ ⟨rfl, rfl⟩)
            | (refine CallK.use (awake_c _) ?_; rintro r G' _ _ ⟨rfl, rfl⟩)
            | simp (disch := first | (with_reducible assumption) | (simp; done) | omega | (simp; omega)) [f0])
          exact ends_drop (by simp <;> rfl) (by simp) (hpost _ _ ⟨rfl, rfl⟩)
      | false =>
        simp only [Bool.false_eq_true, if_false] at hp
        subst hp
        repeat' (first
          | refine awp_seqK fun K' hpK => ?_
          | refine awp_block ?_
          | refine awp_condG fun A' B' hpA hpB => ?_
          | refine useK (by with_reducible assumption) ?_
          | refine useP (by with_reducible assumption) ?_
          | refine ED_cons (fun _ => ?_) ?_
          | (refine stable_mk ?_; simp (disch := first | (with_reducible assumption) | (simp; done) | omega | (simp; omega)) [e0]; done)
          | (refine stable_no ?_; simp (disch := first | (with_reducible assumption) | (simp; done) | omega | (simp; omega)) [e0]; done)
          | (with_reducible refine And.intro ?_ ?_)
          | (with_reducible intro hc; try (exfalso; omega))
          | (with_reducible refine GDsplit (fun hc => ?_) (fun hc => ?_) <;> try simp [hc])
          | (with_reducible refine GDsplitN (fun hc => ?_) (fun hc => ?_) <;> try simp [hc])
          | (with_reducible refine GDsplitNB (fun hc => ?_) (fun hc => ?_) <;> try simp [hc])
          | (with_reducible refine GDsplitB (fun hc => ?_) (fun hc => ?_) <;> try simp [hc])
          | (with_reducible refine GKsplit (fun hc => ?_) (fun hc => ?_) <;> try simp [hc])
          | (with_reducible refine GKsplitN (fun hc => ?_) (fun hc => ?_) <;> try simp [hc])
          | (with_reducible refine GKsplitNB (fun hc => ?_) (fun hc => ?_) <;> try simp [hc])
          | (with_reducible refine GKsplitB (fun hc => ?_) (fun hc => ?_) <;> try simp [hc])
          | (refine CallK.use (pc) ?_; rintro r G' _ _ ⟨hn2, rfl⟩)
          | (refine CallK.use (same_c hn2 hR2) ?_; rintro r G' _ _ ⟨rfl, rfl⟩)
          | simp (disch := first | (with_reducible assumption) | (simp; done) | omega | (simp; omega)) [e0])
        have ac := attachC (ho := ho) (p := a) hn2 (hR2).nok
        have ha := (hR2).attach ho a
        rw [ha.1] at ac
        have ha2 := ha.2
        by_cases f0 : (attachW (LL s) ho a).2 = 0
        · obtain ⟨ew2, ka2⟩ := attachW_ok f0
          rw [ew2] at ha2
          repeat' (first
            | refine awp_seqK fun K' hpK => ?_
            | refine awp_block ?_
            | refine awp_condG fun A' B' hpA hpB => ?_
            | refine useK (by with_reducible assumption) ?_
            | refine useP (by with_reducible assumption) ?_
            | refine ED_cons (fun _ => ?_) ?_
            | (refine stable_mk ?_; simp (disch := first | (with_reducible assumption) | (simp; done) | omega | (simp; omega)) [f0]; done)
            | (refine stable_no ?_; simp (disch := first | (with_reducible assumption) | (simp; done) | omega | (simp; omega)) [f0]; done)
            | (with_reducible refine And.intro ?_ ?_)
            | (with_reducible intro hc; try (exfalso; omega))
            | (with_reducible refine GDsplit (fun hc => ?_) (fun hc => ?_) <;> try simp [hc])
            | (with_reducible refine GDsplitN (fun hc => ?_) (fun hc => ?_) <;> try simp [hc])
            | (with_reducible refine GDsplitNB (fun hc => ?_) (fun hc => ?_) <;> try simp [hc])
            | (with_reducible refine GDsplitB (fun hc => ?_) (fun hc => ?_) <;> try simp [hc])
            | (with_reducible refine GKsplit (fun hc => ?_) (fun hc => ?_) <;> try simp [hc])
            | (with_reducible refine GKsplitN (fun hc => ?_) (fun hc => ?_) <;> try simp [hc])
            | (with_reducible refine GKsplitNB (fun hc => ?_) (fun hc => ?_) <;> try simp [hc])
            | (with_reducible refine GKsplitB (fun hc => ?_) (fun hc => ?_) <;> try simp [hc])
            | (refine CallK.use (ac) ?_; rintro r G' _ _ ⟨hn3, rfl⟩)
            | simp (disch := first | (with_reducible assumption) | (simp; done) | omega | (simp; omega)) [f0])
          have pc2 := pullC (p := a) hn3 ha2.nok
          rw [ha2.other a, other_attach ha2.2.1] at pc2
          have hR3 := ha2.pull a
          rw [pull_attach (hR2).2.1 ka2] at hR3
          repeat' (first
            | refine awp_seqK fun K' hpK => ?_
            | refine awp_block ?_
            | refine awp_condG fun A' B' hpA hpB => ?_
            | refine useK (by with_reducible assumption) ?_
            | refine useP (by with_reducible assumption) ?_
            | refine ED_cons (fun _ => ?_) ?_
            | (refine stable_mk ?_; simp (disch := first | (with_reducible assumption) | (simp; done) | omega | (simp; omega)); done)
            | (refine stable_no ?_; simp (disch := first | (with_reducible assumption) | (simp; done) | omega | (simp; omega)); done)
            | (with_reducible refine And.intro ?_ ?_)
            | (with_reducible intro hc; try (exfalso; omega))
            | (with_reducible refine GDsplit (fun hc => ?_) (fun hc => ?_) <;> try simp [hc])
            | (with_reducible refine GDsplitN (fun hc => ?_) (fun hc => ?_) <;> try simp [hc])
            | (with_reducible refine GDsplitNB (fun hc => ?_) (fun hc => ?_) <;> try simp [hc])
            | (with_reducible refine GDsplitB (fun hc => ?_) (fun hc => ?_) <;> try simp [hc])
            | (with_reducible refine GKsplit (fun hc => ?_) (fun hc => ?_) <;> try simp [hc])
            | (with_reducible refine GKsplitN (fun hc => ?_) (fun hc => ?_) <;> try simp [hc])
            | (with_reducible refine GKsplitNB (fun hc => ?_) (fun hc => ?_) <;> try simp [hc])
            | (with_reducible refine GKsplitB (fun hc => ?_) (fun hc => ?_) <;> try simp [hc])
            | (refine CallK.use (pc2) ?_; rintro r G' _ _ ⟨hn4, rfl⟩)
            | (refine CallK.use (same_c hn4 hR3) ?_; rintro r G' _ _ ⟨rfl, rfl⟩)
            | (refine CallK.use (awake_c _) ?_; rintro r G' _ _ ⟨rfl, rfl⟩)
            | simp (disch := first | (with_reducible assumption) | (simp; done) | omega | (simp; omega)))
          exact ends_drop (by simp <;> rfl) (by simp) (hpost _ _ ⟨rfl, rfl⟩)
        · rw [attachW_no f0] at ha2
          repeat' (first
            | refine awp_seqK fun K' hpK => ?_
            | refine awp_block ?_
            | refine awp_condG fun A' B' hpA hpB => ?_
            | refine useK (by with_reducible assumption) ?_
            | refine useP (by with_reducible assumption) ?_
            | refine ED_cons (fun _ => ?_) ?_
            | (refine stable_mk ?_; simp (disch := first | (with_reducible assumption) | (simp; done) | omega | (simp; omega)) [f0]; done)
            | (refine stable_no ?_; simp (disch := first | (with_reducible assumption) | (simp; done) | omega | (simp; omega)) [f0]; done)
            | (with_reducible refine And.intro ?_ ?_)
            | (with_reducible intro hc; try (exfalso; omega))
            | (with_reducible refine GDsplit (fun hc => ?_) (fun hc => ?_) <;> try simp [hc])
            | (with_reducible refine GDsplitN (fun hc => ?_) (fun hc => ?_) <;> try simp [hc])
            | (with_reducible refine GDsplitNB (fun hc => ?_) (fun hc => ?_) <;> try simp [hc])
            | (with_reducible refine GDsplitB (fun hc => ?_) (fun hc => ?_) <;> try simp [hc])
            | (with_reducible refine GKsplit (fun hc => ?_) (fun hc => ?_) <;> try simp [hc])
            | (with_reducible refine GKsplitN (fun hc => ?_) (fun hc => ?_) <;> try simp [hc])
            | (with_reducible refine GKsplitNB (fun hc => ?_) (fun hc => ?_) <;> try simp [hc])
            | (with_reducible refine GKsplitB (fun hc => ?_) (fun hc => ?_) <;> try simp [hc])
            | (refine CallK.use (ac) ?_; rintro r G' _ _ ⟨hn3, rfl⟩)
            | (refine CallK.use (same_c hn3 ha2) ?_; rintro r G' _ _ ⟨rfl, rfl⟩)
            | (refine CallK.use (awake_c _) ?_; rintro r G' _ _ ⟨rfl, rfl⟩)
            | simp (disch := first | (with_reducible assumption) | (simp; done) | omega | (simp; omega)) [f0])
          exact ends_drop (by simp <;> rfl) (by simp) (hpost _ _ ⟨rfl, rfl⟩)
    · rw [joinW_no e0] at hj2
      repeat' (first
        | refine awp_seqK fun K' hpK => ?_
        | refine awp_block ?_
        | refine awp_condG fun A' B' hpA hpB => ?_
        | refine useK (by with_reducible assumption) ?_
        | refine useP (by with_reducible assumption) ?_
        | refine ED_cons (fun _ => ?_) ?_
        | (refine stable_mk ?_; simp (disch := first | (with_reducible assumption) | (simp; done) | omega | (simp; omega)) [e0]; done)
        | (refine stable_no ?_; simp (disch := first | (with_reducible assumption) | (simp; done) | omega | (simp; omega)) [e0]; done)
        | (with_reducible refine And.intro ?_ ?_)
        | (with_reducible intro hc; try (exfalso; omega))
        | (with_reducible refine GDsplit (fun hc => ?_) (fun hc => ?_) <;> try simp [hc])
        | (with_reducible refine GDsplitN (fun hc => ?_) (fun hc => ?_) <;> try simp [hc])
        | (with_reducible refine GDsplitNB (fun hc => ?_) (fun hc => ?_) <;> try simp [hc])
        | (with_reducible refine GDsplitB (fun hc => ?_) (fun hc => ?_) <;> try simp [hc])
        | (with_reducible refine GKsplit (fun hc => ?_) (fun hc => ?_) <;> try simp [hc])
        | (with_reducible refine GKsplitN (fun hc => ?_) (fun hc => ?_) <;> try simp [hc])
        | (with_reducible refine GKsplitNB (fun hc => ?_) (fun hc => ?_) <;> try simp [hc])
        | (with_reducible refine GKsplitB (fun hc => ?_) (fun hc => ?_) <;> try simp [hc])
        | simp (disch := first | (with_reducible assumption) | (simp; done) | omega | (simp; omega)) [e0])
      have ac := attachC (ho := ho) (p := a) hn1 (hj2).nok
      have ha := (hj2).attach ho a
      rw [ha.1] at ac
      have ha2 := ha.2
      by_cases f0 : (attachW (LL s) ho a).2 = 0
      · obtain ⟨ew2, ka2⟩ := attachW_ok f0
        rw [ew2] at ha2
        repeat' (first
          | refine awp_seqK fun K' hpK => ?_
          | refine awp_block ?_
          | refine awp_condG fun A' B' hpA hpB => ?_
          | refine useK (by with_reducible assumption) ?_
          | refine useP (by with_reducible assumption) ?_
          | refine ED_cons (fun _ => ?_) ?_
          | (refine stable_mk ?_; simp (disch := first | (with_reducible assumption) | (simp; done) | omega | (simp; omega)) [f0]; done)
          | (refine stable_no ?_; simp (disch := first | (with_reducible assumption) | (simp; done) | omega | (simp; omega)) [f0]; done)
          | (with_reducible refine And.intro ?_ ?_)
          | (with_reducible intro hc; try (exfalso; omega))
          | (with_reducible refine GDsplit (fun hc => ?_) (fun hc => ?_) <;> try simp [hc])
          | (with_reducible refine GDsplitN (fun hc => ?_) (fun hc => ?_) <;> try simp [hc])
          | (with_reducible refine GDsplitNB (fun hc => ?_) (fun hc => ?_) <;> try simp [hc])
          | (with_reducible refine GDsplitB (fun hc => ?_) (fun hc => ?_) <;> try simp [hc])
          | (with_reducible refine GKsplit (fun hc => ?_) (fun hc => ?_) <;> try simp [hc])
          | (with_reducible refine GKsplitN (fun hc => ?_) (fun hc => ?_) <;> try simp [hc])
          | (with_reducible refine GKsplitNB (fun hc => ?_) (fun hc => ?_) <;> try simp [hc])
          | (with_reducible refine GKsplitB (fun hc => ?_) (fun hc => ?_) <;> try simp [hc])
          | (refine CallK.use (ac) ?_; rintro r G' _ _ ⟨hn3, rfl⟩)
          | simp (disch := first | (with_reducible assumption) | (simp; done) | omega | (simp; omega)) [f0])
        have pc2 := pullC (p := a) hn3 ha2.nok
        rw [ha2.other a, other_attach ha2.2.1] at pc2
        have hR3 := ha2.pull a
        rw [pull_attach (hj2).2.1 ka2] at hR3
        repeat' (first
          | refine awp_seqK fun K' hpK => ?_
          | refine awp_block ?_
          | refine awp_condG fun A' B' hpA hpB => ?_
          | refine useK (by with_reducible assumption) ?_
          | refine useP (by with_reducible assumption) ?_
          | refine ED_cons (fun _ => ?_) ?_
          | (refine stable_mk ?_; simp (disch := first | (with_reducible assumption) | (simp; done) | omega | (simp; omega)); done)
          | (refine stable_no ?_; simp (disch := first | (with_reducible assumption) | (simp; done) | omega | (simp; omega)); done)
          | (with_reducible refine And.intro ?_ ?_)
          | (with_reducible intro hc; try (exfalso; omega))
          | (with_reducible refine GDsplit (fun hc => ?_) (fun hc => ?_) <;> try simp [hc])
          | (with_reducible refine GDsplitN (fun hc => ?_) (fun hc => ?_) <;> try simp [hc])
          | (with_reducible refine GDsplitNB (fun hc => ?_) (fun hc => ?_) <;> try simp [hc])
          | (with_reducible refine GDsplitB (fun hc => ?_) (fun hc => ?_) <;> try simp [hc])
          | (with_reducible refine GKsplit (fun hc => ?_) (fun hc => ?_) <;> try simp [hc])
          | (with_reducible refine GKsplitN (fun hc => ?_) (fun hc => ?_) <;> try simp [hc])
          | (with_reducible refine GKsplitNB (fun hc => ?_) (fun hc => ?_) <;> try simp [hc])
          | (with_reducible refine GKsplitB (fun hc => ?_) (fun hc => ?_) <;> try simp [hc])
          | (refine CallK.use (pc2) ?_; rintro r G' _ _ ⟨hn4, rfl⟩)
          | (refine CallK.use (same_c hn4 hR3) ?_; rintro r G' _ _ ⟨rfl, rfl⟩)
          | (refine CallK.use (awake_c _) ?_; rintro r G' _ _ ⟨rfl, rfl⟩)
          | simp (disch := first | (with_reducible assumption) | (simp; done) | omega | (simp; omega)))
        exact ends_drop (by simp <;> rfl) (by simp) (hpost _ _ ⟨rfl, rfl⟩)
      · rw [attachW_no f0] at ha2
        repeat' (first
          | refine awp_seqK fun K' hpK => ?_
          | refine awp_block ?_
          | refine awp_condG fun A' B' hpA hpB => ?_
          | refine useK (by with_reducible assumption) ?_
          | refine useP (by with_reducible assumption) ?_
          | refine ED_cons (fun _ => ?_) ?_
          | (refine stable_mk ?_; simp (disch := first | (with_reducible assumption) | (simp; done) | omega | (simp; omega)) [f0]; done)
          | (refine stable_no ?_; simp (disch := first | (with_reducible assumption) | (simp; done) | omega | (simp; omega)) [f0]; done)
          | (with_reducible refine And.intro ?_ ?_)
          | (with_reducible intro hc; try (exfalso; omega))
          | (with_reducible refine GDsplit (fun hc => ?_) (fun hc => ?_) <;> try simp [hc])
          | (with_reducible refine GDsplitN (fun hc => ?_) (fun hc => ?_) <;> try simp [hc])
          | (with_reducible refine GDsplitNB (fun hc => ?_) (fun hc => ?_) <;> try simp [hc])
          | (with_reducible refine GDsplitB (fun hc => ?_) (fun hc => ?_) <;> try simp [hc])
          | (with_reducible refine GKsplit (fun hc => ?_) (fun hc => ?_) <;> try simp [hc])
          | (with_reducible refine GKsplitN (fun hc => ?_) (fun hc => ?_) <;> try simp [hc])
          | (with_reducible refine GKsplitNB (fun hc => ?_) (fun hc => ?_) <;> try simp [hc])
          | (with_reducible refine GKsplitB (fun hc => ?_) (fun hc => ?_) <;> try simp [hc])
          | (refine CallK.use (ac) ?_; rintro r G' _ _ ⟨hn3, rfl⟩)
          | (refine CallK.use (same_c hn3 ha2) ?_; rintro r G' _ _ ⟨rfl, rfl⟩)
          | (refine CallK.use (awake_c _) ?_; rintro r G' _ _ ⟨rfl, rfl⟩)
          | simp (disch := first | (with_reducible assumption) | (simp; done) | omega | (simp; omega)) [f0])
        exact ends_drop (by simp <;> rfl) (by simp) (hpost _ _ ⟨rfl, rfl⟩)

theorem cableUndo_law (z0 : (TD.slc (.two (.int .i64) (.two (.two (.int .i64) (.two (.int .i64) .unit)) (.two (.two (.int .i64) (.two (.int .i64) .unit)) (.two (.int .i64) .unit))))).T) (z1 z2 : (TD.two (.int .i64) (.two (.int .i64) .unit)).T) (z3 : (TD.int .i64).T) (z4 : TD.bool.T) (o0 : (TD.slc (.two (.int .i64) (.two (.two (.int .i64) (.two (.int .i64) .unit)) (.two (.two (.int .i64) (.two (.int .i64) .unit)) (.two (.int .i64) .unit))))).ok z0) (_ : (TD.two (.int .i64) (.two (.int .i64) .unit)).ok z1) (_ : (TD.two (.int .i64) (.two (.int .i64) .unit)).ok z2) (_ : (TD.int .i64).ok z3) (_ : TD.bool.ok z4) :
    ACalls Try.prog 6 [(TD.slc (.two (.int .i64) (.two (.two (.int .i64) (.two (.int .i64) .unit)) (.two (.two (.int .i64) (.two (.int .i64) .unit)) (.two (.int .i64) .unit))))).av z0, (TD.two (.int .i64) (.two (.int .i64) .unit)).av z1, (TD.two (.int .i64) (.two (.int .i64) .unit)).av z2, (TD.int .i64).av z3, TD.bool.av z4] emptyH fun r G' => G' = emptyH ∧ r = .bool true :=
  cableUndo_c (l := z0) (a := ⟨z1.1, z1.2.1⟩) (b := ⟨z2.1, z2.2.1⟩) o0.1
end Go.Proofs.Ytbmlapcigkgdlaa
