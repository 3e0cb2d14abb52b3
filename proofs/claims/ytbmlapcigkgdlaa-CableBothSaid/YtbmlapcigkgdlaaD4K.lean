import Derived.Test.YtbmlapcigkgdlaaD3K
set_option linter.unusedSimpArgs false
set_option linter.unusedVariables false
namespace Go.Proofs.Ytbmlapcigkgdlaa
open Go Go.Al
set_option maxRecDepth 20000
attribute [local irreducible] awp aops aopsD eop pv ACalls CallK AppK AEnds ti

def joinW (w : List Cb) (a b : Pl) : List Cb × Int := if ¬ (goodP a = true ∧ goodP b = true ∧ a ≠ b) then (w, 1) else if (otherW w a).kind ≠ 0 ∨ (otherW w b).kind ≠ 0 then (w, 3) else (w ++ [⟨a, b, 0, false⟩], 0)
def attachW (w : List Cb) (h : Int) (p : Pl) : List Cb × Int := if ¬ (0 ≤ h ∧ h ≤ 15 ∧ goodP p = true) then (w, 1) else if (whereW w h).isSome = true ∨ (otherW w p).kind ≠ 0 then (w, 3) else (w ++ [⟨p, p0, h, true⟩], 0)
def pullW (w : List Cb) (p : Pl) : List Cb := w.filter fun c => decide (c.a ≠ p ∧ (c.mach = true ∨ c.b ≠ p))

set_option maxHeartbeats 4000000 in
theorem joinR_c {s : Option (List Cb)} {a b : Pl} {G : Hp} (hl : (LL s).length ≤ 1000000) : ACalls Try.prog 18 [ofS cC s, a.av, b.av] G fun r G' => G' = G ∧ ∃ s', r = .tup [ofS cC s', .int .i64 (joinW (LL s) a b).2] ∧ LL s' = (joinW (LL s) a b).1 := by
  have ga := fun G => goodR (p := a) (G := G)
  have gb := fun G => goodR (p := b) (G := G)
  have oa := fun G => otherR_c (s := s) (p := a) (G := G) hl
  have ob := fun G => otherR_c (s := s) (p := b) (G := G) hl
  by_cases h1 : goodP a = true ∧ goodP b = true ∧ a ≠ b
  · obtain ⟨h2, h3, h4⟩ := h1
    rw [h2] at ga
    rw [h3] at gb
    by_cases hka : (otherW (LL s) a).kind = 0
    · by_cases hkb : (otherW (LL s) b).kind = 0
      · have e : joinW (LL s) a b = (LL s ++ [⟨a, b, 0, false⟩], 0) := by unfold joinW; rw [if_neg (by simp [h2, h3, h4]), if_neg (by simp [hka, hkb])]
        rw [e]
        refine ACalls.hide fun post hpost => ?_
        refine F18_in (by simp) (by simp) fun hbd => ?_
        repeat' (first
          | refine awp_seqK fun K' hpK => ?_
          | refine awp_block ?_
          | refine awp_condG fun A' B' hpA hpB => ?_
          | refine useK (by with_reducible assumption) ?_
          | refine useP (by with_reducible assumption) ?_
          | refine ED_cons (fun _ => ?_) ?_
          | (refine stable_mk ?_; simp (disch := first | (with_reducible assumption) | (simp; done) | omega | (simp; omega)) [h4, hka, hkb]; done)
          | (refine stable_no ?_; simp (disch := first | (with_reducible assumption) | (simp; done) | omega | (simp; omega)) [h4, hka, hkb]; done)
          | (with_reducible refine And.intro ?_ ?_)
          | (with_reducible intro hc; try (exfalso; omega))
          | (with_reducible refine GDsplit (fun hc => ?_) (fun hc => ?_) <;> try simp [hc])
          | (with_reducible refine GDsplitN (fun hc => ?_) (fun hc => ?_) <;> try simp [hc])
          | (with_reducible refine GDsplitNB (fun hc => ?_) (fun hc => ?_) <;> try simp [hc])
          | (with_reducible refine GDsplitB (fun hc => ?_) (fun hc => ?_) <;> try simp [hc])
          | (with_reducible refine GKsplit (fun hc => ?_) (fun hc => ?_) <;> try simp [hc])
          | (with_reducible refine GKsplitN (fun hc => ?_) (fun hc => ?_) <;> try simp [hc])
          | (with_reducible refine GKsplitNB (fun hc => ?_) (fun hc => ?_) <;> try simp [hc])
          | (with_reducible refine GKsplitB (fun hc => ?_) (fun hc => ?_) <;> try simp [hc])
          | (refine CallK.use (ga _) ?_; rintro r G' _ _ ⟨rfl, rfl⟩)
          | (refine CallK.use (gb _) ?_; rintro r G' _ _ ⟨rfl, rfl⟩)
          | (refine CallK.use (oa _) ?_; rintro r G' _ _ ⟨rfl, rfl⟩)
          | (refine CallK.use (ob _) ?_; rintro r G' _ _ ⟨rfl, rfl⟩)
          | simp (disch := first | (with_reducible assumption) | (simp; done) | omega | (simp; omega)) [h4, hka, hkb])
        intro c hc
        refine ⟨0, ?_⟩
        repeat' (first
          | refine awp_seqK fun K' hpK => ?_
          | refine awp_block ?_
          | refine awp_condG fun A' B' hpA hpB => ?_
          | refine useK (by with_reducible assumption) ?_
          | refine useP (by with_reducible assumption) ?_
          | refine ED_cons (fun _ => ?_) ?_
          | (refine stable_mk ?_; simp (disch := first | (with_reducible assumption) | (simp; done) | omega | (simp; omega)); done)
          | (refine stable_no ?_; simp (disch := first | (with_reducible assumption) | (simp; done) | omega | (simp; omega)); done)
          | (with_reducible refine And.intro ?_ ?_)
          | (with_reducible intro hc; try (exfalso; omega))
          | (with_reducible refine GDsplit (fun hc => ?_) (fun hc => ?_) <;> try simp [hc])
          | (with_reducible refine GDsplitN (fun hc => ?_) (fun hc => ?_) <;> try simp [hc])
          | (with_reducible refine GDsplitNB (fun hc => ?_) (fun hc => ?_) <;> try simp [hc])
          | (with_reducible refine GDsplitB (fun hc => ?_) (fun hc => ?_) <;> try simp [hc])
          | (with_reducible refine GKsplit (fun hc => ?_) (fun hc => ?_) <;> try simp [hc])
          | (with_reducible refine GKsplitN (fun hc => ?_) (fun hc => ?_) <;> try simp [hc])
          | (with_reducible refine GKsplitNB (fun hc => ?_) (fun hc => ?_) <;> try simp [hc])
          | (with_reducible refine GKsplitB (fun hc => ?_) (fun hc => ?_) <;> try simp [hc])
          | simp (disch := first | (with_reducible assumption) | (simp; done) | omega | (simp; omega)))
        refine Grow.app (f := cC) (xs := LL s) (Grow.fresh hc) (ofS_src (by simp)) (flat_scal (by simp [cC]) _) (by simp [LIM]; omega) (fun v2 G2 hg2 => ?_)
        have hv2 := hg2.plain
        repeat' (first
          | refine awp_seqK fun K' hpK => ?_
          | refine awp_block ?_
          | refine awp_condG fun A' B' hpA hpB => ?_
          | refine useK (by with_reducible assumption) ?_
          | refine useP (by with_reducible assumption) ?_
          | refine ED_cons (fun _ => ?_) ?_
          | (refine stable_mk ?_; simp (disch := first | (with_reducible assumption) | (simp; done) | omega | (simp; omega)) [hv2]; done)
          | (refine stable_no ?_; simp (disch := first | (with_reducible assumption) | (simp; done) | omega | (simp; omega)) [hv2]; done)
          | (with_reducible refine And.intro ?_ ?_)
          | (with_reducible intro hc)
          | (with_reducible refine GDsplit (fun hc => ?_) (fun hc => ?_) <;> try simp [hc])
          | (with_reducible refine GDsplitN (fun hc => ?_) (fun hc => ?_) <;> try simp [hc])
          | (with_reducible refine GDsplitNB (fun hc => ?_) (fun hc => ?_) <;> try simp [hc])
          | (with_reducible refine GDsplitB (fun hc => ?_) (fun hc => ?_) <;> try simp [hc])
          | (with_reducible refine GKsplit (fun hc => ?_) (fun hc => ?_) <;> try simp [hc])
          | (with_reducible refine GKsplitN (fun hc => ?_) (fun hc => ?_) <;> try simp [hc])
          | (with_reducible refine GKsplitNB (fun hc => ?_) (fun hc => ?_) <;> try simp [hc])
          | (with_reducible refine GKsplitB (fun hc => ?_) (fun hc => ?_) <;> try simp [hc])
          | simp (disch := first | (with_reducible assumption) | (simp; done) | omega | (simp; omega)) [hv2])
        refine hg2.app1 (x := ⟨a, b, 0, false⟩) (by simp [cC]) (by simp [cC]) (by simp [LIM]; omega) (fun v3 G3 hg3 => ?_)
        have hv3 := hg3.plain
        repeat' (first
          | refine awp_seqK fun K' hpK => ?_
          | refine awp_block ?_
          | refine awp_condG fun A' B' hpA hpB => ?_
          | refine useK (by with_reducible assumption) ?_
          | refine useP (by with_reducible assumption) ?_
          | refine ED_cons (fun _ => ?_) ?_
          | (refine stable_mk ?_; simp (disch := first | (with_reducible assumption) | (simp; done) | omega | (simp; omega)) [hv3]; done)
          | (refine stable_no ?_; simp (disch := first | (with_reducible assumption) | (simp; done) | omega | (simp; omega)) [hv3]; done)
          | (with_reducible refine And.intro ?_ ?_)
          | (with_reducible intro hc)
          | (with_reducible refine GDsplit (fun hc => ?_) (fun hc => ?_) <;> try simp [hc])
          | (with_reducible refine GDsplitN (fun hc => ?_) (fun hc => ?_) <;> try simp [hc])
          | (with_reducible refine GDsplitNB (fun hc => ?_) (fun hc => ?_) <;> try simp [hc])
          | (with_reducible refine GDsplitB (fun hc => ?_) (fun hc => ?_) <;> try simp [hc])
          | (with_reducible refine GKsplit (fun hc => ?_) (fun hc => ?_) <;> try simp [hc])
          | (with_reducible refine GKsplitN (fun hc => ?_) (fun hc => ?_) <;> try simp [hc])
          | (with_reducible refine GKsplitNB (fun hc => ?_) (fun hc => ?_) <;> try simp [hc])
          | (with_reducible refine GKsplitB (fun hc => ?_) (fun hc => ?_) <;> try simp [hc])
          | simp (disch := first | (with_reducible assumption) | (simp; done) | omega | (simp; omega)) [hv3])
        obtain ⟨s', hs', hz, hsub⟩ := Grow.frz hg3 (by simp)
        refine ends_frn (by simp <;> exact ⟨rfl, rfl⟩) (by simp [hv3]) hsub (.cons _ _ _ _ hz (.cons _ _ _ _ (.refl _) .nil)) (hpost _ _ ⟨rfl, s', rfl, by rw [hs']; simp⟩)
      · have e : joinW (LL s) a b = (LL s, 3) := by unfold joinW; rw [if_neg (by simp [h2, h3, h4]), if_pos (by simp [hka, hkb])]
        rw [e]
        refine ACalls.hide fun post hpost => ?_
        refine F18_in (by simp) (by simp) fun hbd => ?_
        repeat' (first
          | refine awp_seqK fun K' hpK => ?_
          | refine awp_block ?_
          | refine awp_condG fun A' B' hpA hpB => ?_
          | refine useK (by with_reducible assumption) ?_
          | refine useP (by with_reducible assumption) ?_
          | refine ED_cons (fun _ => ?_) ?_
          | (refine stable_mk ?_; simp (disch := first | (with_reducible assumption) | (simp; done) | omega | (simp; omega)) [h4, hka, hkb]; done)
          | (refine stable_no ?_; simp (disch := first | (with_reducible assumption) | (simp; done) | omega | (simp; omega)) [h4, hka, hkb]; done)
          | (with_reducible refine And.intro ?_ ?_)
          | (with_reducible intro hc; try (exfalso; omega))
          | (with_reducible refine GDsplit (fun hc => ?_) (fun hc => ?_) <;> try simp [hc])
          | (with_reducible refine GDsplitN (fun hc => ?_) (fun hc => ?_) <;> try simp [hc])
          | (with_reducible refine GDsplitNB (fun hc => ?_) (fun hc => ?_) <;> try simp [hc])
          | (with_reducible refine GDsplitB (fun hc => ?_) (fun hc => ?_) <;> try simp [hc])
          | (with_reducible refine GKsplit (fun hc => ?_) (fun hc => ?_) <;> try simp [hc])
          | (with_reducible refine GKsplitN (fun hc => ?_) (fun hc => ?_) <;> try simp [hc])
          | (with_reducible refine GKsplitNB (fun hc => ?_) (fun hc => ?_) <;> try simp [hc])
          | (with_reducible refine GKsplitB (fun hc => ?_) (fun hc => ?_) <;> try simp [hc])
          | (refine CallK.use (ga _) ?_; rintro r G' _ _ ⟨rfl, rfl⟩)
          | (refine CallK.use (gb _) ?_; rintro r G' _ _ ⟨rfl, rfl⟩)
          | (refine CallK.use (oa _) ?_; rintro r G' _ _ ⟨rfl, rfl⟩)
          | (refine CallK.use (ob _) ?_; rintro r G' _ _ ⟨rfl, rfl⟩)
          | simp (disch := first | (with_reducible assumption) | (simp; done) | omega | (simp; omega)) [h4, hka, hkb])
        exact ends_two (by simp <;> exact ⟨rfl, rfl⟩) (by simp) (by simp) (hpost _ _ ⟨rfl, s, rfl, rfl⟩)
    · have e : joinW (LL s) a b = (LL s, 3) := by unfold joinW; rw [if_neg (by simp [h2, h3, h4]), if_pos (by simp [hka])]
      rw [e]
      refine ACalls.hide fun post hpost => ?_
      refine F18_in (by simp) (by simp) fun hbd => ?_
      repeat' (first
        | refine awp_seqK fun K' hpK => ?_
        | refine awp_block ?_
        | refine awp_condG fun A' B' hpA hpB => ?_
        | refine useK (by with_reducible assumption) ?_
        | refine useP (by with_reducible assumption) ?_
        | refine ED_cons (fun _ => ?_) ?_
        | (refine stable_mk ?_; simp (disch := first | (with_reducible assumption) | (simp; done) | omega | (simp; omega)) [h4, hka]; done)
        | (refine stable_no ?_; simp (disch := first | (with_reducible assumption) | (simp; done) | omega | (simp; omega)) [h4, hka]; done)
        | (with_reducible refine And.intro ?_ ?_)
        | (with_reducible intro hc; try (exfalso; omega))
        | (with_reducible refine GDsplit (fun hc => ?_) (fun hc => ?_) <;> try simp [hc])
        | (with_reducible refine GDsplitN (fun hc => ?_) (fun hc => ?_) <;> try simp [hc])
        | (with_reducible refine GDsplitNB (fun hc => ?_) (fun hc => ?_) <;> try simp [hc])
        | (with_reducible refine GDsplitB (fun hc => ?_) (fun hc => ?_) <;> try simp [hc])
        | (with_reducible refine GKsplit (fun hc => ?_) (fun hc => ?_) <;> try simp [hc])
        | (with_reducible refine GKsplitN (fun hc => ?_) (fun hc => ?_) <;> try simp [hc])
        | (with_reducible refine GKsplitNB (fun hc => ?_) (fun hc => ?_) <;> try simp [hc])
        | (with_reducible refine GKsplitB (fun hc => ?_) (fun hc => ?_) <;> try simp [hc])
        | (refine CallK.use (ga _) ?_; rintro r G' _ _ ⟨rfl, rfl⟩)
        | (refine CallK.use (gb _) ?_; rintro r G' _ _ ⟨rfl, rfl⟩)
        | (refine CallK.use (oa _) ?_; rintro r G' _ _ ⟨rfl, rfl⟩)
        | (refine CallK.use (ob _) ?_; rintro r G' _ _ ⟨rfl, rfl⟩)
        | simp (disch := first | (with_reducible assumption) | (simp; done) | omega | (simp; omega)) [h4, hka])
      exact ends_two (by simp <;> exact ⟨rfl, rfl⟩) (by simp) (by simp) (hpost _ _ ⟨rfl, s, rfl, rfl⟩)
  · have e : joinW (LL s) a b = (LL s, 1) := by unfold joinW; rw [if_pos h1]
    rw [e]
    cases h2 : goodP a with
    | false =>
      rw [h2] at ga
      refine ACalls.hide fun post hpost => ?_
      refine F18_in (by simp) (by simp) fun hbd => ?_
      repeat' (first
        | refine awp_seqK fun K' hpK => ?_
        | refine awp_block ?_
        | refine awp_condG fun A' B' hpA hpB => ?_
        | refine useK (by with_reducible assumption) ?_
        | refine useP (by with_reducible assumption) ?_
        | refine ED_cons (fun _ => ?_) ?_
        | (refine stable_mk ?_; simp (disch := first | (with_reducible assumption) | (simp; done) | omega | (simp; omega)); done)
        | (refine stable_no ?_; simp (disch := first | (with_reducible assumption) | (simp; done) | omega | (simp; omega)); done)
        | (with_reducible refine And.intro ?_ ?_)
        | (with_reducible intro hc; try (exfalso; omega))
        | (with_reducible refine GDsplit (fun hc => ?_) (fun hc => ?_) <;> try simp [hc])
        | (with_reducible refine GDsplitN (fun hc => ?_) (fun hc => ?_) <;> try simp [hc])
        | (with_reducible refine GDsplitNB (fun hc => ?_) (fun hc => ?_) <;> try simp [hc])
        | (with_reducible refine GDsplitB (fun hc => ?_) (fun hc => ?_) <;> try simp [hc])
        | (with_reducible refine GKsplit (fun hc => ?_) (fun hc => ?_) <;> try simp [hc])
        | (with_reducible refine GKsplitN (fun hc => ?_) (fun hc => ?_) <;> try simp [hc])
        | (with_reducible refine GKsplitNB (fun hc => ?_) (fun hc => ?_) <;> try simp [hc])
        | (with_reducible refine GKsplitB (fun hc => ?_) (fun hc => ?_) <;> try simp [hc])
        | (refine CallK.use (ga _) ?_; rintro r G' _ _ ⟨rfl, rfl⟩)
        | (refine CallK.use (gb _) ?_; rintro r G' _ _ ⟨rfl, rfl⟩)
        | simp (disch := first | (with_reducible assumption) | (simp; done) | omega | (simp; omega)))
      exact ends_two (by simp <;> exact ⟨rfl, rfl⟩) (by simp) (by simp) (hpost _ _ ⟨rfl, s, rfl, rfl⟩)
    | true =>
      rw [h2] at ga
      cases h3 : goodP b with
      | false =>
        rw [h3] at gb
        refine ACalls.hide fun post hpost => ?_
        refine F18_in (by simp) (by simp) fun hbd => ?_
        repeat' (first
          | refine awp_seqK fun K' hpK => ?_
          | refine awp_block ?_
          | refine awp_condG fun A' B' hpA hpB => ?_
          | refine useK (by with_reducible assumption) ?_
          | refine useP (by with_reducible assumption) ?_
          | refine ED_cons (fun _ => ?_) ?_
          | (refine stable_mk ?_; simp (disch := first | (with_reducible assumption) | (simp; done) | omega | (simp; omega)); done)
          | (refine stable_no ?_; simp (disch := first | (with_reducible assumption) | (simp; done) | omega | (simp; omega)); done)
          | (with_reducible refine And.intro ?_ ?_)
          | (with_reducible intro hc; try (exfalso; omega))
          | (with_reducible refine GDsplit (fun hc => ?_) (fun hc => ?_) <;> try simp [hc])
          | (with_reducible refine GDsplitN (fun hc => ?_) (fun hc => ?_) <;> try simp [hc])
          | (with_reducible refine GDsplitNB (fun hc => ?_) (fun hc => ?_) <;> try simp [hc])
          | (with_reducible refine GDsplitB (fun hc => ?_) (fun hc => ?_) <;> try simp [hc])
          | (with_reducible refine GKsplit (fun hc => ?_) (fun hc => ?_) <;> try simp [hc])
          | (with_reducible refine GKsplitN (fun hc => ?_) (fun hc => ?_) <;> try simp [hc])
          | (with_reducible refine GKsplitNB (fun hc => ?_) (fun hc => ?_) <;> try simp [hc])
          | (with_reducible refine GKsplitB (fun hc => ?_) (fun hc => ?_) <;> try simp [hc])
          | (refine CallK.use (ga _) ?_; rintro r G' _ _ ⟨rfl, rfl⟩)
          | (refine CallK.use (gb _) ?_; rintro r G' _ _ ⟨rfl, rfl⟩)
          | simp (disch := first | (with_reducible assumption) | (simp; done) | omega | (simp; omega)))
        exact ends_two (by simp <;> exact ⟨rfl, rfl⟩) (by simp) (by simp) (hpost _ _ ⟨rfl, s, rfl, rfl⟩)
      | true =>
        rw [h3] at gb
        have h4 : a = b := Decidable.byContradiction fun h => h1 ⟨h2, h3, h⟩
        refine ACalls.hide fun post hpost => ?_
        refine F18_in (by simp) (by simp) fun hbd => ?_
        repeat' (first
          | refine awp_seqK fun K' hpK => ?_
          | refine awp_block ?_
          | refine awp_condG fun A' B' hpA hpB => ?_
          | refine useK (by with_reducible assumption) ?_
          | refine useP (by with_reducible assumption) ?_
          | refine ED_cons (fun _ => ?_) ?_
          | (refine stable_mk ?_; simp (disch := first | (with_reducible assumption) | (simp; done) | omega | (simp; omega)) [h4]; done)
          | (refine stable_no ?_; simp (disch := first | (with_reducible assumption) | (simp; done) | omega | (simp; omega)) [h4]; done)
          | (with_reducible refine And.intro ?_ ?_)
          | (with_reducible intro hc; try (exfalso; omega))
          | (with_reducible refine GDsplit (fun hc => ?_) (fun hc => ?_) <;> try simp [hc])
          | (with_reducible refine GDsplitN (fun hc => ?_) (fun hc => ?_) <;> try simp [hc])
          | (with_reducible refine GDsplitNB (fun hc => ?_) (fun hc => ?_) <;> try simp [hc])
          | (with_reducible refine GDsplitB (fun hc => ?_) (fun hc => ?_) <;> try simp [hc])
          | (with_reducible refine GKsplit (fun hc => ?_) (fun hc => ?_) <;> try simp [hc])
          | (with_reducible refine GKsplitN (fun hc => ?_) (fun hc => ?_) <;> try simp [hc])
          | (with_reducible refine GKsplitNB (fun hc => ?_) (fun hc => ?_) <;> try simp [hc])
          | (with_reducible refine GKsplitB (fun hc => ?_) (fun hc => ?_) <;> try simp [hc])
          | (refine CallK.use (ga _) ?_; rintro r G' _ _ ⟨rfl, rfl⟩)
          | (refine CallK.use (gb _) ?_; rintro r G' _ _ ⟨rfl, rfl⟩)
          | simp (disch := first | (with_reducible assumption) | (simp; done) | omega | (simp; omega)) [h4])
        exact ends_two (by simp <;> exact ⟨rfl, rfl⟩) (by simp) (by simp) (hpost _ _ ⟨rfl, s, rfl, rfl⟩)

set_option maxHeartbeats 4000000 in
theorem attachR_c {s : Option (List Cb)} {h : Int} {p : Pl} {G : Hp} (hl : (LL s).length ≤ 1000000) : ACalls Try.prog 19 [ofS cC s, .int .i64 h, p.av] G fun r G' => G' = G ∧ ∃ s', r = .tup [ofS cC s', .int .i64 (attachW (LL s) h p).2] ∧ LL s' = (attachW (LL s) h p).1 := by
  have gp := fun G => goodR (p := p) (G := G)
  have op := fun G => otherR_c (s := s) (p := p) (G := G) hl
  have wh := fun G => whereR_c (s := s) (h := h) (G := G) hl
  by_cases h1 : 0 ≤ h ∧ h ≤ 15 ∧ goodP p = true
  · obtain ⟨h2, h3, h4⟩ := h1
    have h2' : ¬ h < 0 := by omega
    have h3' : ¬ 15 < h := by omega
    rw [h4] at gp
    have e0 : attachW (LL s) h p = if (whereW (LL s) h).isSome = true ∨ (otherW (LL s) p).kind ≠ 0 then (LL s, 3) else (LL s ++ [⟨p, p0, h, true⟩], 0) := by unfold attachW; rw [if_neg (by simp [h2, h3, h4])]
    rw [e0]
    cases hw : (whereW (LL s) h).isSome with
    | true =>
      rw [hw] at wh
      rw [if_pos (by simp)]
      refine ACalls.hide fun post hpost => ?_
      refine F19_in (by simp) (by simp) fun hbd => ?_
      repeat' (first
        | refine awp_seqK fun K' hpK => ?_
        | refine awp_block ?_
        | refine awp_condG fun A' B' hpA hpB => ?_
        | refine useK (by with_reducible assumption) ?_
        | refine useP (by with_reducible assumption) ?_
        | refine ED_cons (fun _ => ?_) ?_
        | (refine stable_mk ?_; simp (disch := first | (with_reducible assumption) | (simp; done) | omega | (simp; omega)) [h2', h3']; done)
        | (refine stable_no ?_; simp (disch := first | (with_reducible assumption) | (simp; done) | omega | (simp; omega)) [h2', h3']; done)
        | (with_reducible refine And.intro ?_ ?_)
        | (with_reducible intro hc; try (exfalso; omega))
        | (with_reducible refine GDsplit (fun hc => ?_) (fun hc => ?_) <;> try simp [hc])
        | (with_reducible refine GDsplitN (fun hc => ?_) (fun hc => ?_) <;> try simp [hc])
        | (with_reducible refine GDsplitNB (fun hc => ?_) (fun hc => ?_) <;> try simp [hc])
        | (with_reducible refine GDsplitB (fun hc => ?_) (fun hc => ?_) <;> try simp [hc])
        | (with_reducible refine GKsplit (fun hc => ?_) (fun hc => ?_) <;> try simp [hc])
        | (with_reducible refine GKsplitN (fun hc => ?_) (fun hc => ?_) <;> try simp [hc])
        | (with_reducible refine GKsplitNB (fun hc => ?_) (fun hc => ?_) <;> try simp [hc])
        | (with_reducible refine GKsplitB (fun hc => ?_) (fun hc => ?_) <;> try simp [hc])
        | (refine CallK.use (gp _) ?_; rintro r G' _ _ ⟨rfl, rfl⟩)
        | (refine CallK.use (wh _) ?_; rintro r G' _ _ ⟨rfl, rfl⟩)
        | simp (disch := first | (with_reducible assumption) | (simp; done) | omega | (simp; omega)) [h2', h3'])
      exact ends_two (by simp <;> exact ⟨rfl, rfl⟩) (by simp) (by simp) (hpost _ _ ⟨rfl, s, rfl, rfl⟩)
    | false =>
      rw [hw] at wh
      by_cases hk : (otherW (LL s) p).kind = 0
      · rw [if_neg (by simp [hk])]
        refine ACalls.hide fun post hpost => ?_
        refine F19_in (by simp) (by simp) fun hbd => ?_
        repeat' (first
          | refine awp_seqK fun K' hpK => ?_
          | refine awp_block ?_
          | refine awp_condG fun A' B' hpA hpB => ?_
          | refine useK (by with_reducible assumption) ?_
          | refine useP (by with_reducible assumption) ?_
          | refine ED_cons (fun _ => ?_) ?_
          | (refine stable_mk ?_; simp (disch := first | (with_reducible assumption) | (simp; done) | omega | (simp; omega)) [h2', h3', hk]; done)
          | (refine stable_no ?_; simp (disch := first | (with_reducible assumption) | (simp; done) | omega | (simp; omega)) [h2', h3', hk]; done)
          | (with_reducible refine And.intro ?_ ?_)
          | (with_reducible intro hc; try (exfalso; omega))
          | (with_reducible refine GDsplit (fun hc => ?_) (fun hc => ?_) <;> try simp [hc])
          | (with_reducible refine GDsplitN (fun hc => ?_) (fun hc => ?_) <;> try simp [hc])
          | (with_reducible refine GDsplitNB (fun hc => ?_) (fun hc => ?_) <;> try simp [hc])
          | (with_reducible refine GDsplitB (fun hc => ?_) (fun hc => ?_) <;> try simp [hc])
          | (with_reducible refine GKsplit (fun hc => ?_) (fun hc => ?_) <;> try simp [hc])
          | (with_reducible refine GKsplitN (fun hc => ?_) (fun hc => ?_) <;> try simp [hc])
          | (with_reducible refine GKsplitNB (fun hc => ?_) (fun hc => ?_) <;> try simp [hc])
          | (with_reducible refine GKsplitB (fun hc => ?_) (fun hc => ?_) <;> try simp [hc])
          | (refine CallK.use (gp _) ?_; rintro r G' _ _ ⟨rfl, rfl⟩)
          | (refine CallK.use (wh _) ?_; rintro r G' _ _ ⟨rfl, rfl⟩)
          | (refine CallK.use (op _) ?_; rintro r G' _ _ ⟨rfl, rfl⟩)
          | simp (disch := first | (with_reducible assumption) | (simp; done) | omega | (simp; omega)) [h2', h3', hk])
        intro c hc
        refine ⟨0, ?_⟩
        repeat' (first
          | refine awp_seqK fun K' hpK => ?_
          | refine awp_block ?_
          | refine awp_condG fun A' B' hpA hpB => ?_
          | refine useK (by with_reducible assumption) ?_
          | refine useP (by with_reducible assumption) ?_
          | refine ED_cons (fun _ => ?_) ?_
          | (refine stable_mk ?_; simp (disch := first | (with_reducible assumption) | (simp; done) | omega | (simp; omega)); done)
          | (refine stable_no ?_; simp (disch := first | (with_reducible assumption) | (simp; done) | omega | (simp; omega)); done)
          | (with_reducible refine And.intro ?_ ?_)
          | (with_reducible intro hc; try (exfalso; omega))
          | (with_reducible refine GDsplit (fun hc => ?_) (fun hc => ?_) <;> try simp [hc])
          | (with_reducible refine GDsplitN (fun hc => ?_) (fun hc => ?_) <;> try simp [hc])
          | (with_reducible refine GDsplitNB (fun hc => ?_) (fun hc => ?_) <;> try simp [hc])
          | (with_reducible refine GDsplitB (fun hc => ?_) (fun hc => ?_) <;> try simp [hc])
          | (with_reducible refine GKsplit (fun hc => ?_) (fun hc => ?_) <;> try simp [hc])
          | (with_reducible refine GKsplitN (fun hc => ?_) (fun hc => ?_) <;> try simp [hc])
          | (with_reducible refine GKsplitNB (fun hc => ?_) (fun hc => ?_) <;> try simp [hc])
          | (with_reducible refine GKsplitB (fun hc => ?_) (fun hc => ?_) <;> try simp [hc])
          | simp (disch := first | (with_reducible assumption) | (simp; done) | omega | (simp; omega)))
        refine Grow.app (f := cC) (xs := LL s) (Grow.fresh hc) (ofS_src (by simp)) (flat_scal (by simp [cC]) _) (by simp [LIM]; omega) (fun v2 G2 hg2 => ?_)
        have hv2 := hg2.plain
        repeat' (first
          | refine awp_seqK fun K' hpK => ?_
          | refine awp_block ?_
          | refine awp_condG fun A' B' hpA hpB => ?_
          | refine useK (by with_reducible assumption) ?_
          | refine useP (by with_reducible assumption) ?_
          | refine ED_cons (fun _ => ?_) ?_
          | (refine stable_mk ?_; simp (disch := first | (with_reducible assumption) | (simp; done) | omega | (simp; omega)) [hv2]; done)
          | (refine stable_no ?_; simp (disch := first | (with_reducible assumption) | (simp; done) | omega | (simp; omega)) [hv2]; done)
          | (with_reducible refine And.intro ?_ ?_)
          | (with_reducible intro hc)
          | (with_reducible refine GDsplit (fun hc => ?_) (fun hc => ?_) <;> try simp [hc])
          | (with_reducible refine GDsplitN (fun hc => ?_) (fun hc => ?_) <;> try simp [hc])
          | (with_reducible refine GDsplitNB (fun hc => ?_) (fun hc => ?_) <;> try simp [hc])
          | (with_reducible refine GDsplitB (fun hc => ?_) (fun hc => ?_) <;> try simp [hc])
          | (with_reducible refine GKsplit (fun hc => ?_) (fun hc => ?_) <;> try simp [hc])
          | (with_reducible refine GKsplitN (fun hc => ?_) (fun hc => ?_) <;> try simp [hc])
          | (with_reducible refine GKsplitNB (fun hc => ?_) (fun hc => ?_) <;> try simp [hc])
          | (with_reducible refine GKsplitB (fun hc => ?_) (fun hc => ?_) <;> try simp [hc])
          | simp (disch := first | (with_reducible assumption) | (simp; done) | omega | (simp; omega)) [hv2])
        refine hg2.app1 (x := ⟨p, p0, h, true⟩) (by simp [cC, p0]) (by simp [cC]) (by simp [LIM]; omega) (fun v3 G3 hg3 => ?_)
        have hv3 := hg3.plain
        repeat' (first
          | refine awp_seqK fun K' hpK => ?_
          | refine awp_block ?_
          | refine awp_condG fun A' B' hpA hpB => ?_
          | refine useK (by with_reducible assumption) ?_
          | refine useP (by with_reducible assumption) ?_
          | refine ED_cons (fun _ => ?_) ?_
          | (refine stable_mk ?_; simp (disch := first | (with_reducible assumption) | (simp; done) | omega | (simp; omega)) [hv3]; done)
          | (refine stable_no ?_; simp (disch := first | (with_reducible assumption) | (simp; done) | omega | (simp; omega)) [hv3]; done)
          | (with_reducible refine And.intro ?_ ?_)
          | (with_reducible intro hc)
          | (with_reducible refine GDsplit (fun hc => ?_) (fun hc => ?_) <;> try simp [hc])
          | (with_reducible refine GDsplitN (fun hc => ?_) (fun hc => ?_) <;> try simp [hc])
          | (with_reducible refine GDsplitNB (fun hc => ?_) (fun hc => ?_) <;> try simp [hc])
          | (with_reducible refine GDsplitB (fun hc => ?_) (fun hc => ?_) <;> try simp [hc])
          | (with_reducible refine GKsplit (fun hc => ?_) (fun hc => ?_) <;> try simp [hc])
          | (with_reducible refine GKsplitN (fun hc => ?_) (fun hc => ?_) <;> try simp [hc])
          | (with_reducible refine GKsplitNB (fun hc => ?_) (fun hc => ?_) <;> try simp [hc])
          | (with_reducible refine GKsplitB (fun hc => ?_) (fun hc => ?_) <;> try simp [hc])
          | simp (disch := first | (with_reducible assumption) | (simp; done) | omega | (simp; omega)) [hv3])
        obtain ⟨s', hs', hz, hsub⟩ := Grow.frz hg3 (by simp)
        refine ends_frn (by simp <;> exact ⟨rfl, rfl⟩) (by simp [hv3]) hsub (.cons _ _ _ _ hz (.cons _ _ _ _ (.refl _) .nil)) (hpost _ _ ⟨rfl, s', rfl, by rw [hs']; simp⟩)
      · rw [if_pos (by simp [hk])]
        refine ACalls.hide fun post hpost => ?_
        refine F19_in (by simp) (by simp) fun hbd => ?_
        repeat' (first
          | refine awp_seqK fun K' hpK => ?_
          | refine awp_block ?_
          | refine awp_condG fun A' B' hpA hpB => ?_
          | refine useK (by with_reducible assumption) ?_
          | refine useP (by with_reducible assumption) ?_
          | refine ED_cons (fun _ => ?_) ?_
          | (refine stable_mk ?_; simp (disch := first | (with_reducible assumption) | (simp; done) | omega | (simp; omega)) [h2', h3', hk]; done)
          | (refine stable_no ?_; simp (disch := first | (with_reducible assumption) | (simp; done) | omega | (simp; omega)) [h2', h3', hk]; done)
          | (with_reducible refine And.intro ?_ ?_)
          | (with_reducible intro hc; try (exfalso; omega))
          | (with_reducible refine GDsplit (fun hc => ?_) (fun hc => ?_) <;> try simp [hc])
          | (with_reducible refine GDsplitN (fun hc => ?_) (fun hc => ?_) <;> try simp [hc])
          | (with_reducible refine GDsplitNB (fun hc => ?_) (fun hc => ?_) <;> try simp [hc])
          | (with_reducible refine GDsplitB (fun hc => ?_) (fun hc => ?_) <;> try simp [hc])
          | (with_reducible refine GKsplit (fun hc => ?_) (fun hc => ?_) <;> try simp [hc])
          | (with_reducible refine GKsplitN (fun hc => ?_) (fun hc => ?_) <;> try simp [hc])
          | (with_reducible refine GKsplitNB (fun hc => ?_) (fun hc => ?_) <;> try simp [hc])
          | (with_reducible refine GKsplitB (fun hc => ?_) (fun hc => ?_) <;> try simp [hc])
          | (refine CallK.use (gp _) ?_; rintro r G' _ _ ⟨rfl, rfl⟩)
          | (refine CallK.use (wh _) ?_; rintro r G' _ _ ⟨rfl, rfl⟩)
          | (refine CallK.use (op _) ?_; rintro r G' _ _ ⟨rfl, rfl⟩)
          | simp (disch := first | (with_reducible assumption) | (simp; done) | omega | (simp; omega)) [h2', h3', hk])
        exact ends_two (by simp <;> exact ⟨rfl, rfl⟩) (by simp) (by simp) (hpost _ _ ⟨rfl, s, rfl, rfl⟩)
  · have e : attachW (LL s) h p = (LL s, 1) := by unfold attachW; rw [if_pos h1]
    rw [e]
    by_cases h2 : h < 0
    · refine ACalls.hide fun post hpost => ?_
      refine F19_in (by simp) (by simp) fun hbd => ?_
      repeat' (first
        | refine awp_seqK fun K' hpK => ?_
        | refine awp_block ?_
        | refine awp_condG fun A' B' hpA hpB => ?_
        | refine useK (by with_reducible assumption) ?_
        | refine useP (by with_reducible assumption) ?_
        | refine ED_cons (fun _ => ?_) ?_
        | (refine stable_mk ?_; simp (disch := first | (with_reducible assumption) | (simp; done) | omega | (simp; omega)) [h2]; done)
        | (refine stable_no ?_; simp (disch := first | (with_reducible assumption) | (simp; done) | omega | (simp; omega)) [h2]; done)
        | (with_reducible refine And.intro ?_ ?_)
        | (with_reducible intro hc; try (exfalso; omega))
        | (with_reducible refine GDsplit (fun hc => ?_) (fun hc => ?_) <;> try simp [hc])
        | (with_reducible refine GDsplitN (fun hc => ?_) (fun hc => ?_) <;> try simp [hc])
        | (with_reducible refine GDsplitNB (fun hc => ?_) (fun hc => ?_) <;> try simp [hc])
        | (with_reducible refine GDsplitB (fun hc => ?_) (fun hc => ?_) <;> try simp [hc])
        | (with_reducible refine GKsplit (fun hc => ?_) (fun hc => ?_) <;> try simp [hc])
        | (with_reducible refine GKsplitN (fun hc => ?_) (fun hc => ?_) <;> try simp [hc])
        | (with_reducible refine GKsplitNB (fun hc => ?_) (fun hc => ?_) <;> try simp [hc])
        | (with_reducible refine GKsplitB (fun hc => ?_) (fun hc => ?_) <;> try simp [hc])
        | (refine CallK.use (gp _) ?_; rintro r G' _ _ ⟨rfl, rfl⟩)
        | simp (disch := first | (with_reducible assumption) | (simp; done) | omega | (simp; omega)) [h2])
      all_goals exact ends_two (by simp <;> exact ⟨rfl, rfl⟩) (by simp) (by simp) (hpost _ _ ⟨rfl, s, rfl, rfl⟩)
    · by_cases h3 : 15 < h
      · refine ACalls.hide fun post hpost => ?_
        refine F19_in (by simp) (by simp) fun hbd => ?_
        repeat' (first
          | refine awp_seqK fun K' hpK => ?_
          | refine awp_block ?_
          | refine awp_condG fun A' B' hpA hpB => ?_
          | refine useK (by with_reducible assumption) ?_
          | refine useP (by with_reducible assumption) ?_
          | refine ED_cons (fun _ => ?_) ?_
          | (refine stable_mk ?_; simp (disch := first | (with_reducible assumption) | (simp; done) | omega | (simp; omega)) [h2, h3]; done)
          | (refine stable_no ?_; simp (disch := first | (with_reducible assumption) | (simp; done) | omega | (simp; omega)) [h2, h3]; done)
          | (with_reducible refine And.intro ?_ ?_)
          | (with_reducible intro hc; try (exfalso; omega))
          | (with_reducible refine GDsplit (fun hc => ?_) (fun hc => ?_) <;> try simp [hc])
          | (with_reducible refine GDsplitN (fun hc => ?_) (fun hc => ?_) <;> try simp [hc])
          | (with_reducible refine GDsplitNB (fun hc => ?_) (fun hc => ?_) <;> try simp [hc])
          | (with_reducible refine GDsplitB (fun hc => ?_) (fun hc => ?_) <;> try simp [hc])
          | (with_reducible refine GKsplit (fun hc => ?_) (fun hc => ?_) <;> try simp [hc])
          | (with_reducible refine GKsplitN (fun hc => ?_) (fun hc => ?_) <;> try simp [hc])
          | (with_reducible refine GKsplitNB (fun hc => ?_) (fun hc => ?_) <;> try simp [hc])
          | (with_reducible refine GKsplitB (fun hc => ?_) (fun hc => ?_) <;> try simp [hc])
          | (refine CallK.use (gp _) ?_; rintro r G' _ _ ⟨rfl, rfl⟩)
          | simp (disch := first | (with_reducible assumption) | (simp; done) | omega | (simp; omega)) [h2, h3])
        all_goals exact ends_two (by simp <;> exact ⟨rfl, rfl⟩) (by simp) (by simp) (hpost _ _ ⟨rfl, s, rfl, rfl⟩)
      · have h4 : goodP p = false := by cases hg : goodP p with
          | false => rfl
          | true => exact absurd ⟨by omega, by omega, hg⟩ h1
        rw [h4] at gp
        refine ACalls.hide fun post hpost => ?_
        refine F19_in (by simp) (by simp) fun hbd => ?_
        repeat' (first
          | refine awp_seqK fun K' hpK => ?_
          | refine awp_block ?_
          | refine awp_condG fun A' B' hpA hpB => ?_
          | refine useK (by with_reducible assumption) ?_
          | refine useP (by with_reducible assumption) ?_
          | refine ED_cons (fun _ => ?_) ?_
          | (refine stable_mk ?_; simp (disch := first | (with_reducible assumption) | (simp; done) | omega | (simp; omega)) [h2, h3]; done)
          | (refine stable_no ?_; simp (disch := first | (with_reducible assumption) | (simp; done) | omega | (simp; omega)) [h2, h3]; done)
          | (with_reducible refine And.intro ?_ ?_)
          | (with_reducible intro hc; try (exfalso; omega))
          | (with_reducible refine GDsplit (fun hc => ?_) (fun hc => ?_) <;> try simp [hc])
          | (with_reducible refine GDsplitN (fun hc => ?_) (fun hc => ?_) <;> try simp [hc])
          | (with_reducible refine GDsplitNB (fun hc => ?_) (fun hc => ?_) <;> try simp [hc])
          | (with_reducible refine GDsplitB (fun hc => ?_) (fun hc => ?_) <;> try simp [hc])
          | (with_reducible refine GKsplit (fun hc => ?_) (fun hc => ?_) <;> try simp [hc])
          | (with_reducible refine GKsplitN (fun hc => ?_) (fun hc => ?_) <;> try simp [hc])
          | (with_reducible refine GKsplitNB (fun hc => ?_) (fun hc => ?_) <;> try simp [hc])
          | (with_reducible refine GKsplitB (fun hc => ?_) (fun hc => ?_) <;> try simp [hc])
          | (refine CallK.use (gp _) ?_; rintro r G' _ _ ⟨rfl, rfl⟩)
          | simp (disch := first | (with_reducible assumption) | (simp; done) | omega | (simp; omega)) [h2, h3])
        all_goals exact ends_two (by simp <;> exact ⟨rfl, rfl⟩) (by simp) (by simp) (hpost _ _ ⟨rfl, s, rfl, rfl⟩)

set_option maxHeartbeats 4000000 in
theorem pullR_c {s : Option (List Cb)} {p : Pl} {G : Hp} (hl : (LL s).length ≤ 1000000) : ACalls Try.prog 21 [ofS cC s, p.av] G fun r G' => G' = G ∧ ∃ s', r = ofS cC s' ∧ LL s' = pullW (LL s) p := by
  refine ACalls.grow (f := cC) (sz := 6) ?_ (by simp)
  refine ACalls.hide fun post hpost => ?_
  refine F21_in (by simp) (by simp) fun hbd => ?_
  repeat' (first
    | refine awp_seqK fun K' hpK => ?_
    | refine awp_block ?_
    | refine awp_condG fun A' B' hpA hpB => ?_
    | refine useK (by with_reducible assumption) ?_
    | refine useP (by with_reducible assumption) ?_
    | refine ED_cons (fun _ => ?_) ?_
    | (refine stable_mk ?_; simp (disch := first | (with_reducible assumption) | (simp; done) | omega | (simp; omega)); done)
    | (refine stable_no ?_; simp (disch := first | (with_reducible assumption) | (simp; done) | omega | (simp; omega)); done)
    | (with_reducible refine And.intro ?_ ?_)
    | (with_reducible intro hc)
    | (with_reducible refine GDsplit (fun hc => ?_) (fun hc => ?_) <;> try simp [hc])
    | (with_reducible refine GDsplitN (fun hc => ?_) (fun hc => ?_) <;> try simp [hc])
    | (with_reducible refine GDsplitNB (fun hc => ?_) (fun hc => ?_) <;> try simp [hc])
    | (with_reducible refine GDsplitB (fun hc => ?_) (fun hc => ?_) <;> try simp [hc])
    | (with_reducible refine GKsplit (fun hc => ?_) (fun hc => ?_) <;> try simp [hc])
    | (with_reducible refine GKsplitN (fun hc => ?_) (fun hc => ?_) <;> try simp [hc])
    | (with_reducible refine GKsplitNB (fun hc => ?_) (fun hc => ?_) <;> try simp [hc])
    | (with_reducible refine GKsplitB (fun hc => ?_) (fun hc => ?_) <;> try simp [hc])
    | simp (disch := first | (with_reducible assumption) | (simp; done) | omega | (simp; omega)))
  refine awp_loop' (fun w T G1 => ∃ (k : Nat) (o : AV), k + w = (LL s).length ∧ Grow cC 6 G G1 o (pullW ((LL s).take k) p) ∧ T = ofL [(3, .box [.int .i64 p.sw, .int .i64 p.port]), (5, o), (8, ofS cC s), (9, .int .i64 (LL s).length), (10, .int .i64 k)]) (LL s).length ⟨0, .nils, by omega, Grow.nil _ _, by simp⟩ ?_
  rintro w T G1 ⟨k, o, hk, hg, rfl⟩ N hN
  have hpo := hg.plain
  by_cases hkl : k < (LL s).length
  · have htk := take_succ_get (LL s) k hkl
    have hlen : (pullW ((LL s).take k) p).length ≤ 1000000 := Nat.le_trans (List.length_filter_le _ _) (by rw [List.length_take]; omega)
    obtain ⟨c, hc⟩ : ∃ c, c = (LL s)[k] := ⟨_, rfl⟩
    have e : pullW ((LL s).take (k + 1)) p = pullW ((LL s).take k) p ++ if c.a ≠ p ∧ (c.mach = true ∨ c.b ≠ p) then [c] else [] := by
      rw [htk, ← hc]; unfold pullW; rw [List.filter_append]; simp only [List.filter_cons, List.filter_nil]; congr 1
      by_cases h : c.a ≠ p ∧ (c.mach = true ∨ c.b ≠ p) <;> simp [h]
    by_cases ha : c.a = p
    · rw [if_neg (by simp [ha]), List.append_nil] at e
      repeat' (first
        | refine awp_seqK fun K' hpK => ?_
        | refine awp_block ?_
        | refine awp_condG fun A' B' hpA hpB => ?_
        | refine useK (by with_reducible assumption) ?_
        | refine useP (by with_reducible assumption) ?_
        | refine ED_cons (fun _ => ?_) ?_
        | (refine stable_mk ?_; simp (disch := first | (with_reducible assumption) | (simp; done) | omega | (simp; omega)) [hkl, ofS_idx (f := cC), cC, ← hc, ha, hpo]; done)
        | (refine stable_no ?_; simp (disch := first | (with_reducible assumption) | (simp; done) | omega | (simp; omega)) [hkl, ofS_idx (f := cC), cC, ← hc, ha, hpo]; done)
        | (with_reducible refine And.intro ?_ ?_)
        | (with_reducible intro hc; try (exfalso; omega))
        | (with_reducible refine GDsplit (fun hc => ?_) (fun hc => ?_) <;> try simp [hc])
        | (with_reducible refine GDsplitN (fun hc => ?_) (fun hc => ?_) <;> try simp [hc])
        | (with_reducible refine GDsplitNB (fun hc => ?_) (fun hc => ?_) <;> try simp [hc])
        | (with_reducible refine GDsplitB (fun hc => ?_) (fun hc => ?_) <;> try simp [hc])
        | (with_reducible refine GKsplit (fun hc => ?_) (fun hc => ?_) <;> try simp [hc])
        | (with_reducible refine GKsplitN (fun hc => ?_) (fun hc => ?_) <;> try simp [hc])
        | (with_reducible refine GKsplitNB (fun hc => ?_) (fun hc => ?_) <;> try simp [hc])
        | (with_reducible refine GKsplitB (fun hc => ?_) (fun hc => ?_) <;> try simp [hc])
        | simp (disch := first | (with_reducible assumption) | (simp; done) | omega | (simp; omega)) [hkl, ofS_idx (f := cC), cC, ← hc, ha, hpo])
      exact hN (w - 1) _ _ (by omega) ⟨k + 1, o, by omega, by rw [e]; exact hg, by simp⟩
    · cases hm : c.mach with
      | true =>
        rw [if_pos ⟨ha, .inl hm⟩] at e
        repeat' (first
          | refine awp_seqK fun K' hpK => ?_
          | refine awp_block ?_
          | refine awp_condG fun A' B' hpA hpB => ?_
          | refine useK (by with_reducible assumption) ?_
          | refine useP (by with_reducible assumption) ?_
          | refine ED_cons (fun _ => ?_) ?_
          | (refine stable_mk ?_; simp (disch := first | (with_reducible assumption) | (simp; done) | omega | (simp; omega)) [hkl, ofS_idx (f := cC), cC, ← hc, ha, hm, hpo]; done)
          | (refine stable_no ?_; simp (disch := first | (with_reducible assumption) | (simp; done) | omega | (simp; omega)) [hkl, ofS_idx (f := cC), cC, ← hc, ha, hm, hpo]; done)
          | (with_reducible refine And.intro ?_ ?_)
          | (with_reducible intro hc; try (exfalso; omega))
          | (with_reducible refine GDsplit (fun hc => ?_) (fun hc => ?_) <;> try simp [hc])
          | (with_reducible refine GDsplitN (fun hc => ?_) (fun hc => ?_) <;> try simp [hc])
          | (with_reducible refine GDsplitNB (fun hc => ?_) (fun hc => ?_) <;> try simp [hc])
          | (with_reducible refine GDsplitB (fun hc => ?_) (fun hc => ?_) <;> try simp [hc])
          | (with_reducible refine GKsplit (fun hc => ?_) (fun hc => ?_) <;> try simp [hc])
          | (with_reducible refine GKsplitN (fun hc => ?_) (fun hc => ?_) <;> try simp [hc])
          | (with_reducible refine GKsplitNB (fun hc => ?_) (fun hc => ?_) <;> try simp [hc])
          | (with_reducible refine GKsplitB (fun hc => ?_) (fun hc => ?_) <;> try simp [hc])
          | simp (disch := first | (with_reducible assumption) | (simp; done) | omega | (simp; omega)) [hkl, ofS_idx (f := cC), cC, ← hc, ha, hm, hpo])
        refine hg.app1 (x := c) (by simp [cC, hm]) (by simp [cC]) (by simp [LIM]; omega) (fun v3 G3 hg3 => ?_)
        have hv3 := hg3.plain
        repeat' (first
          | refine awp_seqK fun K' hpK => ?_
          | refine awp_block ?_
          | refine awp_condG fun A' B' hpA hpB => ?_
          | refine useK (by with_reducible assumption) ?_
          | refine useP (by with_reducible assumption) ?_
          | refine ED_cons (fun _ => ?_) ?_
          | (refine stable_mk ?_; simp (disch := first | (with_reducible assumption) | (simp; done) | omega | (simp; omega)) [hv3]; done)
          | (refine stable_no ?_; simp (disch := first | (with_reducible assumption) | (simp; done) | omega | (simp; omega)) [hv3]; done)
          | (with_reducible refine And.intro ?_ ?_)
          | (with_reducible intro hc; try (exfalso; omega))
          | (with_reducible refine GDsplit (fun hc => ?_) (fun hc => ?_) <;> try simp [hc])
          | (with_reducible refine GDsplitN (fun hc => ?_) (fun hc => ?_) <;> try simp [hc])
          | (with_reducible refine GDsplitNB (fun hc => ?_) (fun hc => ?_) <;> try simp [hc])
          | (with_reducible refine GDsplitB (fun hc => ?_) (fun hc => ?_) <;> try simp [hc])
          | (with_reducible refine GKsplit (fun hc => ?_) (fun hc => ?_) <;> try simp [hc])
          | (with_reducible refine GKsplitN (fun hc => ?_) (fun hc => ?_) <;> try simp [hc])
          | (with_reducible refine GKsplitNB (fun hc => ?_) (fun hc => ?_) <;> try simp [hc])
          | (with_reducible refine GKsplitB (fun hc => ?_) (fun hc => ?_) <;> try simp [hc])
          | simp (disch := first | (with_reducible assumption) | (simp; done) | omega | (simp; omega)) [hv3])
        exact hN (w - 1) _ _ (by omega) ⟨k + 1, v3, by omega, by rw [e]; exact hg3, by simp⟩
      | false =>
        by_cases hb : c.b = p
        · rw [if_neg (by simp [hb, hm]), List.append_nil] at e
          repeat' (first
            | refine awp_seqK fun K' hpK => ?_
            | refine awp_block ?_
            | refine awp_condG fun A' B' hpA hpB => ?_
            | refine useK (by with_reducible assumption) ?_
            | refine useP (by with_reducible assumption) ?_
            | refine ED_cons (fun _ => ?_) ?_
            | (refine stable_mk ?_; simp (disch := first | (with_reducible assumption) | (simp; done) | omega | (simp; omega)) [hkl, ofS_idx (f := cC), cC, ← hc, ha, hm, hb, hpo]; done)
            | (refine stable_no ?_; simp (disch := first | (with_reducible assumption) | (simp; done) | omega | (simp; omega)) [hkl, ofS_idx (f := cC), cC, ← hc, ha, hm, hb, hpo]; done)
            | (with_reducible refine And.intro ?_ ?_)
            | (with_reducible intro hc; try (exfalso; omega))
            | (with_reducible refine GDsplit (fun hc => ?_) (fun hc => ?_) <;> try simp [hc])
            | (with_reducible refine GDsplitN (fun hc => ?_) (fun hc => ?_) <;> try simp [hc])
            | (with_reducible refine GDsplitNB (fun hc => ?_) (fun hc => ?_) <;> try simp [hc])
            | (with_reducible refine GDsplitB (fun hc => ?_) (fun hc => ?_) <;> try simp [hc])
            | (with_reducible refine GKsplit (fun hc => ?_) (fun hc => ?_) <;> try simp [hc])
            | (with_reducible refine GKsplitN (fun hc => ?_) (fun hc => ?_) <;> try simp [hc])
            | (with_reducible refine GKsplitNB (fun hc => ?_) (fun hc => ?_) <;> try simp [hc])
            | (with_reducible refine GKsplitB (fun hc => ?_) (fun hc => ?_) <;> try simp [hc])
            | simp (disch := first | (with_reducible assumption) | (simp; done) | omega | (simp; omega)) [hkl, ofS_idx (f := cC), cC, ← hc, ha, hm, hb, hpo])
          exact hN (w - 1) _ _ (by omega) ⟨k + 1, o, by omega, by rw [e]; exact hg, by simp⟩
        · rw [if_pos ⟨ha, .inr hb⟩] at e
          repeat' (first
            | refine awp_seqK fun K' hpK => ?_
            | refine awp_block ?_
            | refine awp_condG fun A' B' hpA hpB => ?_
            | refine useK (by with_reducible assumption) ?_
            | refine useP (by with_reducible assumption) ?_
            | refine ED_cons (fun _ => ?_) ?_
            | (refine stable_mk ?_; simp (disch := first | (with_reducible assumption) | (simp; done) | omega | (simp; omega)) [hkl, ofS_idx (f := cC), cC, ← hc, ha, hm, hb, hpo]; done)
            | (refine stable_no ?_; simp (disch := first | (with_reducible assumption) | (simp; done) | omega | (simp; omega)) [hkl, ofS_idx (f := cC), cC, ← hc, ha, hm, hb, hpo]; done)
            | (with_reducible refine And.intro ?_ ?_)
            | (with_reducible intro hc; try (exfalso; omega))
            | (with_reducible refine GDsplit (fun hc => ?_) (fun hc => ?_) <;> try simp [hc])
            | (with_reducible refine GDsplitN (fun hc => ?_) (fun hc => ?_) <;> try simp [hc])
            | (with_reducible refine GDsplitNB (fun hc => ?_) (fun hc => ?_) <;> try simp [hc])
            | (with_reducible refine GDsplitB (fun hc => ?_) (fun hc => ?_) <;> try simp [hc])
            | (with_reducible refine GKsplit (fun hc => ?_) (fun hc => ?_) <;> try simp [hc])
            | (with_reducible refine GKsplitN (fun hc => ?_) (fun hc => ?_) <;> try simp [hc])
            | (with_reducible refine GKsplitNB (fun hc => ?_) (fun hc => ?_) <;> try simp [hc])
            | (with_reducible refine GKsplitB (fun hc => ?_) (fun hc => ?_) <;> try simp [hc])
            | simp (disch := first | (with_reducible assumption) | (simp; done) | omega | (simp; omega)) [hkl, ofS_idx (f := cC), cC, ← hc, ha, hm, hb, hpo])
          refine hg.app1 (x := c) (by simp [cC, hm]) (by simp [cC]) (by simp [LIM]; omega) (fun v3 G3 hg3 => ?_)
          have hv3 := hg3.plain
          repeat' (first
            | refine awp_seqK fun K' hpK => ?_
            | refine awp_block ?_
            | refine awp_condG fun A' B' hpA hpB => ?_
            | refine useK (by with_reducible assumption) ?_
            | refine useP (by with_reducible assumption) ?_
            | refine ED_cons (fun _ => ?_) ?_
            | (refine stable_mk ?_; simp (disch := first | (with_reducible assumption) | (simp; done) | omega | (simp; omega)) [hv3]; done)
            | (refine stable_no ?_; simp (disch := first | (with_reducible assumption) | (simp; done) | omega | (simp; omega)) [hv3]; done)
            | (with_reducible refine And.intro ?_ ?_)
            | (with_reducible intro hc; try (exfalso; omega))
            | (with_reducible refine GDsplit (fun hc => ?_) (fun hc => ?_) <;> try simp [hc])
            | (with_reducible refine GDsplitN (fun hc => ?_) (fun hc => ?_) <;> try simp [hc])
            | (with_reducible refine GDsplitNB (fun hc => ?_) (fun hc => ?_) <;> try simp [hc])
            | (with_reducible refine GDsplitB (fun hc => ?_) (fun hc => ?_) <;> try simp [hc])
            | (with_reducible refine GKsplit (fun hc => ?_) (fun hc => ?_) <;> try simp [hc])
            | (with_reducible refine GKsplitN (fun hc => ?_) (fun hc => ?_) <;> try simp [hc])
            | (with_reducible refine GKsplitNB (fun hc => ?_) (fun hc => ?_) <;> try simp [hc])
            | (with_reducible refine GKsplitB (fun hc => ?_) (fun hc => ?_) <;> try simp [hc])
            | simp (disch := first | (with_reducible assumption) | (simp; done) | omega | (simp; omega)) [hv3])
          exact hN (w - 1) _ _ (by omega) ⟨k + 1, v3, by omega, by rw [e]; exact hg3, by simp⟩
  · have hke : k = (LL s).length := by omega
    rw [hke, List.take_length] at hg
    repeat' (first
      | refine awp_seqK fun K' hpK => ?_
      | refine awp_block ?_
      | refine awp_condG fun A' B' hpA hpB => ?_
      | refine useK (by with_reducible assumption) ?_
      | refine useP (by with_reducible assumption) ?_
      | refine ED_cons (fun _ => ?_) ?_
      | (refine stable_mk ?_; simp (disch := first | (with_reducible assumption) | (simp; done) | omega | (simp; omega)) [hkl, hpo]; done)
      | (refine stable_no ?_; simp (disch := first | (with_reducible assumption) | (simp; done) | omega | (simp; omega)) [hkl, hpo]; done)
      | (with_reducible refine And.intro ?_ ?_)
      | (with_reducible intro hc; try (exfalso; omega))
      | (with_reducible refine GDsplit (fun hc => ?_) (fun hc => ?_) <;> try simp [hc])
      | (with_reducible refine GDsplitN (fun hc => ?_) (fun hc => ?_) <;> try simp [hc])
      | (with_reducible refine GDsplitNB (fun hc => ?_) (fun hc => ?_) <;> try simp [hc])
      | (with_reducible refine GDsplitB (fun hc => ?_) (fun hc => ?_) <;> try simp [hc])
      | (with_reducible refine GKsplit (fun hc => ?_) (fun hc => ?_) <;> try simp [hc])
      | (with_reducible refine GKsplitN (fun hc => ?_) (fun hc => ?_) <;> try simp [hc])
      | (with_reducible refine GKsplitNB (fun hc => ?_) (fun hc => ?_) <;> try simp [hc])
      | (with_reducible refine GKsplitB (fun hc => ?_) (fun hc => ?_) <;> try simp [hc])
      | simp (disch := first | (with_reducible assumption) | (simp; done) | omega | (simp; omega)) [hkl, hpo])
    exact ends_one (by simp <;> rfl) hpo (hpost _ _ hg)
end Go.Proofs.Ytbmlapcigkgdlaa
