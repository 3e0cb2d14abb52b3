import Derived.Test.YtbmlapcigkgdlaaD7K
set_option linter.unusedSimpArgs false
set_option linter.unusedVariables false
namespace Go.Proofs.Ytbmlapcigkgdlaa
open Go Go.Al
set_option maxRecDepth 20000
attribute [local irreducible] awp aops aopsD eop pv ACalls CallK AppK AEnds ti

def attachN (L : List (Int × End)) (h : Int) (p : Pl) : List (Int × End) × Int := if ¬ (0 ≤ h ∧ h ≤ 15 ∧ goodP p = true) then (L, 1) else if (whereN L h).isSome = true ∨ (otherN L p).kind ≠ 0 then (L, 3) else (setL L (numP p) ⟨2, 0, 0, h⟩, 0)
def pullN (L : List (Int × End)) (p : Pl) : List (Int × End) := if (otherN L p).kind = 0 then L else if (otherN L p).kind = 1 then delL (delL L (numP p)) (numP (otherN L p).pl) else delL L (numP p)

set_option maxHeartbeats 4000000 in
theorem joinC {nb : Nat} {G : Hp} {L : List (Int × End)} {a b : Pl} (hn : NetH nb G L) (hok : NOk L) : ACalls Try.prog 14 [.ptr nb 0, a.av, b.av] G fun r G' => NetH nb G' (joinN L a b).1 ∧ r = .int .i64 (joinN L a b).2 := by
  have hn0 := hn
  obtain ⟨sb, h, hG, hnb, hs⟩ := hn
  have hl := hok.len hs.2
  have ga := fun G => goodC (p := a) (G := G)
  have gb := fun G => goodC (p := b) (G := G)
  have ta := taken_c (p := a) hn0 (by omega)
  have tb := taken_c (p := b) hn0 (by omega)
  by_cases h1 : goodP a = true ∧ goodP b = true ∧ a ≠ b
  · obtain ⟨h2, h3, h4⟩ := h1
    rw [h2] at ga
    rw [h3] at gb
    have na := fun G => number_c (p := a) (G := G) h2
    have nb_ := fun G => number_c (p := b) (G := G) h3
    by_cases hka : (otherN L a).kind = 0
    · rw [decide_eq_true hka] at ta
      by_cases hkb : (otherN L b).kind = 0
      · rw [decide_eq_true hkb] at tb
        have e : joinN L a b = (setL (setL L (numP a) ⟨1, b.sw, b.port, 0⟩) (numP b) ⟨1, a.sw, a.port, 0⟩, 0) := by unfold joinN; rw [if_neg (by simp [h2, h3, h4]), if_neg (by simp [hka, hkb])]
        rw [e]
        have s1 := (setN (v := ⟨1, b.sw, b.port, 0⟩) hs hok h2 (.inl ⟨rfl, h3⟩)).frame1 (o := (0, [.ptr sb 0])) hnb
        subst hG
        refine ACalls.hide fun post hpost => ?_
        refine F14_in (by simp) (by simp) fun hbd => ?_
        repeat' (first
          | refine awp_seqK fun K' hpK => ?_
          | refine awp_block ?_
          | refine awp_condG fun A' B' hpA hpB => ?_
          | refine useK (by with_reducible assumption) ?_
          | refine useP (by with_reducible assumption) ?_
          | refine ED_cons (fun _ => ?_) ?_
          | (refine stable_mk ?_; simp (disch := first | (with_reducible assumption) | (simp; done) | omega | (simp; omega)) [h4]; done)
          | (refine stable_no ?_; simp (disch := first | (with_reducible assumption) | (simp; done) | omega | (simp; omega)) [h4]; done)
          | (with_reducible refine And.intro ?_ ?_)
          | (with_reducible intro hc; try (exfalso; omega))
          | (with_reducible refine GDsplit (fun hc => ?_) (fun hc => ?_) <;> try simp [hc])
          | (with_reducible refine GDsplitN (fun hc => ?_) (fun hc => ?_) <;> try simp [hc])
          | (with_reducible refine GDsplitNB (fun hc => ?_) (fun hc => ?_) <;> try simp [hc])
          | (with_reducible refine GDsplitB (fun hc => ?_) (fun hc => ?_) <;> try simp [hc])
          | (with_reducible refine GKsplit (fun hc => ?_) (fun hc => ?_) <;> try simp [hc])
          | (with_reducible refine GKsplitN (fun hc => ?_) (fun hc => ?_) <;> try simp [hc])
          | (with_reducible refine GKsplitNB (fun hc => ?_) (fun hc => ?_) <;> try simp [hc])
          | (with_reducible refine GKsplitB (fun hc => ?_) (fun hc => ?_) <;> try simp [hc])
          | (refine CallK.use (ga _) ?_; rintro r G' _ _ ⟨rfl, rfl⟩)
          | (refine CallK.use (gb _) ?_; rintro r G' _ _ ⟨rfl, rfl⟩)
          | (refine CallK.use (ta) ?_; rintro r G' _ _ ⟨rfl, rfl⟩)
          | (refine CallK.use (tb) ?_; rintro r G' _ _ ⟨rfl, rfl⟩)
          | (refine CallK.use (na _) ?_; rintro r G' _ _ ⟨rfl, rfl⟩)
          | (refine CallK.use (s1) ?_; rintro r G' _ _ ⟨h', hnb', rfl, hs', rfl⟩)
          | simp (disch := first | (with_reducible assumption) | (simp; done) | omega | (simp; omega)) [h4])
        have s2 := (setN (v := ⟨1, a.sw, a.port, 0⟩) hs' (hok.set h2 (.inl ⟨rfl, h3⟩)) h3 (.inl ⟨rfl, h2⟩)).frame1 (o := (0, [.ptr sb 0])) hnb'
        repeat' (first
          | refine awp_seqK fun K' hpK => ?_
          | refine awp_block ?_
          | refine awp_condG fun A' B' hpA hpB => ?_
          | refine useK (by with_reducible assumption) ?_
          | refine useP (by with_reducible assumption) ?_
          | refine ED_cons (fun _ => ?_) ?_
          | (refine stable_mk ?_; simp (disch := first | (with_reducible assumption) | (simp; done) | omega | (simp; omega)); done)
          | (refine stable_no ?_; simp (disch := first | (with_reducible assumption) | (simp; done) | omega | (simp; omega)); done)
          | (with_reducible refine And.intro ?_ ?_)
          | (with_reducible intro hc; try (exfalso; omega))
          | (with_reducible refine GDsplit (fun hc => ?_) (fun hc => ?_) <;> try simp [hc])
          | (with_reducible refine GDsplitN (fun hc => ?_) (fun hc => ?_) <;> try simp [hc])
          | (with_reducible refine GDsplitNB (fun hc => ?_) (fun hc => ?_) <;> try simp [hc])
          | (with_reducible refine GDsplitB (fun hc => ?_) (fun hc => ?_) <;> try simp [hc])
          | (with_reducible refine GKsplit (fun hc => ?_) (fun hc => ?_) <;> try simp [hc])
          | (with_reducible refine GKsplitN (fun hc => ?_) (fun hc => ?_) <;> try simp [hc])
          | (with_reducible refine GKsplitNB (fun hc => ?_) (fun hc => ?_) <;> try simp [hc])
          | (with_reducible refine GKsplitB (fun hc => ?_) (fun hc => ?_) <;> try simp [hc])
          | (refine CallK.use (nb_ _) ?_; rintro r G' _ _ ⟨rfl, rfl⟩)
          | (refine CallK.use (s2) ?_; rintro r G' _ _ ⟨h2', hnb2, rfl, hs2, rfl⟩)
          | simp (disch := first | (with_reducible assumption) | (simp; done) | omega | (simp; omega)))
        exact ends_one (by simp <;> rfl) (by simp) (hpost _ _ ⟨⟨sb, h2', rfl, hnb2, hs2⟩, rfl⟩)
      · rw [decide_eq_false hkb] at tb
        have e : joinN L a b = (L, 3) := by unfold joinN; rw [if_neg (by simp [h2, h3, h4]), if_pos (by simp [hkb])]
        rw [e]
        refine ACalls.hide fun post hpost => ?_
        refine F14_in (by simp) (by simp) fun hbd => ?_
        repeat' (first
          | refine awp_seqK fun K' hpK => ?_
          | refine awp_block ?_
          | refine awp_condG fun A' B' hpA hpB => ?_
          | refine useK (by with_reducible assumption) ?_
          | refine useP (by with_reducible assumption) ?_
          | refine ED_cons (fun _ => ?_) ?_
          | (refine stable_mk ?_; simp (disch := first | (with_reducible assumption) | (simp; done) | omega | (simp; omega)) [h4]; done)
          | (refine stable_no ?_; simp (disch := first | (with_reducible assumption) | (simp; done) | omega | (simp; omega)) [h4]; done)
          | (with_reducible refine And.intro ?_ ?_)
          | (with_reducible intro hc; try (exfalso; omega))
          | (with_reducible refine GDsplit (fun hc => ?_) (fun hc => ?_) <;> try simp [hc])
          | (with_reducible refine GDsplitN (fun hc => ?_) (fun hc => ?_) <;> try simp [hc])
          | (with_reducible refine GDsplitNB (fun hc => ?_) (fun hc => ?_) <;> try simp [hc])
          | (with_reducible refine GDsplitB (fun hc => ?_) (fun hc => ?_) <;> try simp [hc])
          | (with_reducible refine GKsplit (fun hc => ?_) (fun hc => ?_) <;> try simp [hc])
          | (with_reducible refine GKsplitN (fun hc => ?_) (fun hc => ?_) <;> try simp [hc])
          | (with_reducible refine GKsplitNB (fun hc => ?_) (fun hc => ?_) <;> try simp [hc])
          | (with_reducible refine GKsplitB (fun hc => ?_) (fun hc => ?_) <;> try simp [hc])
          | (refine CallK.use (ga _) ?_; rintro r G' _ _ ⟨rfl, rfl⟩)
          | (refine CallK.use (gb _) ?_; rintro r G' _ _ ⟨rfl, rfl⟩)
          | (refine CallK.use (ta) ?_; rintro r G' _ _ ⟨rfl, rfl⟩)
          | (refine CallK.use (tb) ?_; rintro r G' _ _ ⟨rfl, rfl⟩)
          | simp (disch := first | (with_reducible assumption) | (simp; done) | omega | (simp; omega)) [h4])
        exact ends_one (by simp <;> rfl) (by simp) (hpost _ _ ⟨hn0, rfl⟩)
    · rw [decide_eq_false hka] at ta
      have e : joinN L a b = (L, 3) := by unfold joinN; rw [if_neg (by simp [h2, h3, h4]), if_pos (by simp [hka])]
      rw [e]
      refine ACalls.hide fun post hpost => ?_
      refine F14_in (by simp) (by simp) fun hbd => ?_
      repeat' (first
        | refine awp_seqK fun K' hpK => ?_
        | refine awp_block ?_
        | refine awp_condG fun A' B' hpA hpB => ?_
        | refine useK (by with_reducible assumption) ?_
        | refine useP (by with_reducible assumption) ?_
        | refine ED_cons (fun _ => ?_) ?_
        | (refine stable_mk ?_; simp (disch := first | (with_reducible assumption) | (simp; done) | omega | (simp; omega)) [h4]; done)
        | (refine stable_no ?_; simp (disch := first | (with_reducible assumption) | (simp; done) | omega | (simp; omega)) [h4]; done)
        | (with_reducible refine And.intro ?_ ?_)
        | (with_reducible intro hc; try (exfalso; omega))
        | (with_reducible refine GDsplit (fun hc => ?_) (fun hc => ?_) <;> try simp [hc])
        | (with_reducible refine GDsplitN (fun hc => ?_) (fun hc => ?_) <;> try simp [hc])
        | (with_reducible refine GDsplitNB (fun hc => ?_) (fun hc => ?_) <;> try simp [hc])
        | (with_reducible refine GDsplitB (fun hc => ?_) (fun hc => ?_) <;> try simp [hc])
        | (with_reducible refine GKsplit (fun hc => ?_) (fun hc => ?_) <;> try simp [hc])
        | (with_reducible refine GKsplitN (fun hc => ?_) (fun hc => ?_) <;> try simp [hc])
        | (with_reducible refine GKsplitNB (fun hc => ?_) (fun hc => ?_) <;> try simp [hc])
        | (with_reducible refine GKsplitB (fun hc => ?_) (fun hc => ?_) <;> try simp [hc])
        | (refine CallK.use (ga _) ?_; rintro r G' _ _ ⟨rfl, rfl⟩)
        | (refine CallK.use (gb _) ?_; rintro r G' _ _ ⟨rfl, rfl⟩)
        | (refine CallK.use (ta) ?_; rintro r G' _ _ ⟨rfl, rfl⟩)
        | simp (disch := first | (with_reducible assumption) | (simp; done) | omega | (simp; omega)) [h4])
      exact ends_one (by simp <;> rfl) (by simp) (hpost _ _ ⟨hn0, rfl⟩)
  · have e : joinN L a b = (L, 1) := by unfold joinN; rw [if_pos h1]
    rw [e]
    cases h2 : goodP a with
    | false =>
      rw [h2] at ga
      refine ACalls.hide fun post hpost => ?_
      refine F14_in (by simp) (by simp) fun hbd => ?_
      repeat' (first
        | refine awp_seqK fun K' hpK => ?_
        | refine awp_block ?_
        | refine awp_condG fun A' B' hpA hpB => ?_
        | refine useK (by with_reducible assumption) ?_
        | refine useP (by with_reducible assumption) ?_
        | refine ED_cons (fun _ => ?_) ?_
        | (refine stable_mk ?_; simp (disch := first | (with_reducible assumption) | (simp; done) | omega | (simp; omega)); done)
        | (refine stable_no ?_; simp (disch := first | (with_reducible assumption) | (simp; done) | omega | (simp; omega)); done)
        | (with_reducible refine And.intro ?_ ?_)
        | (with_reducible intro hc; try (exfalso; omega))
        | (with_reducible refine GDsplit (fun hc => ?_) (fun hc => ?_) <;> try simp [hc])
        | (with_reducible refine GDsplitN (fun hc => ?_) (fun hc => ?_) <;> try simp [hc])
        | (with_reducible refine GDsplitNB (fun hc => ?_) (fun hc => ?_) <;> try simp [hc])
        | (with_reducible refine GDsplitB (fun hc => ?_) (fun hc => ?_) <;> try simp [hc])
        | (with_reducible refine GKsplit (fun hc => ?_) (fun hc => ?_) <;> try simp [hc])
        | (with_reducible refine GKsplitN (fun hc => ?_) (fun hc => ?_) <;> try simp [hc])
        | (with_reducible refine GKsplitNB (fun hc => ?_) (fun hc => ?_) <;> try simp [hc])
        | (with_reducible refine GKsplitB (fun hc => ?_) (fun hc => ?_) <;> try simp [hc])
        | (refine CallK.use (ga _) ?_; rintro r G' _ _ ⟨rfl, rfl⟩)
        | simp (disch := first | (with_reducible assumption) | (simp; done) | omega | (simp; omega)))
      exact ends_one (by simp <;> rfl) (by simp) (hpost _ _ ⟨hn0, rfl⟩)
    | true =>
      rw [h2] at ga
      cases h3 : goodP b with
      | false =>
        rw [h3] at gb
        refine ACalls.hide fun post hpost => ?_
        refine F14_in (by simp) (by simp) fun hbd => ?_
        repeat' (first
          | refine awp_seqK fun K' hpK => ?_
          | refine awp_block ?_
          | refine awp_condG fun A' B' hpA hpB => ?_
          | refine useK (by with_reducible assumption) ?_
          | refine useP (by with_reducible assumption) ?_
          | refine ED_cons (fun _ => ?_) ?_
          | (refine stable_mk ?_; simp (disch := first | (with_reducible assumption) | (simp; done) | omega | (simp; omega)); done)
          | (refine stable_no ?_; simp (disch := first | (with_reducible assumption) | (simp; done) | omega | (simp; omega)); done)
          | (with_reducible refine And.intro ?_ ?_)
          | (with_reducible intro hc; try (exfalso; omega))
          | (with_reducible refine GDsplit (fun hc => ?_) (fun hc => ?_) <;> try simp [hc])
          | (with_reducible refine GDsplitN (fun hc => ?_) (fun hc => ?_) <;> try simp [hc])
          | (with_reducible refine GDsplitNB (fun hc => ?_) (fun hc => ?_) <;> try simp [hc])
          | (with_reducible refine GDsplitB (fun hc => ?_) (fun hc => ?_) <;> try simp [hc])
          | (with_reducible refine GKsplit (fun hc => ?_) (fun hc => ?_) <;> try simp [hc])
          | (with_reducible refine GKsplitN (fun hc => ?_) (fun hc => ?_) <;> try simp [hc])
          | (with_reducible refine GKsplitNB (fun hc => ?_) (fun hc => ?_) <;> try simp [hc])
          | (with_reducible refine GKsplitB (fun hc => ?_) (fun hc => ?_) <;> try simp [hc])
          | (refine CallK.use (ga _) ?_; rintro r G' _ _ ⟨rfl, rfl⟩)
          | (refine CallK.use (gb _) ?_; rintro r G' _ _ ⟨rfl, rfl⟩)
          | simp (disch := first | (with_reducible assumption) | (simp; done) | omega | (simp; omega)))
        exact ends_one (by simp <;> rfl) (by simp) (hpost _ _ ⟨hn0, rfl⟩)
      | true =>
        rw [h3] at gb
        have h4 : a = b := Decidable.byContradiction fun h => h1 ⟨h2, h3, h⟩
        refine ACalls.hide fun post hpost => ?_
        refine F14_in (by simp) (by simp) fun hbd => ?_
        repeat' (first
          | refine awp_seqK fun K' hpK => ?_
          | refine awp_block ?_
          | refine awp_condG fun A' B' hpA hpB => ?_
          | refine useK (by with_reducible assumption) ?_
          | refine useP (by with_reducible assumption) ?_
          | refine ED_cons (fun _ => ?_) ?_
          | (refine stable_mk ?_; simp (disch := first | (with_reducible assumption) | (simp; done) | omega | (simp; omega)) [h4]; done)
          | (refine stable_no ?_; simp (disch := first | (with_reducible assumption) | (simp; done) | omega | (simp; omega)) [h4]; done)
          | (with_reducible refine And.intro ?_ ?_)
          | (with_reducible intro hc; try (exfalso; omega))
          | (with_reducible refine GDsplit (fun hc => ?_) (fun hc => ?_) <;> try simp [hc])
          | (with_reducible refine GDsplitN (fun hc => ?_) (fun hc => ?_) <;> try simp [hc])
          | (with_reducible refine GDsplitNB (fun hc => ?_) (fun hc => ?_) <;> try simp [hc])
          | (with_reducible refine GDsplitB (fun hc => ?_) (fun hc => ?_) <;> try simp [hc])
          | (with_reducible refine GKsplit (fun hc => ?_) (fun hc => ?_) <;> try simp [hc])
          | (with_reducible refine GKsplitN (fun hc => ?_) (fun hc => ?_) <;> try simp [hc])
          | (with_reducible refine GKsplitNB (fun hc => ?_) (fun hc => ?_) <;> try simp [hc])
          | (with_reducible refine GKsplitB (fun hc => ?_) (fun hc => ?_) <;> try simp [hc])
          | (refine CallK.use (ga _) ?_; rintro r G' _ _ ⟨rfl, rfl⟩)
          | (refine CallK.use (gb _) ?_; rintro r G' _ _ ⟨rfl, rfl⟩)
          | simp (disch := first | (with_reducible assumption) | (simp; done) | omega | (simp; omega)) [h4])
        exact ends_one (by simp <;> rfl) (by simp) (hpost _ _ ⟨hn0, rfl⟩)

set_option maxHeartbeats 4000000 in
theorem attachC {nb : Nat} {G : Hp} {L : List (Int × End)} {ho : Int} {p : Pl} (hn : NetH nb G L) (hok : NOk L) : ACalls Try.prog 15 [.ptr nb 0, .int .i64 ho, p.av] G fun r G' => NetH nb G' (attachN L ho p).1 ∧ r = .int .i64 (attachN L ho p).2 := by
  have hn0 := hn
  obtain ⟨sb, h, hG, hnb, hs⟩ := hn
  have hl := hok.len hs.2
  have gp := fun G => goodC (p := p) (G := G)
  have tp := taken_c (p := p) hn0 (by omega)
  have wh := whereC (hst := ho) hn0 hok
  by_cases h1 : 0 ≤ ho ∧ ho ≤ 15 ∧ goodP p = true
  · obtain ⟨h2, h3, h4⟩ := h1
    have h2' : ¬ ho < 0 := by omega
    have h3' : ¬ 16 ≤ ho := by omega
    rw [h4] at gp
    have np := fun G => number_c (p := p) (G := G) h4
    have e0 : attachN L ho p = if (whereN L ho).isSome = true ∨ (otherN L p).kind ≠ 0 then (L, 3) else (setL L (numP p) ⟨2, 0, 0, ho⟩, 0) := by unfold attachN; rw [if_neg (by simp [h2, h3, h4])]
    rw [e0]
    cases hw : (whereN L ho).isSome with
    | true =>
      rw [hw] at wh
      rw [if_pos (by simp)]
      refine ACalls.hide fun post hpost => ?_
      refine F15_in (by simp) (by simp) fun hbd => ?_
      repeat' (first
        | refine awp_seqK fun K' hpK => ?_
        | refine awp_block ?_
        | refine awp_condG fun A' B' hpA hpB => ?_
        | refine useK (by with_reducible assumption) ?_
        | refine useP (by with_reducible assumption) ?_
        | refine ED_cons (fun _ => ?_) ?_
        | (refine stable_mk ?_; simp (disch := first | (with_reducible assumption) | (simp; done) | omega | (simp; omega)) [h2', h3']; done)
        | (refine stable_no ?_; simp (disch := first | (with_reducible assumption) | (simp; done) | omega | (simp; omega)) [h2', h3']; done)
        | (with_reducible refine And.intro ?_ ?_)
        | (with_reducible intro hc; try (exfalso; omega))
        | (with_reducible refine GDsplit (fun hc => ?_) (fun hc => ?_) <;> try simp [hc])
        | (with_reducible refine GDsplitN (fun hc => ?_) (fun hc => ?_) <;> try simp [hc])
        | (with_reducible refine GDsplitNB (fun hc => ?_) (fun hc => ?_) <;> try simp [hc])
        | (with_reducible refine GDsplitB (fun hc => ?_) (fun hc => ?_) <;> try simp [hc])
        | (with_reducible refine GKsplit (fun hc => ?_) (fun hc => ?_) <;> try simp [hc])
        | (with_reducible refine GKsplitN (fun hc => ?_) (fun hc => ?_) <;> try simp [hc])
        | (with_reducible refine GKsplitNB (fun hc => ?_) (fun hc => ?_) <;> try simp [hc])
        | (with_reducible refine GKsplitB (fun hc => ?_) (fun hc => ?_) <;> try simp [hc])
        | (refine CallK.use (gp _) ?_; rintro r G' _ _ ⟨rfl, rfl⟩)
        | (refine CallK.use (wh) ?_; rintro r G' _ _ ⟨rfl, rfl⟩)
        | simp (disch := first | (with_reducible assumption) | (simp; done) | omega | (simp; omega)) [h2', h3'])
      exact ends_one (by simp <;> rfl) (by simp) (hpost _ _ ⟨hn0, rfl⟩)
    | false =>
      rw [hw] at wh
      by_cases hk : (otherN L p).kind = 0
      · rw [decide_eq_true hk] at tp
        rw [if_neg (by simp [hk])]
        have s1 := (setN (v := ⟨2, 0, 0, ho⟩) hs hok h4 (.inr rfl)).frame1 (o := (0, [.ptr sb 0])) hnb
        subst hG
        refine ACalls.hide fun post hpost => ?_
        refine F15_in (by simp) (by simp) fun hbd => ?_
        repeat' (first
          | refine awp_seqK fun K' hpK => ?_
          | refine awp_block ?_
          | refine awp_condG fun A' B' hpA hpB => ?_
          | refine useK (by with_reducible assumption) ?_
          | refine useP (by with_reducible assumption) ?_
          | refine ED_cons (fun _ => ?_) ?_
          | (refine stable_mk ?_; simp (disch := first | (with_reducible assumption) | (simp; done) | omega | (simp; omega)) [h2', h3']; done)
          | (refine stable_no ?_; simp (disch := first | (with_reducible assumption) | (simp; done) | omega | (simp; omega)) [h2', h3']; done)
          | (with_reducible refine And.intro ?_ ?_)
          | (with_reducible intro hc; try (exfalso; omega))
          | (with_reducible refine GDsplit (fun hc => ?_) (fun hc => ?_) <;> try simp [hc])
          | (with_reducible refine GDsplitN (fun hc => ?_) (fun hc => ?_) <;> try simp [hc])
          | (with_reducible refine GDsplitNB (fun hc => ?_) (fun hc => ?_) <;> try simp [hc])
          | (with_reducible refine GDsplitB (fun hc => ?_) (fun hc => ?_) <;> try simp [hc])
          | (with_reducible refine GKsplit (fun hc => ?_) (fun hc => ?_) <;> try simp [hc])
          | (with_reducible refine GKsplitN (fun hc => ?_) (fun hc => ?_) <;> try simp [hc])
          | (with_reducible refine GKsplitNB (fun hc => ?_) (fun hc => ?_) <;> try simp [hc])
          | (with_reducible refine GKsplitB (fun hc => ?_) (fun hc => ?_) <;> try simp [hc])
          | (refine CallK.use (gp _) ?_; rintro r G' _ _ ⟨rfl, rfl⟩)
          | (refine CallK.use (wh) ?_; rintro r G' _ _ ⟨rfl, rfl⟩)
          | (refine CallK.use (tp) ?_; rintro r G' _ _ ⟨rfl, rfl⟩)
          | (refine CallK.use (np _) ?_; rintro r G' _ _ ⟨rfl, rfl⟩)
          | (refine CallK.use (s1) ?_; rintro r G' _ _ ⟨h', hnb', rfl, hs', rfl⟩)
          | simp (disch := first | (with_reducible assumption) | (simp; done) | omega | (simp; omega)) [h2', h3'])
        exact ends_one (by simp <;> rfl) (by simp) (hpost _ _ ⟨⟨sb, h', rfl, hnb', hs'⟩, rfl⟩)
      · rw [decide_eq_false hk] at tp
        rw [if_pos (by simp [hk])]
        refine ACalls.hide fun post hpost => ?_
        refine F15_in (by simp) (by simp) fun hbd => ?_
        repeat' (first
          | refine awp_seqK fun K' hpK => ?_
          | refine awp_block ?_
          | refine awp_condG fun A' B' hpA hpB => ?_
          | refine useK (by with_reducible assumption) ?_
          | refine useP (by with_reducible assumption) ?_
          | refine ED_cons (fun _ => ?_) ?_
          | (refine stable_mk ?_; simp (disch := first | (with_reducible assumption) | (simp; done) | omega | (simp; omega)) [h2', h3']; done)
          | (refine stable_no ?_; simp (disch := first | (with_reducible assumption) | (simp; done) | omega | (simp; omega)) [h2', h3']; done)
          | (with_reducible refine And.intro ?_ ?_)
          | (with_reducible intro hc; try (exfalso; omega))
          | (with_reducible refine GDsplit (fun hc => ?_) (fun hc => ?_) <;> try simp [hc])
          | (with_reducible refine GDsplitN (fun hc => ?_) (fun hc => ?_) <;> try simp [hc])
          | (with_reducible refine GDsplitNB (fun hc => ?_) (fun hc => ?_) <;> try simp [hc])
          | (with_reducible refine GDsplitB (fun hc => ?_) (fun hc => ?_) <;> try simp [hc])
          | (with_reducible refine GKsplit (fun hc => ?_) (fun hc => ?_) <;> try simp [hc])
          | (with_reducible refine GKsplitN (fun hc => ?_) (fun hc => ?_) <;> try simp [hc])
          | (with_reducible refine GKsplitNB (fun hc => ?_) (fun hc => ?_) <;> try simp [hc])
          | (with_reducible refine GKsplitB (fun hc => ?_) (fun hc => ?_) <;> try simp [hc])
          | (refine CallK.use (gp _) ?_; rintro r G' _ _ ⟨rfl, rfl⟩)
          | (refine CallK.use (wh) ?_; rintro r G' _ _ ⟨rfl, rfl⟩)
          | (refine CallK.use (tp) ?_; rintro r G' _ _ ⟨rfl, rfl⟩)
          | simp (disch := first | (with_reducible assumption) | (simp; done) | omega | (simp; omega)) [h2', h3'])
        exact ends_one (by simp <;> rfl) (by simp) (hpost _ _ ⟨hn0, rfl⟩)
  · have e : attachN L ho p = (L, 1) := by unfold attachN; rw [if_pos h1]
    rw [e]
    by_cases h2 : ho < 0
    · refine ACalls.hide fun post hpost => ?_
      refine F15_in (by simp) (by simp) fun hbd => ?_
      repeat' (first
        | refine awp_seqK fun K' hpK => ?_
        | refine awp_block ?_
        | refine awp_condG fun A' B' hpA hpB => ?_
        | refine useK (by with_reducible assumption) ?_
        | refine useP (by with_reducible assumption) ?_
        | refine ED_cons (fun _ => ?_) ?_
        | (refine stable_mk ?_; simp (disch := first | (with_reducible assumption) | (simp; done) | omega | (simp; omega)) [h2]; done)
        | (refine stable_no ?_; simp (disch := first | (with_reducible assumption) | (simp; done) | omega | (simp; omega)) [h2]; done)
        | (with_reducible refine And.intro ?_ ?_)
        | (with_reducible intro hc; try (exfalso; omega))
        | (with_reducible refine GDsplit (fun hc => ?_) (fun hc => ?_) <;> try simp [hc])
        | (with_reducible refine GDsplitN (fun hc => ?_) (fun hc => ?_) <;> try simp [hc])
        | (with_reducible refine GDsplitNB (fun hc => ?_) (fun hc => ?_) <;> try simp [hc])
        | (with_reducible refine GDsplitB (fun hc => ?_) (fun hc => ?_) <;> try simp [hc])
        | (with_reducible refine GKsplit (fun hc => ?_) (fun hc => ?_) <;> try simp [hc])
        | (with_reducible refine GKsplitN (fun hc => ?_) (fun hc => ?_) <;> try simp [hc])
        | (with_reducible refine GKsplitNB (fun hc => ?_) (fun hc => ?_) <;> try simp [hc])
        | (with_reducible refine GKsplitB (fun hc => ?_) (fun hc => ?_) <;> try simp [hc])
        | (refine CallK.use (gp _) ?_; rintro r G' _ _ ⟨rfl, rfl⟩)
        | simp (disch := first | (with_reducible assumption) | (simp; done) | omega | (simp; omega)) [h2])
      all_goals exact ends_one (by simp <;> rfl) (by simp) (hpost _ _ ⟨hn0, rfl⟩)
    · by_cases h3 : 16 ≤ ho
      · refine ACalls.hide fun post hpost => ?_
        refine F15_in (by simp) (by simp) fun hbd => ?_
        repeat' (first
          | refine awp_seqK fun K' hpK => ?_
          | refine awp_block ?_
          | refine awp_condG fun A' B' hpA hpB => ?_
          | refine useK (by with_reducible assumption) ?_
          | refine useP (by with_reducible assumption) ?_
          | refine ED_cons (fun _ => ?_) ?_
          | (refine stable_mk ?_; simp (disch := first | (with_reducible assumption) | (simp; done) | omega | (simp; omega)) [h2, h3]; done)
          | (refine stable_no ?_; simp (disch := first | (with_reducible assumption) | (simp; done) | omega | (simp; omega)) [h2, h3]; done)
          | (with_reducible refine And.intro ?_ ?_)
          | (with_reducible intro hc; try (exfalso; omega))
          | (with_reducible refine GDsplit (fun hc => ?_) (fun hc => ?_) <;> try simp [hc])
          | (with_reducible refine GDsplitN (fun hc => ?_) (fun hc => ?_) <;> try simp [hc])
          | (with_reducible refine GDsplitNB (fun hc => ?_) (fun hc => ?_) <;> try simp [hc])
          | (with_reducible refine GDsplitB (fun hc => ?_) (fun hc => ?_) <;> try simp [hc])
          | (with_reducible refine GKsplit (fun hc => ?_) (fun hc => ?_) <;> try simp [hc])
          | (with_reducible refine GKsplitN (fun hc => ?_) (fun hc => ?_) <;> try simp [hc])
          | (with_reducible refine GKsplitNB (fun hc => ?_) (fun hc => ?_) <;> try simp [hc])
          | (with_reducible refine GKsplitB (fun hc => ?_) (fun hc => ?_) <;> try simp [hc])
          | (refine CallK.use (gp _) ?_; rintro r G' _ _ ⟨rfl, rfl⟩)
          | simp (disch := first | (with_reducible assumption) | (simp; done) | omega | (simp; omega)) [h2, h3])
        all_goals exact ends_one (by simp <;> rfl) (by simp) (hpost _ _ ⟨hn0, rfl⟩)
      · have h4 : goodP p = false := by cases hg : goodP p with
          | false => rfl
          | true => exact absurd ⟨by omega, by omega, hg⟩ h1
        rw [h4] at gp
        refine ACalls.hide fun post hpost => ?_
        refine F15_in (by simp) (by simp) fun hbd => ?_
        repeat' (first
          | refine awp_seqK fun K' hpK => ?_
          | refine awp_block ?_
          | refine awp_condG fun A' B' hpA hpB => ?_
          | refine useK (by with_reducible assumption) ?_
          | refine useP (by with_reducible assumption) ?_
          | refine ED_cons (fun _ => ?_) ?_
          | (refine stable_mk ?_; simp (disch := first | (with_reducible assumption) | (simp; done) | omega | (simp; omega)) [h2, h3]; done)
          | (refine stable_no ?_; simp (disch := first | (with_reducible assumption) | (simp; done) | omega | (simp; omega)) [h2, h3]; done)
          | (with_reducible refine And.intro ?_ ?_)
          | (with_reducible intro hc; try (exfalso; omega))
          | (with_reducible refine GDsplit (fun hc => ?_) (fun hc => ?_) <;> try simp [hc])
          | (with_reducible refine GDsplitN (fun hc => ?_) (fun hc => ?_) <;> try simp [hc])
          | (with_reducible refine GDsplitNB (fun hc => ?_) (fun hc => ?_) <;> try simp [hc])
          | (with_reducible refine GDsplitB (fun hc => ?_) (fun hc => ?_) <;> try simp [hc])
          | (with_reducible refine GKsplit (fun hc => ?_) (fun hc => ?_) <;> try simp [hc])
          | (with_reducible refine GKsplitN (fun hc => ?_) (fun hc => ?_) <;> try simp [hc])
          | (with_reducible refine GKsplitNB (fun hc => ?_) (fun hc => ?_) <;> try simp [hc])
          | (with_reducible refine GKsplitB (fun hc => ?_) (fun hc => ?_) <;> try simp [hc])
          | (refine CallK.use (gp _) ?_; rintro r G' _ _ ⟨rfl, rfl⟩)
          | simp (disch := first | (with_reducible assumption) | (simp; done) | omega | (simp; omega)) [h2, h3])
        all_goals exact ends_one (by simp <;> rfl) (by simp) (hpost _ _ ⟨hn0, rfl⟩)

theorem del1 {sb : Nat} {h : Hp} {L : List (Int × End)} {k : Int} (hs : SHE sb h L 64) (hl : L.length ≤ 64) : ACalls Try.prog 31 [.ptr sb 0, .sl 1 [.int .i64 k]] h fun r h' => SHE sb h' (delL L k) 64 ∧ ∃ n, r = .int .i64 n := by
  have := delE_c (s := some [k]) hs (by omega) (by simp)
  refine ACalls.mono (p := fun r h' => SHE sb h' (delsLE L (LL (some [k]))) 64 ∧ r = .int .i64 (delsNE L (LL (some [k])))) this ?_
  rintro r h' ⟨h1, rfl⟩
  exact ⟨h1, _, rfl⟩
theorem otherN_good {L : List (Int × End)} {p : Pl} (h : (otherN L p).kind ≠ 0) : goodP p = true ∧ (numP p, otherN L p) ∈ L := by
  unfold otherN at h ⊢
  split at h
  · rename_i hg
    rw [if_pos hg]
    refine ⟨hg, ?_⟩
    cases hq : getL L (numP p) with
    | none => rw [hq] at h; simp [e0] at h
    | some e => exact getL_mem hq
  · simp [e0] at h

set_option maxHeartbeats 4000000 in
theorem pullC {nb : Nat} {G : Hp} {L : List (Int × End)} {p : Pl} (hn : NetH nb G L) (hok : NOk L) : ACalls Try.prog 13 [.ptr nb 0, p.av] G fun r G' => NetH nb G' (pullN L p) ∧ r = .tup [(otherN L p).av, .bool (!decide ((otherN L p).kind = 0))] := by
  have hn0 := hn
  obtain ⟨sb, h, hG, hnb, hs⟩ := hn
  have hl := hok.len hs.2
  have oc := otherC (p := p) hn0 (by omega)
  by_cases h0 : (otherN L p).kind = 0
  · have e : pullN L p = L := if_pos h0
    have e1 : otherN L p = e0 := by
      unfold otherN at h0 ⊢
      split at h0
      · rename_i hg
        rw [if_pos hg]
        cases hq : getL L (numP p) with
        | none => rfl
        | some v => rw [hq] at h0; exact absurd h0 (hok _ (getL_mem hq)).2.ne
      · rename_i hg; rw [if_neg hg]
    rw [e, e1]
    rw [e1] at oc
    refine ACalls.hide fun post hpost => ?_
    refine F13_in (by simp) (by simp) fun hbd => ?_
    repeat' (first
      | refine awp_seqK fun K' hpK => ?_
      | refine awp_block ?_
      | refine awp_condG fun A' B' hpA hpB => ?_
      | refine useK (by with_reducible assumption) ?_
      | refine useP (by with_reducible assumption) ?_
      | refine ED_cons (fun _ => ?_) ?_
      | (refine stable_mk ?_; simp (disch := first | (with_reducible assumption) | (simp; done) | omega | (simp; omega)) [e0]; done)
      | (refine stable_no ?_; simp (disch := first | (with_reducible assumption) | (simp; done) | omega | (simp; omega)) [e0]; done)
      | (with_reducible refine And.intro ?_ ?_)
      | (with_reducible intro hc; try (exfalso; omega))
      | (with_reducible refine GDsplit (fun hc => ?_) (fun hc => ?_) <;> try simp [hc])
      | (with_reducible refine GDsplitN (fun hc => ?_) (fun hc => ?_) <;> try simp [hc])
      | (with_reducible refine GDsplitNB (fun hc => ?_) (fun hc => ?_) <;> try simp [hc])
      | (with_reducible refine GDsplitB (fun hc => ?_) (fun hc => ?_) <;> try simp [hc])
      | (with_reducible refine GKsplit (fun hc => ?_) (fun hc => ?_) <;> try simp [hc])
      | (with_reducible refine GKsplitN (fun hc => ?_) (fun hc => ?_) <;> try simp [hc])
      | (with_reducible refine GKsplitNB (fun hc => ?_) (fun hc => ?_) <;> try simp [hc])
      | (with_reducible refine GKsplitB (fun hc => ?_) (fun hc => ?_) <;> try simp [hc])
      | (refine CallK.use (oc) ?_; rintro r G' _ _ ⟨rfl, rfl⟩)
      | simp (disch := first | (with_reducible assumption) | (simp; done) | omega | (simp; omega)) [e0])
    exact ends_two (by simp <;> exact ⟨rfl, rfl⟩) (by simp) (by simp) (hpost _ _ ⟨hn0, by simp [e0]⟩)
  · obtain ⟨hg, hm⟩ := otherN_good h0
    have np := fun G => number_c (p := p) (G := G) hg
    have d1 := (del1 (k := numP p) hs hl).frame1 (o := (0, [.ptr sb 0])) hnb
    subst hG
    by_cases h1 : (otherN L p).kind = 1
    · have hq := (hok _ hm).2.good h1
      have nq := fun G => number_c (p := (otherN L p).pl) (G := G) hq
      have e : pullN L p = delL (delL L (numP p)) (numP (otherN L p).pl) := by unfold pullN; rw [if_neg h0, if_pos h1]
      rw [e]
      refine ACalls.hide fun post hpost => ?_
      refine F13_in (by simp) (by simp) fun hbd => ?_
      repeat' (first
        | refine awp_seqK fun K' hpK => ?_
        | refine awp_block ?_
        | refine awp_condG fun A' B' hpA hpB => ?_
        | refine useK (by with_reducible assumption) ?_
        | refine useP (by with_reducible assumption) ?_
        | refine ED_cons (fun _ => ?_) ?_
        | (refine stable_mk ?_; simp (disch := first | (with_reducible assumption) | (simp; done) | omega | (simp; omega)) [h0, h1]; done)
        | (refine stable_no ?_; simp (disch := first | (with_reducible assumption) | (simp; done) | omega | (simp; omega)) [h0, h1]; done)
        | (with_reducible refine And.intro ?_ ?_)
        | (with_reducible intro hc; try (exfalso; omega))
        | (with_reducible refine GDsplit (fun hc => ?_) (fun hc => ?_) <;> try simp [hc])
        | (with_reducible refine GDsplitN (fun hc => ?_) (fun hc => ?_) <;> try simp [hc])
        | (with_reducible refine GDsplitNB (fun hc => ?_) (fun hc => ?_) <;> try simp [hc])
        | (with_reducible refine GDsplitB (fun hc => ?_) (fun hc => ?_) <;> try simp [hc])
        | (with_reducible refine GKsplit (fun hc => ?_) (fun hc => ?_) <;> try simp [hc])
        | (with_reducible refine GKsplitN (fun hc => ?_) (fun hc => ?_) <;> try simp [hc])
        | (with_reducible refine GKsplitNB (fun hc => ?_) (fun hc => ?_) <;> try simp [hc])
        | (with_reducible refine GKsplitB (fun hc => ?_) (fun hc => ?_) <;> try simp [hc])
        | (refine CallK.use (oc) ?_; rintro r G' _ _ ⟨rfl, rfl⟩)
        | (refine CallK.use (np _) ?_; rintro r G' _ _ ⟨rfl, rfl⟩)
        | (refine CallK.use (d1) ?_; rintro r G' _ _ ⟨h', hnb', rfl, hs', n1, rfl⟩)
        | simp (disch := first | (with_reducible assumption) | (simp; done) | omega | (simp; omega)) [h0, h1])
      have d2 := (del1 (k := numP (otherN L p).pl) hs' (Nat.le_trans (delL_len_le _ _) hl)).frame1 (o := (0, [.ptr sb 0])) hnb'
      repeat' (first
        | refine awp_seqK fun K' hpK => ?_
        | refine awp_block ?_
        | refine awp_condG fun A' B' hpA hpB => ?_
        | refine useK (by with_reducible assumption) ?_
        | refine useP (by with_reducible assumption) ?_
        | refine ED_cons (fun _ => ?_) ?_
        | (refine stable_mk ?_; simp (disch := first | (with_reducible assumption) | (simp; done) | omega | (simp; omega)); done)
        | (refine stable_no ?_; simp (disch := first | (with_reducible assumption) | (simp; done) | omega | (simp; omega)); done)
        | (with_reducible refine And.intro ?_ ?_)
        | (with_reducible intro hc; try (exfalso; omega))
        | (with_reducible refine GDsplit (fun hc => ?_) (fun hc => ?_) <;> try simp [hc])
        | (with_reducible refine GDsplitN (fun hc => ?_) (fun hc => ?_) <;> try simp [hc])
        | (with_reducible refine GDsplitNB (fun hc => ?_) (fun hc => ?_) <;> try simp [hc])
        | (with_reducible refine GDsplitB (fun hc => ?_) (fun hc => ?_) <;> try simp [hc])
        | (with_reducible refine GKsplit (fun hc => ?_) (fun hc => ?_) <;> try simp [hc])
        | (with_reducible refine GKsplitN (fun hc => ?_) (fun hc => ?_) <;> try simp [hc])
        | (with_reducible refine GKsplitNB (fun hc => ?_) (fun hc => ?_) <;> try simp [hc])
        | (with_reducible refine GKsplitB (fun hc => ?_) (fun hc => ?_) <;> try simp [hc])
        | (refine CallK.use (nq _) ?_; rintro r G' _ _ ⟨rfl, rfl⟩)
        | (refine CallK.use (d2) ?_; rintro r G' _ _ ⟨h2', hnb2, rfl, hs2, n2, rfl⟩)
        | simp (disch := first | (with_reducible assumption) | (simp; done) | omega | (simp; omega)))
      exact ends_two (by simp <;> exact ⟨rfl, rfl⟩) (by simp) (by simp) (hpost _ _ ⟨⟨sb, h2', rfl, hnb2, hs2⟩, by simp [h0, h1]⟩)
    · have e : pullN L p = delL L (numP p) := by unfold pullN; rw [if_neg h0, if_neg h1]
      rw [e]
      refine ACalls.hide fun post hpost => ?_
      refine F13_in (by simp) (by simp) fun hbd => ?_
      repeat' (first
        | refine awp_seqK fun K' hpK => ?_
        | refine awp_block ?_
        | refine awp_condG fun A' B' hpA hpB => ?_
        | refine useK (by with_reducible assumption) ?_
        | refine useP (by with_reducible assumption) ?_
        | refine ED_cons (fun _ => ?_) ?_
        | (refine stable_mk ?_; simp (disch := first | (with_reducible assumption) | (simp; done) | omega | (simp; omega)) [h0, h1]; done)
        | (refine stable_no ?_; simp (disch := first | (with_reducible assumption) | (simp; done) | omega | (simp; omega)) [h0, h1]; done)
        | (with_reducible refine And.intro ?_ ?_)
        | (with_reducible intro hc; try (exfalso; omega))
        | (with_reducible refine GDsplit (fun hc => ?_) (fun hc => ?_) <;> try simp [hc])
        | (with_reducible refine GDsplitN (fun hc => ?_) (fun hc => ?_) <;> try simp [hc])
        | (with_reducible refine GDsplitNB (fun hc => ?_) (fun hc => ?_) <;> try simp [hc])
        | (with_reducible refine GDsplitB (fun hc => ?_) (fun hc => ?_) <;> try simp [hc])
        | (with_reducible refine GKsplit (fun hc => ?_) (fun hc => ?_) <;> try simp [hc])
        | (with_reducible refine GKsplitN (fun hc => ?_) (fun hc => ?_) <;> try simp [hc])
        | (with_reducible refine GKsplitNB (fun hc => ?_) (fun hc => ?_) <;> try simp [hc])
        | (with_reducible refine GKsplitB (fun hc => ?_) (fun hc => ?_) <;> try simp [hc])
        | (refine CallK.use (oc) ?_; rintro r G' _ _ ⟨rfl, rfl⟩)
        | (refine CallK.use (np _) ?_; rintro r G' _ _ ⟨rfl, rfl⟩)
        | (refine CallK.use (d1) ?_; rintro r G' _ _ ⟨h', hnb', rfl, hs', n1, rfl⟩)
        | simp (disch := first | (with_reducible assumption) | (simp; done) | omega | (simp; omega)) [h0, h1])
      exact ends_two (by simp <;> exact ⟨rfl, rfl⟩) (by simp) (by simp) (hpost _ _ ⟨⟨sb, h', rfl, hnb', hs'⟩, by simp [h0]⟩)
end Go.Proofs.Ytbmlapcigkgdlaa
