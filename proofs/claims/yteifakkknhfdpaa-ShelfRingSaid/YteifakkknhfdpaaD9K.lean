import Derived.Test.YteifakkknhfdpaaD8K
set_option linter.unusedSimpArgs false
set_option linter.unusedVariables false
namespace Go.Proofs.Yteifakkknhfdpaa
open Go Go.Al
set_option maxRecDepth 20000
attribute [local irreducible] awp aops aopsD eop pv ACalls CallK AppK AEnds ti

theorem atL_none {l : List Int} {i : Int} (h : atL l i = none) : i < 0 ∨ (l.length : Int) ≤ i := by
  unfold atL at h
  split at h
  · rename_i h0
    have := List.getElem?_eq_none_iff.1 h
    omega
  · omega
theorem cutAt_0 {l : List Int} (h : 0 < l.length) : cutAt l 0 = l.drop 1 ∧ atL l 0 = some l[0] := by
  have e : atL l 0 = some l[0] := by simp [atL, h]
  refine ⟨?_, e⟩
  unfold cutAt; rw [e]; simp

set_option maxHeartbeats 4000000 in
theorem ring_1 {rb : Nat} {h : Hp} {l : List Int} {mx : Int} {s : Option (List Int)} {x : Cl} (hr : RingH rb h l mx) (hs : LL s = l) (hl : l.length ≤ 1000) (hm : 0 ≤ mx) (hm2 : mx ≤ 100) (hx : x.kd = 1) :
    ACalls Try.prog 16 [.ptr rb 0, ofS cI s, .int .i64 mx, .agg (cCl x)] h fun r h' => ∃ l' s', r = .tup [ofS cI s', .bool true] ∧ RingH rb h' l' mx ∧ LL s' = l' ∧ l'.length ≤ l.length + 2 := by
  obtain ⟨kd, i, v, w, k, st⟩ := x
  simp only at hx
  subst hx hs
  have hp := push_c (v := v) hr (by omega)
  by_cases h0 : mx = 0
  · have e1 : pushL (LL s) mx v = LL s := by simp [pushL, h0]
    have e2 : pushV (LL s) mx v = v := by simp [pushV, h0]
    have e3 : pushB (LL s) mx = true := by simp [pushB, h0]
    rw [e1, e2, e3] at hp
    subst h0
    refine ACalls.hide fun post hpost => ?_
    refine F16_in (by simp) (by simp) fun hbd => ?_
    repeat' (first
      | refine awp_seqK fun K' hpK => ?_
      | refine awp_block ?_
      | refine awp_condG fun A' B' hpA hpB => ?_
      | refine useK (by with_reducible assumption) ?_
      | refine useP (by with_reducible assumption) ?_
      | refine ED_cons (fun _ => ?_) ?_
      | (refine stable_mk ?_; simp (disch := first | (with_reducible assumption) | (simp; done) | omega | (simp; omega)) [cCl]; done)
      | (refine stable_no ?_; simp (disch := first | (with_reducible assumption) | (simp; done) | omega | (simp; omega)) [cCl]; done)
      | (with_reducible refine And.intro ?_ ?_)
      | (with_reducible intro hc; try (exfalso; omega))
      | (with_reducible refine GDsplit (fun hc => ?_) (fun hc => ?_) <;> try simp [hc])
      | (with_reducible refine GDsplitN (fun hc => ?_) (fun hc => ?_) <;> try simp [hc])
      | (with_reducible refine GDsplitNB (fun hc => ?_) (fun hc => ?_) <;> try simp [hc])
      | (with_reducible refine GDsplitB (fun hc => ?_) (fun hc => ?_) <;> try simp [hc])
      | (with_reducible refine GKsplit (fun hc => ?_) (fun hc => ?_) <;> try simp [hc])
      | (with_reducible refine GKsplitN (fun hc => ?_) (fun hc => ?_) <;> try simp [hc])
      | (with_reducible refine GKsplitNB (fun hc => ?_) (fun hc => ?_) <;> try simp [hc])
      | (with_reducible refine GKsplitB (fun hc => ?_) (fun hc => ?_) <;> try simp [hc])
      | (refine CallK.use (hp) ?_; rintro r G' _ _ ⟨hr', rfl⟩)
      | simp (disch := first | (with_reducible assumption) | (simp; done) | omega | (simp; omega)) [cCl])
    exact ends_two (by simp <;> exact ⟨rfl, rfl⟩) (by simp) (by simp) (hpost _ _ ⟨_, s, rfl, hr', rfl, by omega⟩)
  · by_cases h1 : ((LL s).length : Int) < mx
    · have e1 : pushL (LL s) mx v = LL s ++ [v] := by simp [pushL, h0, h1]
      have e2 : pushV (LL s) mx v = 0 := by simp [pushV, h0, h1]
      have e3 : pushB (LL s) mx = false := by simp [pushB, h0]; omega
      rw [e1, e2, e3] at hp
      refine ACalls.hide fun post hpost => ?_
      refine F16_in (by simp) (by simp) fun hbd => ?_
      repeat' (first
        | refine awp_seqK fun K' hpK => ?_
        | refine awp_block ?_
        | refine awp_condG fun A' B' hpA hpB => ?_
        | refine useK (by with_reducible assumption) ?_
        | refine useP (by with_reducible assumption) ?_
        | refine ED_cons (fun _ => ?_) ?_
        | (refine stable_mk ?_; simp (disch := first | (with_reducible assumption) | (simp; done) | omega | (simp; omega)) [cCl, fI1, h0, h1]; done)
        | (refine stable_no ?_; simp (disch := first | (with_reducible assumption) | (simp; done) | omega | (simp; omega)) [cCl, fI1, h0, h1]; done)
        | (with_reducible refine And.intro ?_ ?_)
        | (with_reducible intro hc; try (exfalso; omega))
        | (with_reducible refine GDsplit (fun hc => ?_) (fun hc => ?_) <;> try simp [hc])
        | (with_reducible refine GDsplitN (fun hc => ?_) (fun hc => ?_) <;> try simp [hc])
        | (with_reducible refine GDsplitNB (fun hc => ?_) (fun hc => ?_) <;> try simp [hc])
        | (with_reducible refine GDsplitB (fun hc => ?_) (fun hc => ?_) <;> try simp [hc])
        | (with_reducible refine GKsplit (fun hc => ?_) (fun hc => ?_) <;> try simp [hc])
        | (with_reducible refine GKsplitN (fun hc => ?_) (fun hc => ?_) <;> try simp [hc])
        | (with_reducible refine GKsplitNB (fun hc => ?_) (fun hc => ?_) <;> try simp [hc])
        | (with_reducible refine GKsplitB (fun hc => ?_) (fun hc => ?_) <;> try simp [hc])
        | (refine CallK.use (hp) ?_; rintro r G' _ _ ⟨hr', rfl⟩)
        | simp (disch := first | (with_reducible assumption) | (simp; done) | omega | (simp; omega)) [cCl, fI1, h0, h1])
      intro c hc
      refine ⟨0, ?_⟩
      repeat' (first
        | refine awp_seqK fun K' hpK => ?_
        | refine awp_block ?_
        | refine awp_condG fun A' B' hpA hpB => ?_
        | refine useK (by with_reducible assumption) ?_
        | refine useP (by with_reducible assumption) ?_
        | refine ED_cons (fun _ => ?_) ?_
        | (refine stable_mk ?_; simp (disch := first | (with_reducible assumption) | (simp; done) | omega | (simp; omega)) [fI1, h1]; done)
        | (refine stable_no ?_; simp (disch := first | (with_reducible assumption) | (simp; done) | omega | (simp; omega)) [fI1, h1]; done)
        | (with_reducible refine And.intro ?_ ?_)
        | (with_reducible intro hc; try (exfalso; omega))
        | (with_reducible refine GDsplit (fun hc => ?_) (fun hc => ?_) <;> try simp [hc])
        | (with_reducible refine GDsplitN (fun hc => ?_) (fun hc => ?_) <;> try simp [hc])
        | (with_reducible refine GDsplitNB (fun hc => ?_) (fun hc => ?_) <;> try simp [hc])
        | (with_reducible refine GDsplitB (fun hc => ?_) (fun hc => ?_) <;> try simp [hc])
        | (with_reducible refine GKsplit (fun hc => ?_) (fun hc => ?_) <;> try simp [hc])
        | (with_reducible refine GKsplitN (fun hc => ?_) (fun hc => ?_) <;> try simp [hc])
        | (with_reducible refine GKsplitNB (fun hc => ?_) (fun hc => ?_) <;> try simp [hc])
        | (with_reducible refine GKsplitB (fun hc => ?_) (fun hc => ?_) <;> try simp [hc])
        | simp (disch := first | (with_reducible assumption) | (simp; done) | omega | (simp; omega)) [fI1, h1])
      refine Grow.app (f := cI) (xs := LL s) (Grow.fresh hc) (ofS_src (by simp)) (cI_scal _) (by simp [LIM]; omega) (fun v2 G2 hg2 => ?_)
      have hv2 := hg2.plain
      repeat' (first
        | refine awp_seqK fun K' hpK => ?_
        | refine awp_block ?_
        | refine awp_condG fun A' B' hpA hpB => ?_
        | refine useK (by with_reducible assumption) ?_
        | refine useP (by with_reducible assumption) ?_
        | refine ED_cons (fun _ => ?_) ?_
        | (refine stable_mk ?_; simp (disch := first | (with_reducible assumption) | (simp; done) | omega | (simp; omega)) [hv2, fI1, h1]; done)
        | (refine stable_no ?_; simp (disch := first | (with_reducible assumption) | (simp; done) | omega | (simp; omega)) [hv2, fI1, h1]; done)
        | (with_reducible refine And.intro ?_ ?_)
        | (with_reducible intro hc; try (exfalso; omega))
        | (with_reducible refine GDsplit (fun hc => ?_) (fun hc => ?_) <;> try simp [hc])
        | (with_reducible refine GDsplitN (fun hc => ?_) (fun hc => ?_) <;> try simp [hc])
        | (with_reducible refine GDsplitNB (fun hc => ?_) (fun hc => ?_) <;> try simp [hc])
        | (with_reducible refine GDsplitB (fun hc => ?_) (fun hc => ?_) <;> try simp [hc])
        | (with_reducible refine GKsplit (fun hc => ?_) (fun hc => ?_) <;> try simp [hc])
        | (with_reducible refine GKsplitN (fun hc => ?_) (fun hc => ?_) <;> try simp [hc])
        | (with_reducible refine GKsplitNB (fun hc => ?_) (fun hc => ?_) <;> try simp [hc])
        | (with_reducible refine GKsplitB (fun hc => ?_) (fun hc => ?_) <;> try simp [hc])
        | simp (disch := first | (with_reducible assumption) | (simp; done) | omega | (simp; omega)) [hv2, fI1, h1])
      refine Grow.app (f := cI) (xs := [v]) hg2 (ofS_src (s := some [v]) (by simp)) (cI_scal _) (by simp [LIM]; omega) (fun v3 G3 hg3 => ?_)
      have hv3 := hg3.plain
      repeat' (first
        | refine awp_seqK fun K' hpK => ?_
        | refine awp_block ?_
        | refine awp_condG fun A' B' hpA hpB => ?_
        | refine useK (by with_reducible assumption) ?_
        | refine useP (by with_reducible assumption) ?_
        | refine ED_cons (fun _ => ?_) ?_
        | (refine stable_mk ?_; simp (disch := first | (with_reducible assumption) | (simp; done) | omega | (simp; omega)) [hv3, h1]; done)
        | (refine stable_no ?_; simp (disch := first | (with_reducible assumption) | (simp; done) | omega | (simp; omega)) [hv3, h1]; done)
        | (with_reducible refine And.intro ?_ ?_)
        | (with_reducible intro hc; try (exfalso; omega))
        | (with_reducible refine GDsplit (fun hc => ?_) (fun hc => ?_) <;> try simp [hc])
        | (with_reducible refine GDsplitN (fun hc => ?_) (fun hc => ?_) <;> try simp [hc])
        | (with_reducible refine GDsplitNB (fun hc => ?_) (fun hc => ?_) <;> try simp [hc])
        | (with_reducible refine GDsplitB (fun hc => ?_) (fun hc => ?_) <;> try simp [hc])
        | (with_reducible refine GKsplit (fun hc => ?_) (fun hc => ?_) <;> try simp [hc])
        | (with_reducible refine GKsplitN (fun hc => ?_) (fun hc => ?_) <;> try simp [hc])
        | (with_reducible refine GKsplitNB (fun hc => ?_) (fun hc => ?_) <;> try simp [hc])
        | (with_reducible refine GKsplitB (fun hc => ?_) (fun hc => ?_) <;> try simp [hc])
        | simp (disch := first | (with_reducible assumption) | (simp; done) | omega | (simp; omega)) [hv3, h1])
      obtain ⟨s', hs', hz, hsub⟩ := Grow.frz hg3 (by simp)
      refine ends_frn (by simp <;> exact ⟨rfl, rfl⟩) (by simp [hv3]) hsub (.cons _ _ _ _ hz (.cons _ _ _ _ (.refl _) .nil)) (hpost _ _ ⟨_, s', rfl, hr', ?_, by simp⟩)
      rw [hs']; simp
    · have hpos : 0 < (LL s).length := by omega
      obtain ⟨c1, c2⟩ := cutAt_0 hpos
      have e1 : pushL (LL s) mx v = (LL s).drop 1 ++ [v] := by simp [pushL, h0, h1, c1]
      have e2 : pushV (LL s) mx v = (LL s)[0] := by simp [pushV, h0, h1, c2]
      have e3 : pushB (LL s) mx = true := by simp [pushB]; omega
      rw [e1, e2, e3] at hp
      refine ACalls.hide fun post hpost => ?_
      refine F16_in (by simp) (by simp) fun hbd => ?_
      repeat' (first
        | refine awp_seqK fun K' hpK => ?_
        | refine awp_block ?_
        | refine awp_condG fun A' B' hpA hpB => ?_
        | refine useK (by with_reducible assumption) ?_
        | refine useP (by with_reducible assumption) ?_
        | refine ED_cons (fun _ => ?_) ?_
        | (refine stable_mk ?_; simp (disch := first | (with_reducible assumption) | (simp; done) | omega | (simp; omega)) [cCl, fI1, h0, h1]; done)
        | (refine stable_no ?_; simp (disch := first | (with_reducible assumption) | (simp; done) | omega | (simp; omega)) [cCl, fI1, h0, h1]; done)
        | (with_reducible refine And.intro ?_ ?_)
        | (with_reducible intro hc; try (exfalso; omega))
        | (with_reducible refine GDsplit (fun hc => ?_) (fun hc => ?_) <;> try simp [hc])
        | (with_reducible refine GDsplitN (fun hc => ?_) (fun hc => ?_) <;> try simp [hc])
        | (with_reducible refine GDsplitNB (fun hc => ?_) (fun hc => ?_) <;> try simp [hc])
        | (with_reducible refine GDsplitB (fun hc => ?_) (fun hc => ?_) <;> try simp [hc])
        | (with_reducible refine GKsplit (fun hc => ?_) (fun hc => ?_) <;> try simp [hc])
        | (with_reducible refine GKsplitN (fun hc => ?_) (fun hc => ?_) <;> try simp [hc])
        | (with_reducible refine GKsplitNB (fun hc => ?_) (fun hc => ?_) <;> try simp [hc])
        | (with_reducible refine GKsplitB (fun hc => ?_) (fun hc => ?_) <;> try simp [hc])
        | (refine CallK.use (hp) ?_; rintro r G' _ _ ⟨hr', rfl⟩)
        | simp (disch := first | (with_reducible assumption) | (simp; done) | omega | (simp; omega)) [cCl, fI1, h0, h1])
      intro c hc
      refine ⟨0, ?_⟩
      repeat' (first
        | refine awp_seqK fun K' hpK => ?_
        | refine awp_block ?_
        | refine awp_condG fun A' B' hpA hpB => ?_
        | refine useK (by with_reducible assumption) ?_
        | refine useP (by with_reducible assumption) ?_
        | refine ED_cons (fun _ => ?_) ?_
        | (refine stable_mk ?_; simp (disch := first | (with_reducible assumption) | (simp; done) | omega | (simp; omega)) [fI1, h1]; done)
        | (refine stable_no ?_; simp (disch := first | (with_reducible assumption) | (simp; done) | omega | (simp; omega)) [fI1, h1]; done)
        | (with_reducible refine And.intro ?_ ?_)
        | (with_reducible intro hc; try (exfalso; omega))
        | (with_reducible refine GDsplit (fun hc => ?_) (fun hc => ?_) <;> try simp [hc])
        | (with_reducible refine GDsplitN (fun hc => ?_) (fun hc => ?_) <;> try simp [hc])
        | (with_reducible refine GDsplitNB (fun hc => ?_) (fun hc => ?_) <;> try simp [hc])
        | (with_reducible refine GDsplitB (fun hc => ?_) (fun hc => ?_) <;> try simp [hc])
        | (with_reducible refine GKsplit (fun hc => ?_) (fun hc => ?_) <;> try simp [hc])
        | (with_reducible refine GKsplitN (fun hc => ?_) (fun hc => ?_) <;> try simp [hc])
        | (with_reducible refine GKsplitNB (fun hc => ?_) (fun hc => ?_) <;> try simp [hc])
        | (with_reducible refine GKsplitB (fun hc => ?_) (fun hc => ?_) <;> try simp [hc])
        | simp (disch := first | (with_reducible assumption) | (simp; done) | omega | (simp; omega)) [fI1, h1])
      refine Grow.app (f := cI) (xs := LL s) (Grow.fresh hc) (ofS_src (by simp)) (cI_scal _) (by simp [LIM]; omega) (fun v2 G2 hg2 => ?_)
      have hv2 := hg2.plain
      repeat' (first
        | refine awp_seqK fun K' hpK => ?_
        | refine awp_block ?_
        | refine awp_condG fun A' B' hpA hpB => ?_
        | refine useK (by with_reducible assumption) ?_
        | refine useP (by with_reducible assumption) ?_
        | refine ED_cons (fun _ => ?_) ?_
        | (refine stable_mk ?_; simp (disch := first | (with_reducible assumption) | (simp; done) | omega | (simp; omega)) [hv2, fI1, h1]; done)
        | (refine stable_no ?_; simp (disch := first | (with_reducible assumption) | (simp; done) | omega | (simp; omega)) [hv2, fI1, h1]; done)
        | (with_reducible refine And.intro ?_ ?_)
        | (with_reducible intro hc; try (exfalso; omega))
        | (with_reducible refine GDsplit (fun hc => ?_) (fun hc => ?_) <;> try simp [hc])
        | (with_reducible refine GDsplitN (fun hc => ?_) (fun hc => ?_) <;> try simp [hc])
        | (with_reducible refine GDsplitNB (fun hc => ?_) (fun hc => ?_) <;> try simp [hc])
        | (with_reducible refine GDsplitB (fun hc => ?_) (fun hc => ?_) <;> try simp [hc])
        | (with_reducible refine GKsplit (fun hc => ?_) (fun hc => ?_) <;> try simp [hc])
        | (with_reducible refine GKsplitN (fun hc => ?_) (fun hc => ?_) <;> try simp [hc])
        | (with_reducible refine GKsplitNB (fun hc => ?_) (fun hc => ?_) <;> try simp [hc])
        | (with_reducible refine GKsplitB (fun hc => ?_) (fun hc => ?_) <;> try simp [hc])
        | simp (disch := first | (with_reducible assumption) | (simp; done) | omega | (simp; omega)) [hv2, fI1, h1])
      refine Grow.app (f := cI) (xs := [v]) hg2 (ofS_src (s := some [v]) (by simp)) (cI_scal _) (by simp [LIM]; omega) (fun v3 G3 hg3 => ?_)
      obtain ⟨b, τ, hb, rfl, hG⟩ := Grow.ms hg3 (by simp)
      have hlt : 1 < ([] ++ LL s ++ [v]).length := by simp; omega
      have hatb : G3 b = some (τ, ([] ++ LL s ++ [v]).flatMap cI) := by rw [hG, setH_same]
      obtain ⟨s', hs', hz, hsub⟩ := Grow.frz hg3 (by simp)
      repeat' (first
        | refine awp_seqK fun K' hpK => ?_
        | refine awp_block ?_
        | refine awp_condG fun A' B' hpA hpB => ?_
        | refine useK (by with_reducible assumption) ?_
        | refine useP (by with_reducible assumption) ?_
        | refine ED_cons (fun _ => ?_) ?_
        | (refine stable_mk ?_; simp (disch := first | (with_reducible assumption) | (simp; done) | omega | (simp; omega)) [h1, aslc_msl, hlt, ofS_idx (f := cI), cI, hpos]; done)
        | (refine stable_no ?_; simp (disch := first | (with_reducible assumption) | (simp; done) | omega | (simp; omega)) [h1, aslc_msl, hlt, ofS_idx (f := cI), cI, hpos]; done)
        | (with_reducible refine And.intro ?_ ?_)
        | (with_reducible intro hc; try (exfalso; omega))
        | (with_reducible refine GDsplit (fun hc => ?_) (fun hc => ?_) <;> try simp [hc])
        | (with_reducible refine GDsplitN (fun hc => ?_) (fun hc => ?_) <;> try simp [hc])
        | (with_reducible refine GDsplitNB (fun hc => ?_) (fun hc => ?_) <;> try simp [hc])
        | (with_reducible refine GDsplitB (fun hc => ?_) (fun hc => ?_) <;> try simp [hc])
        | (with_reducible refine GKsplit (fun hc => ?_) (fun hc => ?_) <;> try simp [hc])
        | (with_reducible refine GKsplitN (fun hc => ?_) (fun hc => ?_) <;> try simp [hc])
        | (with_reducible refine GKsplitNB (fun hc => ?_) (fun hc => ?_) <;> try simp [hc])
        | (with_reducible refine GKsplitB (fun hc => ?_) (fun hc => ?_) <;> try simp [hc])
        | simp (disch := first | (with_reducible assumption) | (simp; done) | omega | (simp; omega)) [h1, aslc_msl, hlt, ofS_idx (f := cI), cI, hpos])
      refine ends_frn (x := .ms b 1 (LL s).length 1) (y := .bool true) (zs := []) (ys := [ofS cI (some ((LL s).drop 1 ++ [v])), .bool true]) (by simp) (by simp) hsub (.cons _ _ _ _ ?_ (.cons _ _ _ _ (.refl _) .nil)) (hpost _ _ ⟨_, some ((LL s).drop 1 ++ [v]), rfl, hr', rfl, by simp; omega⟩)
      have hfz := Frz.ms (G := G3) (G' := G') b 1 (LL s).length 1 τ _ _ hatb hb (Frzs.refl _)
      have e5 : ofS cI (some ((LL s).drop 1 ++ [v])) = .sl (LL s).length (((([] ++ LL s ++ [v]).flatMap cI).drop 1).take ((LL s).length * 1)) := by
        simp only [ofS]
        congr 1
        · simp; omega
        · have h5 : (((([] ++ LL s ++ [v]) : List Int).flatMap cI).drop 1) = ((LL s).drop 1 ++ [v]).flatMap cI := by
            have := flat_drop (f := cI) (sz := 1) (by simp) ([] ++ LL s ++ [v]) 1
            rw [Nat.one_mul] at this
            rw [this, List.nil_append, List.drop_append_of_le_length (by omega)]
          rw [h5, List.take_of_length_le (by rw [flat_len (sz := 1) (by simp)]; simp; omega)]
      rw [e5]; exact hfz

theorem range_no {l : List Int} {i : Int} (h : atL l i = none) : ¬ i < 0 → (l.length : Int) ≤ i := fun h0 => (atL_none h).resolve_left h0
set_option maxHeartbeats 4000000 in
theorem ring_n {rb : Nat} {h : Hp} {l : List Int} {mx : Int} {s : Option (List Int)} {x : Cl} (hr : RingH rb h l mx) (hs : LL s = l) (hl : l.length ≤ 1000) (hm : 0 ≤ mx) (hm2 : mx ≤ 100) (n0 : ¬ x.kd = 0) (n1 : ¬ x.kd = 1) :
    ACalls Try.prog 16 [.ptr rb 0, ofS cI s, .int .i64 mx, .agg (cCl x)] h fun r h' => ∃ l' s', r = .tup [ofS cI s', .bool true] ∧ RingH rb h' l' mx ∧ LL s' = l' ∧ l'.length ≤ l.length + 2 := by
  obtain ⟨kd, i, v, w, k, st⟩ := x
  simp only at n0 n1
  subst hs
  by_cases n2 : kd = 2
  · have hp := rtake_c hr (by omega)
    have hc := fun G => cut_c (s := s) (i := 0) (G := G) (by omega)
    rw [cutL_at] at hc
    cases hq : atL (LL s) 0 with
    | none =>
      rw [hq, cutAt_none (by rw [hq]; rfl)] at hp
      have h0 : LL s = [] := List.eq_nil_of_length_eq_zero (by have := atL_none hq; omega)
      refine ACalls.hide fun post hpost => ?_
      refine F16_in (by simp) (by simp) fun hbd => ?_
      repeat' (first
        | refine awp_seqK fun K' hpK => ?_
        | refine awp_block ?_
        | refine awp_condG fun A' B' hpA hpB => ?_
        | refine useK (by with_reducible assumption) ?_
        | refine useP (by with_reducible assumption) ?_
        | refine ED_cons (fun _ => ?_) ?_
        | (refine stable_mk ?_; simp (disch := first | (with_reducible assumption) | (simp; done) | omega | (simp; omega)) [cCl, n2, h0]; done)
        | (refine stable_no ?_; simp (disch := first | (with_reducible assumption) | (simp; done) | omega | (simp; omega)) [cCl, n2, h0]; done)
        | (with_reducible refine And.intro ?_ ?_)
        | (with_reducible intro hc; try (exfalso; omega))
        | (with_reducible refine GDsplit (fun hc => ?_) (fun hc => ?_) <;> try simp [hc])
        | (with_reducible refine GDsplitN (fun hc => ?_) (fun hc => ?_) <;> try simp [hc])
        | (with_reducible refine GDsplitNB (fun hc => ?_) (fun hc => ?_) <;> try simp [hc])
        | (with_reducible refine GDsplitB (fun hc => ?_) (fun hc => ?_) <;> try simp [hc])
        | (with_reducible refine GKsplit (fun hc => ?_) (fun hc => ?_) <;> try simp [hc])
        | (with_reducible refine GKsplitN (fun hc => ?_) (fun hc => ?_) <;> try simp [hc])
        | (with_reducible refine GKsplitNB (fun hc => ?_) (fun hc => ?_) <;> try simp [hc])
        | (with_reducible refine GKsplitB (fun hc => ?_) (fun hc => ?_) <;> try simp [hc])
        | (refine CallK.use (hp) ?_; rintro r G' _ _ ⟨hr', rfl⟩)
        | simp (disch := first | (with_reducible assumption) | (simp; done) | omega | (simp; omega)) [cCl, n2, h0])
      exact ends_two (by simp <;> exact ⟨rfl, rfl⟩) (by simp) (by simp) (hpost _ _ ⟨_, s, rfl, hr', rfl, by omega⟩)
    | some u =>
      rw [hq] at hp
      obtain ⟨j, hj0, hj, hju⟩ := atL_some hq
      have : j = 0 := by omega
      subst this
      have hne : ¬ LL s = [] := by intro e; rw [e] at hj; simp at hj
      refine ACalls.hide fun post hpost => ?_
      refine F16_in (by simp) (by simp) fun hbd => ?_
      repeat' (first
        | refine awp_seqK fun K' hpK => ?_
        | refine awp_block ?_
        | refine awp_condG fun A' B' hpA hpB => ?_
        | refine useK (by with_reducible assumption) ?_
        | refine useP (by with_reducible assumption) ?_
        | refine ED_cons (fun _ => ?_) ?_
        | (refine stable_mk ?_; simp (disch := first | (with_reducible assumption) | (simp; done) | omega | (simp; omega)) [cCl, n2, hne, ofS_idx (f := cI), cI, hj, hju]; done)
        | (refine stable_no ?_; simp (disch := first | (with_reducible assumption) | (simp; done) | omega | (simp; omega)) [cCl, n2, hne, ofS_idx (f := cI), cI, hj, hju]; done)
        | (with_reducible refine And.intro ?_ ?_)
        | (with_reducible intro hc; try (exfalso; omega))
        | (with_reducible refine GDsplit (fun hc => ?_) (fun hc => ?_) <;> try simp [hc])
        | (with_reducible refine GDsplitN (fun hc => ?_) (fun hc => ?_) <;> try simp [hc])
        | (with_reducible refine GDsplitNB (fun hc => ?_) (fun hc => ?_) <;> try simp [hc])
        | (with_reducible refine GDsplitB (fun hc => ?_) (fun hc => ?_) <;> try simp [hc])
        | (with_reducible refine GKsplit (fun hc => ?_) (fun hc => ?_) <;> try simp [hc])
        | (with_reducible refine GKsplitN (fun hc => ?_) (fun hc => ?_) <;> try simp [hc])
        | (with_reducible refine GKsplitNB (fun hc => ?_) (fun hc => ?_) <;> try simp [hc])
        | (with_reducible refine GKsplitB (fun hc => ?_) (fun hc => ?_) <;> try simp [hc])
        | (refine CallK.use (hp) ?_; rintro r G' _ _ ⟨hr', rfl⟩)
        | (refine CallK.use (hc _) ?_; rintro r G' _ _ ⟨rfl, s', rfl, hs'⟩)
        | simp (disch := first | (with_reducible assumption) | (simp; done) | omega | (simp; omega)) [cCl, n2, hne, ofS_idx (f := cI), cI, hj, hju])
      exact ends_two (by simp <;> exact ⟨rfl, rfl⟩) (by simp) (by simp) (hpost _ _ ⟨_, s', rfl, hr', hs', Nat.le_trans (cutAt_len _ _) (by omega)⟩)
  by_cases n3 : kd = 3
  · have hp := rcut_c (i := i) hr (by omega)
    have hc := fun G => cut_c (s := s) (i := i) (G := G) (by omega)
    rw [cutL_at] at hc
    cases hq : atL (LL s) i with
    | none =>
      rw [hq, cutAt_none (by rw [hq]; rfl)] at hp
      by_cases i0 : i < 0
      · refine ACalls.hide fun post hpost => ?_
        refine F16_in (by simp) (by simp) fun hbd => ?_
        repeat' (first
          | refine awp_seqK fun K' hpK => ?_
          | refine awp_block ?_
          | refine awp_condG fun A' B' hpA hpB => ?_
          | refine useK (by with_reducible assumption) ?_
          | refine useP (by with_reducible assumption) ?_
          | refine ED_cons (fun _ => ?_) ?_
          | (refine stable_mk ?_; simp (disch := first | (with_reducible assumption) | (simp; done) | omega | (simp; omega)) [cCl, n3, i0]; done)
          | (refine stable_no ?_; simp (disch := first | (with_reducible assumption) | (simp; done) | omega | (simp; omega)) [cCl, n3, i0]; done)
          | (with_reducible refine And.intro ?_ ?_)
          | (with_reducible intro hc; try (exfalso; omega))
          | (with_reducible refine GDsplit (fun hc => ?_) (fun hc => ?_) <;> try simp [hc])
          | (with_reducible refine GDsplitN (fun hc => ?_) (fun hc => ?_) <;> try simp [hc])
          | (with_reducible refine GDsplitNB (fun hc => ?_) (fun hc => ?_) <;> try simp [hc])
          | (with_reducible refine GDsplitB (fun hc => ?_) (fun hc => ?_) <;> try simp [hc])
          | (with_reducible refine GKsplit (fun hc => ?_) (fun hc => ?_) <;> try simp [hc])
          | (with_reducible refine GKsplitN (fun hc => ?_) (fun hc => ?_) <;> try simp [hc])
          | (with_reducible refine GKsplitNB (fun hc => ?_) (fun hc => ?_) <;> try simp [hc])
          | (with_reducible refine GKsplitB (fun hc => ?_) (fun hc => ?_) <;> try simp [hc])
          | (refine CallK.use (hp) ?_; rintro r G' _ _ ⟨hr', rfl⟩)
          | simp (disch := first | (with_reducible assumption) | (simp; done) | omega | (simp; omega)) [cCl, n3, i0])
        all_goals exact ends_two (by simp <;> exact ⟨rfl, rfl⟩) (by simp) (by simp) (hpost _ _ ⟨_, s, rfl, hr', rfl, by omega⟩)
      · have i1 := range_no hq i0
        refine ACalls.hide fun post hpost => ?_
        refine F16_in (by simp) (by simp) fun hbd => ?_
        repeat' (first
          | refine awp_seqK fun K' hpK => ?_
          | refine awp_block ?_
          | refine awp_condG fun A' B' hpA hpB => ?_
          | refine useK (by with_reducible assumption) ?_
          | refine useP (by with_reducible assumption) ?_
          | refine ED_cons (fun _ => ?_) ?_
          | (refine stable_mk ?_; simp (disch := first | (with_reducible assumption) | (simp; done) | omega | (simp; omega)) [cCl, n3, i0, i1]; done)
          | (refine stable_no ?_; simp (disch := first | (with_reducible assumption) | (simp; done) | omega | (simp; omega)) [cCl, n3, i0, i1]; done)
          | (with_reducible refine And.intro ?_ ?_)
          | (with_reducible intro hc; try (exfalso; omega))
          | (with_reducible refine GDsplit (fun hc => ?_) (fun hc => ?_) <;> try simp [hc])
          | (with_reducible refine GDsplitN (fun hc => ?_) (fun hc => ?_) <;> try simp [hc])
          | (with_reducible refine GDsplitNB (fun hc => ?_) (fun hc => ?_) <;> try simp [hc])
          | (with_reducible refine GDsplitB (fun hc => ?_) (fun hc => ?_) <;> try simp [hc])
          | (with_reducible refine GKsplit (fun hc => ?_) (fun hc => ?_) <;> try simp [hc])
          | (with_reducible refine GKsplitN (fun hc => ?_) (fun hc => ?_) <;> try simp [hc])
          | (with_reducible refine GKsplitNB (fun hc => ?_) (fun hc => ?_) <;> try simp [hc])
          | (with_reducible refine GKsplitB (fun hc => ?_) (fun hc => ?_) <;> try simp [hc])
          | (refine CallK.use (hp) ?_; rintro r G' _ _ ⟨hr', rfl⟩)
          | simp (disch := first | (with_reducible assumption) | (simp; done) | omega | (simp; omega)) [cCl, n3, i0, i1])
        all_goals exact ends_two (by simp <;> exact ⟨rfl, rfl⟩) (by simp) (by simp) (hpost _ _ ⟨_, s, rfl, hr', rfl, by omega⟩)
    | some u =>
      rw [hq] at hp
      obtain ⟨j, rfl, hj, hju⟩ := atL_some hq
      have hjn : ¬ (LL s).length ≤ j := by omega
      have hjn2 : ¬ (j : Int) < 0 := by omega
      refine ACalls.hide fun post hpost => ?_
      refine F16_in (by simp) (by simp) fun hbd => ?_
      repeat' (first
        | refine awp_seqK fun K' hpK => ?_
        | refine awp_block ?_
        | refine awp_condG fun A' B' hpA hpB => ?_
        | refine useK (by with_reducible assumption) ?_
        | refine useP (by with_reducible assumption) ?_
        | refine ED_cons (fun _ => ?_) ?_
        | (refine stable_mk ?_; simp (disch := first | (with_reducible assumption) | (simp; done) | omega | (simp; omega)) [cCl, hjn, hjn2, n3, ofS_idx (f := cI), cI, hj, hju]; done)
        | (refine stable_no ?_; simp (disch := first | (with_reducible assumption) | (simp; done) | omega | (simp; omega)) [cCl, hjn, hjn2, n3, ofS_idx (f := cI), cI, hj, hju]; done)
        | (with_reducible refine And.intro ?_ ?_)
        | (with_reducible intro hc; try (exfalso; omega))
        | (with_reducible refine GDsplit (fun hc => ?_) (fun hc => ?_) <;> try simp [hc])
        | (with_reducible refine GDsplitN (fun hc => ?_) (fun hc => ?_) <;> try simp [hc])
        | (with_reducible refine GDsplitNB (fun hc => ?_) (fun hc => ?_) <;> try simp [hc])
        | (with_reducible refine GDsplitB (fun hc => ?_) (fun hc => ?_) <;> try simp [hc])
        | (with_reducible refine GKsplit (fun hc => ?_) (fun hc => ?_) <;> try simp [hc])
        | (with_reducible refine GKsplitN (fun hc => ?_) (fun hc => ?_) <;> try simp [hc])
        | (with_reducible refine GKsplitNB (fun hc => ?_) (fun hc => ?_) <;> try simp [hc])
        | (with_reducible refine GKsplitB (fun hc => ?_) (fun hc => ?_) <;> try simp [hc])
        | (refine CallK.use (hp) ?_; rintro r G' _ _ ⟨hr', rfl⟩)
        | (refine CallK.use (hc _) ?_; rintro r G' _ _ ⟨rfl, s', rfl, hs'⟩)
        | simp (disch := first | (with_reducible assumption) | (simp; done) | omega | (simp; omega)) [cCl, hjn, hjn2, n3, ofS_idx (f := cI), cI, hj, hju])
      exact ends_two (by simp <;> exact ⟨rfl, rfl⟩) (by simp) (by simp) (hpost _ _ ⟨_, s', rfl, hr', hs', Nat.le_trans (cutAt_len _ _) (by omega)⟩)
  by_cases n4 : kd = 4
  · have hp := rat_c (i := i) hr
    cases hq : atL (LL s) i with
    | none =>
      rw [hq] at hp
      by_cases i0 : i < 0
      · refine ACalls.hide fun post hpost => ?_
        refine F16_in (by simp) (by simp) fun hbd => ?_
        repeat' (first
          | refine awp_seqK fun K' hpK => ?_
          | refine awp_block ?_
          | refine awp_condG fun A' B' hpA hpB => ?_
          | refine useK (by with_reducible assumption) ?_
          | refine useP (by with_reducible assumption) ?_
          | refine ED_cons (fun _ => ?_) ?_
          | (refine stable_mk ?_; simp (disch := first | (with_reducible assumption) | (simp; done) | omega | (simp; omega)) [cCl, n4, i0]; done)
          | (refine stable_no ?_; simp (disch := first | (with_reducible assumption) | (simp; done) | omega | (simp; omega)) [cCl, n4, i0]; done)
          | (with_reducible refine And.intro ?_ ?_)
          | (with_reducible intro hc; try (exfalso; omega))
          | (with_reducible refine GDsplit (fun hc => ?_) (fun hc => ?_) <;> try simp [hc])
          | (with_reducible refine GDsplitN (fun hc => ?_) (fun hc => ?_) <;> try simp [hc])
          | (with_reducible refine GDsplitNB (fun hc => ?_) (fun hc => ?_) <;> try simp [hc])
          | (with_reducible refine GDsplitB (fun hc => ?_) (fun hc => ?_) <;> try simp [hc])
          | (with_reducible refine GKsplit (fun hc => ?_) (fun hc => ?_) <;> try simp [hc])
          | (with_reducible refine GKsplitN (fun hc => ?_) (fun hc => ?_) <;> try simp [hc])
          | (with_reducible refine GKsplitNB (fun hc => ?_) (fun hc => ?_) <;> try simp [hc])
          | (with_reducible refine GKsplitB (fun hc => ?_) (fun hc => ?_) <;> try simp [hc])
          | (refine CallK.use (hp) ?_; rintro r G' _ _ ⟨rfl, rfl⟩)
          | simp (disch := first | (with_reducible assumption) | (simp; done) | omega | (simp; omega)) [cCl, n4, i0])
        all_goals exact ends_two (by simp <;> exact ⟨rfl, rfl⟩) (by simp) (by simp) (hpost _ _ ⟨_, s, rfl, hr, rfl, by omega⟩)
      · have i1 := range_no hq i0
        refine ACalls.hide fun post hpost => ?_
        refine F16_in (by simp) (by simp) fun hbd => ?_
        repeat' (first
          | refine awp_seqK fun K' hpK => ?_
          | refine awp_block ?_
          | refine awp_condG fun A' B' hpA hpB => ?_
          | refine useK (by with_reducible assumption) ?_
          | refine useP (by with_reducible assumption) ?_
          | refine ED_cons (fun _ => ?_) ?_
          | (refine stable_mk ?_; simp (disch := first | (with_reducible assumption) | (simp; done) | omega | (simp; omega)) [cCl, n4, i0, i1]; done)
          | (refine stable_no ?_; simp (disch := first | (with_reducible assumption) | (simp; done) | omega | (simp; omega)) [cCl, n4, i0, i1]; done)
          | (with_reducible refine And.intro ?_ ?_)
          | (with_reducible intro hc; try (exfalso; omega))
          | (with_reducible refine GDsplit (fun hc => ?_) (fun hc => ?_) <;> try simp [hc])
          | (with_reducible refine GDsplitN (fun hc => ?_) (fun hc => ?_) <;> try simp [hc])
          | (with_reducible refine GDsplitNB (fun hc => ?_) (fun hc => ?_) <;> try simp [hc])
          | (with_reducible refine GDsplitB (fun hc => ?_) (fun hc => ?_) <;> try simp [hc])
          | (with_reducible refine GKsplit (fun hc => ?_) (fun hc => ?_) <;> try simp [hc])
          | (with_reducible refine GKsplitN (fun hc => ?_) (fun hc => ?_) <;> try simp [hc])
          | (with_reducible refine GKsplitNB (fun hc => ?_) (fun hc => ?_) <;> try simp [hc])
          | (with_reducible refine GKsplitB (fun hc => ?_) (fun hc => ?_) <;> try simp [hc])
          | (refine CallK.use (hp) ?_; rintro r G' _ _ ⟨rfl, rfl⟩)
          | simp (disch := first | (with_reducible assumption) | (simp; done) | omega | (simp; omega)) [cCl, n4, i0, i1])
        all_goals exact ends_two (by simp <;> exact ⟨rfl, rfl⟩) (by simp) (by simp) (hpost _ _ ⟨_, s, rfl, hr, rfl, by omega⟩)
    | some u =>
      rw [hq] at hp
      obtain ⟨j, rfl, hj, hju⟩ := atL_some hq
      have hjn : ¬ (LL s).length ≤ j := by omega
      have hjn2 : ¬ (j : Int) < 0 := by omega
      refine ACalls.hide fun post hpost => ?_
      refine F16_in (by simp) (by simp) fun hbd => ?_
      repeat' (first
        | refine awp_seqK fun K' hpK => ?_
        | refine awp_block ?_
        | refine awp_condG fun A' B' hpA hpB => ?_
        | refine useK (by with_reducible assumption) ?_
        | refine useP (by with_reducible assumption) ?_
        | refine ED_cons (fun _ => ?_) ?_
        | (refine stable_mk ?_; simp (disch := first | (with_reducible assumption) | (simp; done) | omega | (simp; omega)) [cCl, hjn, hjn2, n4, ofS_idx (f := cI), cI, hj, hju]; done)
        | (refine stable_no ?_; simp (disch := first | (with_reducible assumption) | (simp; done) | omega | (simp; omega)) [cCl, hjn, hjn2, n4, ofS_idx (f := cI), cI, hj, hju]; done)
        | (with_reducible refine And.intro ?_ ?_)
        | (with_reducible intro hc; try (exfalso; omega))
        | (with_reducible refine GDsplit (fun hc => ?_) (fun hc => ?_) <;> try simp [hc])
        | (with_reducible refine GDsplitN (fun hc => ?_) (fun hc => ?_) <;> try simp [hc])
        | (with_reducible refine GDsplitNB (fun hc => ?_) (fun hc => ?_) <;> try simp [hc])
        | (with_reducible refine GDsplitB (fun hc => ?_) (fun hc => ?_) <;> try simp [hc])
        | (with_reducible refine GKsplit (fun hc => ?_) (fun hc => ?_) <;> try simp [hc])
        | (with_reducible refine GKsplitN (fun hc => ?_) (fun hc => ?_) <;> try simp [hc])
        | (with_reducible refine GKsplitNB (fun hc => ?_) (fun hc => ?_) <;> try simp [hc])
        | (with_reducible refine GKsplitB (fun hc => ?_) (fun hc => ?_) <;> try simp [hc])
        | (refine CallK.use (hp) ?_; rintro r G' _ _ ⟨rfl, rfl⟩)
        | simp (disch := first | (with_reducible assumption) | (simp; done) | omega | (simp; omega)) [cCl, hjn, hjn2, n4, ofS_idx (f := cI), cI, hj, hju])
      exact ends_two (by simp <;> exact ⟨rfl, rfl⟩) (by simp) (by simp) (hpost _ _ ⟨_, s, rfl, hr, rfl, by omega⟩)
  refine ACalls.hide fun post hpost => ?_
  refine F16_in (by simp) (by simp) fun hbd => ?_
  repeat' (first
    | refine awp_seqK fun K' hpK => ?_
    | refine awp_block ?_
    | refine awp_condG fun A' B' hpA hpB => ?_
    | refine useK (by with_reducible assumption) ?_
    | refine useP (by with_reducible assumption) ?_
    | refine ED_cons (fun _ => ?_) ?_
    | (refine stable_mk ?_; simp (disch := first | (with_reducible assumption) | (simp; done) | omega | (simp; omega)) [cCl, n0, n1, n2, n3, n4]; done)
    | (refine stable_no ?_; simp (disch := first | (with_reducible assumption) | (simp; done) | omega | (simp; omega)) [cCl, n0, n1, n2, n3, n4]; done)
    | (with_reducible refine And.intro ?_ ?_)
    | (with_reducible intro hc; try (exfalso; omega))
    | (with_reducible refine GDsplit (fun hc => ?_) (fun hc => ?_) <;> try simp [hc])
    | (with_reducible refine GDsplitN (fun hc => ?_) (fun hc => ?_) <;> try simp [hc])
    | (with_reducible refine GDsplitNB (fun hc => ?_) (fun hc => ?_) <;> try simp [hc])
    | (with_reducible refine GDsplitB (fun hc => ?_) (fun hc => ?_) <;> try simp [hc])
    | (with_reducible refine GKsplit (fun hc => ?_) (fun hc => ?_) <;> try simp [hc])
    | (with_reducible refine GKsplitN (fun hc => ?_) (fun hc => ?_) <;> try simp [hc])
    | (with_reducible refine GKsplitNB (fun hc => ?_) (fun hc => ?_) <;> try simp [hc])
    | (with_reducible refine GKsplitB (fun hc => ?_) (fun hc => ?_) <;> try simp [hc])
    | simp (disch := first | (with_reducible assumption) | (simp; done) | omega | (simp; omega)) [cCl, n0, n1, n2, n3, n4])
  exact ends_two (by simp <;> exact ⟨rfl, rfl⟩) (by simp) (by simp) (hpost _ _ ⟨_, s, rfl, hr, rfl, by omega⟩)
theorem ring_c {rb : Nat} {h : Hp} {l : List Int} {mx : Int} {s : Option (List Int)} {x : Cl} (hr : RingH rb h l mx) (hs : LL s = l) (hl : l.length ≤ 1000) (hm : 0 ≤ mx) (hm2 : mx ≤ 100) :
    ACalls Try.prog 16 [.ptr rb 0, ofS cI s, .int .i64 mx, .agg (cCl x)] h fun r h' => ∃ l' s', r = .tup [ofS cI s', .bool true] ∧ RingH rb h' l' mx ∧ LL s' = l' ∧ l'.length ≤ l.length + 2 := by
  by_cases n0 : x.kd = 0
  · exact ring_0 hr hs hl hm hm2 n0
  by_cases n1 : x.kd = 1
  · exact ring_1 hr hs hl hm hm2 n1
  exact ring_n hr hs hl hm hm2 n0 n1
end Go.Proofs.Yteifakkknhfdpaa
