import Derived.Test.YtmomphnkngbgjaaD35K
set_option linter.unusedSimpArgs false
set_option linter.unusedVariables false
namespace Go.Proofs.Ytmomphnkngbgjaa
open Go Go.Al
set_option maxRecDepth 20000
attribute [local irreducible] awp aops aopsD eop pv ACalls CallK AppK AEnds ti

set_option maxHeartbeats 4000000 in
theorem bindPlays_c {l : Option (List CT)} (hll : (LL l).length ≤ 140737488355328) : ACalls Try.prog 5 [ofS cC l] emptyH fun r G' => G' = emptyH ∧ r = .bool true := by
  refine ACalls.hide fun post hpost => ?_
  refine F5_in (by simp) (by simp) fun hbd => ?_
  repeat' (first
    | refine awp_seqK fun K' hpK => ?_
    | refine awp_block ?_
    | refine awp_condG fun A' B' hpA hpB => ?_
    | refine useK (by with_reducible assumption) ?_
    | refine useP (by with_reducible assumption) ?_
    | refine ED_cons (fun _ => ?_) ?_
    | (refine stable_mk ?_; simp (disch := first | (with_reducible assumption) | (simp; done) | omega | (simp; omega)); done)
    | (refine stable_no ?_; simp (disch := first | (with_reducible assumption) | (simp; done) | omega | (simp; omega)); done)
    | (with_reducible refine And.intro ?_ ?_)
    | (with_reducible intro hc)
    | (with_reducible refine GDsplit (fun hc => ?_) (fun hc => ?_) <;> try simp [hc])
    | (with_reducible refine GDsplitN (fun hc => ?_) (fun hc => ?_) <;> try simp [hc])
    | (with_reducible refine GDsplitNB (fun hc => ?_) (fun hc => ?_) <;> try simp [hc])
    | (with_reducible refine GDsplitB (fun hc => ?_) (fun hc => ?_) <;> try simp [hc])
    | (with_reducible refine GKsplit (fun hc => ?_) (fun hc => ?_) <;> try simp [hc])
    | (with_reducible refine GKsplitN (fun hc => ?_) (fun hc => ?_) <;> try simp [hc])
    | (with_reducible refine GKsplitNB (fun hc => ?_) (fun hc => ?_) <;> try simp [hc])
    | (with_reducible refine GKsplitB (fun hc => ?_) (fun hc => ?_) <;> try simp [hc])
    | (refine CallK.use (new_c) ?_; rintro r G' _ _ ⟨pb, rfl, hP⟩)
    | simp (disch := first | (with_reducible assumption) | (simp; done) | omega | (simp; omega)))
  refine awp_loop' (fun w T G' => ∃ (k : Nat) (L : List (Int × Bd)) (t : Option (List Bd)), k + w = (LL l).length ∧ L.length ≤ k ∧ k ≤ 50 ∧ TH pb G' L ∧ JC L ∧ LL t = L.map Prod.snd ∧ T = ofL [(3, .ptr pb 0), (4, ofS cVB t), (5, .bool true), (9, ofS cC l), (10, .int .i64 (LL l).length), (11, .int .i64 k)]) (LL l).length ⟨0, [], none, by omega, by simp, by omega, hP, JC.nil, rfl, by simp [ofS]⟩ ?_
  rintro w T G' ⟨k, L, t, hk, hL, h50, hP, hJ, ht, rfl⟩ N hN
  by_cases hkl : k < (LL l).length
  · obtain ⟨y, hy⟩ : ∃ y, y = (LL l)[k] := ⟨_, rfl⟩
    by_cases h5 : (50 : Int) ≤ k
    · repeat' (first
        | refine awp_seqK fun K' hpK => ?_
        | refine awp_block ?_
        | refine awp_condG fun A' B' hpA hpB => ?_
        | refine useK (by with_reducible assumption) ?_
        | refine useP (by with_reducible assumption) ?_
        | refine ED_cons (fun _ => ?_) ?_
        | (refine stable_mk ?_; simp (disch := first | (with_reducible assumption) | (simp; done) | omega | (simp; omega)) [hkl, h5, ofS_idx (f := cC), cC, ← hy]; done)
        | (refine stable_no ?_; simp (disch := first | (with_reducible assumption) | (simp; done) | omega | (simp; omega)) [hkl, h5, ofS_idx (f := cC), cC, ← hy]; done)
        | (with_reducible refine And.intro ?_ ?_)
        | (with_reducible intro hc)
        | (with_reducible refine GDsplit (fun hc => ?_) (fun hc => ?_) <;> try simp [hc])
        | (with_reducible refine GDsplitN (fun hc => ?_) (fun hc => ?_) <;> try simp [hc])
        | (with_reducible refine GDsplitNB (fun hc => ?_) (fun hc => ?_) <;> try simp [hc])
        | (with_reducible refine GDsplitB (fun hc => ?_) (fun hc => ?_) <;> try simp [hc])
        | (with_reducible refine GKsplit (fun hc => ?_) (fun hc => ?_) <;> try simp [hc])
        | (with_reducible refine GKsplitN (fun hc => ?_) (fun hc => ?_) <;> try simp [hc])
        | (with_reducible refine GKsplitNB (fun hc => ?_) (fun hc => ?_) <;> try simp [hc])
        | (with_reducible refine GKsplitB (fun hc => ?_) (fun hc => ?_) <;> try simp [hc])
        | (refine CallK.use (awake_c _) ?_; rintro r G' _ _ ⟨rfl, rfl⟩)
        | simp (disch := first | (with_reducible assumption) | (simp; done) | omega | (simp; omega)) [hkl, h5, ofS_idx (f := cC), cC, ← hy])
      exact ends_drop (by simp <;> rfl) (by simp) (hpost _ _ ⟨rfl, rfl⟩)
    · obtain ⟨kd, ⟨b1, b2, ⟨b3, b4, _⟩, b5, b6, b7, _⟩, ⟨p1, p2, _⟩, nm, n, _⟩ := y
      have cc := fun G => cut_c (kd := kd) (b := ⟨b1, b2, b3, b4, b5, b6, b7⟩) (sw := p1) (port := p2) (nm := nm) (n := n) (G := G)
      have sc := step_c (kd := kd) (b := ⟨b1, b2, b3, b4, cut12 b5, cut12 b6, b7⟩) (sw := p1) (port := p2) (nm := cut12 nm) (n := n) hP hJ.j (by omega) ht
      simp only [opA] at sc
      repeat' (first
        | refine awp_seqK fun K' hpK => ?_
        | refine awp_block ?_
        | refine awp_condG fun A' B' hpA hpB => ?_
        | refine useK (by with_reducible assumption) ?_
        | refine useP (by with_reducible assumption) ?_
        | refine ED_cons (fun _ => ?_) ?_
        | (refine stable_mk ?_; simp (disch := first | (with_reducible assumption) | (simp; done) | omega | (simp; omega)) [hkl, h5, ofS_idx (f := cC), cC, ← hy]; done)
        | (refine stable_no ?_; simp (disch := first | (with_reducible assumption) | (simp; done) | omega | (simp; omega)) [hkl, h5, ofS_idx (f := cC), cC, ← hy]; done)
        | (with_reducible refine And.intro ?_ ?_)
        | (with_reducible intro hc)
        | (with_reducible refine GDsplit (fun hc => ?_) (fun hc => ?_) <;> try simp [hc])
        | (with_reducible refine GDsplitN (fun hc => ?_) (fun hc => ?_) <;> try simp [hc])
        | (with_reducible refine GDsplitNB (fun hc => ?_) (fun hc => ?_) <;> try simp [hc])
        | (with_reducible refine GDsplitB (fun hc => ?_) (fun hc => ?_) <;> try simp [hc])
        | (with_reducible refine GKsplit (fun hc => ?_) (fun hc => ?_) <;> try simp [hc])
        | (with_reducible refine GKsplitN (fun hc => ?_) (fun hc => ?_) <;> try simp [hc])
        | (with_reducible refine GKsplitNB (fun hc => ?_) (fun hc => ?_) <;> try simp [hc])
        | (with_reducible refine GKsplitB (fun hc => ?_) (fun hc => ?_) <;> try simp [hc])
        | (refine CallK.use (cc _) ?_; rintro r G' _ _ ⟨rfl, rfl⟩)
        | simp (disch := first | (with_reducible assumption) | (simp; done) | omega | (simp; omega)) [hkl, h5, ofS_idx (f := cC), cC, ← hy])
      refine CallK.use sc ?_
      rintro r G2 _ _ ⟨t2, rfl, hP2, ht2⟩
      have hlen := stepL_len hJ.j kd ⟨b1, b2, b3, b4, cut12 b5, cut12 b6, b7⟩ p1 p2 (cut12 nm) n
      have hJ2 : JC (stepL kd ⟨b1, b2, b3, b4, cut12 b5, cut12 b6, b7⟩ p1 p2 (cut12 nm) n L) := hJ.step _ _ _ _ _ _
      have mc := same_c (kd := kd) (b := ⟨b1, b2, b3, b4, cut12 b5, cut12 b6, b7⟩) (sw := p1) (port := p2) (nm := cut12 nm) (n := n) hP2 (by omega) ht2
      repeat' (first
        | refine awp_seqK fun K' hpK => ?_
        | refine awp_block ?_
        | refine awp_condG fun A' B' hpA hpB => ?_
        | refine useK (by with_reducible assumption) ?_
        | refine useP (by with_reducible assumption) ?_
        | refine ED_cons (fun _ => ?_) ?_
        | (refine stable_mk ?_; simp (disch := first | (with_reducible assumption) | (simp; done) | omega | (simp; omega)); done)
        | (refine stable_no ?_; simp (disch := first | (with_reducible assumption) | (simp; done) | omega | (simp; omega)); done)
        | (with_reducible refine And.intro ?_ ?_)
        | (with_reducible intro hc)
        | (with_reducible refine GDsplit (fun hc => ?_) (fun hc => ?_) <;> try simp [hc])
        | (with_reducible refine GDsplitN (fun hc => ?_) (fun hc => ?_) <;> try simp [hc])
        | (with_reducible refine GDsplitNB (fun hc => ?_) (fun hc => ?_) <;> try simp [hc])
        | (with_reducible refine GDsplitB (fun hc => ?_) (fun hc => ?_) <;> try simp [hc])
        | (with_reducible refine GKsplit (fun hc => ?_) (fun hc => ?_) <;> try simp [hc])
        | (with_reducible refine GKsplitN (fun hc => ?_) (fun hc => ?_) <;> try simp [hc])
        | (with_reducible refine GKsplitNB (fun hc => ?_) (fun hc => ?_) <;> try simp [hc])
        | (with_reducible refine GKsplitB (fun hc => ?_) (fun hc => ?_) <;> try simp [hc])
        | (refine CallK.use (mc) ?_; rintro r G' _ _ ⟨rfl, rfl⟩)
        | simp (disch := first | (with_reducible assumption) | (simp; done) | omega | (simp; omega)))
      exact hN (w - 1) _ _ (by omega) ⟨k + 1, _, t2, by omega, by omega, by omega, hP2, hJ2, ht2, by simp⟩
  · repeat' (first
      | refine awp_seqK fun K' hpK => ?_
      | refine awp_block ?_
      | refine awp_condG fun A' B' hpA hpB => ?_
      | refine useK (by with_reducible assumption) ?_
      | refine useP (by with_reducible assumption) ?_
      | refine ED_cons (fun _ => ?_) ?_
      | (refine stable_mk ?_; simp (disch := first | (with_reducible assumption) | (simp; done) | omega | (simp; omega)) [hkl]; done)
      | (refine stable_no ?_; simp (disch := first | (with_reducible assumption) | (simp; done) | omega | (simp; omega)) [hkl]; done)
      | (with_reducible refine And.intro ?_ ?_)
      | (with_reducible intro hc)
      | (with_reducible refine GDsplit (fun hc => ?_) (fun hc => ?_) <;> try simp [hc])
      | (with_reducible refine GDsplitN (fun hc => ?_) (fun hc => ?_) <;> try simp [hc])
      | (with_reducible refine GDsplitNB (fun hc => ?_) (fun hc => ?_) <;> try simp [hc])
      | (with_reducible refine GDsplitB (fun hc => ?_) (fun hc => ?_) <;> try simp [hc])
      | (with_reducible refine GKsplit (fun hc => ?_) (fun hc => ?_) <;> try simp [hc])
      | (with_reducible refine GKsplitN (fun hc => ?_) (fun hc => ?_) <;> try simp [hc])
      | (with_reducible refine GKsplitNB (fun hc => ?_) (fun hc => ?_) <;> try simp [hc])
      | (with_reducible refine GKsplitB (fun hc => ?_) (fun hc => ?_) <;> try simp [hc])
      | (refine CallK.use (awake_c _) ?_; rintro r G' _ _ ⟨rfl, rfl⟩)
      | simp (disch := first | (with_reducible assumption) | (simp; done) | omega | (simp; omega)) [hkl])
    exact ends_drop (by simp <;> rfl) (by simp) (hpost _ _ ⟨rfl, rfl⟩)
theorem bindPlays_law (z0 : (TD.slc (.two (.int .i64) (.two (.two (.int .u64) (.two (.int .u32) (.two (.two (.int .i64) (.two (.int .i64) .unit)) (.two .str (.two .str (.two (.int .i64) .unit)))))) (.two (.two (.int .i64) (.two (.int .i64) .unit)) (.two .str (.two (.int .i64) .unit)))))).T) (o0 : (TD.slc (.two (.int .i64) (.two (.two (.int .u64) (.two (.int .u32) (.two (.two (.int .i64) (.two (.int .i64) .unit)) (.two .str (.two .str (.two (.int .i64) .unit)))))) (.two (.two (.int .i64) (.two (.int .i64) .unit)) (.two .str (.two (.int .i64) .unit)))))).ok z0) :
    ACalls Try.prog 5 [(TD.slc (.two (.int .i64) (.two (.two (.int .u64) (.two (.int .u32) (.two (.two (.int .i64) (.two (.int .i64) .unit)) (.two .str (.two .str (.two (.int .i64) .unit)))))) (.two (.two (.int .i64) (.two (.int .i64) .unit)) (.two .str (.two (.int .i64) .unit)))))).av z0] emptyH fun r G' => G' = emptyH ∧ r = .bool true :=
  bindPlays_c (l := z0) o0.1
end Go.Proofs.Ytmomphnkngbgjaa
