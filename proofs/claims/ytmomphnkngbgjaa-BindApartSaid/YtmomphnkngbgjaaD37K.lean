import Derived.Test.YtmomphnkngbgjaaD35K
set_option linter.unusedSimpArgs false
set_option linter.unusedVariables false
namespace Go.Proofs.Ytmomphnkngbgjaa
open Go Go.Al
set_option maxRecDepth 20000
attribute [local irreducible] awp aops aopsD eop pv ACalls CallK AppK AEnds ti

theorem apartB {L : List (Int × Bd)} {s : Option (List Bd)} (hJ : JC L) (h : LL s = L.map Prod.snd) {j m : Nat} (hj : j < (LL s).length) (hm : m < j) : ¬ (LL s)[j].mac ≤ (LL s)[m].mac ∧ ¬ (LL s)[j].ip = (LL s)[m].ip ∧ ¬ ((LL s)[j].sw = (LL s)[m].sw ∧ (LL s)[j].port = (LL s)[m].port) := by
  have hl : (LL s).length = L.length := by rw [h, List.length_map]
  have e : ∀ k (hk : k < (LL s).length), (LL s)[k] = (L[k]'(by omega)).2 := fun k hk => by simp [h]
  have m1 := List.getElem_mem (show j < L.length by omega)
  have m2 := List.getElem_mem (show m < L.length by omega)
  have hp : (L[m]'(by omega)).1 < (L[j]'(by omega)).1 := by
    have := List.pairwise_iff_getElem.1 hJ.j.s m j (by omega) (by omega) hm
    simpa [KO.lt] using this
  have k1 := hJ.j.k _ m1
  have k2 := hJ.j.k _ m2
  rw [e j hj, e m (by omega)]
  refine ⟨by omega, fun hc => ?_, fun hc => ?_⟩
  · have := hJ.d _ m1 _ m2 (.inl hc); omega
  · have := hJ.d _ m1 _ m2 (.inr hc); omega
set_option maxHeartbeats 4000000 in
theorem bindApart_c {l : Option (List CT)} (hll : (LL l).length ≤ 140737488355328) : ACalls Try.prog 4 [ofS cC l] emptyH fun r G' => G' = emptyH ∧ r = .bool true := by
  refine ACalls.hide fun post hpost => ?_
  refine F4_in (by simp) (by simp) fun hbd => ?_
  repeat' (first
    | refine awp_seqK fun K' hpK => ?_
    | refine awp_block ?_
    | refine awp_condG fun A' B' hpA hpB => ?_
    | refine useK (by with_reducible assumption) ?_
    | refine useP (by with_reducible assumption) ?_
    | refine ED_cons (fun _ => ?_) ?_
    | (refine stable_mk ?_; simp (disch := first | (with_reducible assumption) | (simp; done) | omega | (simp; omega)); done)
    | (refine stable_no ?_; simp (disch := first | (with_reducible assumption) | (simp; done) | omega | (simp; omega)); done)
    | (with_reducible refine And.intro ?_ ?_)
    | (with_reducible intro hc)
    | (with_reducible refine GDsplit (fun hc => ?_) (fun hc => ?_) <;> try simp [hc])
    | (with_reducible refine GDsplitN (fun hc => ?_) (fun hc => ?_) <;> try simp [hc])
    | (with_reducible refine GDsplitNB (fun hc => ?_) (fun hc => ?_) <;> try simp [hc])
    | (with_reducible refine GDsplitB (fun hc => ?_) (fun hc => ?_) <;> try simp [hc])
    | (with_reducible refine GKsplit (fun hc => ?_) (fun hc => ?_) <;> try simp [hc])
    | (with_reducible refine GKsplitN (fun hc => ?_) (fun hc => ?_) <;> try simp [hc])
    | (with_reducible refine GKsplitNB (fun hc => ?_) (fun hc => ?_) <;> try simp [hc])
    | (with_reducible refine GKsplitB (fun hc => ?_) (fun hc => ?_) <;> try simp [hc])
    | (refine CallK.use (new_c) ?_; rintro r G' _ _ ⟨pb, rfl, hP⟩)
    | simp (disch := first | (with_reducible assumption) | (simp; done) | omega | (simp; omega)))
  refine awp_loop' (fun w T G' => ∃ (k : Nat) (L : List (Int × Bd)) (t : Option (List Bd)), k + w = (LL l).length ∧ L.length ≤ k ∧ k ≤ 50 ∧ TH pb G' L ∧ JC L ∧ LL t = L.map Prod.snd ∧ T = ofL [(3, .ptr pb 0), (4, ofS cVB t), (13, ofS cC l), (14, .int .i64 (LL l).length), (15, .int .i64 k)]) (LL l).length ⟨0, [], none, by omega, by simp, by omega, hP, JC.nil, rfl, by simp [ofS]⟩ ?_
  rintro w T G' ⟨k, L, t, hk, hL, h50, hP, hJ, ht, rfl⟩ N hN
  by_cases hkl : k < (LL l).length
  · obtain ⟨y, hy⟩ : ∃ y, y = (LL l)[k] := ⟨_, rfl⟩
    by_cases h5 : (50 : Int) ≤ k
    · repeat' (first
        | refine awp_seqK fun K' hpK => ?_
        | refine awp_block ?_
        | refine awp_condG fun A' B' hpA hpB => ?_
        | refine useK (by with_reducible assumption) ?_
        | refine useP (by with_reducible assumption) ?_
        | refine ED_cons (fun _ => ?_) ?_
        | (refine stable_mk ?_; simp (disch := first | (with_reducible assumption) | (simp; done) | omega | (simp; omega)) [hkl, h5, ofS_idx (f := cC), cC, ← hy]; done)
        | (refine stable_no ?_; simp (disch := first | (with_reducible assumption) | (simp; done) | omega | (simp; omega)) [hkl, h5, ofS_idx (f := cC), cC, ← hy]; done)
        | (with_reducible refine And.intro ?_ ?_)
        | (with_reducible intro hc)
        | (with_reducible refine GDsplit (fun hc => ?_) (fun hc => ?_) <;> try simp [hc])
        | (with_reducible refine GDsplitN (fun hc => ?_) (fun hc => ?_) <;> try simp [hc])
        | (with_reducible refine GDsplitNB (fun hc => ?_) (fun hc => ?_) <;> try simp [hc])
        | (with_reducible refine GDsplitB (fun hc => ?_) (fun hc => ?_) <;> try simp [hc])
        | (with_reducible refine GKsplit (fun hc => ?_) (fun hc => ?_) <;> try simp [hc])
        | (with_reducible refine GKsplitN (fun hc => ?_) (fun hc => ?_) <;> try simp [hc])
        | (with_reducible refine GKsplitNB (fun hc => ?_) (fun hc => ?_) <;> try simp [hc])
        | (with_reducible refine GKsplitB (fun hc => ?_) (fun hc => ?_) <;> try simp [hc])
        | (refine CallK.use (awake_c _) ?_; rintro r G' _ _ ⟨rfl, rfl⟩)
        | simp (disch := first | (with_reducible assumption) | (simp; done) | omega | (simp; omega)) [hkl, h5, ofS_idx (f := cC), cC, ← hy])
      exact ends_drop (by simp <;> rfl) (by simp) (hpost _ _ ⟨rfl, rfl⟩)
    · obtain ⟨kd, ⟨b1, b2, ⟨b3, b4, _⟩, b5, b6, b7, _⟩, ⟨p1, p2, _⟩, nm, n, _⟩ := y
      have cc := fun G => cut_c (kd := kd) (b := ⟨b1, b2, b3, b4, b5, b6, b7⟩) (sw := p1) (port := p2) (nm := nm) (n := n) (G := G)
      have sc := step_c (kd := kd) (b := ⟨b1, b2, b3, b4, cut12 b5, cut12 b6, b7⟩) (sw := p1) (port := p2) (nm := cut12 nm) (n := n) hP hJ.j (by omega) ht
      simp only [opA] at sc
      repeat' (first
        | refine awp_seqK fun K' hpK => ?_
        | refine awp_block ?_
        | refine awp_condG fun A' B' hpA hpB => ?_
        | refine useK (by with_reducible assumption) ?_
        | refine useP (by with_reducible assumption) ?_
        | refine ED_cons (fun _ => ?_) ?_
        | (refine stable_mk ?_; simp (disch := first | (with_reducible assumption) | (simp; done) | omega | (simp; omega)) [hkl, h5, ofS_idx (f := cC), cC, ← hy]; done)
        | (refine stable_no ?_; simp (disch := first | (with_reducible assumption) | (simp; done) | omega | (simp; omega)) [hkl, h5, ofS_idx (f := cC), cC, ← hy]; done)
        | (with_reducible refine And.intro ?_ ?_)
        | (with_reducible intro hc)
        | (with_reducible refine GDsplit (fun hc => ?_) (fun hc => ?_) <;> try simp [hc])
        | (with_reducible refine GDsplitN (fun hc => ?_) (fun hc => ?_) <;> try simp [hc])
        | (with_reducible refine GDsplitNB (fun hc => ?_) (fun hc => ?_) <;> try simp [hc])
        | (with_reducible refine GDsplitB (fun hc => ?_) (fun hc => ?_) <;> try simp [hc])
        | (with_reducible refine GKsplit (fun hc => ?_) (fun hc => ?_) <;> try simp [hc])
        | (with_reducible refine GKsplitN (fun hc => ?_) (fun hc => ?_) <;> try simp [hc])
        | (with_reducible refine GKsplitNB (fun hc => ?_) (fun hc => ?_) <;> try simp [hc])
        | (with_reducible refine GKsplitB (fun hc => ?_) (fun hc => ?_) <;> try simp [hc])
        | (refine CallK.use (cc _) ?_; rintro r G' _ _ ⟨rfl, rfl⟩)
        | simp (disch := first | (with_reducible assumption) | (simp; done) | omega | (simp; omega)) [hkl, h5, ofS_idx (f := cC), cC, ← hy])
      refine CallK.use sc ?_
      rintro r G2 _ _ ⟨t2, rfl, hP2, ht2⟩
      have hlen := stepL_len hJ.j kd ⟨b1, b2, b3, b4, cut12 b5, cut12 b6, b7⟩ p1 p2 (cut12 nm) n
      have hJ2 : JC (stepL kd ⟨b1, b2, b3, b4, cut12 b5, cut12 b6, b7⟩ p1 p2 (cut12 nm) n L) := hJ.step _ _ _ _ _ _
      generalize stepL kd ⟨b1, b2, b3, b4, cut12 b5, cut12 b6, b7⟩ p1 p2 (cut12 nm) n L = L2 at hP2 ht2 hlen hJ2
      repeat' (first
        | refine awp_seqK fun K' hpK => ?_
        | refine awp_block ?_
        | refine awp_condG fun A' B' hpA hpB => ?_
        | refine useK (by with_reducible assumption) ?_
        | refine useP (by with_reducible assumption) ?_
        | refine ED_cons (fun _ => ?_) ?_
        | (refine stable_mk ?_; simp (disch := first | (with_reducible assumption) | (simp; done) | omega | (simp; omega)); done)
        | (refine stable_no ?_; simp (disch := first | (with_reducible assumption) | (simp; done) | omega | (simp; omega)); done)
        | (with_reducible refine And.intro ?_ ?_)
        | (with_reducible intro hc)
        | (with_reducible refine GDsplit (fun hc => ?_) (fun hc => ?_) <;> try simp [hc])
        | (with_reducible refine GDsplitN (fun hc => ?_) (fun hc => ?_) <;> try simp [hc])
        | (with_reducible refine GDsplitNB (fun hc => ?_) (fun hc => ?_) <;> try simp [hc])
        | (with_reducible refine GDsplitB (fun hc => ?_) (fun hc => ?_) <;> try simp [hc])
        | (with_reducible refine GKsplit (fun hc => ?_) (fun hc => ?_) <;> try simp [hc])
        | (with_reducible refine GKsplitN (fun hc => ?_) (fun hc => ?_) <;> try simp [hc])
        | (with_reducible refine GKsplitNB (fun hc => ?_) (fun hc => ?_) <;> try simp [hc])
        | (with_reducible refine GKsplitB (fun hc => ?_) (fun hc => ?_) <;> try simp [hc])
        | simp (disch := first | (with_reducible assumption) | (simp; done) | omega | (simp; omega)))
      refine CallK.use (all_c hP2 (by omega)) ?_
      rintro r G3 _ _ ⟨rfl, s, rfl, hs⟩
      have hsl : (LL s).length ≤ 51 := by rw [hs, List.length_map]; omega
      repeat' (first
        | refine awp_seqK fun K' hpK => ?_
        | refine awp_block ?_
        | refine awp_condG fun A' B' hpA hpB => ?_
        | refine useK (by with_reducible assumption) ?_
        | refine useP (by with_reducible assumption) ?_
        | refine ED_cons (fun _ => ?_) ?_
        | (refine stable_mk ?_; simp (disch := first | (with_reducible assumption) | (simp; done) | omega | (simp; omega)); done)
        | (refine stable_no ?_; simp (disch := first | (with_reducible assumption) | (simp; done) | omega | (simp; omega)); done)
        | (with_reducible refine And.intro ?_ ?_)
        | (with_reducible intro hc)
        | (with_reducible refine GDsplit (fun hc => ?_) (fun hc => ?_) <;> try simp [hc])
        | (with_reducible refine GDsplitN (fun hc => ?_) (fun hc => ?_) <;> try simp [hc])
        | (with_reducible refine GDsplitNB (fun hc => ?_) (fun hc => ?_) <;> try simp [hc])
        | (with_reducible refine GDsplitB (fun hc => ?_) (fun hc => ?_) <;> try simp [hc])
        | (with_reducible refine GKsplit (fun hc => ?_) (fun hc => ?_) <;> try simp [hc])
        | (with_reducible refine GKsplitN (fun hc => ?_) (fun hc => ?_) <;> try simp [hc])
        | (with_reducible refine GKsplitNB (fun hc => ?_) (fun hc => ?_) <;> try simp [hc])
        | (with_reducible refine GKsplitB (fun hc => ?_) (fun hc => ?_) <;> try simp [hc])
        | simp (disch := first | (with_reducible assumption) | (simp; done) | omega | (simp; omega)))
      refine awp_loop' (fun w2 T2 G4 => ∃ j : Nat, j + w2 = (LL s).length ∧ G4 = G3 ∧ T2 = ofL [(3, .ptr pb 0), (4, ofS cVB t2), (7, ofS cVB s), (13, ofS cC l), (14, .int .i64 (LL l).length), (15, .int .i64 k), (32, ofS cVB s), (33, .int .i64 (LL s).length), (34, .int .i64 j)]) (LL s).length ⟨0, by omega, rfl, by simp⟩ ?_
      rintro w2 T2 G4 ⟨j, hj, rfl, rfl⟩ N2 hN2
      by_cases hjl : j < (LL s).length
      · obtain ⟨x, hx⟩ : ∃ x, x = (LL s)[j] := ⟨_, rfl⟩
        have hap := fun m (hm : m < j) => apartB hJ2 hs hjl hm
        rw [← hx] at hap
        have hlt : (LL (s.map fun l => l.take j)).length = j := by
          cases s with
          | none => simp [LL] at hjl
          | some l => simp [LL] at hjl ⊢; omega
        repeat' (first
          | refine awp_seqK fun K' hpK => ?_
          | refine awp_block ?_
          | refine awp_condG fun A' B' hpA hpB => ?_
          | refine useK (by with_reducible assumption) ?_
          | refine useP (by with_reducible assumption) ?_
          | refine ED_cons (fun _ => ?_) ?_
          | (refine stable_mk ?_; simp (disch := first | (with_reducible assumption) | (simp; done) | omega | (simp; omega)) [hjl, aslc_hi (f := cVB), ofS_idx (f := cVB), cVB, ← hx]; done)
          | (refine stable_no ?_; simp (disch := first | (with_reducible assumption) | (simp; done) | omega | (simp; omega)) [hjl, aslc_hi (f := cVB), ofS_idx (f := cVB), cVB, ← hx]; done)
          | (with_reducible refine And.intro ?_ ?_)
          | (with_reducible intro hc; try (exfalso; omega))
          | (with_reducible refine GDsplit (fun hc => ?_) (fun hc => ?_) <;> try simp [hc])
          | (with_reducible refine GDsplitN (fun hc => ?_) (fun hc => ?_) <;> try simp [hc])
          | (with_reducible refine GDsplitNB (fun hc => ?_) (fun hc => ?_) <;> try simp [hc])
          | (with_reducible refine GDsplitB (fun hc => ?_) (fun hc => ?_) <;> try simp [hc])
          | (with_reducible refine GKsplit (fun hc => ?_) (fun hc => ?_) <;> try simp [hc])
          | (with_reducible refine GKsplitN (fun hc => ?_) (fun hc => ?_) <;> try simp [hc])
          | (with_reducible refine GKsplitNB (fun hc => ?_) (fun hc => ?_) <;> try simp [hc])
          | (with_reducible refine GKsplitB (fun hc => ?_) (fun hc => ?_) <;> try simp [hc])
          | simp (disch := first | (with_reducible assumption) | (simp; done) | omega | (simp; omega)) [hjl, aslc_hi (f := cVB), ofS_idx (f := cVB), cVB, ← hx])
        refine awp_loop' (fun w3 T3 G5 => ∃ m : Nat, m + w3 = j ∧ G5 = G4 ∧ T3 = ofL [(3, .ptr pb 0), (4, ofS cVB t2), (7, ofS cVB s), (9, .box [.int .u64 x.mac, .int .u32 x.ip, .int .i64 x.sw, .int .i64 x.port, .str x.host, .str x.user, .int .i64 x.u]), (13, ofS cC l), (14, .int .i64 (LL l).length), (15, .int .i64 k), (32, ofS cVB s), (33, .int .i64 (LL s).length), (34, .int .i64 j), (41, ofS cVB (s.map fun l => l.take j)), (42, .int .i64 j), (43, .int .i64 m)]) j ⟨0, by omega, rfl, by simp⟩ ?_
        rintro w3 T3 G5 ⟨m, hm, rfl, rfl⟩ N3 hN3
        by_cases hmj : m < j
        · have hml : m < (LL (s.map fun l => l.take j)).length := by omega
          have hg : (LL (s.map fun l => l.take j))[m]'hml = (LL s)[m]'(by omega) := by
            cases s with
            | none => simp [LL] at hjl
            | some l => simp [LL]
          obtain ⟨c1, c2, c3⟩ := hap m hmj
          obtain ⟨y2, hy2⟩ : ∃ y, y = (LL s)[m]'(by omega) := ⟨_, rfl⟩
          rw [← hy2] at c1 c2 c3 hg
          repeat' (first
            | refine awp_seqK fun K' hpK => ?_
            | refine awp_block ?_
            | refine awp_condG fun A' B' hpA hpB => ?_
            | refine useK (by with_reducible assumption) ?_
            | refine useP (by with_reducible assumption) ?_
            | refine ED_cons (fun _ => ?_) ?_
            | (refine stable_mk ?_; simp (disch := first | (with_reducible assumption) | (simp; done) | omega | (simp; omega)) [hmj, hml, ofS_idx (f := cVB), cVB, hg, ← hy2, c1, c2, c3]; done)
            | (refine stable_no ?_; simp (disch := first | (with_reducible assumption) | (simp; done) | omega | (simp; omega)) [hmj, hml, ofS_idx (f := cVB), cVB, hg, ← hy2, c1, c2, c3]; done)
            | (with_reducible refine And.intro ?_ ?_)
            | (with_reducible intro hc; try (exfalso; omega))
            | (with_reducible refine GDsplit (fun hc => ?_) (fun hc => ?_) <;> try simp [hc])
            | (with_reducible refine GDsplitN (fun hc => ?_) (fun hc => ?_) <;> try simp [hc])
            | (with_reducible refine GDsplitNB (fun hc => ?_) (fun hc => ?_) <;> try simp [hc])
            | (with_reducible refine GDsplitB (fun hc => ?_) (fun hc => ?_) <;> try simp [hc])
            | (with_reducible refine GKsplit (fun hc => ?_) (fun hc => ?_) <;> try simp [hc])
            | (with_reducible refine GKsplitN (fun hc => ?_) (fun hc => ?_) <;> try simp [hc])
            | (with_reducible refine GKsplitNB (fun hc => ?_) (fun hc => ?_) <;> try simp [hc])
            | (with_reducible refine GKsplitB (fun hc => ?_) (fun hc => ?_) <;> try simp [hc])
            | simp (disch := first | (with_reducible assumption) | (simp; done) | omega | (simp; omega)) [hmj, hml, ofS_idx (f := cVB), cVB, hg, ← hy2, c1, c2, c3])
          exact hN3 (w3 - 1) _ _ (by omega) ⟨m + 1, by omega, rfl, by simp⟩
        · repeat' (first
            | refine awp_seqK fun K' hpK => ?_
            | refine awp_block ?_
            | refine awp_condG fun A' B' hpA hpB => ?_
            | refine useK (by with_reducible assumption) ?_
            | refine useP (by with_reducible assumption) ?_
            | refine ED_cons (fun _ => ?_) ?_
            | (refine stable_mk ?_; simp (disch := first | (with_reducible assumption) | (simp; done) | omega | (simp; omega)) [hmj]; done)
            | (refine stable_no ?_; simp (disch := first | (with_reducible assumption) | (simp; done) | omega | (simp; omega)) [hmj]; done)
            | (with_reducible refine And.intro ?_ ?_)
            | (with_reducible intro hc; try (exfalso; omega))
            | (with_reducible refine GDsplit (fun hc => ?_) (fun hc => ?_) <;> try simp [hc])
            | (with_reducible refine GDsplitN (fun hc => ?_) (fun hc => ?_) <;> try simp [hc])
            | (with_reducible refine GDsplitNB (fun hc => ?_) (fun hc => ?_) <;> try simp [hc])
            | (with_reducible refine GDsplitB (fun hc => ?_) (fun hc => ?_) <;> try simp [hc])
            | (with_reducible refine GKsplit (fun hc => ?_) (fun hc => ?_) <;> try simp [hc])
            | (with_reducible refine GKsplitN (fun hc => ?_) (fun hc => ?_) <;> try simp [hc])
            | (with_reducible refine GKsplitNB (fun hc => ?_) (fun hc => ?_) <;> try simp [hc])
            | (with_reducible refine GKsplitB (fun hc => ?_) (fun hc => ?_) <;> try simp [hc])
            | simp (disch := first | (with_reducible assumption) | (simp; done) | omega | (simp; omega)) [hmj])
          exact hN2 (w2 - 1) _ _ (by omega) ⟨j + 1, by omega, rfl, by simp⟩
      · repeat' (first
          | refine awp_seqK fun K' hpK => ?_
          | refine awp_block ?_
          | refine awp_condG fun A' B' hpA hpB => ?_
          | refine useK (by with_reducible assumption) ?_
          | refine useP (by with_reducible assumption) ?_
          | refine ED_cons (fun _ => ?_) ?_
          | (refine stable_mk ?_; simp (disch := first | (with_reducible assumption) | (simp; done) | omega | (simp; omega)) [hjl]; done)
          | (refine stable_no ?_; simp (disch := first | (with_reducible assumption) | (simp; done) | omega | (simp; omega)) [hjl]; done)
          | (with_reducible refine And.intro ?_ ?_)
          | (with_reducible intro hc; try (exfalso; omega))
          | (with_reducible refine GDsplit (fun hc => ?_) (fun hc => ?_) <;> try simp [hc])
          | (with_reducible refine GDsplitN (fun hc => ?_) (fun hc => ?_) <;> try simp [hc])
          | (with_reducible refine GDsplitNB (fun hc => ?_) (fun hc => ?_) <;> try simp [hc])
          | (with_reducible refine GDsplitB (fun hc => ?_) (fun hc => ?_) <;> try simp [hc])
          | (with_reducible refine GKsplit (fun hc => ?_) (fun hc => ?_) <;> try simp [hc])
          | (with_reducible refine GKsplitN (fun hc => ?_) (fun hc => ?_) <;> try simp [hc])
          | (with_reducible refine GKsplitNB (fun hc => ?_) (fun hc => ?_) <;> try simp [hc])
          | (with_reducible refine GKsplitB (fun hc => ?_) (fun hc => ?_) <;> try simp [hc])
          | simp (disch := first | (with_reducible assumption) | (simp; done) | omega | (simp; omega)) [hjl])
        exact hN (w - 1) _ _ (by omega) ⟨k + 1, L2, t2, by omega, by omega, by omega, hP2, hJ2, ht2, by simp⟩
  · repeat' (first
      | refine awp_seqK fun K' hpK => ?_
      | refine awp_block ?_
      | refine awp_condG fun A' B' hpA hpB => ?_
      | refine useK (by with_reducible assumption) ?_
      | refine useP (by with_reducible assumption) ?_
      | refine ED_cons (fun _ => ?_) ?_
      | (refine stable_mk ?_; simp (disch := first | (with_reducible assumption) | (simp; done) | omega | (simp; omega)) [hkl]; done)
      | (refine stable_no ?_; simp (disch := first | (with_reducible assumption) | (simp; done) | omega | (simp; omega)) [hkl]; done)
      | (with_reducible refine And.intro ?_ ?_)
      | (with_reducible intro hc)
      | (with_reducible refine GDsplit (fun hc => ?_) (fun hc => ?_) <;> try simp [hc])
      | (with_reducible refine GDsplitN (fun hc => ?_) (fun hc => ?_) <;> try simp [hc])
      | (with_reducible refine GDsplitNB (fun hc => ?_) (fun hc => ?_) <;> try simp [hc])
      | (with_reducible refine GDsplitB (fun hc => ?_) (fun hc => ?_) <;> try simp [hc])
      | (with_reducible refine GKsplit (fun hc => ?_) (fun hc => ?_) <;> try simp [hc])
      | (with_reducible refine GKsplitN (fun hc => ?_) (fun hc => ?_) <;> try simp [hc])
      | (with_reducible refine GKsplitNB (fun hc => ?_) (fun hc => ?_) <;> try simp [hc])
      | (with_reducible refine GKsplitB (fun hc => ?_) (fun hc => ?_) <;> try simp [hc])
      | (refine CallK.use (awake_c _) ?_; rintro r G' _ _ ⟨rfl, rfl⟩)
      | simp (disch := first | (with_reducible assumption) | (simp; done) | omega | (simp; omega)) [hkl])
    exact ends_drop (by simp <;> rfl) (by simp) (hpost _ _ ⟨rfl, rfl⟩)
theorem bindApart_law (z0 : (TD.slc (.two (.int .i64) (.two (.two (.int .u64) (.two (.int .u32) (.two (.two (.int .i64) (.two (.int .i64) .unit)) (.two .str (.two .str (.two (.int .i64) .unit)))))) (.two (.two (.int .i64) (.two (.int .i64) .unit)) (.two .str (.two (.int .i64) .unit)))))).T) (o0 : (TD.slc (.two (.int .i64) (.two (.two (.int .u64) (.two (.int .u32) (.two (.two (.int .i64) (.two (.int .i64) .unit)) (.two .str (.two .str (.two (.int .i64) .unit)))))) (.two (.two (.int .i64) (.two (.int .i64) .unit)) (.two .str (.two (.int .i64) .unit)))))).ok z0) :
    ACalls Try.prog 4 [(TD.slc (.two (.int .i64) (.two (.two (.int .u64) (.two (.int .u32) (.two (.two (.int .i64) (.two (.int .i64) .unit)) (.two .str (.two .str (.two (.int .i64) .unit)))))) (.two (.two (.int .i64) (.two (.int .i64) .unit)) (.two .str (.two (.int .i64) .unit)))))).av z0] emptyH fun r G' => G' = emptyH ∧ r = .bool true :=
  bindApart_c (l := z0) o0.1
end Go.Proofs.Ytmomphnkngbgjaa
