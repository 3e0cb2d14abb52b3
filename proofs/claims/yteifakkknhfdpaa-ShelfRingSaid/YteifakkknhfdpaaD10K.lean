import Derived.Test.YteifakkknhfdpaaD9K
set_option linter.unusedSimpArgs false
set_option linter.unusedVariables false
namespace Go.Proofs.Yteifakkknhfdpaa
open Go Go.Al
set_option maxRecDepth 20000
attribute [local irreducible] awp aops aopsD eop pv ACalls CallK AppK AEnds ti

abbrev ClT : Type := Int × Int × Int × Int × ByteArray × ByteArray × Unit
def toCl (x : ClT) : Cl := ⟨x.1, x.2.1, x.2.2.1, x.2.2.2.1, x.2.2.2.2.1, x.2.2.2.2.2.1⟩
def cT (x : ClT) : List AV := cCl (toCl x)
@[simp] theorem cT_len (x : ClT) : (cT x).length = 6 := by simp [cT]
theorem toCl_eq (x : ClT) : cCl (toCl x) = [.int .i64 x.1, .int .i64 x.2.1, .int .i64 x.2.2.1, .int .i64 x.2.2.2.1, .str x.2.2.2.2.1, .str x.2.2.2.2.2.1] := rfl

set_option maxHeartbeats 4000000 in
theorem shelfRing_c {m0 : Int} {l : Option (List ClT)} (hll : (LL l).length ≤ 140737488355328) (hst : ∀ x ∈ LL l, x.2.2.2.2.1.size ≤ LIM ∧ x.2.2.2.2.2.1.size ≤ LIM) : ACalls Try.prog 5 [.int .i64 m0, ofS cT l] emptyH fun r G' => G' = emptyH ∧ r = .bool true := by
  obtain ⟨q, hq⟩ : ∃ q, q = m0.tmod 12 := ⟨_, rfl⟩
  have hq1 : -12 < q := by rw [hq]; have := Int.lt_tmod_of_pos m0 (show (0 : Int) < 12 by omega); omega
  have hq2 : q < 12 := by rw [hq]; have := Int.tmod_lt_of_pos m0 (show (0 : Int) < 12 by omega); omega
  refine ACalls.hide fun post hpost => ?_
  refine F5_in (by simp) (by simp) fun hbd => ?_
  refine awp_seqH fun K1 hK1 => ?_
  simp (disch := first | (with_reducible assumption) | (simp; done) | omega | (simp; omega)) [F5_r0]
  refine hK1.out _ _ ?_
  refine awp_seqH fun K2 hK2 => ?_
  simp (disch := first | (with_reducible assumption) | (simp; done) | omega | (simp; omega)) [F5_r1, ← hq]
  refine hK2.out _ _ ?_
  refine awp_seqH fun K3 hK3 => ?_
  simp (disch := first | (with_reducible assumption) | (simp; done) | omega | (simp; omega)) [F5_r2, ← hq]
  refine CallK.use newring_c ?_
  rintro r G1 _ _ ⟨rb, rfl, hr⟩
  simp (disch := first | (with_reducible assumption) | (simp; done) | omega | (simp; omega)) []
  refine hK3.out _ _ ?_
  refine awp_seqH fun K4 hK4 => ?_
  have main : ∀ (mx : Int) (T : Tm), 0 ≤ mx → mx ≤ 11 → RingH rb G1 [] mx → T 0 = .int .i64 mx → T 1 = ofS cT l → T 5 = .ptr rb 0 → K4 T G1 := by
    intro mx T hm0 hm1 hr e0 e1 e5
    refine hK4.out _ _ ?_
    repeat' (first
      | refine awp_seqK fun K' hpK => ?_
      | refine awp_block ?_
      | refine awp_condG fun A' B' hpA hpB => ?_
      | refine useK (by with_reducible assumption) ?_
      | refine useP (by with_reducible assumption) ?_
      | refine ED_cons (fun _ => ?_) ?_
      | (refine stable_mk ?_; simp (disch := first | (with_reducible assumption) | (simp; done) | omega | (simp; omega)) [e0, e1, e5]; done)
      | (refine stable_no ?_; simp (disch := first | (with_reducible assumption) | (simp; done) | omega | (simp; omega)) [e0, e1, e5]; done)
      | (with_reducible refine And.intro ?_ ?_)
      | (with_reducible intro hc; try (exfalso; omega))
      | (with_reducible refine GDsplit (fun hc => ?_) (fun hc => ?_) <;> try simp [hc])
      | (with_reducible refine GDsplitN (fun hc => ?_) (fun hc => ?_) <;> try simp [hc])
      | (with_reducible refine GDsplitNB (fun hc => ?_) (fun hc => ?_) <;> try simp [hc])
      | (with_reducible refine GDsplitB (fun hc => ?_) (fun hc => ?_) <;> try simp [hc])
      | (with_reducible refine GKsplit (fun hc => ?_) (fun hc => ?_) <;> try simp [hc])
      | (with_reducible refine GKsplitN (fun hc => ?_) (fun hc => ?_) <;> try simp [hc])
      | (with_reducible refine GKsplitNB (fun hc => ?_) (fun hc => ?_) <;> try simp [hc])
      | (with_reducible refine GKsplitB (fun hc => ?_) (fun hc => ?_) <;> try simp [hc])
      | simp (disch := first | (with_reducible assumption) | (simp; done) | omega | (simp; omega)) [e0, e1, e5])
    refine awp_loop' (fun w T G' => ∃ (k : Nat) (F h : Hp) (s : Option (List Int)), k + w = (LL l).length ∧ G' = uni F h ∧ Dis F h ∧ RingH rb h (LL s) mx ∧ (LL s).length ≤ 2 * k ∧ k ≤ 40 ∧ T = ofL [(0, .int .i64 mx), (5, .ptr rb 0), (6, ofS cI s), (7, .bool true), (18, ofS cT l), (19, .int .i64 (LL l).length), (20, .int .i64 k)]) (LL l).length ⟨0, emptyH, G1, none, by omega, (empty_uni _).symm, (fun b => .inl rfl), hr, by simp, by omega, by simp [ofS]⟩ ?_
    rintro w T G' ⟨k, F, h, s, hk, rfl, hdis, hr, hsl, hk40, rfl⟩ N hN
    by_cases hkl : k < (LL l).length
    · obtain ⟨y, hy⟩ : ∃ y, y = (LL l)[k] := ⟨_, rfl⟩
      have hys := hst y (by rw [hy]; exact List.getElem_mem _)
      by_cases h40 : (40 : Int) ≤ k
      · repeat' (first
          | refine awp_seqK fun K' hpK => ?_
          | refine awp_block ?_
          | refine awp_condG fun A' B' hpA hpB => ?_
          | refine useK (by with_reducible assumption) ?_
          | refine useP (by with_reducible assumption) ?_
          | refine ED_cons (fun _ => ?_) ?_
          | (refine stable_mk ?_; simp (disch := first | (with_reducible assumption) | (simp; done) | omega | (simp; omega)) [hkl, h40, ofS_idx (f := cT), cT, toCl_eq, ← hy]; done)
          | (refine stable_no ?_; simp (disch := first | (with_reducible assumption) | (simp; done) | omega | (simp; omega)) [hkl, h40, ofS_idx (f := cT), cT, toCl_eq, ← hy]; done)
          | (with_reducible refine And.intro ?_ ?_)
          | (with_reducible intro hc; try (exfalso; omega))
          | (with_reducible refine GDsplit (fun hc => ?_) (fun hc => ?_) <;> try simp [hc])
          | (with_reducible refine GDsplitN (fun hc => ?_) (fun hc => ?_) <;> try simp [hc])
          | (with_reducible refine GDsplitNB (fun hc => ?_) (fun hc => ?_) <;> try simp [hc])
          | (with_reducible refine GDsplitB (fun hc => ?_) (fun hc => ?_) <;> try simp [hc])
          | (with_reducible refine GKsplit (fun hc => ?_) (fun hc => ?_) <;> try simp [hc])
          | (with_reducible refine GKsplitN (fun hc => ?_) (fun hc => ?_) <;> try simp [hc])
          | (with_reducible refine GKsplitNB (fun hc => ?_) (fun hc => ?_) <;> try simp [hc])
          | (with_reducible refine GKsplitB (fun hc => ?_) (fun hc => ?_) <;> try simp [hc])
          | simp (disch := first | (with_reducible assumption) | (simp; done) | omega | (simp; omega)) [hkl, h40, ofS_idx (f := cT), cT, toCl_eq, ← hy])
        refine CallK.fr (rallG hr (by omega)) hdis ?_
        rintro got h3 hdis _ _ hg
        have hgp := Grow.plain hg
        have hso : OwnI (uni F h3) got (LL s) := by
          rcases hg with ⟨rfl, hl0, rfl⟩ | ⟨b, τ, hb, rfl, rfl⟩
          · exact .inl ⟨rfl, hl0⟩
          · have hFb : F b = none := by
              rcases hdis b with h | h
              · exact h
              · rw [setH_same] at h; cases h
            exact .inr ⟨b, τ, rfl, by rw [uni_right hFb, setH_same, cI_map]⟩
        repeat' (first
          | refine awp_seqK fun K' hpK => ?_
          | refine awp_block ?_
          | refine awp_condG fun A' B' hpA hpB => ?_
          | refine useK (by with_reducible assumption) ?_
          | refine useP (by with_reducible assumption) ?_
          | refine ED_cons (fun _ => ?_) ?_
          | (refine stable_mk ?_; simp (disch := first | (with_reducible assumption) | (simp; done) | omega | (simp; omega)) [hgp]; done)
          | (refine stable_no ?_; simp (disch := first | (with_reducible assumption) | (simp; done) | omega | (simp; omega)) [hgp]; done)
          | (with_reducible refine And.intro ?_ ?_)
          | (with_reducible intro hc; try (exfalso; omega))
          | (with_reducible refine GDsplit (fun hc => ?_) (fun hc => ?_) <;> try simp [hc])
          | (with_reducible refine GDsplitN (fun hc => ?_) (fun hc => ?_) <;> try simp [hc])
          | (with_reducible refine GDsplitNB (fun hc => ?_) (fun hc => ?_) <;> try simp [hc])
          | (with_reducible refine GDsplitB (fun hc => ?_) (fun hc => ?_) <;> try simp [hc])
          | (with_reducible refine GKsplit (fun hc => ?_) (fun hc => ?_) <;> try simp [hc])
          | (with_reducible refine GKsplitN (fun hc => ?_) (fun hc => ?_) <;> try simp [hc])
          | (with_reducible refine GKsplitNB (fun hc => ?_) (fun hc => ?_) <;> try simp [hc])
          | (with_reducible refine GKsplitB (fun hc => ?_) (fun hc => ?_) <;> try simp [hc])
          | (refine CallK.use (sameO hso rfl (by omega)) ?_; rintro r G' _ _ ⟨rfl, rfl⟩)
          | (refine CallK.use (awake_c _) ?_; rintro r G' _ _ ⟨rfl, rfl⟩)
          | simp (disch := first | (with_reducible assumption) | (simp; done) | omega | (simp; omega)) [hgp])
        exact ends_drop (by simp <;> rfl) (by simp) (hpost _ _ ⟨rfl, rfl⟩)
      · have rc := ring_c (x := toCl y) hr rfl (by omega) hm0 (by omega)
        rw [toCl_eq] at rc
        repeat' (first
          | refine awp_seqK fun K' hpK => ?_
          | refine awp_block ?_
          | refine awp_condG fun A' B' hpA hpB => ?_
          | refine useK (by with_reducible assumption) ?_
          | refine useP (by with_reducible assumption) ?_
          | refine ED_cons (fun _ => ?_) ?_
          | (refine stable_mk ?_; simp (disch := first | (with_reducible assumption) | (simp; done) | omega | (simp; omega)) [hkl, h40, ofS_idx (f := cT), cT, toCl_eq, ← hy]; done)
          | (refine stable_no ?_; simp (disch := first | (with_reducible assumption) | (simp; done) | omega | (simp; omega)) [hkl, h40, ofS_idx (f := cT), cT, toCl_eq, ← hy]; done)
          | (with_reducible refine And.intro ?_ ?_)
          | (with_reducible intro hc; try (exfalso; omega))
          | (with_reducible refine GDsplit (fun hc => ?_) (fun hc => ?_) <;> try simp [hc])
          | (with_reducible refine GDsplitN (fun hc => ?_) (fun hc => ?_) <;> try simp [hc])
          | (with_reducible refine GDsplitNB (fun hc => ?_) (fun hc => ?_) <;> try simp [hc])
          | (with_reducible refine GDsplitB (fun hc => ?_) (fun hc => ?_) <;> try simp [hc])
          | (with_reducible refine GKsplit (fun hc => ?_) (fun hc => ?_) <;> try simp [hc])
          | (with_reducible refine GKsplitN (fun hc => ?_) (fun hc => ?_) <;> try simp [hc])
          | (with_reducible refine GKsplitNB (fun hc => ?_) (fun hc => ?_) <;> try simp [hc])
          | (with_reducible refine GKsplitB (fun hc => ?_) (fun hc => ?_) <;> try simp [hc])
          | (refine CallK.fr (rc) hdis ?_; rintro r h' hdis _ _ ⟨l', s', rfl, hr', hs', hl'⟩)
          | simp (disch := first | (with_reducible assumption) | (simp; done) | omega | (simp; omega)) [hkl, h40, ofS_idx (f := cT), cT, toCl_eq, ← hy])
        refine CallK.fr (rallG hr' (by omega)) hdis ?_
        rintro got h3 hdis _ _ hg
        have hgp := Grow.plain hg
        rcases hg with ⟨rfl, rfl, rfl⟩ | ⟨b, τ, hb, rfl, rfl⟩
        · skip
          have hs0 : LL s' = [] := hs'
          repeat' (first
            | refine awp_seqK fun K' hpK => ?_
            | refine awp_block ?_
            | refine awp_condG fun A' B' hpA hpB => ?_
            | refine useK (by with_reducible assumption) ?_
            | refine useP (by with_reducible assumption) ?_
            | refine ED_cons (fun _ => ?_) ?_
            | (refine stable_mk ?_; simp (disch := first | (with_reducible assumption) | (simp; done) | omega | (simp; omega)) [hs0]; done)
            | (refine stable_no ?_; simp (disch := first | (with_reducible assumption) | (simp; done) | omega | (simp; omega)) [hs0]; done)
            | (with_reducible refine And.intro ?_ ?_)
            | (with_reducible intro hc; try (exfalso; omega))
            | (with_reducible refine GDsplit (fun hc => ?_) (fun hc => ?_) <;> try simp [hc])
            | (with_reducible refine GDsplitN (fun hc => ?_) (fun hc => ?_) <;> try simp [hc])
            | (with_reducible refine GDsplitNB (fun hc => ?_) (fun hc => ?_) <;> try simp [hc])
            | (with_reducible refine GDsplitB (fun hc => ?_) (fun hc => ?_) <;> try simp [hc])
            | (with_reducible refine GKsplit (fun hc => ?_) (fun hc => ?_) <;> try simp [hc])
            | (with_reducible refine GKsplitN (fun hc => ?_) (fun hc => ?_) <;> try simp [hc])
            | (with_reducible refine GKsplitNB (fun hc => ?_) (fun hc => ?_) <;> try simp [hc])
            | (with_reducible refine GKsplitB (fun hc => ?_) (fun hc => ?_) <;> try simp [hc])
            | (refine CallK.fr (rlen_c hr') hdis ?_; rintro r h' hdis _ _ ⟨rfl, rfl⟩)
            | simp (disch := first | (with_reducible assumption) | (simp; done) | omega | (simp; omega)) [hs0])
          repeat' (first
            | refine awp_seqK fun K' hpK => ?_
            | refine awp_block ?_
            | refine awp_condG fun A' B' hpA hpB => ?_
            | refine useK (by with_reducible assumption) ?_
            | refine useP (by with_reducible assumption) ?_
            | refine ED_cons (fun _ => ?_) ?_
            | (refine stable_mk ?_; simp (disch := first | (with_reducible assumption) | (simp; done) | omega | (simp; omega)) [hs0]; done)
            | (refine stable_no ?_; simp (disch := first | (with_reducible assumption) | (simp; done) | omega | (simp; omega)) [hs0]; done)
            | (with_reducible refine And.intro ?_ ?_)
            | (with_reducible intro hc; try (exfalso; omega))
            | (with_reducible refine GDsplit (fun hc => ?_) (fun hc => ?_) <;> try simp [hc])
            | (with_reducible refine GDsplitN (fun hc => ?_) (fun hc => ?_) <;> try simp [hc])
            | (with_reducible refine GDsplitNB (fun hc => ?_) (fun hc => ?_) <;> try simp [hc])
            | (with_reducible refine GDsplitB (fun hc => ?_) (fun hc => ?_) <;> try simp [hc])
            | (with_reducible refine GKsplit (fun hc => ?_) (fun hc => ?_) <;> try simp [hc])
            | (with_reducible refine GKsplitN (fun hc => ?_) (fun hc => ?_) <;> try simp [hc])
            | (with_reducible refine GKsplitNB (fun hc => ?_) (fun hc => ?_) <;> try simp [hc])
            | (with_reducible refine GKsplitB (fun hc => ?_) (fun hc => ?_) <;> try simp [hc])
            | (refine CallK.use (sameO (la := []) (.inl ⟨rfl, rfl⟩) hs'.symm (by simp)) ?_; rintro r G' _ _ ⟨rfl, rfl⟩)
            | simp (disch := first | (with_reducible assumption) | (simp; done) | omega | (simp; omega)) [hs0])
          refine awp_unroll 1 (unr_step fun M hM => ?_)
          repeat' (first
            | refine awp_seqK fun K' hpK => ?_
            | refine awp_block ?_
            | refine awp_condG fun A' B' hpA hpB => ?_
            | refine useK (by with_reducible assumption) ?_
            | refine useP (by with_reducible assumption) ?_
            | refine ED_cons (fun _ => ?_) ?_
            | (refine stable_mk ?_; simp (disch := first | (with_reducible assumption) | (simp; done) | omega | (simp; omega)); done)
            | (refine stable_no ?_; simp (disch := first | (with_reducible assumption) | (simp; done) | omega | (simp; omega)); done)
            | (with_reducible refine And.intro ?_ ?_)
            | (with_reducible intro hc; try (exfalso; omega))
            | (with_reducible refine GDsplit (fun hc => ?_) (fun hc => ?_) <;> try simp [hc])
            | (with_reducible refine GDsplitN (fun hc => ?_) (fun hc => ?_) <;> try simp [hc])
            | (with_reducible refine GDsplitNB (fun hc => ?_) (fun hc => ?_) <;> try simp [hc])
            | (with_reducible refine GDsplitB (fun hc => ?_) (fun hc => ?_) <;> try simp [hc])
            | (with_reducible refine GKsplit (fun hc => ?_) (fun hc => ?_) <;> try simp [hc])
            | (with_reducible refine GKsplitN (fun hc => ?_) (fun hc => ?_) <;> try simp [hc])
            | (with_reducible refine GKsplitNB (fun hc => ?_) (fun hc => ?_) <;> try simp [hc])
            | (with_reducible refine GKsplitB (fun hc => ?_) (fun hc => ?_) <;> try simp [hc])
            | simp (disch := first | (with_reducible assumption) | (simp; done) | omega | (simp; omega)))
          exact hN (w - 1) _ _ (by omega) ⟨k + 1, F, _, s', by omega, rfl, hdis, by rw [hs']; exact hr', by rw [hs0]; simp, by omega, by simp⟩
        · skip
          have hFb : F b = none := by
            rcases hdis b with h | h
            · exact h
            · rw [setH_same] at h; cases h
          rw [uni_swap hFb, uni_swapF hb]
          have hdis1 : Dis (setH F b (some (τ, l'.flatMap cI))) h' := by
            refine dis_set ?_ hb
            intro i
            rcases hdis i with h | h
            · exact .inl h
            · by_cases hi : i = b
              · subst hi; exact .inr hb
              · rw [setH_ne _ _ hi] at h; exact .inr h
          have so := fun hh : Unit => sameO (G := uni (setH F b (some (τ, l'.flatMap cI))) h') (a := .ms b 0 l'.length 1) (la := l') (b := s') (.inr ⟨b, τ, rfl, by rw [uni_left (setH_same ..), cI_map]⟩) hs'.symm (by omega)
          have hlen : (LL s').length = l'.length := by rw [hs']
          repeat' (first
            | refine awp_seqK fun K' hpK => ?_
            | refine awp_block ?_
            | refine awp_condG fun A' B' hpA hpB => ?_
            | refine useK (by with_reducible assumption) ?_
            | refine useP (by with_reducible assumption) ?_
            | refine ED_cons (fun _ => ?_) ?_
            | (refine stable_mk ?_; simp (disch := first | (with_reducible assumption) | (simp; done) | omega | (simp; omega)) [hlen]; done)
            | (refine stable_no ?_; simp (disch := first | (with_reducible assumption) | (simp; done) | omega | (simp; omega)) [hlen]; done)
            | (with_reducible refine And.intro ?_ ?_)
            | (with_reducible intro hc; try (exfalso; omega))
            | (with_reducible refine GDsplit (fun hc => ?_) (fun hc => ?_) <;> try simp [hc])
            | (with_reducible refine GDsplitN (fun hc => ?_) (fun hc => ?_) <;> try simp [hc])
            | (with_reducible refine GDsplitNB (fun hc => ?_) (fun hc => ?_) <;> try simp [hc])
            | (with_reducible refine GDsplitB (fun hc => ?_) (fun hc => ?_) <;> try simp [hc])
            | (with_reducible refine GKsplit (fun hc => ?_) (fun hc => ?_) <;> try simp [hc])
            | (with_reducible refine GKsplitN (fun hc => ?_) (fun hc => ?_) <;> try simp [hc])
            | (with_reducible refine GKsplitNB (fun hc => ?_) (fun hc => ?_) <;> try simp [hc])
            | (with_reducible refine GKsplitB (fun hc => ?_) (fun hc => ?_) <;> try simp [hc])
            | (refine CallK.fr (rlen_c hr') hdis1 ?_; rintro r h' hdis1 _ _ ⟨rfl, rfl⟩)
            | simp (disch := first | (with_reducible assumption) | (simp; done) | omega | (simp; omega)) [hlen])
          repeat' (first
            | refine awp_seqK fun K' hpK => ?_
            | refine awp_block ?_
            | refine awp_condG fun A' B' hpA hpB => ?_
            | refine useK (by with_reducible assumption) ?_
            | refine useP (by with_reducible assumption) ?_
            | refine ED_cons (fun _ => ?_) ?_
            | (refine stable_mk ?_; simp (disch := first | (with_reducible assumption) | (simp; done) | omega | (simp; omega)) [hlen]; done)
            | (refine stable_no ?_; simp (disch := first | (with_reducible assumption) | (simp; done) | omega | (simp; omega)) [hlen]; done)
            | (with_reducible refine And.intro ?_ ?_)
            | (with_reducible intro hc; try (exfalso; omega))
            | (with_reducible refine GDsplit (fun hc => ?_) (fun hc => ?_) <;> try simp [hc])
            | (with_reducible refine GDsplitN (fun hc => ?_) (fun hc => ?_) <;> try simp [hc])
            | (with_reducible refine GDsplitNB (fun hc => ?_) (fun hc => ?_) <;> try simp [hc])
            | (with_reducible refine GDsplitB (fun hc => ?_) (fun hc => ?_) <;> try simp [hc])
            | (with_reducible refine GKsplit (fun hc => ?_) (fun hc => ?_) <;> try simp [hc])
            | (with_reducible refine GKsplitN (fun hc => ?_) (fun hc => ?_) <;> try simp [hc])
            | (with_reducible refine GKsplitNB (fun hc => ?_) (fun hc => ?_) <;> try simp [hc])
            | (with_reducible refine GKsplitB (fun hc => ?_) (fun hc => ?_) <;> try simp [hc])
            | (refine CallK.use (so ()) ?_; rintro r G' _ _ ⟨rfl, rfl⟩)
            | simp (disch := first | (with_reducible assumption) | (simp; done) | omega | (simp; omega)) [hlen])
          refine awp_loop' (fun v T G' => ∃ (j : Nat) (F2 : Hp) (cs : List AV), j + v = l'.length ∧ G' = uni F2 h' ∧ Dis F2 h' ∧ F2 b = some (τ, cs) ∧ cs.length = l'.length ∧ T = ofL [(0, .int .i64 mx), (5, .ptr rb 0), (6, ofS cI s'), (7, .bool true), (10, .ms b 0 l'.length 1), (18, ofS cT l), (19, .int .i64 (LL l).length), (20, .int .i64 k), (55, .int .i64 l'.length), (56, .int .i64 j)]) l'.length ⟨0, _, _, by omega, rfl, hdis1, setH_same .., by rw [cI_map]; simp, by simp⟩ ?_
          rintro v T G' ⟨j, F2, cs, hj, rfl, hdis2, hF2, hcs, rfl⟩ M hM
          have hG2 : uni F2 h' b = some (τ, cs) := uni_left hF2
          by_cases hjl : j < l'.length
          · have hfit : j + [AV.int .i64 77].length ≤ cs.length := by simp; omega
            have hfit2 : j < cs.length := by omega
            repeat' (first
              | refine awp_seqK fun K' hpK => ?_
              | refine awp_block ?_
              | refine awp_condG fun A' B' hpA hpB => ?_
              | refine useK (by with_reducible assumption) ?_
              | refine useP (by with_reducible assumption) ?_
              | refine ED_cons (fun _ => ?_) ?_
              | (refine stable_mk ?_; simp (disch := first | (with_reducible assumption) | (simp; done) | omega | (simp; omega)) [hjl, hG2, hfit, hfit2]; done)
              | (refine stable_no ?_; simp (disch := first | (with_reducible assumption) | (simp; done) | omega | (simp; omega)) [hjl, hG2, hfit, hfit2]; done)
              | (with_reducible refine And.intro ?_ ?_)
              | (with_reducible intro hc; try (exfalso; omega))
              | (with_reducible refine GDsplit (fun hc => ?_) (fun hc => ?_) <;> try simp [hc])
              | (with_reducible refine GDsplitN (fun hc => ?_) (fun hc => ?_) <;> try simp [hc])
              | (with_reducible refine GDsplitNB (fun hc => ?_) (fun hc => ?_) <;> try simp [hc])
              | (with_reducible refine GDsplitB (fun hc => ?_) (fun hc => ?_) <;> try simp [hc])
              | (with_reducible refine GKsplit (fun hc => ?_) (fun hc => ?_) <;> try simp [hc])
              | (with_reducible refine GKsplitN (fun hc => ?_) (fun hc => ?_) <;> try simp [hc])
              | (with_reducible refine GKsplitNB (fun hc => ?_) (fun hc => ?_) <;> try simp [hc])
              | (with_reducible refine GKsplitB (fun hc => ?_) (fun hc => ?_) <;> try simp [hc])
              | simp (disch := first | (with_reducible assumption) | (simp; done) | omega | (simp; omega)) [hjl, hG2, hfit, hfit2])
            rw [uni_swapF hb]
            refine hM (v - 1) _ _ (by omega) ⟨j + 1, _, _, by omega, rfl, dis_set hdis2 hb, setH_same .., ?_, by simp⟩
            simp; omega
          · repeat' (first
              | refine awp_seqK fun K' hpK => ?_
              | refine awp_block ?_
              | refine awp_condG fun A' B' hpA hpB => ?_
              | refine useK (by with_reducible assumption) ?_
              | refine useP (by with_reducible assumption) ?_
              | refine ED_cons (fun _ => ?_) ?_
              | (refine stable_mk ?_; simp (disch := first | (with_reducible assumption) | (simp; done) | omega | (simp; omega)) [hjl]; done)
              | (refine stable_no ?_; simp (disch := first | (with_reducible assumption) | (simp; done) | omega | (simp; omega)) [hjl]; done)
              | (with_reducible refine And.intro ?_ ?_)
              | (with_reducible intro hc; try (exfalso; omega))
              | (with_reducible refine GDsplit (fun hc => ?_) (fun hc => ?_) <;> try simp [hc])
              | (with_reducible refine GDsplitN (fun hc => ?_) (fun hc => ?_) <;> try simp [hc])
              | (with_reducible refine GDsplitNB (fun hc => ?_) (fun hc => ?_) <;> try simp [hc])
              | (with_reducible refine GDsplitB (fun hc => ?_) (fun hc => ?_) <;> try simp [hc])
              | (with_reducible refine GKsplit (fun hc => ?_) (fun hc => ?_) <;> try simp [hc])
              | (with_reducible refine GKsplitN (fun hc => ?_) (fun hc => ?_) <;> try simp [hc])
              | (with_reducible refine GKsplitNB (fun hc => ?_) (fun hc => ?_) <;> try simp [hc])
              | (with_reducible refine GKsplitB (fun hc => ?_) (fun hc => ?_) <;> try simp [hc])
              | simp (disch := first | (with_reducible assumption) | (simp; done) | omega | (simp; omega)) [hjl])
            exact hN (w - 1) _ _ (by omega) ⟨k + 1, F2, h', s', by omega, rfl, hdis2, by rw [hs']; exact hr', by rw [hs']; omega, by omega, by simp⟩
    · repeat' (first
        | refine awp_seqK fun K' hpK => ?_
        | refine awp_block ?_
        | refine awp_condG fun A' B' hpA hpB => ?_
        | refine useK (by with_reducible assumption) ?_
        | refine useP (by with_reducible assumption) ?_
        | refine ED_cons (fun _ => ?_) ?_
        | (refine stable_mk ?_; simp (disch := first | (with_reducible assumption) | (simp; done) | omega | (simp; omega)) [hkl]; done)
        | (refine stable_no ?_; simp (disch := first | (with_reducible assumption) | (simp; done) | omega | (simp; omega)) [hkl]; done)
        | (with_reducible refine And.intro ?_ ?_)
        | (with_reducible intro hc; try (exfalso; omega))
        | (with_reducible refine GDsplit (fun hc => ?_) (fun hc => ?_) <;> try simp [hc])
        | (with_reducible refine GDsplitN (fun hc => ?_) (fun hc => ?_) <;> try simp [hc])
        | (with_reducible refine GDsplitNB (fun hc => ?_) (fun hc => ?_) <;> try simp [hc])
        | (with_reducible refine GDsplitB (fun hc => ?_) (fun hc => ?_) <;> try simp [hc])
        | (with_reducible refine GKsplit (fun hc => ?_) (fun hc => ?_) <;> try simp [hc])
        | (with_reducible refine GKsplitN (fun hc => ?_) (fun hc => ?_) <;> try simp [hc])
        | (with_reducible refine GKsplitNB (fun hc => ?_) (fun hc => ?_) <;> try simp [hc])
        | (with_reducible refine GKsplitB (fun hc => ?_) (fun hc => ?_) <;> try simp [hc])
        | simp (disch := first | (with_reducible assumption) | (simp; done) | omega | (simp; omega)) [hkl])
      refine CallK.fr (rallG hr (by omega)) hdis ?_
      rintro got h3 hdis _ _ hg
      have hgp := Grow.plain hg
      have hso : OwnI (uni F h3) got (LL s) := by
        rcases hg with ⟨rfl, hl0, rfl⟩ | ⟨b, τ, hb, rfl, rfl⟩
        · exact .inl ⟨rfl, hl0⟩
        · have hFb : F b = none := by
            rcases hdis b with h | h
            · exact h
            · rw [setH_same] at h; cases h
          exact .inr ⟨b, τ, rfl, by rw [uni_right hFb, setH_same, cI_map]⟩
      repeat' (first
        | refine awp_seqK fun K' hpK => ?_
        | refine awp_block ?_
        | refine awp_condG fun A' B' hpA hpB => ?_
        | refine useK (by with_reducible assumption) ?_
        | refine useP (by with_reducible assumption) ?_
        | refine ED_cons (fun _ => ?_) ?_
        | (refine stable_mk ?_; simp (disch := first | (with_reducible assumption) | (simp; done) | omega | (simp; omega)) [hgp]; done)
        | (refine stable_no ?_; simp (disch := first | (with_reducible assumption) | (simp; done) | omega | (simp; omega)) [hgp]; done)
        | (with_reducible refine And.intro ?_ ?_)
        | (with_reducible intro hc; try (exfalso; omega))
        | (with_reducible refine GDsplit (fun hc => ?_) (fun hc => ?_) <;> try simp [hc])
        | (with_reducible refine GDsplitN (fun hc => ?_) (fun hc => ?_) <;> try simp [hc])
        | (with_reducible refine GDsplitNB (fun hc => ?_) (fun hc => ?_) <;> try simp [hc])
        | (with_reducible refine GDsplitB (fun hc => ?_) (fun hc => ?_) <;> try simp [hc])
        | (with_reducible refine GKsplit (fun hc => ?_) (fun hc => ?_) <;> try simp [hc])
        | (with_reducible refine GKsplitN (fun hc => ?_) (fun hc => ?_) <;> try simp [hc])
        | (with_reducible refine GKsplitNB (fun hc => ?_) (fun hc => ?_) <;> try simp [hc])
        | (with_reducible refine GKsplitB (fun hc => ?_) (fun hc => ?_) <;> try simp [hc])
        | (refine CallK.use (sameO hso rfl (by omega)) ?_; rintro r G' _ _ ⟨rfl, rfl⟩)
        | (refine CallK.use (awake_c _) ?_; rintro r G' _ _ ⟨rfl, rfl⟩)
        | simp (disch := first | (with_reducible assumption) | (simp; done) | omega | (simp; omega)) [hgp])
      exact ends_drop (by simp <;> rfl) (by simp) (hpost _ _ ⟨rfl, rfl⟩)
  by_cases hq0 : q < 0
  · repeat' (first
      | refine awp_seqK fun K' hpK => ?_
      | refine awp_block ?_
      | refine awp_condG fun A' B' hpA hpB => ?_
      | refine useK (by with_reducible assumption) ?_
      | refine useP (by with_reducible assumption) ?_
      | refine ED_cons (fun _ => ?_) ?_
      | (refine stable_mk ?_; simp (disch := first | (with_reducible assumption) | (simp; done) | omega | (simp; omega)) [hq0]; done)
      | (refine stable_no ?_; simp (disch := first | (with_reducible assumption) | (simp; done) | omega | (simp; omega)) [hq0]; done)
      | (with_reducible refine And.intro ?_ ?_)
      | (with_reducible intro hc; try (exfalso; omega))
      | (with_reducible refine GDsplit (fun hc => ?_) (fun hc => ?_) <;> try simp [hc])
      | (with_reducible refine GDsplitN (fun hc => ?_) (fun hc => ?_) <;> try simp [hc])
      | (with_reducible refine GDsplitNB (fun hc => ?_) (fun hc => ?_) <;> try simp [hc])
      | (with_reducible refine GDsplitB (fun hc => ?_) (fun hc => ?_) <;> try simp [hc])
      | (with_reducible refine GKsplit (fun hc => ?_) (fun hc => ?_) <;> try simp [hc])
      | (with_reducible refine GKsplitN (fun hc => ?_) (fun hc => ?_) <;> try simp [hc])
      | (with_reducible refine GKsplitNB (fun hc => ?_) (fun hc => ?_) <;> try simp [hc])
      | (with_reducible refine GKsplitB (fun hc => ?_) (fun hc => ?_) <;> try simp [hc])
      | simp (disch := first | (with_reducible assumption) | (simp; done) | omega | (simp; omega)) [hq0])
    exact main 0 _ (by omega) (by omega) (by have : maxR q = 0 := if_pos hq0
                                             rw [this] at hr; exact hr) (by simp) (by simp) (by simp)
  · repeat' (first
      | refine awp_seqK fun K' hpK => ?_
      | refine awp_block ?_
      | refine awp_condG fun A' B' hpA hpB => ?_
      | refine useK (by with_reducible assumption) ?_
      | refine useP (by with_reducible assumption) ?_
      | refine ED_cons (fun _ => ?_) ?_
      | (refine stable_mk ?_; simp (disch := first | (with_reducible assumption) | (simp; done) | omega | (simp; omega)) [hq0]; done)
      | (refine stable_no ?_; simp (disch := first | (with_reducible assumption) | (simp; done) | omega | (simp; omega)) [hq0]; done)
      | (with_reducible refine And.intro ?_ ?_)
      | (with_reducible intro hc; try (exfalso; omega))
      | (with_reducible refine GDsplit (fun hc => ?_) (fun hc => ?_) <;> try simp [hc])
      | (with_reducible refine GDsplitN (fun hc => ?_) (fun hc => ?_) <;> try simp [hc])
      | (with_reducible refine GDsplitNB (fun hc => ?_) (fun hc => ?_) <;> try simp [hc])
      | (with_reducible refine GDsplitB (fun hc => ?_) (fun hc => ?_) <;> try simp [hc])
      | (with_reducible refine GKsplit (fun hc => ?_) (fun hc => ?_) <;> try simp [hc])
      | (with_reducible refine GKsplitN (fun hc => ?_) (fun hc => ?_) <;> try simp [hc])
      | (with_reducible refine GKsplitNB (fun hc => ?_) (fun hc => ?_) <;> try simp [hc])
      | (with_reducible refine GKsplitB (fun hc => ?_) (fun hc => ?_) <;> try simp [hc])
      | simp (disch := first | (with_reducible assumption) | (simp; done) | omega | (simp; omega)) [hq0])
    exact main q _ (by omega) (by omega) (by have : maxR q = q := if_neg hq0
                                             rw [this] at hr; exact hr) (by simp) (by simp) (by simp)
theorem shelfRing_law (z0 : (TD.int .i64).T) (z1 : (TD.slc (.two (.int .i64) (.two (.int .i64) (.two (.int .i64) (.two (.int .i64) (.two .str (.two .str .unit))))))).T) (_ : (TD.int .i64).ok z0) (o1 : (TD.slc (.two (.int .i64) (.two (.int .i64) (.two (.int .i64) (.two (.int .i64) (.two .str (.two .str .unit))))))).ok z1) :
    ACalls Try.prog 5 [(TD.int .i64).av z0, (TD.slc (.two (.int .i64) (.two (.int .i64) (.two (.int .i64) (.two (.int .i64) (.two .str (.two .str .unit))))))).av z1] emptyH fun r G' => G' = emptyH ∧ r = .bool true :=
  shelfRing_c (m0 := z0) (l := z1) o1.1 fun x hx => ⟨(o1.2 x hx).2.2.2.2.1, (o1.2 x hx).2.2.2.2.2.1⟩
end Go.Proofs.Yteifakkknhfdpaa
