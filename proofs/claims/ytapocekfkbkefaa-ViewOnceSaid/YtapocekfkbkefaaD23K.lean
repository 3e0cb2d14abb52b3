import Derived.Test.YtapocekfkbkefaaD22K
set_option linter.unusedSimpArgs false
set_option linter.unusedVariables false
namespace Go.Proofs.Ytapocekfkbkefaa
open Go Go.Al
set_option maxRecDepth 20000
attribute [local irreducible] awp aops aopsD eop pv ACalls CallK AppK AEnds ti

theorem once {P : List (Int × Int)} {L : List (Int × Sn)} {s : Option (List Lk)} {now : Int} (hJ : JV P L now) (h : LL s = (L.map Prod.snd).map Sn.lk) {j : Nat} (hj : j < (LL s).length) :
    upP P (LL s)[j].a1 (LL s)[j].a2 = true ∧ upP P (LL s)[j].b1 (LL s)[j].b2 = true ∧ decide ((LL s)[j].a1 < (LL s)[j].b1 ∨ (LL s)[j].a1 = (LL s)[j].b1 ∧ (LL s)[j].a2 < (LL s)[j].b2) = true ∧ edgeP P (L.map Prod.snd) (LL s)[j].a1 (LL s)[j].a2 = false ∧
    (∀ m (hm : m < j), decide ((LL s)[m].a1 < (LL s)[j].a1 ∨ (LL s)[m].a1 = (LL s)[j].a1 ∧ (LL s)[m].a2 < (LL s)[j].a2) = true ∧ ¬ ((LL s)[j].a1 = (LL s)[m].a1 ∧ (LL s)[j].a2 = (LL s)[m].a2) ∧ ¬ ((LL s)[j].a1 = (LL s)[m].b1 ∧ (LL s)[j].a2 = (LL s)[m].b2) ∧ ¬ ((LL s)[j].b1 = (LL s)[m].a1 ∧ (LL s)[j].b2 = (LL s)[m].a2) ∧ ¬ ((LL s)[j].b1 = (LL s)[m].b1 ∧ (LL s)[j].b2 = (LL s)[m].b2)) := by
  have hl : (LL s).length = L.length := by rw [h, List.length_map, List.length_map]
  have e : ∀ k (hk : k < (LL s).length), (LL s)[k] = (L[k]'(by omega)).2.lk := fun k hk => by simp [h]
  have m1 := List.getElem_mem (show j < L.length by omega)
  have g1 := hJ.g _ m1
  have o1 := hJ.o _ m1
  have k1 := hJ.k _ m1
  rw [e j hj]
  generalize hx : (L[j]'(by omega)) = x at *
  have gA := goodP_iff.1 (upP_good g1.1)
  have gB := goodP_iff.1 (upP_good g1.2)
  refine ⟨g1.1, g1.2, decide_eq_true (by unfold Sn.lk; simp only; omega), ?_, fun m hm => ?_⟩
  · unfold edgeP
    have : (L.map Prod.snd).any (fun y => endsP y x.2.lk.a1 x.2.lk.a2) = true := by
      rw [List.any_eq_true]
      exact ⟨x.2, List.mem_map.2 ⟨x, m1, rfl⟩, by unfold endsP Sn.lk; simp⟩
    rw [this]; simp
  · have hml : m < L.length := by omega
    have m2 := List.getElem_mem hml
    have hp : (L[m]).1 < x.1 := by
      have := List.pairwise_iff_getElem.1 hJ.s m j hml (by omega) hm
      rw [hx] at this
      simpa [KO.lt] using this
    have g2 := hJ.g _ m2
    have k2 := hJ.k _ m2
    have d2 := hJ.d _ m2 _ m1
    rw [e m (by omega)]
    generalize L[m] = y at *
    have gC := goodP_iff.1 (upP_good g2.1)
    have gD := goodP_iff.1 (upP_good g2.2)
    have nt : ¬ touchP y.2.a1 y.2.a2 y.2.b1 y.2.b2 x.2 = true := fun h => by have := d2 h; omega
    rw [touch_iff] at nt
    unfold numL Sn.lk at k1 k2
    simp only at k1 k2
    refine ⟨decide_eq_true (by unfold Sn.lk; simp only; omega), ?_, ?_, ?_, ?_⟩ <;> unfold Sn.lk <;> simp only <;> intro hc <;> apply nt
    · exact .inl (.inl hc)
    · exact .inr (.inl hc)
    · exact .inl (.inr hc)
    · exact .inr (.inr hc)
set_option maxHeartbeats 8000000 in
theorem viewOnce_c {l : Option (List CT)} (hll : (LL l).length ≤ 140737488355328) : ACalls Try.prog 3 [ofS cC l] emptyH fun r G' => G' = emptyH ∧ r = .bool true := by
  refine ACalls.hide fun post hpost => ?_
  refine F3_in (by simp) (by simp) fun hbd => ?_
  repeat' (first
    | refine awp_seqK fun K' hpK => ?_
    | refine awp_block ?_
    | refine awp_condG fun A' B' hpA hpB => ?_
    | refine useK (by with_reducible assumption) ?_
    | refine useP (by with_reducible assumption) ?_
    | refine ED_cons (fun _ => ?_) ?_
    | (refine stable_mk ?_; simp (disch := first | (with_reducible assumption) | (simp; done) | omega | (simp; omega)); done)
    | (refine stable_no ?_; simp (disch := first | (with_reducible assumption) | (simp; done) | omega | (simp; omega)); done)
    | (with_reducible refine And.intro ?_ ?_)
    | (with_reducible intro hc)
    | (with_reducible refine GDsplit (fun hc => ?_) (fun hc => ?_) <;> try simp [hc])
    | (with_reducible refine GDsplitN (fun hc => ?_) (fun hc => ?_) <;> try simp [hc])
    | (with_reducible refine GDsplitNB (fun hc => ?_) (fun hc => ?_) <;> try simp [hc])
    | (with_reducible refine GDsplitB (fun hc => ?_) (fun hc => ?_) <;> try simp [hc])
    | (with_reducible refine GKsplit (fun hc => ?_) (fun hc => ?_) <;> try simp [hc])
    | (with_reducible refine GKsplitN (fun hc => ?_) (fun hc => ?_) <;> try simp [hc])
    | (with_reducible refine GKsplitNB (fun hc => ?_) (fun hc => ?_) <;> try simp [hc])
    | (with_reducible refine GKsplitB (fun hc => ?_) (fun hc => ?_) <;> try simp [hc])
    | (refine CallK.use (new_c) ?_; rintro r G' _ _ ⟨pb, rfl, hV⟩)
    | simp (disch := first | (with_reducible assumption) | (simp; done) | omega | (simp; omega)))
  intro rb hrb
  refine ⟨0, ?_⟩
  repeat' (first
    | refine awp_seqK fun K' hpK => ?_
    | refine awp_block ?_
    | refine awp_condG fun A' B' hpA hpB => ?_
    | refine useK (by with_reducible assumption) ?_
    | refine useP (by with_reducible assumption) ?_
    | refine ED_cons (fun _ => ?_) ?_
    | (refine stable_mk ?_; simp (disch := first | (with_reducible assumption) | (simp; done) | omega | (simp; omega)); done)
    | (refine stable_no ?_; simp (disch := first | (with_reducible assumption) | (simp; done) | omega | (simp; omega)); done)
    | (with_reducible refine And.intro ?_ ?_)
    | (with_reducible intro hc)
    | (with_reducible refine GDsplit (fun hc => ?_) (fun hc => ?_) <;> try simp [hc])
    | (with_reducible refine GDsplitN (fun hc => ?_) (fun hc => ?_) <;> try simp [hc])
    | (with_reducible refine GDsplitNB (fun hc => ?_) (fun hc => ?_) <;> try simp [hc])
    | (with_reducible refine GDsplitB (fun hc => ?_) (fun hc => ?_) <;> try simp [hc])
    | (with_reducible refine GKsplit (fun hc => ?_) (fun hc => ?_) <;> try simp [hc])
    | (with_reducible refine GKsplitN (fun hc => ?_) (fun hc => ?_) <;> try simp [hc])
    | (with_reducible refine GKsplitNB (fun hc => ?_) (fun hc => ?_) <;> try simp [hc])
    | (with_reducible refine GKsplitB (fun hc => ?_) (fun hc => ?_) <;> try simp [hc])
    | simp (disch := first | (with_reducible assumption) | (simp; done) | omega | (simp; omega)))
  rw [set_uni hrb]
  refine awp_loop' (fun w T G => ∃ (k : Nat) (now : Int) (P : List (Int × Int)) (L : List (Int × Sn)) (hv hr : Hp), k + w = (LL l).length ∧ 0 ≤ now ∧ now ≤ 15 * k ∧ L.length ≤ k ∧ k ≤ 40 ∧ G = uni hv hr ∧ Dis hv hr ∧ VH pb hv P L ∧ RH rb hr P (L.map Prod.snd) ∧ JV P L now ∧ T = ofL [(3, .ptr pb 0), (4, .ptr rb 0), (5, .int .i64 now), (16, ofS cC l), (17, .int .i64 (LL l).length), (18, .int .i64 k)]) (LL l).length ⟨0, 0, [], [], _, _, by omega, by omega, by omega, by simp, by omega, rfl, (dis_one.2 hrb).symm, hV, new2, JV.nil, by simp⟩ ?_
  clear hV hrb
  rintro w T G ⟨k, now, P, L, hv, hr, hk, t0, t1, hL, h40, rfl, hdis, hV, hR, hJ, rfl⟩ N hN
  by_cases hkl : k < (LL l).length
  · obtain ⟨y, hy⟩ : ∃ y, y = (LL l)[k] := ⟨_, rfl⟩
    by_cases h4 : (40 : Int) ≤ k
    · repeat' (first
        | refine awp_seqK fun K' hpK => ?_
        | refine awp_block ?_
        | refine awp_condG fun A' B' hpA hpB => ?_
        | refine useK (by with_reducible assumption) ?_
        | refine useP (by with_reducible assumption) ?_
        | refine ED_cons (fun _ => ?_) ?_
        | (refine stable_mk ?_; simp (disch := first | (with_reducible assumption) | (simp; done) | omega | (simp; omega)) [hkl, h4, ofS_idx (f := cC), cC, ← hy]; done)
        | (refine stable_no ?_; simp (disch := first | (with_reducible assumption) | (simp; done) | omega | (simp; omega)) [hkl, h4, ofS_idx (f := cC), cC, ← hy]; done)
        | (with_reducible refine And.intro ?_ ?_)
        | (with_reducible intro hc)
        | (with_reducible refine GDsplit (fun hc => ?_) (fun hc => ?_) <;> try simp [hc])
        | (with_reducible refine GDsplitN (fun hc => ?_) (fun hc => ?_) <;> try simp [hc])
        | (with_reducible refine GDsplitNB (fun hc => ?_) (fun hc => ?_) <;> try simp [hc])
        | (with_reducible refine GDsplitB (fun hc => ?_) (fun hc => ?_) <;> try simp [hc])
        | (with_reducible refine GKsplit (fun hc => ?_) (fun hc => ?_) <;> try simp [hc])
        | (with_reducible refine GKsplitN (fun hc => ?_) (fun hc => ?_) <;> try simp [hc])
        | (with_reducible refine GKsplitNB (fun hc => ?_) (fun hc => ?_) <;> try simp [hc])
        | (with_reducible refine GKsplitB (fun hc => ?_) (fun hc => ?_) <;> try simp [hc])
        | (refine CallK.use (awake_c _) ?_; rintro r G' _ _ ⟨rfl, rfl⟩)
        | simp (disch := first | (with_reducible assumption) | (simp; done) | omega | (simp; omega)) [hkl, h4, ofS_idx (f := cC), cC, ← hy])
      exact ends_drop (by simp <;> rfl) (by simp) (hpost _ _ ⟨rfl, rfl⟩)
    · obtain ⟨kd, ⟨a1, a2, _⟩, ⟨b1, b2, _⟩, up, most, t, _⟩ := y
      obtain ⟨q, hq, hs2⟩ : ∃ q : Nat, q ≤ 15 ∧ ibits .and .i64 t 15 = some (q : Int) := andM (c := 15) (by omega) t
      have sc := step_c (kd := kd) (a1 := a1) (a2 := a2) (b1 := b1) (b2 := b2) (up := up) (most := most) (t := t) (now := now + q) hdis hV hR hJ (by omega)
      simp only [opV] at sc
      have hw : IntKind.i64.wrap (now + q) = now + q := by rw [IntKind.wrap_i64]; omega
      repeat' (first
        | refine awp_seqK fun K' hpK => ?_
        | refine awp_block ?_
        | refine awp_condG fun A' B' hpA hpB => ?_
        | refine useK (by with_reducible assumption) ?_
        | refine useP (by with_reducible assumption) ?_
        | refine ED_cons (fun _ => ?_) ?_
        | (refine stable_mk ?_; simp (disch := first | (with_reducible assumption) | (simp; done) | omega | (simp; omega)) [hkl, h4, ofS_idx (f := cC), cC, ← hy, hs2, hw]; done)
        | (refine stable_no ?_; simp (disch := first | (with_reducible assumption) | (simp; done) | omega | (simp; omega)) [hkl, h4, ofS_idx (f := cC), cC, ← hy, hs2, hw]; done)
        | (with_reducible refine And.intro ?_ ?_)
        | (with_reducible intro hc)
        | (with_reducible refine GDsplit (fun hc => ?_) (fun hc => ?_) <;> try simp [hc])
        | (with_reducible refine GDsplitN (fun hc => ?_) (fun hc => ?_) <;> try simp [hc])
        | (with_reducible refine GDsplitNB (fun hc => ?_) (fun hc => ?_) <;> try simp [hc])
        | (with_reducible refine GDsplitB (fun hc => ?_) (fun hc => ?_) <;> try simp [hc])
        | (with_reducible refine GKsplit (fun hc => ?_) (fun hc => ?_) <;> try simp [hc])
        | (with_reducible refine GKsplitN (fun hc => ?_) (fun hc => ?_) <;> try simp [hc])
        | (with_reducible refine GKsplitNB (fun hc => ?_) (fun hc => ?_) <;> try simp [hc])
        | (with_reducible refine GKsplitB (fun hc => ?_) (fun hc => ?_) <;> try simp [hc])
        | simp (disch := first | (with_reducible assumption) | (simp; done) | omega | (simp; omega)) [hkl, h4, ofS_idx (f := cC), cC, ← hy, hs2, hw])
      refine CallK.use sc ?_
      rintro r G2 _ _ ⟨hv2, hr2, rfl, hdis2, rfl, hV2, hR2⟩
      have hJ2 := hJ.step (now := now + q) (by omega) (by omega) kd a1 a2 b1 b2 up most
      have hlen := stepV_len (P := P) hJ.s kd a1 a2 b1 b2 up most (now + q)
      generalize (stepV kd a1 a2 b1 b2 up most (now + q) P L).1 = P2 at *
      generalize (stepV kd a1 a2 b1 b2 up most (now + q) P L).2 = L2 at *
      have hO2 := hJ2.p
      repeat' (first
        | refine awp_seqK fun K' hpK => ?_
        | refine awp_block ?_
        | refine awp_condG fun A' B' hpA hpB => ?_
        | refine useK (by with_reducible assumption) ?_
        | refine useP (by with_reducible assumption) ?_
        | refine ED_cons (fun _ => ?_) ?_
        | (refine stable_mk ?_; simp (disch := first | (with_reducible assumption) | (simp; done) | omega | (simp; omega)); done)
        | (refine stable_no ?_; simp (disch := first | (with_reducible assumption) | (simp; done) | omega | (simp; omega)); done)
        | (with_reducible refine And.intro ?_ ?_)
        | (with_reducible intro hc)
        | (with_reducible refine GDsplit (fun hc => ?_) (fun hc => ?_) <;> try simp [hc])
        | (with_reducible refine GDsplitN (fun hc => ?_) (fun hc => ?_) <;> try simp [hc])
        | (with_reducible refine GDsplitNB (fun hc => ?_) (fun hc => ?_) <;> try simp [hc])
        | (with_reducible refine GDsplitB (fun hc => ?_) (fun hc => ?_) <;> try simp [hc])
        | (with_reducible refine GKsplit (fun hc => ?_) (fun hc => ?_) <;> try simp [hc])
        | (with_reducible refine GKsplitN (fun hc => ?_) (fun hc => ?_) <;> try simp [hc])
        | (with_reducible refine GKsplitNB (fun hc => ?_) (fun hc => ?_) <;> try simp [hc])
        | (with_reducible refine GKsplitB (fun hc => ?_) (fun hc => ?_) <;> try simp [hc])
        | simp (disch := first | (with_reducible assumption) | (simp; done) | omega | (simp; omega)))
      refine CallK.use ((links_c hV2 (by omega)).ext (Ext.uni (h := hr2))) ?_
      rintro r G3 _ _ ⟨hG3, s, rfl, hs⟩
      subst hG3
      have hsl : (LL s).length ≤ 41 := by rw [hs, List.length_map, List.length_map]; omega
      have uc := fun sw port => (upV_c (sw := sw) (port := port) hV2 hO2).ext (Ext.uni (h := hr2))
      have ec := fun sw port => (edge_c (sw := sw) (port := port) hV2 hO2 (by omega)).ext (Ext.uni (h := hr2))
      obtain ⟨G0, hG0⟩ : ∃ G0, G0 = uni hv2 hr2 := ⟨_, rfl⟩
      rw [← hG0] at uc ec ⊢
      repeat' (first
        | refine awp_seqK fun K' hpK => ?_
        | refine awp_block ?_
        | refine awp_condG fun A' B' hpA hpB => ?_
        | refine useK (by with_reducible assumption) ?_
        | refine useP (by with_reducible assumption) ?_
        | refine ED_cons (fun _ => ?_) ?_
        | (refine stable_mk ?_; simp (disch := first | (with_reducible assumption) | (simp; done) | omega | (simp; omega)); done)
        | (refine stable_no ?_; simp (disch := first | (with_reducible assumption) | (simp; done) | omega | (simp; omega)); done)
        | (with_reducible refine And.intro ?_ ?_)
        | (with_reducible intro hc)
        | (with_reducible refine GDsplit (fun hc => ?_) (fun hc => ?_) <;> try simp [hc])
        | (with_reducible refine GDsplitN (fun hc => ?_) (fun hc => ?_) <;> try simp [hc])
        | (with_reducible refine GDsplitNB (fun hc => ?_) (fun hc => ?_) <;> try simp [hc])
        | (with_reducible refine GDsplitB (fun hc => ?_) (fun hc => ?_) <;> try simp [hc])
        | (with_reducible refine GKsplit (fun hc => ?_) (fun hc => ?_) <;> try simp [hc])
        | (with_reducible refine GKsplitN (fun hc => ?_) (fun hc => ?_) <;> try simp [hc])
        | (with_reducible refine GKsplitNB (fun hc => ?_) (fun hc => ?_) <;> try simp [hc])
        | (with_reducible refine GKsplitB (fun hc => ?_) (fun hc => ?_) <;> try simp [hc])
        | simp (disch := first | (with_reducible assumption) | (simp; done) | omega | (simp; omega)))
      refine awp_loop' (fun w2 T2 G4 => ∃ j : Nat, j + w2 = (LL s).length ∧ G4 = G0 ∧ T2 = ofL [(3, .ptr pb 0), (4, .ptr rb 0), (5, .int .i64 (now + q)), (8, ofS cLk s), (16, ofS cC l), (17, .int .i64 (LL l).length), (18, .int .i64 k), (37, ofS cLk s), (38, .int .i64 (LL s).length), (39, .int .i64 j)]) (LL s).length ⟨0, by omega, rfl, by simp⟩ ?_
      rintro w2 T2 G4 ⟨j, hj, rfl, rfl⟩ N2 hN2
      by_cases hjl : j < (LL s).length
      · obtain ⟨o1, o2, o3, o4, hap⟩ := once hJ2 hs hjl
        obtain ⟨x, hx⟩ : ∃ x, x = (LL s)[j] := ⟨_, rfl⟩
        rw [← hx] at o1 o2 o3 o4 hap
        have hlt : (LL (s.map fun l => l.take j)).length = j := by
          cases s with
          | none => simp [LL] at hjl
          | some l => simp [LL] at hjl ⊢; omega
        have u1 := uc x.a1 x.a2
        have u2 := uc x.b1 x.b2
        have e1 := ec x.a1 x.a2
        have l1 := fun G => less_c (a1 := x.a1) (a2 := x.a2) (b1 := x.b1) (b2 := x.b2) (G := G)
        rw [o1] at u1
        rw [o2] at u2
        rw [o4] at e1
        rw [o3] at l1
        have inner : ∀ (A : Prop), A → A := fun _ h => h
        cases j with
        | zero =>
          repeat' (first
            | refine awp_seqK fun K' hpK => ?_
            | refine awp_block ?_
            | refine awp_condG fun A' B' hpA hpB => ?_
            | refine useK (by with_reducible assumption) ?_
            | refine useP (by with_reducible assumption) ?_
            | refine ED_cons (fun _ => ?_) ?_
            | (refine stable_mk ?_; simp (disch := first | (with_reducible assumption) | (simp; done) | omega | (simp; omega)) [hjl, aslc_hi (f := cLk), ofS_idx (f := cLk), cLk, ← hx]; done)
            | (refine stable_no ?_; simp (disch := first | (with_reducible assumption) | (simp; done) | omega | (simp; omega)) [hjl, aslc_hi (f := cLk), ofS_idx (f := cLk), cLk, ← hx]; done)
            | (with_reducible refine And.intro ?_ ?_)
            | (with_reducible intro hc; try (exfalso; omega))
            | (with_reducible refine GDsplit (fun hc => ?_) (fun hc => ?_) <;> try simp [hc])
            | (with_reducible refine GDsplitN (fun hc => ?_) (fun hc => ?_) <;> try simp [hc])
            | (with_reducible refine GDsplitNB (fun hc => ?_) (fun hc => ?_) <;> try simp [hc])
            | (with_reducible refine GDsplitB (fun hc => ?_) (fun hc => ?_) <;> try simp [hc])
            | (with_reducible refine GKsplit (fun hc => ?_) (fun hc => ?_) <;> try simp [hc])
            | (with_reducible refine GKsplitN (fun hc => ?_) (fun hc => ?_) <;> try simp [hc])
            | (with_reducible refine GKsplitNB (fun hc => ?_) (fun hc => ?_) <;> try simp [hc])
            | (with_reducible refine GKsplitB (fun hc => ?_) (fun hc => ?_) <;> try simp [hc])
            | (refine CallK.use (u1) ?_; rintro r G' _ _ ⟨rfl, rfl⟩)
            | (refine CallK.use (u2) ?_; rintro r G' _ _ ⟨rfl, rfl⟩)
            | (refine CallK.use (l1 _) ?_; rintro r G' _ _ ⟨rfl, rfl⟩)
            | (refine CallK.use (e1) ?_; rintro r G' _ _ ⟨rfl, rfl⟩)
            | simp (disch := first | (with_reducible assumption) | (simp; done) | omega | (simp; omega)) [hjl, aslc_hi (f := cLk), ofS_idx (f := cLk), cLk, ← hx])
          refine awp_loop' (fun w3 T3 G5 => w3 = 0 ∧ G5 = G' ∧ T3 = ofL [(3, .ptr pb 0), (4, .ptr rb 0), (5, .int .i64 (now + q)), (8, ofS cLk s), (10, .box [.int .i64 x.a1, .int .i64 x.a2, .int .i64 x.b1, .int .i64 x.b2]), (16, ofS cC l), (17, .int .i64 (LL l).length), (18, .int .i64 k), (37, ofS cLk s), (38, .int .i64 (LL s).length), (39, .int .i64 0), (88, ofS cLk (s.map fun l => l.take 0)), (89, .int .i64 0), (90, .int .i64 0)]) 0 ⟨rfl, rfl, by simp⟩ ?_
          rintro w3 T3 G5 ⟨rfl, rfl, rfl⟩ N3 hN3
          repeat' (first
            | refine awp_seqK fun K' hpK => ?_
            | refine awp_block ?_
            | refine awp_condG fun A' B' hpA hpB => ?_
            | refine useK (by with_reducible assumption) ?_
            | refine useP (by with_reducible assumption) ?_
            | refine ED_cons (fun _ => ?_) ?_
            | (refine stable_mk ?_; simp (disch := first | (with_reducible assumption) | (simp; done) | omega | (simp; omega)); done)
            | (refine stable_no ?_; simp (disch := first | (with_reducible assumption) | (simp; done) | omega | (simp; omega)); done)
            | (with_reducible refine And.intro ?_ ?_)
            | (with_reducible intro hc; try (exfalso; omega))
            | (with_reducible refine GDsplit (fun hc => ?_) (fun hc => ?_) <;> try simp [hc])
            | (with_reducible refine GDsplitN (fun hc => ?_) (fun hc => ?_) <;> try simp [hc])
            | (with_reducible refine GDsplitNB (fun hc => ?_) (fun hc => ?_) <;> try simp [hc])
            | (with_reducible refine GDsplitB (fun hc => ?_) (fun hc => ?_) <;> try simp [hc])
            | (with_reducible refine GKsplit (fun hc => ?_) (fun hc => ?_) <;> try simp [hc])
            | (with_reducible refine GKsplitN (fun hc => ?_) (fun hc => ?_) <;> try simp [hc])
            | (with_reducible refine GKsplitNB (fun hc => ?_) (fun hc => ?_) <;> try simp [hc])
            | (with_reducible refine GKsplitB (fun hc => ?_) (fun hc => ?_) <;> try simp [hc])
            | simp (disch := first | (with_reducible assumption) | (simp; done) | omega | (simp; omega)))
          exact hN2 (w2 - 1) _ _ (by omega) ⟨1, by omega, rfl, by simp⟩
        | succ i =>
          have hil : i < (LL s).length := by omega
          have hy0 := (hap i (by omega)).1
          obtain ⟨z, hz⟩ : ∃ z, z = (LL s)[i] := ⟨_, rfl⟩
          rw [← hz] at hy0
          have l2 := fun G => less_c (a1 := z.a1) (a2 := z.a2) (b1 := x.a1) (b2 := x.a2) (G := G)
          rw [hy0] at l2
          have hi0 : (0 : Int) < (i : Int) + 1 := by omega
          repeat' (first
            | refine awp_seqK fun K' hpK => ?_
            | refine awp_block ?_
            | refine awp_condG fun A' B' hpA hpB => ?_
            | refine useK (by with_reducible assumption) ?_
            | refine useP (by with_reducible assumption) ?_
            | refine ED_cons (fun _ => ?_) ?_
            | (refine stable_mk ?_; simp (disch := first | (with_reducible assumption) | (simp; done) | omega | (simp; omega)) [hjl, hil, hi0, aslc_hi (f := cLk), ofS_idx (f := cLk), cLk, ← hx, ← hz]; done)
            | (refine stable_no ?_; simp (disch := first | (with_reducible assumption) | (simp; done) | omega | (simp; omega)) [hjl, hil, hi0, aslc_hi (f := cLk), ofS_idx (f := cLk), cLk, ← hx, ← hz]; done)
            | (with_reducible refine And.intro ?_ ?_)
            | (with_reducible intro hc; try (exfalso; omega))
            | (with_reducible refine GDsplit (fun hc => ?_) (fun hc => ?_) <;> try simp [hc])
            | (with_reducible refine GDsplitN (fun hc => ?_) (fun hc => ?_) <;> try simp [hc])
            | (with_reducible refine GDsplitNB (fun hc => ?_) (fun hc => ?_) <;> try simp [hc])
            | (with_reducible refine GDsplitB (fun hc => ?_) (fun hc => ?_) <;> try simp [hc])
            | (with_reducible refine GKsplit (fun hc => ?_) (fun hc => ?_) <;> try simp [hc])
            | (with_reducible refine GKsplitN (fun hc => ?_) (fun hc => ?_) <;> try simp [hc])
            | (with_reducible refine GKsplitNB (fun hc => ?_) (fun hc => ?_) <;> try simp [hc])
            | (with_reducible refine GKsplitB (fun hc => ?_) (fun hc => ?_) <;> try simp [hc])
            | (refine CallK.use (u1) ?_; rintro r G' _ _ ⟨rfl, rfl⟩)
            | (refine CallK.use (u2) ?_; rintro r G' _ _ ⟨rfl, rfl⟩)
            | (refine CallK.use (l1 _) ?_; rintro r G' _ _ ⟨rfl, rfl⟩)
            | (refine CallK.use (e1) ?_; rintro r G' _ _ ⟨rfl, rfl⟩)
            | (refine CallK.use (l2 _) ?_; rintro r G' _ _ ⟨rfl, rfl⟩)
            | simp (disch := first | (with_reducible assumption) | (simp; done) | omega | (simp; omega)) [hjl, hil, hi0, aslc_hi (f := cLk), ofS_idx (f := cLk), cLk, ← hx, ← hz])
          trace_state
          refine awp_loop' (fun w3 T3 G5 => ∃ m : Nat, m + w3 = i + 1 ∧ G5 = G' ∧ T3 = ofL [(3, .ptr pb 0), (4, .ptr rb 0), (5, .int .i64 (now + q)), (8, ofS cLk s), (10, .box [.int .i64 x.a1, .int .i64 x.a2, .int .i64 x.b1, .int .i64 x.b2]), (16, ofS cC l), (17, .int .i64 (LL l).length), (18, .int .i64 k), (37, ofS cLk s), (38, .int .i64 (LL s).length), (39, .int .i64 ((i : Int) + 1)), (88, ofS cLk (s.map fun l => l.take (i + 1))), (89, .int .i64 ((i : Int) + 1)), (90, .int .i64 m)]) (i + 1) ⟨0, by omega, rfl, by simp⟩ ?_
          rintro w3 T3 G5 ⟨m, hm, rfl, rfl⟩ N3 hN3
          by_cases hmj : m < i + 1
          · have hmi : (m : Int) < (i : Int) + 1 := by omega
            have hml : m < (LL (s.map fun l => l.take (i + 1))).length := by omega
            have hg : (LL (s.map fun l => l.take (i + 1)))[m]'hml = (LL s)[m]'(by omega) := by
              cases s with
              | none => simp [LL] at hjl
              | some l => simp [LL]
            obtain ⟨_, c1, c2, c3, c4⟩ := hap m hmj
            obtain ⟨y2, hy2⟩ : ∃ y, y = (LL s)[m]'(by omega) := ⟨_, rfl⟩
            rw [← hy2] at c1 c2 c3 c4 hg
            repeat' (first
              | refine awp_seqK fun K' hpK => ?_
              | refine awp_block ?_
              | refine awp_condG fun A' B' hpA hpB => ?_
              | refine useK (by with_reducible assumption) ?_
              | refine useP (by with_reducible assumption) ?_
              | refine ED_cons (fun _ => ?_) ?_
              | (refine stable_mk ?_; simp (disch := first | (with_reducible assumption) | (simp; done) | omega | (simp; omega)) [hmj, hmi, hml, ofS_idx (f := cLk), cLk, hg, ← hy2, c1, c2, c3, c4]; done)
              | (refine stable_no ?_; simp (disch := first | (with_reducible assumption) | (simp; done) | omega | (simp; omega)) [hmj, hmi, hml, ofS_idx (f := cLk), cLk, hg, ← hy2, c1, c2, c3, c4]; done)
              | (with_reducible refine And.intro ?_ ?_)
              | (with_reducible intro hc; try (exfalso; omega))
              | (with_reducible refine GDsplit (fun hc => ?_) (fun hc => ?_) <;> try simp [hc])
              | (with_reducible refine GDsplitN (fun hc => ?_) (fun hc => ?_) <;> try simp [hc])
              | (with_reducible refine GDsplitNB (fun hc => ?_) (fun hc => ?_) <;> try simp [hc])
              | (with_reducible refine GDsplitB (fun hc => ?_) (fun hc => ?_) <;> try simp [hc])
              | (with_reducible refine GKsplit (fun hc => ?_) (fun hc => ?_) <;> try simp [hc])
              | (with_reducible refine GKsplitN (fun hc => ?_) (fun hc => ?_) <;> try simp [hc])
              | (with_reducible refine GKsplitNB (fun hc => ?_) (fun hc => ?_) <;> try simp [hc])
              | (with_reducible refine GKsplitB (fun hc => ?_) (fun hc => ?_) <;> try simp [hc])
              | simp (disch := first | (with_reducible assumption) | (simp; done) | omega | (simp; omega)) [hmj, hmi, hml, ofS_idx (f := cLk), cLk, hg, ← hy2, c1, c2, c3, c4])
            exact hN3 (w3 - 1) _ _ (by omega) ⟨m + 1, by omega, rfl, by simp⟩
          · have hmi : ¬ (m : Int) < (i : Int) + 1 := by omega
            repeat' (first
              | refine awp_seqK fun K' hpK => ?_
              | refine awp_block ?_
              | refine awp_condG fun A' B' hpA hpB => ?_
              | refine useK (by with_reducible assumption) ?_
              | refine useP (by with_reducible assumption) ?_
              | refine ED_cons (fun _ => ?_) ?_
              | (refine stable_mk ?_; simp (disch := first | (with_reducible assumption) | (simp; done) | omega | (simp; omega)) [hmi]; done)
              | (refine stable_no ?_; simp (disch := first | (with_reducible assumption) | (simp; done) | omega | (simp; omega)) [hmi]; done)
              | (with_reducible refine And.intro ?_ ?_)
              | (with_reducible intro hc; try (exfalso; omega))
              | (with_reducible refine GDsplit (fun hc => ?_) (fun hc => ?_) <;> try simp [hc])
              | (with_reducible refine GDsplitN (fun hc => ?_) (fun hc => ?_) <;> try simp [hc])
              | (with_reducible refine GDsplitNB (fun hc => ?_) (fun hc => ?_) <;> try simp [hc])
              | (with_reducible refine GDsplitB (fun hc => ?_) (fun hc => ?_) <;> try simp [hc])
              | (with_reducible refine GKsplit (fun hc => ?_) (fun hc => ?_) <;> try simp [hc])
              | (with_reducible refine GKsplitN (fun hc => ?_) (fun hc => ?_) <;> try simp [hc])
              | (with_reducible refine GKsplitNB (fun hc => ?_) (fun hc => ?_) <;> try simp [hc])
              | (with_reducible refine GKsplitB (fun hc => ?_) (fun hc => ?_) <;> try simp [hc])
              | simp (disch := first | (with_reducible assumption) | (simp; done) | omega | (simp; omega)) [hmi])
            exact hN2 (w2 - 1) _ _ (by omega) ⟨i + 1 + 1, by omega, rfl, by simp⟩
      · repeat' (first
          | refine awp_seqK fun K' hpK => ?_
          | refine awp_block ?_
          | refine awp_condG fun A' B' hpA hpB => ?_
          | refine useK (by with_reducible assumption) ?_
          | refine useP (by with_reducible assumption) ?_
          | refine ED_cons (fun _ => ?_) ?_
          | (refine stable_mk ?_; simp (disch := first | (with_reducible assumption) | (simp; done) | omega | (simp; omega)) [hjl]; done)
          | (refine stable_no ?_; simp (disch := first | (with_reducible assumption) | (simp; done) | omega | (simp; omega)) [hjl]; done)
          | (with_reducible refine And.intro ?_ ?_)
          | (with_reducible intro hc; try (exfalso; omega))
          | (with_reducible refine GDsplit (fun hc => ?_) (fun hc => ?_) <;> try simp [hc])
          | (with_reducible refine GDsplitN (fun hc => ?_) (fun hc => ?_) <;> try simp [hc])
          | (with_reducible refine GDsplitNB (fun hc => ?_) (fun hc => ?_) <;> try simp [hc])
          | (with_reducible refine GDsplitB (fun hc => ?_) (fun hc => ?_) <;> try simp [hc])
          | (with_reducible refine GKsplit (fun hc => ?_) (fun hc => ?_) <;> try simp [hc])
          | (with_reducible refine GKsplitN (fun hc => ?_) (fun hc => ?_) <;> try simp [hc])
          | (with_reducible refine GKsplitNB (fun hc => ?_) (fun hc => ?_) <;> try simp [hc])
          | (with_reducible refine GKsplitB (fun hc => ?_) (fun hc => ?_) <;> try simp [hc])
          | simp (disch := first | (with_reducible assumption) | (simp; done) | omega | (simp; omega)) [hjl])
        exact hN (w - 1) _ _ (by omega) ⟨k + 1, now + q, P2, L2, hv2, hr2, by omega, by omega, by omega, by omega, by omega, hG0, hdis2, hV2, hR2, hJ2, by simp⟩
  · repeat' (first
      | refine awp_seqK fun K' hpK => ?_
      | refine awp_block ?_
      | refine awp_condG fun A' B' hpA hpB => ?_
      | refine useK (by with_reducible assumption) ?_
      | refine useP (by with_reducible assumption) ?_
      | refine ED_cons (fun _ => ?_) ?_
      | (refine stable_mk ?_; simp (disch := first | (with_reducible assumption) | (simp; done) | omega | (simp; omega)) [hkl]; done)
      | (refine stable_no ?_; simp (disch := first | (with_reducible assumption) | (simp; done) | omega | (simp; omega)) [hkl]; done)
      | (with_reducible refine And.intro ?_ ?_)
      | (with_reducible intro hc)
      | (with_reducible refine GDsplit (fun hc => ?_) (fun hc => ?_) <;> try simp [hc])
      | (with_reducible refine GDsplitN (fun hc => ?_) (fun hc => ?_) <;> try simp [hc])
      | (with_reducible refine GDsplitNB (fun hc => ?_) (fun hc => ?_) <;> try simp [hc])
      | (with_reducible refine GDsplitB (fun hc => ?_) (fun hc => ?_) <;> try simp [hc])
      | (with_reducible refine GKsplit (fun hc => ?_) (fun hc => ?_) <;> try simp [hc])
      | (with_reducible refine GKsplitN (fun hc => ?_) (fun hc => ?_) <;> try simp [hc])
      | (with_reducible refine GKsplitNB (fun hc => ?_) (fun hc => ?_) <;> try simp [hc])
      | (with_reducible refine GKsplitB (fun hc => ?_) (fun hc => ?_) <;> try simp [hc])
      | (refine CallK.use (awake_c _) ?_; rintro r G' _ _ ⟨rfl, rfl⟩)
      | simp (disch := first | (with_reducible assumption) | (simp; done) | omega | (simp; omega)) [hkl])
    exact ends_drop (by simp <;> rfl) (by simp) (hpost _ _ ⟨rfl, rfl⟩)
theorem viewOnce_law (z0 : (TD.slc (.two (.int .i64) (.two (.two (.int .i64) (.two (.int .i64) .unit)) (.two (.two (.int .i64) (.two (.int .i64) .unit)) (.two (.int .i64) (.two (.int .i64) (.two (.int .i64) .unit))))))).T) (o0 : (TD.slc (.two (.int .i64) (.two (.two (.int .i64) (.two (.int .i64) .unit)) (.two (.two (.int .i64) (.two (.int .i64) .unit)) (.two (.int .i64) (.two (.int .i64) (.two (.int .i64) .unit))))))).ok z0) :
    ACalls Try.prog 3 [(TD.slc (.two (.int .i64) (.two (.two (.int .i64) (.two (.int .i64) .unit)) (.two (.two (.int .i64) (.two (.int .i64) .unit)) (.two (.int .i64) (.two (.int .i64) (.two (.int .i64) .unit))))))).av z0] emptyH fun r G' => G' = emptyH ∧ r = .bool true :=
  viewOnce_c (l := z0) o0.1
end Go.Proofs.Ytapocekfkbkefaa
