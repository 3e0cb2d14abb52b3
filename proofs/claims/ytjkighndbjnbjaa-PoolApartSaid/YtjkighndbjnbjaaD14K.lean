import Derived.Test.YtjkighndbjnbjaaD12K
set_option linter.unusedSimpArgs false
set_option linter.unusedVariables false
namespace Go.Proofs.Ytjkighndbjnbjaa
open Go Go.Al
set_option maxRecDepth 20000
attribute [local irreducible] awp aops aopsD eop pv ACalls CallK AppK AEnds ti

theorem apart {q : PP} {L : List (Int × Ls)} {s : Option (List Ls)} (hJ : J q L) (h : LL s = L.map Prod.snd) {j : Nat} (hj : j < (LL s).length) : hasP q (LL s)[j].ip = true ∧ ∀ m (hm : m < j), (LL s)[m].ip < (LL s)[j].ip ∧ (LL s)[j].mac ≠ (LL s)[m].mac := by
  have hl : (LL s).length = L.length := by rw [h, List.length_map]
  have e : ∀ k (hk : k < (LL s).length), (LL s)[k] = (L[k]'(by omega)).2 := fun k hk => by simp [h]
  have o := hJ.o _ (List.getElem_mem (show j < L.length by omega))
  refine ⟨by rw [e j hj, o.1]; exact o.2, fun m hm => ?_⟩
  have o2 := hJ.o _ (List.getElem_mem (show m < L.length by omega))
  have hp : (L[m]'(by omega)).1 < (L[j]'(by omega)).1 := by
    have := List.pairwise_iff_getElem.1 hJ.s m j (by omega) (by omega) hm
    simpa [KO.lt] using this
  rw [e j hj, e m (by omega), o.1, o2.1]
  refine ⟨hp, fun hc => ?_⟩
  have := hJ.m _ (List.getElem_mem (show j < L.length by omega)) _ (List.getElem_mem (show m < L.length by omega)) hc
  rw [this] at hp; omega
set_option maxHeartbeats 4000000 in
theorem poolApart_c {base n ticks : Int} {l : Option (List CT)} (hb : 0 ≤ base) (hb2 : base ≤ 4294967295) (hn1 : -9223372036854775808 ≤ n) (hn2 : n ≤ 9223372036854775807) (hll : (LL l).length ≤ 140737488355328) (hls : ∀ x ∈ LL l, 0 ≤ x.2.2.1 ∧ x.2.2.1 ≤ 4294967295) : ACalls Try.prog 3 [.int .u32 base, .int .i64 n, .int .i64 ticks, ofS cC l] emptyH fun r G' => G' = emptyH ∧ r = .bool true := by
  cases hok : okN base n ticks with
  | false =>
    refine ACalls.hide fun post hpost => ?_
    refine F3_in (by simp) (by simp) fun hbd => ?_
    repeat' (first
      | refine awp_seqK fun K' hpK => ?_
      | refine awp_block ?_
      | refine awp_condG fun A' B' hpA hpB => ?_
      | refine useK (by with_reducible assumption) ?_
      | refine useP (by with_reducible assumption) ?_
      | refine ED_cons (fun _ => ?_) ?_
      | (refine stable_mk ?_; simp (disch := first | (with_reducible assumption) | (simp; done) | omega | (simp; omega)); done)
      | (refine stable_no ?_; simp (disch := first | (with_reducible assumption) | (simp; done) | omega | (simp; omega)); done)
      | (with_reducible refine And.intro ?_ ?_)
      | (with_reducible intro hc)
      | (with_reducible refine GDsplit (fun hc => ?_) (fun hc => ?_) <;> try simp [hc])
      | (with_reducible refine GDsplitN (fun hc => ?_) (fun hc => ?_) <;> try simp [hc])
      | (with_reducible refine GDsplitNB (fun hc => ?_) (fun hc => ?_) <;> try simp [hc])
      | (with_reducible refine GDsplitB (fun hc => ?_) (fun hc => ?_) <;> try simp [hc])
      | (with_reducible refine GKsplit (fun hc => ?_) (fun hc => ?_) <;> try simp [hc])
      | (with_reducible refine GKsplitN (fun hc => ?_) (fun hc => ?_) <;> try simp [hc])
      | (with_reducible refine GKsplitNB (fun hc => ?_) (fun hc => ?_) <;> try simp [hc])
      | (with_reducible refine GKsplitB (fun hc => ?_) (fun hc => ?_) <;> try simp [hc])
      | (refine CallK.use (new_no hb hb2 hn1 hn2 hok) ?_; rintro r G' _ _ ⟨rfl, rfl⟩)
      | (refine CallK.use (rnew_no hb hb2 hok _) ?_; rintro r G' _ _ ⟨rfl, rfl⟩)
      | (refine CallK.use (awake_c _) ?_; rintro r G' _ _ ⟨rfl, rfl⟩)
      | simp (disch := first | (with_reducible assumption) | (simp; done) | omega | (simp; omega)))
    exact ends_drop (by simp <;> rfl) (by simp) (hpost _ _ ⟨rfl, rfl⟩)
  | true =>
    have hok' := of_decide_eq_true hok
    obtain ⟨N', rfl⟩ : ∃ N' : Nat, n = (N' : Int) := ⟨n.toNat, by omega⟩
    have hq : PP.ok ⟨base, N', ticks⟩ := ⟨by simp; omega, by simp; omega, hb, by simp; omega, hok'.2.2.2.1, hok'.2.2.2.2⟩
    refine ACalls.hide fun post hpost => ?_
    refine F3_in (by simp) (by simp) fun hbd => ?_
    repeat' (first
      | refine awp_seqK fun K' hpK => ?_
      | refine awp_block ?_
      | refine awp_condG fun A' B' hpA hpB => ?_
      | refine useK (by with_reducible assumption) ?_
      | refine useP (by with_reducible assumption) ?_
      | refine ED_cons (fun _ => ?_) ?_
      | (refine stable_mk ?_; simp (disch := first | (with_reducible assumption) | (simp; done) | omega | (simp; omega)); done)
      | (refine stable_no ?_; simp (disch := first | (with_reducible assumption) | (simp; done) | omega | (simp; omega)); done)
      | (with_reducible refine And.intro ?_ ?_)
      | (with_reducible intro hc)
      | (with_reducible refine GDsplit (fun hc => ?_) (fun hc => ?_) <;> try simp [hc])
      | (with_reducible refine GDsplitN (fun hc => ?_) (fun hc => ?_) <;> try simp [hc])
      | (with_reducible refine GDsplitNB (fun hc => ?_) (fun hc => ?_) <;> try simp [hc])
      | (with_reducible refine GDsplitB (fun hc => ?_) (fun hc => ?_) <;> try simp [hc])
      | (with_reducible refine GKsplit (fun hc => ?_) (fun hc => ?_) <;> try simp [hc])
      | (with_reducible refine GKsplitN (fun hc => ?_) (fun hc => ?_) <;> try simp [hc])
      | (with_reducible refine GKsplitNB (fun hc => ?_) (fun hc => ?_) <;> try simp [hc])
      | (with_reducible refine GKsplitB (fun hc => ?_) (fun hc => ?_) <;> try simp [hc])
      | (refine CallK.use (new_ok hb hb2 hok) ?_; rintro r G' _ _ ⟨pb, rfl, hP⟩)
      | simp (disch := first | (with_reducible assumption) | (simp; done) | omega | (simp; omega)))
    refine CallK.new (rnew_c hq) ?_
    rintro r hr hdis _ _ ⟨rb, rfl, hR⟩
    repeat' (first
      | refine awp_seqK fun K' hpK => ?_
      | refine awp_block ?_
      | refine awp_condG fun A' B' hpA hpB => ?_
      | refine useK (by with_reducible assumption) ?_
      | refine useP (by with_reducible assumption) ?_
      | refine ED_cons (fun _ => ?_) ?_
      | (refine stable_mk ?_; simp (disch := first | (with_reducible assumption) | (simp; done) | omega | (simp; omega)); done)
      | (refine stable_no ?_; simp (disch := first | (with_reducible assumption) | (simp; done) | omega | (simp; omega)); done)
      | (with_reducible refine And.intro ?_ ?_)
      | (with_reducible intro hc)
      | (with_reducible refine GDsplit (fun hc => ?_) (fun hc => ?_) <;> try simp [hc])
      | (with_reducible refine GDsplitN (fun hc => ?_) (fun hc => ?_) <;> try simp [hc])
      | (with_reducible refine GDsplitNB (fun hc => ?_) (fun hc => ?_) <;> try simp [hc])
      | (with_reducible refine GDsplitB (fun hc => ?_) (fun hc => ?_) <;> try simp [hc])
      | (with_reducible refine GKsplit (fun hc => ?_) (fun hc => ?_) <;> try simp [hc])
      | (with_reducible refine GKsplitN (fun hc => ?_) (fun hc => ?_) <;> try simp [hc])
      | (with_reducible refine GKsplitNB (fun hc => ?_) (fun hc => ?_) <;> try simp [hc])
      | (with_reducible refine GKsplitB (fun hc => ?_) (fun hc => ?_) <;> try simp [hc])
      | simp (disch := first | (with_reducible assumption) | (simp; done) | omega | (simp; omega)))
    refine awp_loop' (fun w T G' => ∃ (k : Nat) (now : Int) (L : List (Int × Ls)) (hp hr : Hp), k + w = (LL l).length ∧ 0 ≤ now ∧ now ≤ 31 * k ∧ k ≤ 40 ∧ G' = uni hp hr ∧ Dis hp hr ∧ PH ⟨base, N', ticks⟩ pb hp L ∧ RH ⟨base, N', ticks⟩ rb hr ∧ J ⟨base, N', ticks⟩ L ∧ T = ofL [(0, .int .u32 base), (1, .int .i64 N'), (9, .ptr pb 0), (11, .ptr rb 0), (13, .int .i64 now), (50, ofS cC l), (51, .int .i64 (LL l).length), (52, .int .i64 k)]) (LL l).length
      ⟨0, 0, [], _, _, by omega, by omega, by omega, by omega, rfl, hdis, hP, hR, J.nil _, by simp⟩ ?_
    clear hdis hP hR
    rintro w T G' ⟨k, now, L, hp, hr, hk, t0, t1, t2, rfl, hdis, hP, hR, hJ, rfl⟩ N hN
    by_cases hkl : k < (LL l).length
    · obtain ⟨y, hy⟩ : ∃ y, y = (LL l)[k] := ⟨_, rfl⟩
      have hyl := hls y (by rw [hy]; exact List.getElem_mem _)
      obtain ⟨a, b, c, d, e, u⟩ := y
      by_cases h40 : (40 : Int) ≤ k
      · repeat' (first
          | refine awp_seqK fun K' hpK => ?_
          | refine awp_block ?_
          | refine awp_condG fun A' B' hpA hpB => ?_
          | refine useK (by with_reducible assumption) ?_
          | refine useP (by with_reducible assumption) ?_
          | refine ED_cons (fun _ => ?_) ?_
          | (refine stable_mk ?_; simp (disch := first | (with_reducible assumption) | (simp; done) | omega | (simp; omega)) [hkl, h40, ofS_idx (f := cC), cC, ← hy]; done)
          | (refine stable_no ?_; simp (disch := first | (with_reducible assumption) | (simp; done) | omega | (simp; omega)) [hkl, h40, ofS_idx (f := cC), cC, ← hy]; done)
          | (with_reducible refine And.intro ?_ ?_)
          | (with_reducible intro hc)
          | (with_reducible refine GDsplit (fun hc => ?_) (fun hc => ?_) <;> try simp [hc])
          | (with_reducible refine GDsplitN (fun hc => ?_) (fun hc => ?_) <;> try simp [hc])
          | (with_reducible refine GDsplitNB (fun hc => ?_) (fun hc => ?_) <;> try simp [hc])
          | (with_reducible refine GDsplitB (fun hc => ?_) (fun hc => ?_) <;> try simp [hc])
          | (with_reducible refine GKsplit (fun hc => ?_) (fun hc => ?_) <;> try simp [hc])
          | (with_reducible refine GKsplitN (fun hc => ?_) (fun hc => ?_) <;> try simp [hc])
          | (with_reducible refine GKsplitNB (fun hc => ?_) (fun hc => ?_) <;> try simp [hc])
          | (with_reducible refine GKsplitB (fun hc => ?_) (fun hc => ?_) <;> try simp [hc])
          | (refine CallK.use (awake_c _) ?_; rintro r G' _ _ ⟨rfl, rfl⟩)
          | exact ends_drop (by simp <;> rfl) (by simp) (hpost _ _ ⟨rfl, rfl⟩)
          | simp (disch := first | (with_reducible assumption) | (simp; done) | omega | (simp; omega)) [hkl, h40, ofS_idx (f := cC), cC, ← hy])
      · obtain ⟨s0, hs, hs2⟩ := and31 e
        have hst := stepJ (a := a) (b := b) (c := c) (d := d) (e := e) (now := now + s0) hq hdis hP hJ hR hyl.1 hyl.2 (by omega) (by omega)
        repeat' (first
          | refine awp_seqK fun K' hpK => ?_
          | refine awp_block ?_
          | refine awp_condG fun A' B' hpA hpB => ?_
          | refine useK (by with_reducible assumption) ?_
          | refine useP (by with_reducible assumption) ?_
          | refine ED_cons (fun _ => ?_) ?_
          | (refine stable_mk ?_; simp (disch := first | (with_reducible assumption) | (simp; done) | omega | (simp; omega)) [hkl, h40, ofS_idx (f := cC), cC, ← hy, hs2]; done)
          | (refine stable_no ?_; simp (disch := first | (with_reducible assumption) | (simp; done) | omega | (simp; omega)) [hkl, h40, ofS_idx (f := cC), cC, ← hy, hs2]; done)
          | (with_reducible refine And.intro ?_ ?_)
          | (with_reducible intro hc)
          | (with_reducible refine GDsplit (fun hc => ?_) (fun hc => ?_) <;> try simp [hc])
          | (with_reducible refine GDsplitN (fun hc => ?_) (fun hc => ?_) <;> try simp [hc])
          | (with_reducible refine GDsplitNB (fun hc => ?_) (fun hc => ?_) <;> try simp [hc])
          | (with_reducible refine GDsplitB (fun hc => ?_) (fun hc => ?_) <;> try simp [hc])
          | (with_reducible refine GKsplit (fun hc => ?_) (fun hc => ?_) <;> try simp [hc])
          | (with_reducible refine GKsplitN (fun hc => ?_) (fun hc => ?_) <;> try simp [hc])
          | (with_reducible refine GKsplitNB (fun hc => ?_) (fun hc => ?_) <;> try simp [hc])
          | (with_reducible refine GKsplitB (fun hc => ?_) (fun hc => ?_) <;> try simp [hc])
          | (refine CallK.use (hst) ?_; rintro r G' _ _ ⟨hp', hr', b', L', rfl, hdis1, rfl, hP', hR', hJ'⟩)
          | simp (disch := first | (with_reducible assumption) | (simp; done) | omega | (simp; omega)) [hkl, h40, ofS_idx (f := cC), cC, ← hy, hs2])
        have hal := fun G (h : PH ⟨base, N', ticks⟩ pb G L') => all_c h (hJ'.len hq)
        repeat' (first
          | refine awp_seqK fun K' hpK => ?_
          | refine awp_block ?_
          | refine awp_condG fun A' B' hpA hpB => ?_
          | refine useK (by with_reducible assumption) ?_
          | refine useP (by with_reducible assumption) ?_
          | refine ED_cons (fun _ => ?_) ?_
          | (refine stable_mk ?_; simp (disch := first | (with_reducible assumption) | (simp; done) | omega | (simp; omega)); done)
          | (refine stable_no ?_; simp (disch := first | (with_reducible assumption) | (simp; done) | omega | (simp; omega)); done)
          | (with_reducible refine And.intro ?_ ?_)
          | (with_reducible intro hc)
          | (with_reducible refine GDsplit (fun hc => ?_) (fun hc => ?_) <;> try simp [hc])
          | (with_reducible refine GDsplitN (fun hc => ?_) (fun hc => ?_) <;> try simp [hc])
          | (with_reducible refine GDsplitNB (fun hc => ?_) (fun hc => ?_) <;> try simp [hc])
          | (with_reducible refine GDsplitB (fun hc => ?_) (fun hc => ?_) <;> try simp [hc])
          | (with_reducible refine GKsplit (fun hc => ?_) (fun hc => ?_) <;> try simp [hc])
          | (with_reducible refine GKsplitN (fun hc => ?_) (fun hc => ?_) <;> try simp [hc])
          | (with_reducible refine GKsplitNB (fun hc => ?_) (fun hc => ?_) <;> try simp [hc])
          | (with_reducible refine GKsplitB (fun hc => ?_) (fun hc => ?_) <;> try simp [hc])
          | (refine CallK.fl (hal _ hP') hdis1 ?_; rintro r h' hdis1 _ _ ⟨rfl, s, rfl, hss⟩)
          | simp (disch := first | (with_reducible assumption) | (simp; done) | omega | (simp; omega)))
        have hsl : (LL s).length ≤ 64 := by rw [hss, List.length_map]; exact hJ'.len hq
        refine awp_loop' (fun w2 T2 G2 => ∃ j : Nat, j + w2 = (LL s).length ∧ G2 = uni h' hr' ∧ T2 = ofL [(0, .int .u32 base), (1, .int .i64 N'), (9, .ptr pb 0), (11, .ptr rb 0), (13, .int .i64 (now + s0)), (16, ofS cVL s), (50, ofS cC l), (51, .int .i64 (LL l).length), (52, .int .i64 k), (71, ofS cVL s), (72, .int .i64 (LL s).length), (73, .int .i64 j)]) (LL s).length ⟨0, by omega, rfl, by simp⟩ ?_
        rintro w2 T2 G2 ⟨j, hj, rfl, rfl⟩ N2 hN2
        by_cases hjl : j < (LL s).length
        · obtain ⟨a1, a2⟩ := apart hJ' hss hjl
          have a3 := hasP_iff.1 a1
          simp only at a3
          obtain ⟨x, hx⟩ : ∃ x, x = (LL s)[j] := ⟨_, rfl⟩
          rw [← hx] at a3
          obtain ⟨xm, xi, xu⟩ := x
          simp only at a3
          have b1 : ¬ xi ≤ base := by omega
          have b2 : ¬ (N' : Int) < xi - base := by omega
          have hlt : (LL (s.map fun l => l.take j)).length = j := by
            cases s with
            | none => simp [LL] at hjl
            | some l => simp [LL] at hjl ⊢; omega
          repeat' (first
            | refine awp_seqK fun K' hpK => ?_
            | refine awp_block ?_
            | refine awp_condG fun A' B' hpA hpB => ?_
            | refine useK (by with_reducible assumption) ?_
            | refine useP (by with_reducible assumption) ?_
            | refine ED_cons (fun _ => ?_) ?_
            | (refine stable_mk ?_; simp (disch := first | (with_reducible assumption) | (simp; done) | omega | (simp; omega)) [hjl, aslc_hi (f := cVL), ofS_idx (f := cVL), cVL, ← hx, b1, b2]; done)
            | (refine stable_no ?_; simp (disch := first | (with_reducible assumption) | (simp; done) | omega | (simp; omega)) [hjl, aslc_hi (f := cVL), ofS_idx (f := cVL), cVL, ← hx, b1, b2]; done)
            | (with_reducible refine And.intro ?_ ?_)
            | (with_reducible intro hc; try (exfalso; omega))
            | (with_reducible refine GDsplit (fun hc => ?_) (fun hc => ?_) <;> try simp [hc])
            | (with_reducible refine GDsplitN (fun hc => ?_) (fun hc => ?_) <;> try simp [hc])
            | (with_reducible refine GDsplitNB (fun hc => ?_) (fun hc => ?_) <;> try simp [hc])
            | (with_reducible refine GDsplitB (fun hc => ?_) (fun hc => ?_) <;> try simp [hc])
            | (with_reducible refine GKsplit (fun hc => ?_) (fun hc => ?_) <;> try simp [hc])
            | (with_reducible refine GKsplitN (fun hc => ?_) (fun hc => ?_) <;> try simp [hc])
            | (with_reducible refine GKsplitNB (fun hc => ?_) (fun hc => ?_) <;> try simp [hc])
            | (with_reducible refine GKsplitB (fun hc => ?_) (fun hc => ?_) <;> try simp [hc])
            | simp (disch := first | (with_reducible assumption) | (simp; done) | omega | (simp; omega)) [hjl, aslc_hi (f := cVL), ofS_idx (f := cVL), cVL, ← hx, b1, b2])
          refine awp_loop' (fun w3 T3 G3 => ∃ m : Nat, m + w3 = j ∧ G3 = uni h' hr' ∧ T3 = ofL [(0, .int .u32 base), (1, .int .i64 N'), (9, .ptr pb 0), (11, .ptr rb 0), (13, .int .i64 (now + s0)), (16, ofS cVL s), (18, .box [.int .u64 xm, .int .u32 xi, .int .i64 xu]), (50, ofS cC l), (51, .int .i64 (LL l).length), (52, .int .i64 k), (71, ofS cVL s), (72, .int .i64 (LL s).length), (73, .int .i64 j), (93, ofS cVL (s.map fun l => l.take j)), (94, .int .i64 j), (95, .int .i64 m)]) j ⟨0, by omega, rfl, by simp⟩ ?_
          rintro w3 T3 G3 ⟨m, hm, rfl, rfl⟩ N3 hN3
          by_cases hmj : m < j
          · have hml : m < (LL (s.map fun l => l.take j)).length := by omega
            have hg : (LL (s.map fun l => l.take j))[m]'hml = (LL s)[m]'(by omega) := by
              cases s with
              | none => simp [LL] at hjl
              | some l => simp [LL]
            obtain ⟨c1, c2⟩ := a2 m hmj
            rw [← hx] at c1 c2
            obtain ⟨y2, hy2⟩ : ∃ y, y = (LL s)[m]'(by omega) := ⟨_, rfl⟩
            rw [← hy2] at c1 c2 hg
            obtain ⟨ym, yi, yu⟩ := y2
            simp only at c1 c2
            have d1 : ¬ xi ≤ yi := by omega
            repeat' (first
              | refine awp_seqK fun K' hpK => ?_
              | refine awp_block ?_
              | refine awp_condG fun A' B' hpA hpB => ?_
              | refine useK (by with_reducible assumption) ?_
              | refine useP (by with_reducible assumption) ?_
              | refine ED_cons (fun _ => ?_) ?_
              | (refine stable_mk ?_; simp (disch := first | (with_reducible assumption) | (simp; done) | omega | (simp; omega)) [hmj, hml, ofS_idx (f := cVL), cVL, hg, ← hy2, d1, c2]; done)
              | (refine stable_no ?_; simp (disch := first | (with_reducible assumption) | (simp; done) | omega | (simp; omega)) [hmj, hml, ofS_idx (f := cVL), cVL, hg, ← hy2, d1, c2]; done)
              | (with_reducible refine And.intro ?_ ?_)
              | (with_reducible intro hc; try (exfalso; omega))
              | (with_reducible refine GDsplit (fun hc => ?_) (fun hc => ?_) <;> try simp [hc])
              | (with_reducible refine GDsplitN (fun hc => ?_) (fun hc => ?_) <;> try simp [hc])
              | (with_reducible refine GDsplitNB (fun hc => ?_) (fun hc => ?_) <;> try simp [hc])
              | (with_reducible refine GDsplitB (fun hc => ?_) (fun hc => ?_) <;> try simp [hc])
              | (with_reducible refine GKsplit (fun hc => ?_) (fun hc => ?_) <;> try simp [hc])
              | (with_reducible refine GKsplitN (fun hc => ?_) (fun hc => ?_) <;> try simp [hc])
              | (with_reducible refine GKsplitNB (fun hc => ?_) (fun hc => ?_) <;> try simp [hc])
              | (with_reducible refine GKsplitB (fun hc => ?_) (fun hc => ?_) <;> try simp [hc])
              | simp (disch := first | (with_reducible assumption) | (simp; done) | omega | (simp; omega)) [hmj, hml, ofS_idx (f := cVL), cVL, hg, ← hy2, d1, c2])
            exact hN3 (w3 - 1) _ _ (by omega) ⟨m + 1, by omega, rfl, by simp⟩
          · repeat' (first
              | refine awp_seqK fun K' hpK => ?_
              | refine awp_block ?_
              | refine awp_condG fun A' B' hpA hpB => ?_
              | refine useK (by with_reducible assumption) ?_
              | refine useP (by with_reducible assumption) ?_
              | refine ED_cons (fun _ => ?_) ?_
              | (refine stable_mk ?_; simp (disch := first | (with_reducible assumption) | (simp; done) | omega | (simp; omega)) [hmj]; done)
              | (refine stable_no ?_; simp (disch := first | (with_reducible assumption) | (simp; done) | omega | (simp; omega)) [hmj]; done)
              | (with_reducible refine And.intro ?_ ?_)
              | (with_reducible intro hc; try (exfalso; omega))
              | (with_reducible refine GDsplit (fun hc => ?_) (fun hc => ?_) <;> try simp [hc])
              | (with_reducible refine GDsplitN (fun hc => ?_) (fun hc => ?_) <;> try simp [hc])
              | (with_reducible refine GDsplitNB (fun hc => ?_) (fun hc => ?_) <;> try simp [hc])
              | (with_reducible refine GDsplitB (fun hc => ?_) (fun hc => ?_) <;> try simp [hc])
              | (with_reducible refine GKsplit (fun hc => ?_) (fun hc => ?_) <;> try simp [hc])
              | (with_reducible refine GKsplitN (fun hc => ?_) (fun hc => ?_) <;> try simp [hc])
              | (with_reducible refine GKsplitNB (fun hc => ?_) (fun hc => ?_) <;> try simp [hc])
              | (with_reducible refine GKsplitB (fun hc => ?_) (fun hc => ?_) <;> try simp [hc])
              | simp (disch := first | (with_reducible assumption) | (simp; done) | omega | (simp; omega)) [hmj])
            exact hN2 (w2 - 1) _ _ (by omega) ⟨j + 1, by omega, rfl, by simp⟩
        · repeat' (first
            | refine awp_seqK fun K' hpK => ?_
            | refine awp_block ?_
            | refine awp_condG fun A' B' hpA hpB => ?_
            | refine useK (by with_reducible assumption) ?_
            | refine useP (by with_reducible assumption) ?_
            | refine ED_cons (fun _ => ?_) ?_
            | (refine stable_mk ?_; simp (disch := first | (with_reducible assumption) | (simp; done) | omega | (simp; omega)) [hjl]; done)
            | (refine stable_no ?_; simp (disch := first | (with_reducible assumption) | (simp; done) | omega | (simp; omega)) [hjl]; done)
            | (with_reducible refine And.intro ?_ ?_)
            | (with_reducible intro hc; try (exfalso; omega))
            | (with_reducible refine GDsplit (fun hc => ?_) (fun hc => ?_) <;> try simp [hc])
            | (with_reducible refine GDsplitN (fun hc => ?_) (fun hc => ?_) <;> try simp [hc])
            | (with_reducible refine GDsplitNB (fun hc => ?_) (fun hc => ?_) <;> try simp [hc])
            | (with_reducible refine GDsplitB (fun hc => ?_) (fun hc => ?_) <;> try simp [hc])
            | (with_reducible refine GKsplit (fun hc => ?_) (fun hc => ?_) <;> try simp [hc])
            | (with_reducible refine GKsplitN (fun hc => ?_) (fun hc => ?_) <;> try simp [hc])
            | (with_reducible refine GKsplitNB (fun hc => ?_) (fun hc => ?_) <;> try simp [hc])
            | (with_reducible refine GKsplitB (fun hc => ?_) (fun hc => ?_) <;> try simp [hc])
            | simp (disch := first | (with_reducible assumption) | (simp; done) | omega | (simp; omega)) [hjl])
          exact hN (w - 1) _ _ (by omega) ⟨k + 1, now + s0, L', h', hr', by omega, by omega, by omega, by omega, rfl, hdis1, hP', hR', hJ', by simp⟩
    · repeat' (first
        | refine awp_seqK fun K' hpK => ?_
        | refine awp_block ?_
        | refine awp_condG fun A' B' hpA hpB => ?_
        | refine useK (by with_reducible assumption) ?_
        | refine useP (by with_reducible assumption) ?_
        | refine ED_cons (fun _ => ?_) ?_
        | (refine stable_mk ?_; simp (disch := first | (with_reducible assumption) | (simp; done) | omega | (simp; omega)) [hkl]; done)
        | (refine stable_no ?_; simp (disch := first | (with_reducible assumption) | (simp; done) | omega | (simp; omega)) [hkl]; done)
        | (with_reducible refine And.intro ?_ ?_)
        | (with_reducible intro hc)
        | (with_reducible refine GDsplit (fun hc => ?_) (fun hc => ?_) <;> try simp [hc])
        | (with_reducible refine GDsplitN (fun hc => ?_) (fun hc => ?_) <;> try simp [hc])
        | (with_reducible refine GDsplitNB (fun hc => ?_) (fun hc => ?_) <;> try simp [hc])
        | (with_reducible refine GDsplitB (fun hc => ?_) (fun hc => ?_) <;> try simp [hc])
        | (with_reducible refine GKsplit (fun hc => ?_) (fun hc => ?_) <;> try simp [hc])
        | (with_reducible refine GKsplitN (fun hc => ?_) (fun hc => ?_) <;> try simp [hc])
        | (with_reducible refine GKsplitNB (fun hc => ?_) (fun hc => ?_) <;> try simp [hc])
        | (with_reducible refine GKsplitB (fun hc => ?_) (fun hc => ?_) <;> try simp [hc])
        | (refine CallK.use (awake_c _) ?_; rintro r G' _ _ ⟨rfl, rfl⟩)
        | exact ends_drop (by simp <;> rfl) (by simp) (hpost _ _ ⟨rfl, rfl⟩)
        | simp (disch := first | (with_reducible assumption) | (simp; done) | omega | (simp; omega)) [hkl])
theorem poolApart_law (z0 : (TD.int .u32).T) (z1 : (TD.int .i64).T) (z2 : (TD.int .i64).T) (z3 : (TD.slc (.two (.int .i64) (.two (.int .u64) (.two (.int .u32) (.two (.int .i64) (.two (.int .i64) .unit)))))).T) (o0 : (TD.int .u32).ok z0) (o1 : (TD.int .i64).ok z1) (_ : (TD.int .i64).ok z2) (o3 : (TD.slc (.two (.int .i64) (.two (.int .u64) (.two (.int .u32) (.two (.int .i64) (.two (.int .i64) .unit)))))).ok z3) :
    ACalls Try.prog 3 [(TD.int .u32).av z0, (TD.int .i64).av z1, (TD.int .i64).av z2, (TD.slc (.two (.int .i64) (.two (.int .u64) (.two (.int .u32) (.two (.int .i64) (.two (.int .i64) .unit)))))).av z3] emptyH fun r G' => G' = emptyH ∧ r = .bool true :=
  poolApart_c (base := z0) (n := z1) (ticks := z2) (l := z3) (wf_u32 o0).1 (wf_u32 o0).2 (wf_i64 o1).1 (wf_i64 o1).2 o3.1 fun x hx => wf_u32 (o3.2 x hx).2.2.1
end Go.Proofs.Ytjkighndbjnbjaa
