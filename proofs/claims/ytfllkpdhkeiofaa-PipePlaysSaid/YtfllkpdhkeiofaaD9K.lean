import Derived.Test.YtfllkpdhkeiofaaD8K
set_option linter.unusedSimpArgs false
set_option linter.unusedVariables false
namespace Go.Proofs.Ytfllkpdhkeiofaa
open Go Go.Al
set_option maxRecDepth 20000
attribute [local irreducible] awp aops aopsD eop pv ACalls CallK AppK AEnds ti

/-- the reference's pipe stands for x -/
def RP (p : RPipe) (x : PS) : Prop := LL p.L = x.L ∧ p.most = x.mx ∧ p.sent = x.s ∧ p.came = x.c ∧ p.twice = x.w ∧ p.lost = x.lo

theorem rnew_c {n : Int} (G : Hp) : ACalls Try.prog 16 [.int .i64 n] G fun r G' => G' = G ∧ ∃ p, r = p.av ∧ RP p ⟨[], clampP n, 0, 0, 0, 0⟩ := by
  have e : ∀ m, clampP n = m → ∃ p : RPipe, (AV.agg [.nils, .int .i64 m, .int .i64 0, .int .i64 0, .int .i64 0, .int .i64 0]) = p.av ∧ RP p ⟨[], clampP n, 0, 0, 0, 0⟩ := fun m hm => ⟨⟨none, m, 0, 0, 0, 0⟩, rfl, rfl, hm.symm, rfl, rfl, rfl, rfl⟩
  refine ACalls.hide fun post hpost => ?_
  refine F16_in (by simp) (by simp) fun hbd => ?_
  repeat' (first
    | refine awp_seqK fun K' hpK => ?_
    | refine awp_block ?_
    | refine awp_condG fun A' B' hpA hpB => ?_
    | refine useK (by with_reducible assumption) ?_
    | refine useP (by with_reducible assumption) ?_
    | refine ED_cons (fun _ => ?_) ?_
    | (refine stable_mk ?_; simp (disch := first | (with_reducible assumption) | (simp; done) | omega | (simp; omega)); done)
    | (refine stable_no ?_; simp (disch := first | (with_reducible assumption) | (simp; done) | omega | (simp; omega)); done)
    | (with_reducible refine And.intro ?_ ?_)
    | (with_reducible intro hc; try (exfalso; omega))
    | (with_reducible refine GDsplit (fun hc => ?_) (fun hc => ?_) <;> try simp [hc])
    | (with_reducible refine GDsplitN (fun hc => ?_) (fun hc => ?_) <;> try simp [hc])
    | (with_reducible refine GDsplitNB (fun hc => ?_) (fun hc => ?_) <;> try simp [hc])
    | (with_reducible refine GDsplitB (fun hc => ?_) (fun hc => ?_) <;> try simp [hc])
    | (with_reducible refine GKsplit (fun hc => ?_) (fun hc => ?_) <;> try simp [hc])
    | (with_reducible refine GKsplitN (fun hc => ?_) (fun hc => ?_) <;> try simp [hc])
    | (with_reducible refine GKsplitNB (fun hc => ?_) (fun hc => ?_) <;> try simp [hc])
    | (with_reducible refine GKsplitB (fun hc => ?_) (fun hc => ?_) <;> try simp [hc])
    | simp (disch := first | (with_reducible assumption) | (simp; done) | omega | (simp; omega)))
  · refine ends_one (by simp <;> rfl) (by simp) (hpost _ _ ?_)
    exact ⟨rfl, e 1 (by unfold clampP; rw [if_pos (by omega)])⟩
  · refine ends_one (by simp <;> rfl) (by simp) (hpost _ _ ?_)
    exact ⟨rfl, e 4096 (by unfold clampP; rw [if_neg (by omega), if_pos (by omega)])⟩
  · refine ends_one (by simp <;> rfl) (by simp) (hpost _ _ ?_)
    exact ⟨rfl, e n (by unfold clampP; rw [if_neg (by omega), if_neg (by omega)])⟩

theorem cutL_none {l : List Int} {i : Int} {k : Nat} (h : i < k) : cutL l i k = l := by
  induction l generalizing k with
  | nil => rfl
  | cons x r ih => simp only [cutL]; rw [if_neg (by omega), ih (by omega)]
theorem cutL_some {l : List Int} {j k : Nat} (h : j < l.length) : cutL l ((k + j : Nat) : Int) k = l.take j ++ l.drop (j + 1) := by
  induction l generalizing j k with
  | nil => simp at h
  | cons x r ih =>
    simp only [cutL]
    cases j with
    | zero => rw [if_pos (by omega), cutL_none (by omega)]; rfl
    | succ j =>
      rw [if_neg (by omega), show k + (j + 1) = (k + 1) + j by omega, ih (by simpa using h)]
      rfl
theorem cutL_past {l : List Int} {i : Int} {k : Nat} (h : (k : Int) + l.length ≤ i) : cutL l i k = l := by
  induction l generalizing k with
  | nil => rfl
  | cons x r ih =>
    simp only [List.length_cons] at h
    simp only [cutL]; rw [if_neg (by omega), ih (by omega)]
theorem cutL_at (l : List Int) (i : Int) : cutL l i 0 = cutAt l i := by
  by_cases h0 : 0 ≤ i
  · obtain ⟨j, rfl⟩ := Int.eq_ofNat_of_zero_le h0
    by_cases hj : j < l.length
    · have := cutL_some (k := 0) hj
      rw [Nat.zero_add] at this
      rw [this]
      have e : (atL l (j : Int)).isSome = true := by simp [atL, hj]
      unfold cutAt; rw [if_pos e]; rfl
    · have e : (atL l (j : Int)).isSome = false := by simp [atL]; omega
      rw [cutL_past (by omega), cutAt_none e]
  · have e : (atL l i).isSome = false := by simp [atL, h0]
    rw [cutL_none (by omega), cutAt_none e]

theorem rgone_c {p : RPipe} {x : PS} {i : Int} {G : Hp} (hp : RP p x) (hl : x.L.length ≤ 1000000) : ACalls Try.prog 27 [p.av, .int .i64 i] G fun r G' => G' = G ∧ ∃ p', r = p'.av ∧ RP p' (x.lose1 i) := by
  obtain ⟨h1, h2, h3, h4, h5, h6⟩ := hp
  have hc := cut_c (s := p.L) (i := i) (G := G) (by rw [h1]; exact hl)
  rw [cutL_at, h1] at hc
  refine ACalls.hide fun post hpost => ?_
  refine F27_in (by simp [RPipe.av]) (by simp) fun hbd => ?_
  repeat' (first
    | refine awp_seqK fun K' hpK => ?_
    | refine awp_block ?_
    | refine awp_condG fun A' B' hpA hpB => ?_
    | refine useK (by with_reducible assumption) ?_
    | refine useP (by with_reducible assumption) ?_
    | refine ED_cons (fun _ => ?_) ?_
    | (refine stable_mk ?_; simp (disch := first | (with_reducible assumption) | (simp; done) | omega | (simp; omega)) [RPipe.av]; done)
    | (refine stable_no ?_; simp (disch := first | (with_reducible assumption) | (simp; done) | omega | (simp; omega)) [RPipe.av]; done)
    | (with_reducible refine And.intro ?_ ?_)
    | (with_reducible intro hc)
    | (with_reducible refine GDsplit (fun hc => ?_) (fun hc => ?_) <;> try simp [hc])
    | (with_reducible refine GDsplitN (fun hc => ?_) (fun hc => ?_) <;> try simp [hc])
    | (with_reducible refine GDsplitNB (fun hc => ?_) (fun hc => ?_) <;> try simp [hc])
    | (with_reducible refine GDsplitB (fun hc => ?_) (fun hc => ?_) <;> try simp [hc])
    | (with_reducible refine GKsplit (fun hc => ?_) (fun hc => ?_) <;> try simp [hc])
    | (with_reducible refine GKsplitN (fun hc => ?_) (fun hc => ?_) <;> try simp [hc])
    | (with_reducible refine GKsplitNB (fun hc => ?_) (fun hc => ?_) <;> try simp [hc])
    | (with_reducible refine GKsplitB (fun hc => ?_) (fun hc => ?_) <;> try simp [hc])
    | (refine CallK.use (hc) ?_; rintro r G' _ _ ⟨rfl, s', rfl, hs'⟩)
    | simp (disch := first | (with_reducible assumption) | (simp; done) | omega | (simp; omega)) [RPipe.av])
  refine ends_one (by simp <;> rfl) (by simp) (hpost _ _ ?_)
  exact ⟨rfl, { p with L := s' }, rfl, hs', h2, h3, h4, h5, h6⟩

theorem rsend_c {p : RPipe} {x : PS} {v : Int} {G : Hp} (hp : RP p x) (hx : x.ok 1) : ACalls Try.prog 25 [p.av, .int .i64 v] G fun r G' => G' = G ∧ ∃ p', r = .tup [p'.av, .int .i64 (if x.room then 1 else 0)] ∧ RP p' (x.send1 v) := by
  obtain ⟨h1, h2, h3, h4, h5, h6⟩ := hp
  obtain ⟨x1, x2, x3, x4, x5, x6, x7, x8, x9, x10, x11⟩ := hx
  obtain ⟨ps, mo, se, ca, tw, lo⟩ := p
  simp only at h1 h2 h3 h4 h5 h6
  subst h2 h3 h4 h5 h6
  have hlen : (LL ps).length = x.L.length := by rw [h1]
  cases hrm : x.room with
  | false =>
    have hle : ¬ ((x.L.length : Int) < x.mx) := by unfold PS.room at hrm; have := of_decide_eq_false hrm; omega
    refine ACalls.hide fun post hpost => ?_
    refine F25_in (by simp [RPipe.av]) (by simp) fun hbd => ?_
    repeat' (first
      | refine awp_seqK fun K' hpK => ?_
      | refine awp_block ?_
      | refine awp_condG fun A' B' hpA hpB => ?_
      | refine useK (by with_reducible assumption) ?_
      | refine useP (by with_reducible assumption) ?_
      | refine ED_cons (fun _ => ?_) ?_
      | (refine stable_mk ?_; simp (disch := first | (with_reducible assumption) | (simp; done) | omega | (simp; omega)) [RPipe.av, hlen]; done)
      | (refine stable_no ?_; simp (disch := first | (with_reducible assumption) | (simp; done) | omega | (simp; omega)) [RPipe.av, hlen]; done)
      | (with_reducible refine And.intro ?_ ?_)
      | (with_reducible intro hc; try (exfalso; omega))
      | (with_reducible refine GDsplit (fun hc => ?_) (fun hc => ?_) <;> try simp [hc])
      | (with_reducible refine GDsplitN (fun hc => ?_) (fun hc => ?_) <;> try simp [hc])
      | (with_reducible refine GDsplitNB (fun hc => ?_) (fun hc => ?_) <;> try simp [hc])
      | (with_reducible refine GDsplitB (fun hc => ?_) (fun hc => ?_) <;> try simp [hc])
      | (with_reducible refine GKsplit (fun hc => ?_) (fun hc => ?_) <;> try simp [hc])
      | (with_reducible refine GKsplitN (fun hc => ?_) (fun hc => ?_) <;> try simp [hc])
      | (with_reducible refine GKsplitNB (fun hc => ?_) (fun hc => ?_) <;> try simp [hc])
      | (with_reducible refine GKsplitB (fun hc => ?_) (fun hc => ?_) <;> try simp [hc])
      | simp (disch := first | (with_reducible assumption) | (simp; done) | omega | (simp; omega)) [RPipe.av, hlen])
    · refine ends_two (by simp <;> exact ⟨rfl, rfl⟩) (by simp) (by simp) (hpost _ _ ?_)
      refine ⟨rfl, ⟨ps, x.mx, x.s + 1, x.c, x.w, x.lo + 1⟩, rfl, ?_⟩
      unfold PS.send1; rw [hrm]
      exact ⟨h1, rfl, rfl, rfl, rfl, rfl⟩
  | true =>
    have hle : ((x.L.length : Int) < x.mx) := by unfold PS.room at hrm; have := of_decide_eq_true hrm; omega
    refine ACalls.hide fun post hpost => ?_
    refine F25_in (by simp [RPipe.av]) (by simp) fun hbd => ?_
    repeat' (first
      | refine awp_seqK fun K' hpK => ?_
      | refine awp_block ?_
      | refine awp_condG fun A' B' hpA hpB => ?_
      | refine useK (by with_reducible assumption) ?_
      | refine useP (by with_reducible assumption) ?_
      | refine ED_cons (fun _ => ?_) ?_
      | (refine stable_mk ?_; simp (disch := first | (with_reducible assumption) | (simp; done) | omega | (simp; omega)) [RPipe.av, hlen]; done)
      | (refine stable_no ?_; simp (disch := first | (with_reducible assumption) | (simp; done) | omega | (simp; omega)) [RPipe.av, hlen]; done)
      | (with_reducible refine And.intro ?_ ?_)
      | (with_reducible intro hc; try (exfalso; omega))
      | (with_reducible refine GDsplit (fun hc => ?_) (fun hc => ?_) <;> try simp [hc])
      | (with_reducible refine GDsplitN (fun hc => ?_) (fun hc => ?_) <;> try simp [hc])
      | (with_reducible refine GDsplitNB (fun hc => ?_) (fun hc => ?_) <;> try simp [hc])
      | (with_reducible refine GDsplitB (fun hc => ?_) (fun hc => ?_) <;> try simp [hc])
      | (with_reducible refine GKsplit (fun hc => ?_) (fun hc => ?_) <;> try simp [hc])
      | (with_reducible refine GKsplitN (fun hc => ?_) (fun hc => ?_) <;> try simp [hc])
      | (with_reducible refine GKsplitNB (fun hc => ?_) (fun hc => ?_) <;> try simp [hc])
      | (with_reducible refine GKsplitB (fun hc => ?_) (fun hc => ?_) <;> try simp [hc])
      | simp (disch := first | (with_reducible assumption) | (simp; done) | omega | (simp; omega)) [RPipe.av, hlen])
    · intro b hb
      refine ⟨0, ?_⟩
      repeat' (first
        | refine awp_seqK fun K' hpK => ?_
        | refine awp_block ?_
        | refine awp_condG fun A' B' hpA hpB => ?_
        | refine useK (by with_reducible assumption) ?_
        | refine useP (by with_reducible assumption) ?_
        | refine ED_cons (fun _ => ?_) ?_
        | (refine stable_mk ?_; simp (disch := first | (with_reducible assumption) | (simp; done) | omega | (simp; omega)); done)
        | (refine stable_no ?_; simp (disch := first | (with_reducible assumption) | (simp; done) | omega | (simp; omega)); done)
        | (with_reducible refine And.intro ?_ ?_)
        | (with_reducible intro hc)
        | (with_reducible refine GDsplit (fun hc => ?_) (fun hc => ?_) <;> try simp [hc])
        | (with_reducible refine GDsplitN (fun hc => ?_) (fun hc => ?_) <;> try simp [hc])
        | (with_reducible refine GDsplitNB (fun hc => ?_) (fun hc => ?_) <;> try simp [hc])
        | (with_reducible refine GDsplitB (fun hc => ?_) (fun hc => ?_) <;> try simp [hc])
        | (with_reducible refine GKsplit (fun hc => ?_) (fun hc => ?_) <;> try simp [hc])
        | (with_reducible refine GKsplitN (fun hc => ?_) (fun hc => ?_) <;> try simp [hc])
        | (with_reducible refine GKsplitNB (fun hc => ?_) (fun hc => ?_) <;> try simp [hc])
        | (with_reducible refine GKsplitB (fun hc => ?_) (fun hc => ?_) <;> try simp [hc])
        | simp (disch := first | (with_reducible assumption) | (simp; done) | omega | (simp; omega)))
      refine Grow.app (f := cI) (xs := LL ps) (Grow.fresh hb) (ofS_src (by simp)) (cI_scal _) (by simp [LIM]; omega) (fun v2 G2 hg2 => ?_)
      have hv2 := hg2.plain
      repeat' (first
        | refine awp_seqK fun K' hpK => ?_
        | refine awp_block ?_
        | refine awp_condG fun A' B' hpA hpB => ?_
        | refine useK (by with_reducible assumption) ?_
        | refine useP (by with_reducible assumption) ?_
        | refine ED_cons (fun _ => ?_) ?_
        | (refine stable_mk ?_; simp (disch := first | (with_reducible assumption) | (simp; done) | omega | (simp; omega)) [hv2]; done)
        | (refine stable_no ?_; simp (disch := first | (with_reducible assumption) | (simp; done) | omega | (simp; omega)) [hv2]; done)
        | (with_reducible refine And.intro ?_ ?_)
        | (with_reducible intro hc)
        | (with_reducible refine GDsplit (fun hc => ?_) (fun hc => ?_) <;> try simp [hc])
        | (with_reducible refine GDsplitN (fun hc => ?_) (fun hc => ?_) <;> try simp [hc])
        | (with_reducible refine GDsplitNB (fun hc => ?_) (fun hc => ?_) <;> try simp [hc])
        | (with_reducible refine GDsplitB (fun hc => ?_) (fun hc => ?_) <;> try simp [hc])
        | (with_reducible refine GKsplit (fun hc => ?_) (fun hc => ?_) <;> try simp [hc])
        | (with_reducible refine GKsplitN (fun hc => ?_) (fun hc => ?_) <;> try simp [hc])
        | (with_reducible refine GKsplitNB (fun hc => ?_) (fun hc => ?_) <;> try simp [hc])
        | (with_reducible refine GKsplitB (fun hc => ?_) (fun hc => ?_) <;> try simp [hc])
        | simp (disch := first | (with_reducible assumption) | (simp; done) | omega | (simp; omega)) [hv2])
      refine hg2.app1 (x := v) rfl (by simp [cI]) (by simp [LIM]; omega) (fun v3 G3 hg3 => ?_)
      have hv3 := hg3.plain
      have hk3 := hg3.known
      have hs3 := hg3.scal
      have hc3 := hg3.cells
      repeat' (first
        | refine awp_seqK fun K' hpK => ?_
        | refine awp_block ?_
        | refine awp_condG fun A' B' hpA hpB => ?_
        | refine useK (by with_reducible assumption) ?_
        | refine useP (by with_reducible assumption) ?_
        | refine ED_cons (fun _ => ?_) ?_
        | (refine stable_mk ?_; simp (disch := first | (with_reducible assumption) | (simp; done) | omega | (simp; omega)) [hv3, hk3, hs3, hc3]; done)
        | (refine stable_no ?_; simp (disch := first | (with_reducible assumption) | (simp; done) | omega | (simp; omega)) [hv3, hk3, hs3, hc3]; done)
        | (with_reducible refine And.intro ?_ ?_)
        | (with_reducible intro hc)
        | (with_reducible refine GDsplit (fun hc => ?_) (fun hc => ?_) <;> try simp [hc])
        | (with_reducible refine GDsplitN (fun hc => ?_) (fun hc => ?_) <;> try simp [hc])
        | (with_reducible refine GDsplitNB (fun hc => ?_) (fun hc => ?_) <;> try simp [hc])
        | (with_reducible refine GDsplitB (fun hc => ?_) (fun hc => ?_) <;> try simp [hc])
        | (with_reducible refine GKsplit (fun hc => ?_) (fun hc => ?_) <;> try simp [hc])
        | (with_reducible refine GKsplitN (fun hc => ?_) (fun hc => ?_) <;> try simp [hc])
        | (with_reducible refine GKsplitNB (fun hc => ?_) (fun hc => ?_) <;> try simp [hc])
        | (with_reducible refine GKsplitB (fun hc => ?_) (fun hc => ?_) <;> try simp [hc])
        | simp (disch := first | (with_reducible assumption) | (simp; done) | omega | (simp; omega)) [hv3, hk3, hs3, hc3])
      obtain ⟨s', hs', hz, hsub⟩ := Grow.frz hg3 (by simp)
      refine ends_frn (by simp <;> exact ⟨rfl, rfl⟩) (by simp [hv3]) hsub (.cons _ _ _ _ (.agg _ _ (.cons _ _ _ _ hz (Frzs.refl _))) (.cons _ _ _ _ (.refl _) .nil)) (hpost _ _ ?_)
      refine ⟨rfl, ⟨s', x.mx, x.s + 1, x.c, x.w, x.lo⟩, rfl, ?_⟩
      unfold PS.send1; rw [hrm]
      exact ⟨by rw [hs', ← h1]; simp, rfl, rfl, rfl, rfl, rfl⟩
end Go.Proofs.Ytfllkpdhkeiofaa
