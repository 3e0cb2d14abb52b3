import Derived.Test.YtbmlapcigkgdlaaD4K
set_option linter.unusedSimpArgs false
set_option linter.unusedVariables false
namespace Go.Proofs.Ytbmlapcigkgdlaa
open Go Go.Al
set_option maxRecDepth 20000
attribute [local irreducible] awp aops aopsD eop pv ACalls CallK AppK AEnds ti

/-- a link: from one port to another one -/
def cL (x : Pl × Pl) : List AV := [.int .i64 x.1.sw, .int .i64 x.1.port, .int .i64 x.2.sw, .int .i64 x.2.port]
@[simp] theorem cL_len (x : Pl × Pl) : (cL x).length = 4 := by simp [cL]
def goods : List Pl := (List.range 64).map fun k => ⟨((k / 8 : Nat) : Int) + 1, ((k % 8 : Nat) : Int) + 1⟩
theorem goods_len : goods.length = 64 := by simp [goods]
def linkF (o : Pl → End) (p : Pl) : Option (Pl × Pl) := if (o p).kind = 1 ∧ lessP p (o p).pl = true then some (p, (o p).pl) else none
def linksL (o : Pl → End) : List (Pl × Pl) := goods.filterMap (linkF o)
theorem goods_at {i j : Nat} (hi : i < 8) (hj : j < 8) : goods.take (8 * i + j + 1) = goods.take (8 * i + j) ++ [⟨(i : Int) + 1, (j : Int) + 1⟩] := by
  rw [take_succ_get _ _ (by rw [goods_len]; omega)]
  simp only [goods, List.getElem_map, List.getElem_range]
  rw [show (8 * i + j) / 8 = i by omega, show (8 * i + j) % 8 = j by omega]

set_option maxHeartbeats 4000000 in
theorem linksR_c {s : Option (List Cb)} {G : Hp} (hl : (LL s).length ≤ 1000000) : ACalls Try.prog 26 [ofS cC s] G fun r G' => G' = G ∧ ∃ t, r = ofS cL t ∧ LL t = linksL (otherW (LL s)) := by
  refine ACalls.grow (f := cL) (sz := 4) ?_ (by simp)
  obtain ⟨f, hf⟩ : ∃ f, f = linkF (otherW (LL s)) := ⟨_, rfl⟩
  unfold linksL
  rw [← hf]
  refine ACalls.hide fun post hpost => ?_
  refine F26_in (by simp) (by simp) fun hbd => ?_
  repeat' (first
    | refine awp_seqK fun K' hpK => ?_
    | refine awp_block ?_
    | refine awp_condG fun A' B' hpA hpB => ?_
    | refine useK (by with_reducible assumption) ?_
    | refine useP (by with_reducible assumption) ?_
    | refine ED_cons (fun _ => ?_) ?_
    | (refine stable_mk ?_; simp (disch := first | (with_reducible assumption) | (simp; done) | omega | (simp; omega)); done)
    | (refine stable_no ?_; simp (disch := first | (with_reducible assumption) | (simp; done) | omega | (simp; omega)); done)
    | (with_reducible refine And.intro ?_ ?_)
    | (with_reducible intro hc)
    | (with_reducible refine GDsplit (fun hc => ?_) (fun hc => ?_) <;> try simp [hc])
    | (with_reducible refine GDsplitN (fun hc => ?_) (fun hc => ?_) <;> try simp [hc])
    | (with_reducible refine GDsplitNB (fun hc => ?_) (fun hc => ?_) <;> try simp [hc])
    | (with_reducible refine GDsplitB (fun hc => ?_) (fun hc => ?_) <;> try simp [hc])
    | (with_reducible refine GKsplit (fun hc => ?_) (fun hc => ?_) <;> try simp [hc])
    | (with_reducible refine GKsplitN (fun hc => ?_) (fun hc => ?_) <;> try simp [hc])
    | (with_reducible refine GKsplitNB (fun hc => ?_) (fun hc => ?_) <;> try simp [hc])
    | (with_reducible refine GKsplitB (fun hc => ?_) (fun hc => ?_) <;> try simp [hc])
    | simp (disch := first | (with_reducible assumption) | (simp; done) | omega | (simp; omega)))
  refine awp_loop' (fun w T G1 => ∃ (i : Nat) (o : AV), i + w = 8 ∧ Grow cL 4 G G1 o ((goods.take (8 * i)).filterMap f) ∧ T = ofL [(0, ofS cC s), (3, o), (4, .int .i64 ((i : Int) + 1))]) 8 ⟨0, .nils, by omega, Grow.nil _ _, by simp⟩ ?_
  rintro w T G1 ⟨i, o, hi, hg, rfl⟩ N hN
  have hpo := hg.plain
  by_cases hi8 : (i : Int) + 1 ≤ 8
  · repeat' (first
      | refine awp_seqK fun K' hpK => ?_
      | refine awp_block ?_
      | refine awp_condG fun A' B' hpA hpB => ?_
      | refine useK (by with_reducible assumption) ?_
      | refine useP (by with_reducible assumption) ?_
      | refine ED_cons (fun _ => ?_) ?_
      | (refine stable_mk ?_; simp (disch := first | (with_reducible assumption) | (simp; done) | omega | (simp; omega)) [hi8, hpo]; done)
      | (refine stable_no ?_; simp (disch := first | (with_reducible assumption) | (simp; done) | omega | (simp; omega)) [hi8, hpo]; done)
      | (with_reducible refine And.intro ?_ ?_)
      | (with_reducible intro hc; try (exfalso; omega))
      | (with_reducible refine GDsplit (fun hc => ?_) (fun hc => ?_) <;> try simp [hc])
      | (with_reducible refine GDsplitN (fun hc => ?_) (fun hc => ?_) <;> try simp [hc])
      | (with_reducible refine GDsplitNB (fun hc => ?_) (fun hc => ?_) <;> try simp [hc])
      | (with_reducible refine GDsplitB (fun hc => ?_) (fun hc => ?_) <;> try simp [hc])
      | (with_reducible refine GKsplit (fun hc => ?_) (fun hc => ?_) <;> try simp [hc])
      | (with_reducible refine GKsplitN (fun hc => ?_) (fun hc => ?_) <;> try simp [hc])
      | (with_reducible refine GKsplitNB (fun hc => ?_) (fun hc => ?_) <;> try simp [hc])
      | (with_reducible refine GKsplitB (fun hc => ?_) (fun hc => ?_) <;> try simp [hc])
      | simp (disch := first | (with_reducible assumption) | (simp; done) | omega | (simp; omega)) [hi8, hpo])
    refine awp_loop' (fun v T G1 => ∃ (j : Nat) (o : AV), j + v = 8 ∧ Grow cL 4 G G1 o ((goods.take (8 * i + j)).filterMap f) ∧ T = ofL [(0, ofS cC s), (3, o), (4, .int .i64 ((i : Int) + 1)), (5, .int .i64 ((j : Int) + 1))]) 8 ⟨0, o, by omega, hg, by simp⟩ ?_
    clear hg hpo
    rintro v T G1 ⟨j, o, hj, hg, rfl⟩ M hM
    have hpo := hg.plain
    by_cases hj8 : (j : Int) + 1 ≤ 8
    · have htk := goods_at (i := i) (j := j) (by omega) (by omega)
      have hlen : ((goods.take (8 * i + j)).filterMap f).length ≤ 100 := Nat.le_trans (List.length_filterMap_le _ _) (by rw [List.length_take, goods_len]; omega)
      obtain ⟨p, hp⟩ : ∃ p : Pl, p = ⟨(i : Int) + 1, (j : Int) + 1⟩ := ⟨_, rfl⟩
      rw [← hp] at htk
      have hp1 : p.sw = (i : Int) + 1 := by rw [hp]
      have hp2 : p.port = (j : Int) + 1 := by rw [hp]
      have e : (goods.take (8 * i + j + 1)).filterMap f = (goods.take (8 * i + j)).filterMap f ++ (f p).toList := by
        rw [htk, List.filterMap_append]
        cases hq : f p <;> simp [hq]
      have ot := fun G => otherR_c (s := s) (p := p) (G := G) hl
      have ls := fun G => less_c (p := p) (q := (otherW (LL s) p).pl) (G := G)
      simp only [Pl.av, hp1, hp2] at ot ls
      have hfp : f p = if (otherW (LL s) p).kind = 1 ∧ lessP p (otherW (LL s) p).pl = true then some (p, (otherW (LL s) p).pl) else none := by rw [hf]; rfl
      by_cases hk : (otherW (LL s) p).kind = 1
      · cases hls : lessP p (otherW (LL s) p).pl with
        | true =>
          rw [hls] at ls
          rw [if_pos ⟨hk, hls⟩] at hfp
          repeat' (first
            | refine awp_seqK fun K' hpK => ?_
            | refine awp_block ?_
            | refine awp_condG fun A' B' hpA hpB => ?_
            | refine useK (by with_reducible assumption) ?_
            | refine useP (by with_reducible assumption) ?_
            | refine ED_cons (fun _ => ?_) ?_
            | (refine stable_mk ?_; simp (disch := first | (with_reducible assumption) | (simp; done) | omega | (simp; omega)) [hj8, hpo, hk]; done)
            | (refine stable_no ?_; simp (disch := first | (with_reducible assumption) | (simp; done) | omega | (simp; omega)) [hj8, hpo, hk]; done)
            | (with_reducible refine And.intro ?_ ?_)
            | (with_reducible intro hc; try (exfalso; omega))
            | (with_reducible refine GDsplit (fun hc => ?_) (fun hc => ?_) <;> try simp [hc])
            | (with_reducible refine GDsplitN (fun hc => ?_) (fun hc => ?_) <;> try simp [hc])
            | (with_reducible refine GDsplitNB (fun hc => ?_) (fun hc => ?_) <;> try simp [hc])
            | (with_reducible refine GDsplitB (fun hc => ?_) (fun hc => ?_) <;> try simp [hc])
            | (with_reducible refine GKsplit (fun hc => ?_) (fun hc => ?_) <;> try simp [hc])
            | (with_reducible refine GKsplitN (fun hc => ?_) (fun hc => ?_) <;> try simp [hc])
            | (with_reducible refine GKsplitNB (fun hc => ?_) (fun hc => ?_) <;> try simp [hc])
            | (with_reducible refine GKsplitB (fun hc => ?_) (fun hc => ?_) <;> try simp [hc])
            | (refine CallK.use (ot _) ?_; rintro r G' _ _ ⟨rfl, rfl⟩)
            | (refine CallK.use (ls _) ?_; rintro r G' _ _ ⟨rfl, rfl⟩)
            | simp (disch := first | (with_reducible assumption) | (simp; done) | omega | (simp; omega)) [hj8, hpo, hk])
          refine hg.app1 (x := (p, (otherW (LL s) p).pl)) (by simp [cL, hp1, hp2, End.pl]) (by simp [cL]) (by simp [LIM]; omega) (fun v3 G3 hg3 => ?_)
          have hv3 := hg3.plain
          repeat' (first
            | refine awp_seqK fun K' hpK => ?_
            | refine awp_block ?_
            | refine awp_condG fun A' B' hpA hpB => ?_
            | refine useK (by with_reducible assumption) ?_
            | refine useP (by with_reducible assumption) ?_
            | refine ED_cons (fun _ => ?_) ?_
            | (refine stable_mk ?_; simp (disch := first | (with_reducible assumption) | (simp; done) | omega | (simp; omega)) [hv3]; done)
            | (refine stable_no ?_; simp (disch := first | (with_reducible assumption) | (simp; done) | omega | (simp; omega)) [hv3]; done)
            | (with_reducible refine And.intro ?_ ?_)
            | (with_reducible intro hc; try (exfalso; omega))
            | (with_reducible refine GDsplit (fun hc => ?_) (fun hc => ?_) <;> try simp [hc])
            | (with_reducible refine GDsplitN (fun hc => ?_) (fun hc => ?_) <;> try simp [hc])
            | (with_reducible refine GDsplitNB (fun hc => ?_) (fun hc => ?_) <;> try simp [hc])
            | (with_reducible refine GDsplitB (fun hc => ?_) (fun hc => ?_) <;> try simp [hc])
            | (with_reducible refine GKsplit (fun hc => ?_) (fun hc => ?_) <;> try simp [hc])
            | (with_reducible refine GKsplitN (fun hc => ?_) (fun hc => ?_) <;> try simp [hc])
            | (with_reducible refine GKsplitNB (fun hc => ?_) (fun hc => ?_) <;> try simp [hc])
            | (with_reducible refine GKsplitB (fun hc => ?_) (fun hc => ?_) <;> try simp [hc])
            | simp (disch := first | (with_reducible assumption) | (simp; done) | omega | (simp; omega)) [hv3])
          exact hM (v - 1) _ _ (by omega) ⟨j + 1, v3, by omega, by rw [show 8 * i + (j + 1) = 8 * i + j + 1 by omega, e, hfp]; exact hg3, by simp⟩
        | false =>
          rw [hls] at ls
          rw [if_neg (by simp [hls])] at hfp
          repeat' (first
            | refine awp_seqK fun K' hpK => ?_
            | refine awp_block ?_
            | refine awp_condG fun A' B' hpA hpB => ?_
            | refine useK (by with_reducible assumption) ?_
            | refine useP (by with_reducible assumption) ?_
            | refine ED_cons (fun _ => ?_) ?_
            | (refine stable_mk ?_; simp (disch := first | (with_reducible assumption) | (simp; done) | omega | (simp; omega)) [hj8, hpo, hk]; done)
            | (refine stable_no ?_; simp (disch := first | (with_reducible assumption) | (simp; done) | omega | (simp; omega)) [hj8, hpo, hk]; done)
            | (with_reducible refine And.intro ?_ ?_)
            | (with_reducible intro hc; try (exfalso; omega))
            | (with_reducible refine GDsplit (fun hc => ?_) (fun hc => ?_) <;> try simp [hc])
            | (with_reducible refine GDsplitN (fun hc => ?_) (fun hc => ?_) <;> try simp [hc])
            | (with_reducible refine GDsplitNB (fun hc => ?_) (fun hc => ?_) <;> try simp [hc])
            | (with_reducible refine GDsplitB (fun hc => ?_) (fun hc => ?_) <;> try simp [hc])
            | (with_reducible refine GKsplit (fun hc => ?_) (fun hc => ?_) <;> try simp [hc])
            | (with_reducible refine GKsplitN (fun hc => ?_) (fun hc => ?_) <;> try simp [hc])
            | (with_reducible refine GKsplitNB (fun hc => ?_) (fun hc => ?_) <;> try simp [hc])
            | (with_reducible refine GKsplitB (fun hc => ?_) (fun hc => ?_) <;> try simp [hc])
            | (refine CallK.use (ot _) ?_; rintro r G' _ _ ⟨rfl, rfl⟩)
            | (refine CallK.use (ls _) ?_; rintro r G' _ _ ⟨rfl, rfl⟩)
            | simp (disch := first | (with_reducible assumption) | (simp; done) | omega | (simp; omega)) [hj8, hpo, hk])
          exact hM (v - 1) _ _ (by omega) ⟨j + 1, o, by omega, by rw [show 8 * i + (j + 1) = 8 * i + j + 1 by omega, e, hfp]; simpa using hg, by simp⟩
      · rw [if_neg (by simp [hk])] at hfp
        repeat' (first
          | refine awp_seqK fun K' hpK => ?_
          | refine awp_block ?_
          | refine awp_condG fun A' B' hpA hpB => ?_
          | refine useK (by with_reducible assumption) ?_
          | refine useP (by with_reducible assumption) ?_
          | refine ED_cons (fun _ => ?_) ?_
          | (refine stable_mk ?_; simp (disch := first | (with_reducible assumption) | (simp; done) | omega | (simp; omega)) [hj8, hpo, hk]; done)
          | (refine stable_no ?_; simp (disch := first | (with_reducible assumption) | (simp; done) | omega | (simp; omega)) [hj8, hpo, hk]; done)
          | (with_reducible refine And.intro ?_ ?_)
          | (with_reducible intro hc; try (exfalso; omega))
          | (with_reducible refine GDsplit (fun hc => ?_) (fun hc => ?_) <;> try simp [hc])
          | (with_reducible refine GDsplitN (fun hc => ?_) (fun hc => ?_) <;> try simp [hc])
          | (with_reducible refine GDsplitNB (fun hc => ?_) (fun hc => ?_) <;> try simp [hc])
          | (with_reducible refine GDsplitB (fun hc => ?_) (fun hc => ?_) <;> try simp [hc])
          | (with_reducible refine GKsplit (fun hc => ?_) (fun hc => ?_) <;> try simp [hc])
          | (with_reducible refine GKsplitN (fun hc => ?_) (fun hc => ?_) <;> try simp [hc])
          | (with_reducible refine GKsplitNB (fun hc => ?_) (fun hc => ?_) <;> try simp [hc])
          | (with_reducible refine GKsplitB (fun hc => ?_) (fun hc => ?_) <;> try simp [hc])
          | (refine CallK.use (ot _) ?_; rintro r G' _ _ ⟨rfl, rfl⟩)
          | simp (disch := first | (with_reducible assumption) | (simp; done) | omega | (simp; omega)) [hj8, hpo, hk])
        exact hM (v - 1) _ _ (by omega) ⟨j + 1, o, by omega, by rw [show 8 * i + (j + 1) = 8 * i + j + 1 by omega, e, hfp]; simpa using hg, by simp⟩
    · have hj9 : j = 8 := by omega
      subst hj9
      repeat' (first
        | refine awp_seqK fun K' hpK => ?_
        | refine awp_block ?_
        | refine awp_condG fun A' B' hpA hpB => ?_
        | refine useK (by with_reducible assumption) ?_
        | refine useP (by with_reducible assumption) ?_
        | refine ED_cons (fun _ => ?_) ?_
        | (refine stable_mk ?_; simp (disch := first | (with_reducible assumption) | (simp; done) | omega | (simp; omega)) [hj8, hpo]; done)
        | (refine stable_no ?_; simp (disch := first | (with_reducible assumption) | (simp; done) | omega | (simp; omega)) [hj8, hpo]; done)
        | (with_reducible refine And.intro ?_ ?_)
        | (with_reducible intro hc; try (exfalso; omega))
        | (with_reducible refine GDsplit (fun hc => ?_) (fun hc => ?_) <;> try simp [hc])
        | (with_reducible refine GDsplitN (fun hc => ?_) (fun hc => ?_) <;> try simp [hc])
        | (with_reducible refine GDsplitNB (fun hc => ?_) (fun hc => ?_) <;> try simp [hc])
        | (with_reducible refine GDsplitB (fun hc => ?_) (fun hc => ?_) <;> try simp [hc])
        | (with_reducible refine GKsplit (fun hc => ?_) (fun hc => ?_) <;> try simp [hc])
        | (with_reducible refine GKsplitN (fun hc => ?_) (fun hc => ?_) <;> try simp [hc])
        | (with_reducible refine GKsplitNB (fun hc => ?_) (fun hc => ?_) <;> try simp [hc])
        | (with_reducible refine GKsplitB (fun hc => ?_) (fun hc => ?_) <;> try simp [hc])
        | simp (disch := first | (with_reducible assumption) | (simp; done) | omega | (simp; omega)) [hj8, hpo])
      exact hN (w - 1) _ _ (by omega) ⟨i + 1, o, by omega, hg, by simp⟩
  · have hi9 : i = 8 := by omega
    subst hi9
    rw [List.take_of_length_le (by rw [goods_len]; omega)] at hg
    repeat' (first
      | refine awp_seqK fun K' hpK => ?_
      | refine awp_block ?_
      | refine awp_condG fun A' B' hpA hpB => ?_
      | refine useK (by with_reducible assumption) ?_
      | refine useP (by with_reducible assumption) ?_
      | refine ED_cons (fun _ => ?_) ?_
      | (refine stable_mk ?_; simp (disch := first | (with_reducible assumption) | (simp; done) | omega | (simp; omega)) [hi8, hpo]; done)
      | (refine stable_no ?_; simp (disch := first | (with_reducible assumption) | (simp; done) | omega | (simp; omega)) [hi8, hpo]; done)
      | (with_reducible refine And.intro ?_ ?_)
      | (with_reducible intro hc; try (exfalso; omega))
      | (with_reducible refine GDsplit (fun hc => ?_) (fun hc => ?_) <;> try simp [hc])
      | (with_reducible refine GDsplitN (fun hc => ?_) (fun hc => ?_) <;> try simp [hc])
      | (with_reducible refine GDsplitNB (fun hc => ?_) (fun hc => ?_) <;> try simp [hc])
      | (with_reducible refine GDsplitB (fun hc => ?_) (fun hc => ?_) <;> try simp [hc])
      | (with_reducible refine GKsplit (fun hc => ?_) (fun hc => ?_) <;> try simp [hc])
      | (with_reducible refine GKsplitN (fun hc => ?_) (fun hc => ?_) <;> try simp [hc])
      | (with_reducible refine GKsplitNB (fun hc => ?_) (fun hc => ?_) <;> try simp [hc])
      | (with_reducible refine GKsplitB (fun hc => ?_) (fun hc => ?_) <;> try simp [hc])
      | simp (disch := first | (with_reducible assumption) | (simp; done) | omega | (simp; omega)) [hi8, hpo])
    exact ends_one (by simp <;> rfl) hpo (hpost _ _ hg)
end Go.Proofs.Ytbmlapcigkgdlaa
