import Derived.Test.YtapocekfkbkefaaD12K
set_option linter.unusedSimpArgs false
set_option linter.unusedVariables false
namespace Go.Proofs.Ytapocekfkbkefaa
open Go Go.Al
set_option maxRecDepth 20000
attribute [local irreducible] awp aops aopsD eop pv ACalls CallK AppK AEnds ti

set_option maxHeartbeats 4000000 in
theorem keep1_c {rb : Nat} {G : Hp} {P : List (Int × Int)} {M : List Sn} {a1 a2 b1 b2 now most : Int} (hR : RH rb G P M) (hO : OKP P) (hl : M.length ≤ 1000) : ACalls Try.prog 46 [.ptr rb 0, .int .i64 1, .agg [.int .i64 a1, .int .i64 a2], .agg [.int .i64 b1, .int .i64 b2], .int .i64 now, .int .i64 most] G fun r G' => RH rb G' P (M.filter fun x => !(touchP a1 a2 b1 b2) x) ∧ ∃ s, r = ofS cLk s ∧ LL s = (M.filter (touchP a1 a2 b1 b2)).map Sn.lk := by
  obtain ⟨K, U, out, hJ, hg⟩ := hR
  have hat := hg.at
  have hpo := Grow.plain hg
  have hal := fun {t : TypeId} => Grow.len (P := Try.prog) (t := t) hg
  have hL := rc_L (out := out) hJ.1 hJ.2.1
  have hrl := rc_len (out := out) hJ.1 hJ.2.1
  refine ACalls.hide fun post hpost => ?_
  refine F46_in (by simp) (by simp) fun hbd => ?_
  repeat' (first
    | refine awp_seqK fun K' hpK => ?_
    | refine awp_block ?_
    | refine awp_condG fun A' B' hpA hpB => ?_
    | refine useK (by with_reducible assumption) ?_
    | refine useP (by with_reducible assumption) ?_
    | refine ED_cons (fun _ => ?_) ?_
    | (refine stable_mk ?_; simp (disch := first | (with_reducible assumption) | (simp; done) | omega | (simp; omega)) [hat, hL, hpo, hal]; done)
    | (refine stable_no ?_; simp (disch := first | (with_reducible assumption) | (simp; done) | omega | (simp; omega)) [hat, hL, hpo, hal]; done)
    | (with_reducible refine And.intro ?_ ?_)
    | (with_reducible intro hc)
    | (with_reducible refine GDsplit (fun hc => ?_) (fun hc => ?_) <;> try simp [hc])
    | (with_reducible refine GDsplitN (fun hc => ?_) (fun hc => ?_) <;> try simp [hc])
    | (with_reducible refine GDsplitNB (fun hc => ?_) (fun hc => ?_) <;> try simp [hc])
    | (with_reducible refine GDsplitB (fun hc => ?_) (fun hc => ?_) <;> try simp [hc])
    | (with_reducible refine GKsplit (fun hc => ?_) (fun hc => ?_) <;> try simp [hc])
    | (with_reducible refine GKsplitN (fun hc => ?_) (fun hc => ?_) <;> try simp [hc])
    | (with_reducible refine GKsplitNB (fun hc => ?_) (fun hc => ?_) <;> try simp [hc])
    | (with_reducible refine GKsplitB (fun hc => ?_) (fun hc => ?_) <;> try simp [hc])
    | simp (disch := first | (with_reducible assumption) | (simp; done) | omega | (simp; omega)) [hat, hL, hpo, hal])
  refine awp_loop' (fun w T G1 => ∃ (k : Nat) (oo kk : AV) (Gm : Hp), k + w = M.length ∧ Grow cVS 5 G Gm kk ((M.take k).filter fun x => !(touchP a1 a2 b1 b2) x) ∧ Grow cLk 4 Gm G1 oo (((M.take k).filter (touchP a1 a2 b1 b2)).map Sn.lk) ∧ T = ofL [(0, .ptr rb 0), (1, .int .i64 1), (4, .int .i64 now), (5, .int .i64 most), (8, .box [.int .i64 a1, .int .i64 a2]), (9, .box [.int .i64 b1, .int .i64 b2]), (13, oo), (14, kk), (21, out), (22, .int .i64 M.length), (23, .int .i64 k)]) M.length ⟨0, .nils, .nils, _, by omega, Grow.nil _ _, Grow.nil _ _, by simp⟩ ?_
  rintro w T G1 ⟨k, oo, kk, Gm, hk, hgk, hgo, rfl⟩ N hN
  have hoo := hgo.plain
  have hkk := hgk.plain
  have hat1 := hgo.base (hgk.base hat)
  by_cases hkl : k < M.length
  · have hln1 : ((M.take k).filter fun x => !(touchP a1 a2 b1 b2) x).length ≤ 1000000 := Nat.le_trans (List.length_filter_le _ _) (by rw [List.length_take]; omega)
    have hln3 : ((M.take k).filter (touchP a1 a2 b1 b2)).length ≤ 1000000 := by exact Nat.le_trans (List.length_filter_le _ _) (by rw [List.length_take]; omega)
    obtain ⟨b, τ, hb, rfl, hG⟩ := Grow.ms hg (by intro h; subst h; simp at hkl)
    have hatb : G b = some (τ, M.flatMap cVS) := by rw [hG, setH_same]
    have hatb1 := hgo.base (hgk.base hatb)
    have hd0 := flat_at0 (f := cVS) (sz := 5) (by simp) hkl
    have htk := take_succ_get M k hkl
    obtain ⟨x, hx⟩ : ∃ x, x = M[k] := ⟨_, rfl⟩
    rw [← hx] at hd0 htk
    have e1T : (touchP a1 a2 b1 b2) x = true → (M.take (k + 1)).filter (touchP a1 a2 b1 b2) = (M.take k).filter (touchP a1 a2 b1 b2) ++ [x] := fun hq => by rw [htk, List.filter_append]; simp [hq]
    have e2T : (touchP a1 a2 b1 b2) x = true → ((M.take (k + 1)).filter fun x => !(touchP a1 a2 b1 b2) x) = (M.take k).filter fun x => !(touchP a1 a2 b1 b2) x := fun hq => by rw [htk, List.filter_append]; simp [hq]
    have e1F : (touchP a1 a2 b1 b2) x = false → (M.take (k + 1)).filter (touchP a1 a2 b1 b2) = (M.take k).filter (touchP a1 a2 b1 b2) := fun hq => by rw [htk, List.filter_append]; simp [hq]
    have e2F : (touchP a1 a2 b1 b2) x = false → ((M.take (k + 1)).filter fun x => !(touchP a1 a2 b1 b2) x) = ((M.take k).filter fun x => !(touchP a1 a2 b1 b2) x) ++ [x] := fun hq => by rw [htk, List.filter_append]; simp [hq]
    by_cases h0 : x.a1 = a1 ∧ x.a2 = a2
    · obtain ⟨rfl, rfl⟩ := h0
      have hq : (touchP x.a1 x.a2 b1 b2) x = true := by unfold touchP endsP; simp
      repeat' (first
        | refine awp_seqK fun K' hpK => ?_
        | refine awp_block ?_
        | refine awp_condG fun A' B' hpA hpB => ?_
        | refine useK (by with_reducible assumption) ?_
        | refine useP (by with_reducible assumption) ?_
        | refine ED_cons (fun _ => ?_) ?_
        | (refine stable_mk ?_; simp (disch := first | (with_reducible assumption) | (simp; done) | omega | (simp; omega)) [hkl, hat1, hatb1, hd0, cVS, hoo, hkk]; done)
        | (refine stable_no ?_; simp (disch := first | (with_reducible assumption) | (simp; done) | omega | (simp; omega)) [hkl, hat1, hatb1, hd0, cVS, hoo, hkk]; done)
        | (with_reducible refine And.intro ?_ ?_)
        | (with_reducible intro hc)
        | (with_reducible refine GDsplit (fun hc => ?_) (fun hc => ?_) <;> try simp [hc])
        | (with_reducible refine GDsplitN (fun hc => ?_) (fun hc => ?_) <;> try simp [hc])
        | (with_reducible refine GDsplitNB (fun hc => ?_) (fun hc => ?_) <;> try simp [hc])
        | (with_reducible refine GDsplitB (fun hc => ?_) (fun hc => ?_) <;> try simp [hc])
        | (with_reducible refine GKsplit (fun hc => ?_) (fun hc => ?_) <;> try simp [hc])
        | (with_reducible refine GKsplitN (fun hc => ?_) (fun hc => ?_) <;> try simp [hc])
        | (with_reducible refine GKsplitNB (fun hc => ?_) (fun hc => ?_) <;> try simp [hc])
        | (with_reducible refine GKsplitB (fun hc => ?_) (fun hc => ?_) <;> try simp [hc])
        | simp (disch := first | (with_reducible assumption) | (simp; done) | omega | (simp; omega)) [hkl, hat1, hatb1, hd0, cVS, hoo, hkk])
      refine hgo.app1 (x := x.lk) (by simp [cLk, Sn.lk]) (by simp [cLk]) (by simp [LIM]; omega) (fun v2 G2 hg2 => ?_)
      have hv2 := hg2.plain
      repeat' (first
        | refine awp_seqK fun K' hpK => ?_
        | refine awp_block ?_
        | refine awp_condG fun A' B' hpA hpB => ?_
        | refine useK (by with_reducible assumption) ?_
        | refine useP (by with_reducible assumption) ?_
        | refine ED_cons (fun _ => ?_) ?_
        | (refine stable_mk ?_; simp (disch := first | (with_reducible assumption) | (simp; done) | omega | (simp; omega)) [hv2, hkk]; done)
        | (refine stable_no ?_; simp (disch := first | (with_reducible assumption) | (simp; done) | omega | (simp; omega)) [hv2, hkk]; done)
        | (with_reducible refine And.intro ?_ ?_)
        | (with_reducible intro hc)
        | (with_reducible refine GDsplit (fun hc => ?_) (fun hc => ?_) <;> try simp [hc])
        | (with_reducible refine GDsplitN (fun hc => ?_) (fun hc => ?_) <;> try simp [hc])
        | (with_reducible refine GDsplitNB (fun hc => ?_) (fun hc => ?_) <;> try simp [hc])
        | (with_reducible refine GDsplitB (fun hc => ?_) (fun hc => ?_) <;> try simp [hc])
        | (with_reducible refine GKsplit (fun hc => ?_) (fun hc => ?_) <;> try simp [hc])
        | (with_reducible refine GKsplitN (fun hc => ?_) (fun hc => ?_) <;> try simp [hc])
        | (with_reducible refine GKsplitNB (fun hc => ?_) (fun hc => ?_) <;> try simp [hc])
        | (with_reducible refine GKsplitB (fun hc => ?_) (fun hc => ?_) <;> try simp [hc])
        | simp (disch := first | (with_reducible assumption) | (simp; done) | omega | (simp; omega)) [hv2, hkk])
      exact hN (w - 1) _ _ (by omega) ⟨k + 1, v2, kk, Gm, by omega, by rw [e2T hq]; exact hgk, by rw [e1T hq, List.map_append]; exact hg2, by simp⟩
    by_cases h1 : x.a1 = b1 ∧ x.a2 = b2
    · obtain ⟨rfl, rfl⟩ := h1
      have hq : (touchP a1 a2 x.a1 x.a2) x = true := by unfold touchP endsP; simp
      repeat' (first
        | refine awp_seqK fun K' hpK => ?_
        | refine awp_block ?_
        | refine awp_condG fun A' B' hpA hpB => ?_
        | refine useK (by with_reducible assumption) ?_
        | refine useP (by with_reducible assumption) ?_
        | refine ED_cons (fun _ => ?_) ?_
        | (refine stable_mk ?_; simp (disch := first | (with_reducible assumption) | (simp; done) | omega | (simp; omega)) [hkl, hat1, hatb1, hd0, cVS, hoo, hkk, h0]; done)
        | (refine stable_no ?_; simp (disch := first | (with_reducible assumption) | (simp; done) | omega | (simp; omega)) [hkl, hat1, hatb1, hd0, cVS, hoo, hkk, h0]; done)
        | (with_reducible refine And.intro ?_ ?_)
        | (with_reducible intro hc)
        | (with_reducible refine GDsplit (fun hc => ?_) (fun hc => ?_) <;> try simp [hc])
        | (with_reducible refine GDsplitN (fun hc => ?_) (fun hc => ?_) <;> try simp [hc])
        | (with_reducible refine GDsplitNB (fun hc => ?_) (fun hc => ?_) <;> try simp [hc])
        | (with_reducible refine GDsplitB (fun hc => ?_) (fun hc => ?_) <;> try simp [hc])
        | (with_reducible refine GKsplit (fun hc => ?_) (fun hc => ?_) <;> try simp [hc])
        | (with_reducible refine GKsplitN (fun hc => ?_) (fun hc => ?_) <;> try simp [hc])
        | (with_reducible refine GKsplitNB (fun hc => ?_) (fun hc => ?_) <;> try simp [hc])
        | (with_reducible refine GKsplitB (fun hc => ?_) (fun hc => ?_) <;> try simp [hc])
        | simp (disch := first | (with_reducible assumption) | (simp; done) | omega | (simp; omega)) [hkl, hat1, hatb1, hd0, cVS, hoo, hkk, h0])
      refine hgo.app1 (x := x.lk) (by simp [cLk, Sn.lk]) (by simp [cLk]) (by simp [LIM]; omega) (fun v2 G2 hg2 => ?_)
      have hv2 := hg2.plain
      repeat' (first
        | refine awp_seqK fun K' hpK => ?_
        | refine awp_block ?_
        | refine awp_condG fun A' B' hpA hpB => ?_
        | refine useK (by with_reducible assumption) ?_
        | refine useP (by with_reducible assumption) ?_
        | refine ED_cons (fun _ => ?_) ?_
        | (refine stable_mk ?_; simp (disch := first | (with_reducible assumption) | (simp; done) | omega | (simp; omega)) [hv2, hkk]; done)
        | (refine stable_no ?_; simp (disch := first | (with_reducible assumption) | (simp; done) | omega | (simp; omega)) [hv2, hkk]; done)
        | (with_reducible refine And.intro ?_ ?_)
        | (with_reducible intro hc)
        | (with_reducible refine GDsplit (fun hc => ?_) (fun hc => ?_) <;> try simp [hc])
        | (with_reducible refine GDsplitN (fun hc => ?_) (fun hc => ?_) <;> try simp [hc])
        | (with_reducible refine GDsplitNB (fun hc => ?_) (fun hc => ?_) <;> try simp [hc])
        | (with_reducible refine GDsplitB (fun hc => ?_) (fun hc => ?_) <;> try simp [hc])
        | (with_reducible refine GKsplit (fun hc => ?_) (fun hc => ?_) <;> try simp [hc])
        | (with_reducible refine GKsplitN (fun hc => ?_) (fun hc => ?_) <;> try simp [hc])
        | (with_reducible refine GKsplitNB (fun hc => ?_) (fun hc => ?_) <;> try simp [hc])
        | (with_reducible refine GKsplitB (fun hc => ?_) (fun hc => ?_) <;> try simp [hc])
        | simp (disch := first | (with_reducible assumption) | (simp; done) | omega | (simp; omega)) [hv2, hkk])
      exact hN (w - 1) _ _ (by omega) ⟨k + 1, v2, kk, Gm, by omega, by rw [e2T hq]; exact hgk, by rw [e1T hq, List.map_append]; exact hg2, by simp⟩
    by_cases h2 : x.b1 = a1 ∧ x.b2 = a2
    · obtain ⟨rfl, rfl⟩ := h2
      have hq : (touchP x.b1 x.b2 b1 b2) x = true := by unfold touchP endsP; simp
      repeat' (first
        | refine awp_seqK fun K' hpK => ?_
        | refine awp_block ?_
        | refine awp_condG fun A' B' hpA hpB => ?_
        | refine useK (by with_reducible assumption) ?_
        | refine useP (by with_reducible assumption) ?_
        | refine ED_cons (fun _ => ?_) ?_
        | (refine stable_mk ?_; simp (disch := first | (with_reducible assumption) | (simp; done) | omega | (simp; omega)) [hkl, hat1, hatb1, hd0, cVS, hoo, hkk, h0, h1]; done)
        | (refine stable_no ?_; simp (disch := first | (with_reducible assumption) | (simp; done) | omega | (simp; omega)) [hkl, hat1, hatb1, hd0, cVS, hoo, hkk, h0, h1]; done)
        | (with_reducible refine And.intro ?_ ?_)
        | (with_reducible intro hc)
        | (with_reducible refine GDsplit (fun hc => ?_) (fun hc => ?_) <;> try simp [hc])
        | (with_reducible refine GDsplitN (fun hc => ?_) (fun hc => ?_) <;> try simp [hc])
        | (with_reducible refine GDsplitNB (fun hc => ?_) (fun hc => ?_) <;> try simp [hc])
        | (with_reducible refine GDsplitB (fun hc => ?_) (fun hc => ?_) <;> try simp [hc])
        | (with_reducible refine GKsplit (fun hc => ?_) (fun hc => ?_) <;> try simp [hc])
        | (with_reducible refine GKsplitN (fun hc => ?_) (fun hc => ?_) <;> try simp [hc])
        | (with_reducible refine GKsplitNB (fun hc => ?_) (fun hc => ?_) <;> try simp [hc])
        | (with_reducible refine GKsplitB (fun hc => ?_) (fun hc => ?_) <;> try simp [hc])
        | simp (disch := first | (with_reducible assumption) | (simp; done) | omega | (simp; omega)) [hkl, hat1, hatb1, hd0, cVS, hoo, hkk, h0, h1])
      refine hgo.app1 (x := x.lk) (by simp [cLk, Sn.lk]) (by simp [cLk]) (by simp [LIM]; omega) (fun v2 G2 hg2 => ?_)
      have hv2 := hg2.plain
      repeat' (first
        | refine awp_seqK fun K' hpK => ?_
        | refine awp_block ?_
        | refine awp_condG fun A' B' hpA hpB => ?_
        | refine useK (by with_reducible assumption) ?_
        | refine useP (by with_reducible assumption) ?_
        | refine ED_cons (fun _ => ?_) ?_
        | (refine stable_mk ?_; simp (disch := first | (with_reducible assumption) | (simp; done) | omega | (simp; omega)) [hv2, hkk]; done)
        | (refine stable_no ?_; simp (disch := first | (with_reducible assumption) | (simp; done) | omega | (simp; omega)) [hv2, hkk]; done)
        | (with_reducible refine And.intro ?_ ?_)
        | (with_reducible intro hc)
        | (with_reducible refine GDsplit (fun hc => ?_) (fun hc => ?_) <;> try simp [hc])
        | (with_reducible refine GDsplitN (fun hc => ?_) (fun hc => ?_) <;> try simp [hc])
        | (with_reducible refine GDsplitNB (fun hc => ?_) (fun hc => ?_) <;> try simp [hc])
        | (with_reducible refine GDsplitB (fun hc => ?_) (fun hc => ?_) <;> try simp [hc])
        | (with_reducible refine GKsplit (fun hc => ?_) (fun hc => ?_) <;> try simp [hc])
        | (with_reducible refine GKsplitN (fun hc => ?_) (fun hc => ?_) <;> try simp [hc])
        | (with_reducible refine GKsplitNB (fun hc => ?_) (fun hc => ?_) <;> try simp [hc])
        | (with_reducible refine GKsplitB (fun hc => ?_) (fun hc => ?_) <;> try simp [hc])
        | simp (disch := first | (with_reducible assumption) | (simp; done) | omega | (simp; omega)) [hv2, hkk])
      exact hN (w - 1) _ _ (by omega) ⟨k + 1, v2, kk, Gm, by omega, by rw [e2T hq]; exact hgk, by rw [e1T hq, List.map_append]; exact hg2, by simp⟩
    by_cases h3 : x.b1 = b1 ∧ x.b2 = b2
    · obtain ⟨rfl, rfl⟩ := h3
      have hq : (touchP a1 a2 x.b1 x.b2) x = true := by unfold touchP endsP; simp
      repeat' (first
        | refine awp_seqK fun K' hpK => ?_
        | refine awp_block ?_
        | refine awp_condG fun A' B' hpA hpB => ?_
        | refine useK (by with_reducible assumption) ?_
        | refine useP (by with_reducible assumption) ?_
        | refine ED_cons (fun _ => ?_) ?_
        | (refine stable_mk ?_; simp (disch := first | (with_reducible assumption) | (simp; done) | omega | (simp; omega)) [hkl, hat1, hatb1, hd0, cVS, hoo, hkk, h0, h1, h2]; done)
        | (refine stable_no ?_; simp (disch := first | (with_reducible assumption) | (simp; done) | omega | (simp; omega)) [hkl, hat1, hatb1, hd0, cVS, hoo, hkk, h0, h1, h2]; done)
        | (with_reducible refine And.intro ?_ ?_)
        | (with_reducible intro hc)
        | (with_reducible refine GDsplit (fun hc => ?_) (fun hc => ?_) <;> try simp [hc])
        | (with_reducible refine GDsplitN (fun hc => ?_) (fun hc => ?_) <;> try simp [hc])
        | (with_reducible refine GDsplitNB (fun hc => ?_) (fun hc => ?_) <;> try simp [hc])
        | (with_reducible refine GDsplitB (fun hc => ?_) (fun hc => ?_) <;> try simp [hc])
        | (with_reducible refine GKsplit (fun hc => ?_) (fun hc => ?_) <;> try simp [hc])
        | (with_reducible refine GKsplitN (fun hc => ?_) (fun hc => ?_) <;> try simp [hc])
        | (with_reducible refine GKsplitNB (fun hc => ?_) (fun hc => ?_) <;> try simp [hc])
        | (with_reducible refine GKsplitB (fun hc => ?_) (fun hc => ?_) <;> try simp [hc])
        | simp (disch := first | (with_reducible assumption) | (simp; done) | omega | (simp; omega)) [hkl, hat1, hatb1, hd0, cVS, hoo, hkk, h0, h1, h2])
      refine hgo.app1 (x := x.lk) (by simp [cLk, Sn.lk]) (by simp [cLk]) (by simp [LIM]; omega) (fun v2 G2 hg2 => ?_)
      have hv2 := hg2.plain
      repeat' (first
        | refine awp_seqK fun K' hpK => ?_
        | refine awp_block ?_
        | refine awp_condG fun A' B' hpA hpB => ?_
        | refine useK (by with_reducible assumption) ?_
        | refine useP (by with_reducible assumption) ?_
        | refine ED_cons (fun _ => ?_) ?_
        | (refine stable_mk ?_; simp (disch := first | (with_reducible assumption) | (simp; done) | omega | (simp; omega)) [hv2, hkk]; done)
        | (refine stable_no ?_; simp (disch := first | (with_reducible assumption) | (simp; done) | omega | (simp; omega)) [hv2, hkk]; done)
        | (with_reducible refine And.intro ?_ ?_)
        | (with_reducible intro hc)
        | (with_reducible refine GDsplit (fun hc => ?_) (fun hc => ?_) <;> try simp [hc])
        | (with_reducible refine GDsplitN (fun hc => ?_) (fun hc => ?_) <;> try simp [hc])
        | (with_reducible refine GDsplitNB (fun hc => ?_) (fun hc => ?_) <;> try simp [hc])
        | (with_reducible refine GDsplitB (fun hc => ?_) (fun hc => ?_) <;> try simp [hc])
        | (with_reducible refine GKsplit (fun hc => ?_) (fun hc => ?_) <;> try simp [hc])
        | (with_reducible refine GKsplitN (fun hc => ?_) (fun hc => ?_) <;> try simp [hc])
        | (with_reducible refine GKsplitNB (fun hc => ?_) (fun hc => ?_) <;> try simp [hc])
        | (with_reducible refine GKsplitB (fun hc => ?_) (fun hc => ?_) <;> try simp [hc])
        | simp (disch := first | (with_reducible assumption) | (simp; done) | omega | (simp; omega)) [hv2, hkk])
      exact hN (w - 1) _ _ (by omega) ⟨k + 1, v2, kk, Gm, by omega, by rw [e2T hq]; exact hgk, by rw [e1T hq, List.map_append]; exact hg2, by simp⟩
    have hq : (touchP a1 a2 b1 b2) x = false := by unfold touchP endsP; simp only [h0, h1, h2, h3]; rfl
    repeat' (first
      | refine awp_seqK fun K' hpK => ?_
      | refine awp_block ?_
      | refine awp_condG fun A' B' hpA hpB => ?_
      | refine useK (by with_reducible assumption) ?_
      | refine useP (by with_reducible assumption) ?_
      | refine ED_cons (fun _ => ?_) ?_
      | (refine stable_mk ?_; simp (disch := first | (with_reducible assumption) | (simp; done) | omega | (simp; omega)) [hkl, hat1, hatb1, hd0, cVS, hoo, hkk, h0, h1, h2, h3]; done)
      | (refine stable_no ?_; simp (disch := first | (with_reducible assumption) | (simp; done) | omega | (simp; omega)) [hkl, hat1, hatb1, hd0, cVS, hoo, hkk, h0, h1, h2, h3]; done)
      | (with_reducible refine And.intro ?_ ?_)
      | (with_reducible intro hc)
      | (with_reducible refine GDsplit (fun hc => ?_) (fun hc => ?_) <;> try simp [hc])
      | (with_reducible refine GDsplitN (fun hc => ?_) (fun hc => ?_) <;> try simp [hc])
      | (with_reducible refine GDsplitNB (fun hc => ?_) (fun hc => ?_) <;> try simp [hc])
      | (with_reducible refine GDsplitB (fun hc => ?_) (fun hc => ?_) <;> try simp [hc])
      | (with_reducible refine GKsplit (fun hc => ?_) (fun hc => ?_) <;> try simp [hc])
      | (with_reducible refine GKsplitN (fun hc => ?_) (fun hc => ?_) <;> try simp [hc])
      | (with_reducible refine GKsplitNB (fun hc => ?_) (fun hc => ?_) <;> try simp [hc])
      | (with_reducible refine GKsplitB (fun hc => ?_) (fun hc => ?_) <;> try simp [hc])
      | simp (disch := first | (with_reducible assumption) | (simp; done) | omega | (simp; omega)) [hkl, hat1, hatb1, hd0, cVS, hoo, hkk, h0, h1, h2, h3])
    obtain ⟨Gn, hgo', hgk'⟩ := hgk.swap hgo
    refine hgk'.app1 (x := x) (by simp [cVS]) (by simp [cVS]) (by simp [LIM]; omega) (fun v2 G2 hg2 => ?_)
    have hv2 := hg2.plain
    obtain ⟨Gq, hgk2, hgo2⟩ := hgo'.swap hg2
    repeat' (first
      | refine awp_seqK fun K' hpK => ?_
      | refine awp_block ?_
      | refine awp_condG fun A' B' hpA hpB => ?_
      | refine useK (by with_reducible assumption) ?_
      | refine useP (by with_reducible assumption) ?_
      | refine ED_cons (fun _ => ?_) ?_
      | (refine stable_mk ?_; simp (disch := first | (with_reducible assumption) | (simp; done) | omega | (simp; omega)) [hv2, hoo]; done)
      | (refine stable_no ?_; simp (disch := first | (with_reducible assumption) | (simp; done) | omega | (simp; omega)) [hv2, hoo]; done)
      | (with_reducible refine And.intro ?_ ?_)
      | (with_reducible intro hc)
      | (with_reducible refine GDsplit (fun hc => ?_) (fun hc => ?_) <;> try simp [hc])
      | (with_reducible refine GDsplitN (fun hc => ?_) (fun hc => ?_) <;> try simp [hc])
      | (with_reducible refine GDsplitNB (fun hc => ?_) (fun hc => ?_) <;> try simp [hc])
      | (with_reducible refine GDsplitB (fun hc => ?_) (fun hc => ?_) <;> try simp [hc])
      | (with_reducible refine GKsplit (fun hc => ?_) (fun hc => ?_) <;> try simp [hc])
      | (with_reducible refine GKsplitN (fun hc => ?_) (fun hc => ?_) <;> try simp [hc])
      | (with_reducible refine GKsplitNB (fun hc => ?_) (fun hc => ?_) <;> try simp [hc])
      | (with_reducible refine GKsplitB (fun hc => ?_) (fun hc => ?_) <;> try simp [hc])
      | simp (disch := first | (with_reducible assumption) | (simp; done) | omega | (simp; omega)) [hv2, hoo])
    exact hN (w - 1) _ _ (by omega) ⟨k + 1, oo, v2, Gq, by omega, by rw [e2F hq]; exact hgk2, by rw [e1F hq]; exact hgo2, by simp⟩
  · rw [List.take_of_length_le (by omega)] at hgk hgo
    have hkn := hgk.known
    have hks := hgk.scal
    have hkc := hgk.cells
    have hat2 : uni emptyH G rb = some (0, rc K U out) := hat
    repeat' (first
      | refine awp_seqK fun K' hpK => ?_
      | refine awp_block ?_
      | refine awp_condG fun A' B' hpA hpB => ?_
      | refine useK (by with_reducible assumption) ?_
      | refine useP (by with_reducible assumption) ?_
      | refine ED_cons (fun _ => ?_) ?_
      | (refine stable_mk ?_; simp (disch := first | (with_reducible assumption) | (simp; done) | omega | (simp; omega)) [hkl, hoo, hkk, hat1, hrl, hkn, hks, hkc]; done)
      | (refine stable_no ?_; simp (disch := first | (with_reducible assumption) | (simp; done) | omega | (simp; omega)) [hkl, hoo, hkk, hat1, hrl, hkn, hks, hkc]; done)
      | (with_reducible refine And.intro ?_ ?_)
      | (with_reducible intro hc)
      | (with_reducible refine GDsplit (fun hc => ?_) (fun hc => ?_) <;> try simp [hc])
      | (with_reducible refine GDsplitN (fun hc => ?_) (fun hc => ?_) <;> try simp [hc])
      | (with_reducible refine GDsplitNB (fun hc => ?_) (fun hc => ?_) <;> try simp [hc])
      | (with_reducible refine GDsplitB (fun hc => ?_) (fun hc => ?_) <;> try simp [hc])
      | (with_reducible refine GKsplit (fun hc => ?_) (fun hc => ?_) <;> try simp [hc])
      | (with_reducible refine GKsplitN (fun hc => ?_) (fun hc => ?_) <;> try simp [hc])
      | (with_reducible refine GKsplitNB (fun hc => ?_) (fun hc => ?_) <;> try simp [hc])
      | (with_reducible refine GKsplitB (fun hc => ?_) (fun hc => ?_) <;> try simp [hc])
      | simp (disch := first | (with_reducible assumption) | (simp; done) | omega | (simp; omega)) [hkl, hoo, hkk, hat1, hrl, hkn, hks, hkc])
    rw [← uni_e G] at hgk
    obtain ⟨hn, r, hsub, hdn, hgn, hz, hr⟩ := Grow.sieve (o' := (0, rc K U kk)) rfl hat2 hgk hgo (by simp)
    rw [uni_e] at hsub hz
    have es := rc_set (out := out) (o := kk) hJ.1 hJ.2.1
    simp only [List.singleton_append] at es ⊢
    rw [es]
    exact ends_fr1 (by simp <;> rfl) hoo hsub hz (hpost _ _ ⟨⟨K, U, kk, hJ, hgn⟩, r, rfl, hr⟩)
set_option maxHeartbeats 4000000 in
theorem keep2_c {rb : Nat} {G : Hp} {P : List (Int × Int)} {M : List Sn} {a1 a2 b1 b2 now most : Int} (hR : RH rb G P M) (hO : OKP P) (hl : M.length ≤ 1000) : ACalls Try.prog 46 [.ptr rb 0, .int .i64 2, .agg [.int .i64 a1, .int .i64 a2], .agg [.int .i64 b1, .int .i64 b2], .int .i64 now, .int .i64 most] G fun r G' => RH rb G' P (M.filter fun x => !(atSw a1) x) ∧ ∃ s, r = ofS cLk s ∧ LL s = (M.filter (atSw a1)).map Sn.lk := by
  obtain ⟨K, U, out, hJ, hg⟩ := hR
  have hat := hg.at
  have hpo := Grow.plain hg
  have hal := fun {t : TypeId} => Grow.len (P := Try.prog) (t := t) hg
  have hL := rc_L (out := out) hJ.1 hJ.2.1
  have hrl := rc_len (out := out) hJ.1 hJ.2.1
  refine ACalls.hide fun post hpost => ?_
  refine F46_in (by simp) (by simp) fun hbd => ?_
  repeat' (first
    | refine awp_seqK fun K' hpK => ?_
    | refine awp_block ?_
    | refine awp_condG fun A' B' hpA hpB => ?_
    | refine useK (by with_reducible assumption) ?_
    | refine useP (by with_reducible assumption) ?_
    | refine ED_cons (fun _ => ?_) ?_
    | (refine stable_mk ?_; simp (disch := first | (with_reducible assumption) | (simp; done) | omega | (simp; omega)) [hat, hL, hpo, hal]; done)
    | (refine stable_no ?_; simp (disch := first | (with_reducible assumption) | (simp; done) | omega | (simp; omega)) [hat, hL, hpo, hal]; done)
    | (with_reducible refine And.intro ?_ ?_)
    | (with_reducible intro hc)
    | (with_reducible refine GDsplit (fun hc => ?_) (fun hc => ?_) <;> try simp [hc])
    | (with_reducible refine GDsplitN (fun hc => ?_) (fun hc => ?_) <;> try simp [hc])
    | (with_reducible refine GDsplitNB (fun hc => ?_) (fun hc => ?_) <;> try simp [hc])
    | (with_reducible refine GDsplitB (fun hc => ?_) (fun hc => ?_) <;> try simp [hc])
    | (with_reducible refine GKsplit (fun hc => ?_) (fun hc => ?_) <;> try simp [hc])
    | (with_reducible refine GKsplitN (fun hc => ?_) (fun hc => ?_) <;> try simp [hc])
    | (with_reducible refine GKsplitNB (fun hc => ?_) (fun hc => ?_) <;> try simp [hc])
    | (with_reducible refine GKsplitB (fun hc => ?_) (fun hc => ?_) <;> try simp [hc])
    | simp (disch := first | (with_reducible assumption) | (simp; done) | omega | (simp; omega)) [hat, hL, hpo, hal])
  refine awp_loop' (fun w T G1 => ∃ (k : Nat) (oo kk : AV) (Gm : Hp), k + w = M.length ∧ Grow cVS 5 G Gm kk ((M.take k).filter fun x => !(atSw a1) x) ∧ Grow cLk 4 Gm G1 oo (((M.take k).filter (atSw a1)).map Sn.lk) ∧ T = ofL [(0, .ptr rb 0), (1, .int .i64 2), (4, .int .i64 now), (5, .int .i64 most), (8, .box [.int .i64 a1, .int .i64 a2]), (9, .box [.int .i64 b1, .int .i64 b2]), (13, oo), (14, kk), (21, out), (22, .int .i64 M.length), (23, .int .i64 k)]) M.length ⟨0, .nils, .nils, _, by omega, Grow.nil _ _, Grow.nil _ _, by simp⟩ ?_
  rintro w T G1 ⟨k, oo, kk, Gm, hk, hgk, hgo, rfl⟩ N hN
  have hoo := hgo.plain
  have hkk := hgk.plain
  have hat1 := hgo.base (hgk.base hat)
  by_cases hkl : k < M.length
  · have hln1 : ((M.take k).filter fun x => !(atSw a1) x).length ≤ 1000000 := Nat.le_trans (List.length_filter_le _ _) (by rw [List.length_take]; omega)
    have hln3 : ((M.take k).filter (atSw a1)).length ≤ 1000000 := by exact Nat.le_trans (List.length_filter_le _ _) (by rw [List.length_take]; omega)
    obtain ⟨b, τ, hb, rfl, hG⟩ := Grow.ms hg (by intro h; subst h; simp at hkl)
    have hatb : G b = some (τ, M.flatMap cVS) := by rw [hG, setH_same]
    have hatb1 := hgo.base (hgk.base hatb)
    have hd0 := flat_at0 (f := cVS) (sz := 5) (by simp) hkl
    have htk := take_succ_get M k hkl
    obtain ⟨x, hx⟩ : ∃ x, x = M[k] := ⟨_, rfl⟩
    rw [← hx] at hd0 htk
    have e1T : (atSw a1) x = true → (M.take (k + 1)).filter (atSw a1) = (M.take k).filter (atSw a1) ++ [x] := fun hq => by rw [htk, List.filter_append]; simp [hq]
    have e2T : (atSw a1) x = true → ((M.take (k + 1)).filter fun x => !(atSw a1) x) = (M.take k).filter fun x => !(atSw a1) x := fun hq => by rw [htk, List.filter_append]; simp [hq]
    have e1F : (atSw a1) x = false → (M.take (k + 1)).filter (atSw a1) = (M.take k).filter (atSw a1) := fun hq => by rw [htk, List.filter_append]; simp [hq]
    have e2F : (atSw a1) x = false → ((M.take (k + 1)).filter fun x => !(atSw a1) x) = ((M.take k).filter fun x => !(atSw a1) x) ++ [x] := fun hq => by rw [htk, List.filter_append]; simp [hq]
    by_cases h0 : x.a1 = a1
    · have hq : (atSw a1) x = true := by unfold atSw; simp [h0]
      repeat' (first
        | refine awp_seqK fun K' hpK => ?_
        | refine awp_block ?_
        | refine awp_condG fun A' B' hpA hpB => ?_
        | refine useK (by with_reducible assumption) ?_
        | refine useP (by with_reducible assumption) ?_
        | refine ED_cons (fun _ => ?_) ?_
        | (refine stable_mk ?_; simp (disch := first | (with_reducible assumption) | (simp; done) | omega | (simp; omega)) [hkl, hat1, hatb1, hd0, cVS, hoo, hkk, h0]; done)
        | (refine stable_no ?_; simp (disch := first | (with_reducible assumption) | (simp; done) | omega | (simp; omega)) [hkl, hat1, hatb1, hd0, cVS, hoo, hkk, h0]; done)
        | (with_reducible refine And.intro ?_ ?_)
        | (with_reducible intro hc)
        | (with_reducible refine GDsplit (fun hc => ?_) (fun hc => ?_) <;> try simp [hc])
        | (with_reducible refine GDsplitN (fun hc => ?_) (fun hc => ?_) <;> try simp [hc])
        | (with_reducible refine GDsplitNB (fun hc => ?_) (fun hc => ?_) <;> try simp [hc])
        | (with_reducible refine GDsplitB (fun hc => ?_) (fun hc => ?_) <;> try simp [hc])
        | (with_reducible refine GKsplit (fun hc => ?_) (fun hc => ?_) <;> try simp [hc])
        | (with_reducible refine GKsplitN (fun hc => ?_) (fun hc => ?_) <;> try simp [hc])
        | (with_reducible refine GKsplitNB (fun hc => ?_) (fun hc => ?_) <;> try simp [hc])
        | (with_reducible refine GKsplitB (fun hc => ?_) (fun hc => ?_) <;> try simp [hc])
        | simp (disch := first | (with_reducible assumption) | (simp; done) | omega | (simp; omega)) [hkl, hat1, hatb1, hd0, cVS, hoo, hkk, h0])
      refine hgo.app1 (x := x.lk) (by simp [cLk, Sn.lk, h0]) (by simp [cLk]) (by simp [LIM]; omega) (fun v2 G2 hg2 => ?_)
      have hv2 := hg2.plain
      repeat' (first
        | refine awp_seqK fun K' hpK => ?_
        | refine awp_block ?_
        | refine awp_condG fun A' B' hpA hpB => ?_
        | refine useK (by with_reducible assumption) ?_
        | refine useP (by with_reducible assumption) ?_
        | refine ED_cons (fun _ => ?_) ?_
        | (refine stable_mk ?_; simp (disch := first | (with_reducible assumption) | (simp; done) | omega | (simp; omega)) [hv2, hkk]; done)
        | (refine stable_no ?_; simp (disch := first | (with_reducible assumption) | (simp; done) | omega | (simp; omega)) [hv2, hkk]; done)
        | (with_reducible refine And.intro ?_ ?_)
        | (with_reducible intro hc)
        | (with_reducible refine GDsplit (fun hc => ?_) (fun hc => ?_) <;> try simp [hc])
        | (with_reducible refine GDsplitN (fun hc => ?_) (fun hc => ?_) <;> try simp [hc])
        | (with_reducible refine GDsplitNB (fun hc => ?_) (fun hc => ?_) <;> try simp [hc])
        | (with_reducible refine GDsplitB (fun hc => ?_) (fun hc => ?_) <;> try simp [hc])
        | (with_reducible refine GKsplit (fun hc => ?_) (fun hc => ?_) <;> try simp [hc])
        | (with_reducible refine GKsplitN (fun hc => ?_) (fun hc => ?_) <;> try simp [hc])
        | (with_reducible refine GKsplitNB (fun hc => ?_) (fun hc => ?_) <;> try simp [hc])
        | (with_reducible refine GKsplitB (fun hc => ?_) (fun hc => ?_) <;> try simp [hc])
        | simp (disch := first | (with_reducible assumption) | (simp; done) | omega | (simp; omega)) [hv2, hkk])
      exact hN (w - 1) _ _ (by omega) ⟨k + 1, v2, kk, Gm, by omega, by rw [e2T hq]; exact hgk, by rw [e1T hq, List.map_append]; exact hg2, by simp⟩
    by_cases h1 : x.b1 = a1
    · have hq : (atSw a1) x = true := by unfold atSw; simp [h1]
      repeat' (first
        | refine awp_seqK fun K' hpK => ?_
        | refine awp_block ?_
        | refine awp_condG fun A' B' hpA hpB => ?_
        | refine useK (by with_reducible assumption) ?_
        | refine useP (by with_reducible assumption) ?_
        | refine ED_cons (fun _ => ?_) ?_
        | (refine stable_mk ?_; simp (disch := first | (with_reducible assumption) | (simp; done) | omega | (simp; omega)) [hkl, hat1, hatb1, hd0, cVS, hoo, hkk, h0, h1]; done)
        | (refine stable_no ?_; simp (disch := first | (with_reducible assumption) | (simp; done) | omega | (simp; omega)) [hkl, hat1, hatb1, hd0, cVS, hoo, hkk, h0, h1]; done)
        | (with_reducible refine And.intro ?_ ?_)
        | (with_reducible intro hc)
        | (with_reducible refine GDsplit (fun hc => ?_) (fun hc => ?_) <;> try simp [hc])
        | (with_reducible refine GDsplitN (fun hc => ?_) (fun hc => ?_) <;> try simp [hc])
        | (with_reducible refine GDsplitNB (fun hc => ?_) (fun hc => ?_) <;> try simp [hc])
        | (with_reducible refine GDsplitB (fun hc => ?_) (fun hc => ?_) <;> try simp [hc])
        | (with_reducible refine GKsplit (fun hc => ?_) (fun hc => ?_) <;> try simp [hc])
        | (with_reducible refine GKsplitN (fun hc => ?_) (fun hc => ?_) <;> try simp [hc])
        | (with_reducible refine GKsplitNB (fun hc => ?_) (fun hc => ?_) <;> try simp [hc])
        | (with_reducible refine GKsplitB (fun hc => ?_) (fun hc => ?_) <;> try simp [hc])
        | simp (disch := first | (with_reducible assumption) | (simp; done) | omega | (simp; omega)) [hkl, hat1, hatb1, hd0, cVS, hoo, hkk, h0, h1])
      refine hgo.app1 (x := x.lk) (by simp [cLk, Sn.lk, h1]) (by simp [cLk]) (by simp [LIM]; omega) (fun v2 G2 hg2 => ?_)
      have hv2 := hg2.plain
      repeat' (first
        | refine awp_seqK fun K' hpK => ?_
        | refine awp_block ?_
        | refine awp_condG fun A' B' hpA hpB => ?_
        | refine useK (by with_reducible assumption) ?_
        | refine useP (by with_reducible assumption) ?_
        | refine ED_cons (fun _ => ?_) ?_
        | (refine stable_mk ?_; simp (disch := first | (with_reducible assumption) | (simp; done) | omega | (simp; omega)) [hv2, hkk]; done)
        | (refine stable_no ?_; simp (disch := first | (with_reducible assumption) | (simp; done) | omega | (simp; omega)) [hv2, hkk]; done)
        | (with_reducible refine And.intro ?_ ?_)
        | (with_reducible intro hc)
        | (with_reducible refine GDsplit (fun hc => ?_) (fun hc => ?_) <;> try simp [hc])
        | (with_reducible refine GDsplitN (fun hc => ?_) (fun hc => ?_) <;> try simp [hc])
        | (with_reducible refine GDsplitNB (fun hc => ?_) (fun hc => ?_) <;> try simp [hc])
        | (with_reducible refine GDsplitB (fun hc => ?_) (fun hc => ?_) <;> try simp [hc])
        | (with_reducible refine GKsplit (fun hc => ?_) (fun hc => ?_) <;> try simp [hc])
        | (with_reducible refine GKsplitN (fun hc => ?_) (fun hc => ?_) <;> try simp [hc])
        | (with_reducible refine GKsplitNB (fun hc => ?_) (fun hc => ?_) <;> try simp [hc])
        | (with_reducible refine GKsplitB (fun hc => ?_) (fun hc => ?_) <;> try simp [hc])
        | simp (disch := first | (with_reducible assumption) | (simp; done) | omega | (simp; omega)) [hv2, hkk])
      exact hN (w - 1) _ _ (by omega) ⟨k + 1, v2, kk, Gm, by omega, by rw [e2T hq]; exact hgk, by rw [e1T hq, List.map_append]; exact hg2, by simp⟩
    have hq : (atSw a1) x = false := by unfold atSw; simp [h0, h1]
    repeat' (first
      | refine awp_seqK fun K' hpK => ?_
      | refine awp_block ?_
      | refine awp_condG fun A' B' hpA hpB => ?_
      | refine useK (by with_reducible assumption) ?_
      | refine useP (by with_reducible assumption) ?_
      | refine ED_cons (fun _ => ?_) ?_
      | (refine stable_mk ?_; simp (disch := first | (with_reducible assumption) | (simp; done) | omega | (simp; omega)) [hkl, hat1, hatb1, hd0, cVS, hoo, hkk, h0, h1]; done)
      | (refine stable_no ?_; simp (disch := first | (with_reducible assumption) | (simp; done) | omega | (simp; omega)) [hkl, hat1, hatb1, hd0, cVS, hoo, hkk, h0, h1]; done)
      | (with_reducible refine And.intro ?_ ?_)
      | (with_reducible intro hc)
      | (with_reducible refine GDsplit (fun hc => ?_) (fun hc => ?_) <;> try simp [hc])
      | (with_reducible refine GDsplitN (fun hc => ?_) (fun hc => ?_) <;> try simp [hc])
      | (with_reducible refine GDsplitNB (fun hc => ?_) (fun hc => ?_) <;> try simp [hc])
      | (with_reducible refine GDsplitB (fun hc => ?_) (fun hc => ?_) <;> try simp [hc])
      | (with_reducible refine GKsplit (fun hc => ?_) (fun hc => ?_) <;> try simp [hc])
      | (with_reducible refine GKsplitN (fun hc => ?_) (fun hc => ?_) <;> try simp [hc])
      | (with_reducible refine GKsplitNB (fun hc => ?_) (fun hc => ?_) <;> try simp [hc])
      | (with_reducible refine GKsplitB (fun hc => ?_) (fun hc => ?_) <;> try simp [hc])
      | simp (disch := first | (with_reducible assumption) | (simp; done) | omega | (simp; omega)) [hkl, hat1, hatb1, hd0, cVS, hoo, hkk, h0, h1])
    obtain ⟨Gn, hgo', hgk'⟩ := hgk.swap hgo
    refine hgk'.app1 (x := x) (by simp [cVS]) (by simp [cVS]) (by simp [LIM]; omega) (fun v2 G2 hg2 => ?_)
    have hv2 := hg2.plain
    obtain ⟨Gq, hgk2, hgo2⟩ := hgo'.swap hg2
    repeat' (first
      | refine awp_seqK fun K' hpK => ?_
      | refine awp_block ?_
      | refine awp_condG fun A' B' hpA hpB => ?_
      | refine useK (by with_reducible assumption) ?_
      | refine useP (by with_reducible assumption) ?_
      | refine ED_cons (fun _ => ?_) ?_
      | (refine stable_mk ?_; simp (disch := first | (with_reducible assumption) | (simp; done) | omega | (simp; omega)) [hv2, hoo]; done)
      | (refine stable_no ?_; simp (disch := first | (with_reducible assumption) | (simp; done) | omega | (simp; omega)) [hv2, hoo]; done)
      | (with_reducible refine And.intro ?_ ?_)
      | (with_reducible intro hc)
      | (with_reducible refine GDsplit (fun hc => ?_) (fun hc => ?_) <;> try simp [hc])
      | (with_reducible refine GDsplitN (fun hc => ?_) (fun hc => ?_) <;> try simp [hc])
      | (with_reducible refine GDsplitNB (fun hc => ?_) (fun hc => ?_) <;> try simp [hc])
      | (with_reducible refine GDsplitB (fun hc => ?_) (fun hc => ?_) <;> try simp [hc])
      | (with_reducible refine GKsplit (fun hc => ?_) (fun hc => ?_) <;> try simp [hc])
      | (with_reducible refine GKsplitN (fun hc => ?_) (fun hc => ?_) <;> try simp [hc])
      | (with_reducible refine GKsplitNB (fun hc => ?_) (fun hc => ?_) <;> try simp [hc])
      | (with_reducible refine GKsplitB (fun hc => ?_) (fun hc => ?_) <;> try simp [hc])
      | simp (disch := first | (with_reducible assumption) | (simp; done) | omega | (simp; omega)) [hv2, hoo])
    exact hN (w - 1) _ _ (by omega) ⟨k + 1, oo, v2, Gq, by omega, by rw [e2F hq]; exact hgk2, by rw [e1F hq]; exact hgo2, by simp⟩
  · rw [List.take_of_length_le (by omega)] at hgk hgo
    have hkn := hgk.known
    have hks := hgk.scal
    have hkc := hgk.cells
    have hat2 : uni emptyH G rb = some (0, rc K U out) := hat
    repeat' (first
      | refine awp_seqK fun K' hpK => ?_
      | refine awp_block ?_
      | refine awp_condG fun A' B' hpA hpB => ?_
      | refine useK (by with_reducible assumption) ?_
      | refine useP (by with_reducible assumption) ?_
      | refine ED_cons (fun _ => ?_) ?_
      | (refine stable_mk ?_; simp (disch := first | (with_reducible assumption) | (simp; done) | omega | (simp; omega)) [hkl, hoo, hkk, hat1, hrl, hkn, hks, hkc]; done)
      | (refine stable_no ?_; simp (disch := first | (with_reducible assumption) | (simp; done) | omega | (simp; omega)) [hkl, hoo, hkk, hat1, hrl, hkn, hks, hkc]; done)
      | (with_reducible refine And.intro ?_ ?_)
      | (with_reducible intro hc)
      | (with_reducible refine GDsplit (fun hc => ?_) (fun hc => ?_) <;> try simp [hc])
      | (with_reducible refine GDsplitN (fun hc => ?_) (fun hc => ?_) <;> try simp [hc])
      | (with_reducible refine GDsplitNB (fun hc => ?_) (fun hc => ?_) <;> try simp [hc])
      | (with_reducible refine GDsplitB (fun hc => ?_) (fun hc => ?_) <;> try simp [hc])
      | (with_reducible refine GKsplit (fun hc => ?_) (fun hc => ?_) <;> try simp [hc])
      | (with_reducible refine GKsplitN (fun hc => ?_) (fun hc => ?_) <;> try simp [hc])
      | (with_reducible refine GKsplitNB (fun hc => ?_) (fun hc => ?_) <;> try simp [hc])
      | (with_reducible refine GKsplitB (fun hc => ?_) (fun hc => ?_) <;> try simp [hc])
      | simp (disch := first | (with_reducible assumption) | (simp; done) | omega | (simp; omega)) [hkl, hoo, hkk, hat1, hrl, hkn, hks, hkc])
    rw [← uni_e G] at hgk
    obtain ⟨hn, r, hsub, hdn, hgn, hz, hr⟩ := Grow.sieve (o' := (0, rc K U kk)) rfl hat2 hgk hgo (by simp)
    rw [uni_e] at hsub hz
    have es := rc_set (out := out) (o := kk) hJ.1 hJ.2.1
    simp only [List.singleton_append] at es ⊢
    rw [es]
    exact ends_fr1 (by simp <;> rfl) hoo hsub hz (hpost _ _ ⟨⟨K, U, kk, hJ, hgn⟩, r, rfl, hr⟩)
set_option maxHeartbeats 4000000 in
theorem keep3_c {rb : Nat} {G : Hp} {P : List (Int × Int)} {M : List Sn} {a1 a2 b1 b2 now most : Int} (hR : RH rb G P M) (hO : OKP P) (hl : M.length ≤ 1000) : ACalls Try.prog 46 [.ptr rb 0, .int .i64 3, .agg [.int .i64 a1, .int .i64 a2], .agg [.int .i64 b1, .int .i64 b2], .int .i64 now, .int .i64 most] G fun r G' => RH rb G' P (M.filter fun x => !(oldP now most) x) ∧ ∃ s, r = ofS cLk s ∧ LL s = (M.filter (oldP now most)).map Sn.lk := by
  obtain ⟨K, U, out, hJ, hg⟩ := hR
  have hat := hg.at
  have hpo := Grow.plain hg
  have hal := fun {t : TypeId} => Grow.len (P := Try.prog) (t := t) hg
  have hL := rc_L (out := out) hJ.1 hJ.2.1
  have hrl := rc_len (out := out) hJ.1 hJ.2.1
  refine ACalls.hide fun post hpost => ?_
  refine F46_in (by simp) (by simp) fun hbd => ?_
  repeat' (first
    | refine awp_seqK fun K' hpK => ?_
    | refine awp_block ?_
    | refine awp_condG fun A' B' hpA hpB => ?_
    | refine useK (by with_reducible assumption) ?_
    | refine useP (by with_reducible assumption) ?_
    | refine ED_cons (fun _ => ?_) ?_
    | (refine stable_mk ?_; simp (disch := first | (with_reducible assumption) | (simp; done) | omega | (simp; omega)) [hat, hL, hpo, hal]; done)
    | (refine stable_no ?_; simp (disch := first | (with_reducible assumption) | (simp; done) | omega | (simp; omega)) [hat, hL, hpo, hal]; done)
    | (with_reducible refine And.intro ?_ ?_)
    | (with_reducible intro hc)
    | (with_reducible refine GDsplit (fun hc => ?_) (fun hc => ?_) <;> try simp [hc])
    | (with_reducible refine GDsplitN (fun hc => ?_) (fun hc => ?_) <;> try simp [hc])
    | (with_reducible refine GDsplitNB (fun hc => ?_) (fun hc => ?_) <;> try simp [hc])
    | (with_reducible refine GDsplitB (fun hc => ?_) (fun hc => ?_) <;> try simp [hc])
    | (with_reducible refine GKsplit (fun hc => ?_) (fun hc => ?_) <;> try simp [hc])
    | (with_reducible refine GKsplitN (fun hc => ?_) (fun hc => ?_) <;> try simp [hc])
    | (with_reducible refine GKsplitNB (fun hc => ?_) (fun hc => ?_) <;> try simp [hc])
    | (with_reducible refine GKsplitB (fun hc => ?_) (fun hc => ?_) <;> try simp [hc])
    | simp (disch := first | (with_reducible assumption) | (simp; done) | omega | (simp; omega)) [hat, hL, hpo, hal])
  refine awp_loop' (fun w T G1 => ∃ (k : Nat) (oo kk : AV) (Gm : Hp), k + w = M.length ∧ Grow cVS 5 G Gm kk ((M.take k).filter fun x => !(oldP now most) x) ∧ Grow cLk 4 Gm G1 oo (((M.take k).filter (oldP now most)).map Sn.lk) ∧ T = ofL [(0, .ptr rb 0), (1, .int .i64 3), (4, .int .i64 now), (5, .int .i64 most), (8, .box [.int .i64 a1, .int .i64 a2]), (9, .box [.int .i64 b1, .int .i64 b2]), (13, oo), (14, kk), (21, out), (22, .int .i64 M.length), (23, .int .i64 k)]) M.length ⟨0, .nils, .nils, _, by omega, Grow.nil _ _, Grow.nil _ _, by simp⟩ ?_
  rintro w T G1 ⟨k, oo, kk, Gm, hk, hgk, hgo, rfl⟩ N hN
  have hoo := hgo.plain
  have hkk := hgk.plain
  have hat1 := hgo.base (hgk.base hat)
  by_cases hkl : k < M.length
  · have hln1 : ((M.take k).filter fun x => !(oldP now most) x).length ≤ 1000000 := Nat.le_trans (List.length_filter_le _ _) (by rw [List.length_take]; omega)
    have hln3 : ((M.take k).filter (oldP now most)).length ≤ 1000000 := by exact Nat.le_trans (List.length_filter_le _ _) (by rw [List.length_take]; omega)
    obtain ⟨b, τ, hb, rfl, hG⟩ := Grow.ms hg (by intro h; subst h; simp at hkl)
    have hatb : G b = some (τ, M.flatMap cVS) := by rw [hG, setH_same]
    have hatb1 := hgo.base (hgk.base hatb)
    have hd0 := flat_at0 (f := cVS) (sz := 5) (by simp) hkl
    have htk := take_succ_get M k hkl
    obtain ⟨x, hx⟩ : ∃ x, x = M[k] := ⟨_, rfl⟩
    rw [← hx] at hd0 htk
    have e1T : (oldP now most) x = true → (M.take (k + 1)).filter (oldP now most) = (M.take k).filter (oldP now most) ++ [x] := fun hq => by rw [htk, List.filter_append]; simp [hq]
    have e2T : (oldP now most) x = true → ((M.take (k + 1)).filter fun x => !(oldP now most) x) = (M.take k).filter fun x => !(oldP now most) x := fun hq => by rw [htk, List.filter_append]; simp [hq]
    have e1F : (oldP now most) x = false → (M.take (k + 1)).filter (oldP now most) = (M.take k).filter (oldP now most) := fun hq => by rw [htk, List.filter_append]; simp [hq]
    have e2F : (oldP now most) x = false → ((M.take (k + 1)).filter fun x => !(oldP now most) x) = ((M.take k).filter fun x => !(oldP now most) x) ++ [x] := fun hq => by rw [htk, List.filter_append]; simp [hq]
    by_cases h0 : most < IntKind.i64.wrap (now - x.t)
    · have hq : (oldP now most) x = true := by unfold oldP; simp [h0]
      repeat' (first
        | refine awp_seqK fun K' hpK => ?_
        | refine awp_block ?_
        | refine awp_condG fun A' B' hpA hpB => ?_
        | refine useK (by with_reducible assumption) ?_
        | refine useP (by with_reducible assumption) ?_
        | refine ED_cons (fun _ => ?_) ?_
        | (refine stable_mk ?_; simp (disch := first | (with_reducible assumption) | (simp; done) | omega | (simp; omega)) [hkl, hat1, hatb1, hd0, cVS, hoo, hkk, h0]; done)
        | (refine stable_no ?_; simp (disch := first | (with_reducible assumption) | (simp; done) | omega | (simp; omega)) [hkl, hat1, hatb1, hd0, cVS, hoo, hkk, h0]; done)
        | (with_reducible refine And.intro ?_ ?_)
        | (with_reducible intro hc)
        | (with_reducible refine GDsplit (fun hc => ?_) (fun hc => ?_) <;> try simp [hc])
        | (with_reducible refine GDsplitN (fun hc => ?_) (fun hc => ?_) <;> try simp [hc])
        | (with_reducible refine GDsplitNB (fun hc => ?_) (fun hc => ?_) <;> try simp [hc])
        | (with_reducible refine GDsplitB (fun hc => ?_) (fun hc => ?_) <;> try simp [hc])
        | (with_reducible refine GKsplit (fun hc => ?_) (fun hc => ?_) <;> try simp [hc])
        | (with_reducible refine GKsplitN (fun hc => ?_) (fun hc => ?_) <;> try simp [hc])
        | (with_reducible refine GKsplitNB (fun hc => ?_) (fun hc => ?_) <;> try simp [hc])
        | (with_reducible refine GKsplitB (fun hc => ?_) (fun hc => ?_) <;> try simp [hc])
        | simp (disch := first | (with_reducible assumption) | (simp; done) | omega | (simp; omega)) [hkl, hat1, hatb1, hd0, cVS, hoo, hkk, h0])
      refine hgo.app1 (x := x.lk) (by simp [cLk, Sn.lk]) (by simp [cLk]) (by simp [LIM]; omega) (fun v2 G2 hg2 => ?_)
      have hv2 := hg2.plain
      repeat' (first
        | refine awp_seqK fun K' hpK => ?_
        | refine awp_block ?_
        | refine awp_condG fun A' B' hpA hpB => ?_
        | refine useK (by with_reducible assumption) ?_
        | refine useP (by with_reducible assumption) ?_
        | refine ED_cons (fun _ => ?_) ?_
        | (refine stable_mk ?_; simp (disch := first | (with_reducible assumption) | (simp; done) | omega | (simp; omega)) [hv2, hkk]; done)
        | (refine stable_no ?_; simp (disch := first | (with_reducible assumption) | (simp; done) | omega | (simp; omega)) [hv2, hkk]; done)
        | (with_reducible refine And.intro ?_ ?_)
        | (with_reducible intro hc)
        | (with_reducible refine GDsplit (fun hc => ?_) (fun hc => ?_) <;> try simp [hc])
        | (with_reducible refine GDsplitN (fun hc => ?_) (fun hc => ?_) <;> try simp [hc])
        | (with_reducible refine GDsplitNB (fun hc => ?_) (fun hc => ?_) <;> try simp [hc])
        | (with_reducible refine GDsplitB (fun hc => ?_) (fun hc => ?_) <;> try simp [hc])
        | (with_reducible refine GKsplit (fun hc => ?_) (fun hc => ?_) <;> try simp [hc])
        | (with_reducible refine GKsplitN (fun hc => ?_) (fun hc => ?_) <;> try simp [hc])
        | (with_reducible refine GKsplitNB (fun hc => ?_) (fun hc => ?_) <;> try simp [hc])
        | (with_reducible refine GKsplitB (fun hc => ?_) (fun hc => ?_) <;> try simp [hc])
        | simp (disch := first | (with_reducible assumption) | (simp; done) | omega | (simp; omega)) [hv2, hkk])
      exact hN (w - 1) _ _ (by omega) ⟨k + 1, v2, kk, Gm, by omega, by rw [e2T hq]; exact hgk, by rw [e1T hq, List.map_append]; exact hg2, by simp⟩
    have hq : (oldP now most) x = false := by unfold oldP; simp [h0]
    repeat' (first
      | refine awp_seqK fun K' hpK => ?_
      | refine awp_block ?_
      | refine awp_condG fun A' B' hpA hpB => ?_
      | refine useK (by with_reducible assumption) ?_
      | refine useP (by with_reducible assumption) ?_
      | refine ED_cons (fun _ => ?_) ?_
      | (refine stable_mk ?_; simp (disch := first | (with_reducible assumption) | (simp; done) | omega | (simp; omega)) [hkl, hat1, hatb1, hd0, cVS, hoo, hkk, h0]; done)
      | (refine stable_no ?_; simp (disch := first | (with_reducible assumption) | (simp; done) | omega | (simp; omega)) [hkl, hat1, hatb1, hd0, cVS, hoo, hkk, h0]; done)
      | (with_reducible refine And.intro ?_ ?_)
      | (with_reducible intro hc)
      | (with_reducible refine GDsplit (fun hc => ?_) (fun hc => ?_) <;> try simp [hc])
      | (with_reducible refine GDsplitN (fun hc => ?_) (fun hc => ?_) <;> try simp [hc])
      | (with_reducible refine GDsplitNB (fun hc => ?_) (fun hc => ?_) <;> try simp [hc])
      | (with_reducible refine GDsplitB (fun hc => ?_) (fun hc => ?_) <;> try simp [hc])
      | (with_reducible refine GKsplit (fun hc => ?_) (fun hc => ?_) <;> try simp [hc])
      | (with_reducible refine GKsplitN (fun hc => ?_) (fun hc => ?_) <;> try simp [hc])
      | (with_reducible refine GKsplitNB (fun hc => ?_) (fun hc => ?_) <;> try simp [hc])
      | (with_reducible refine GKsplitB (fun hc => ?_) (fun hc => ?_) <;> try simp [hc])
      | simp (disch := first | (with_reducible assumption) | (simp; done) | omega | (simp; omega)) [hkl, hat1, hatb1, hd0, cVS, hoo, hkk, h0])
    obtain ⟨Gn, hgo', hgk'⟩ := hgk.swap hgo
    refine hgk'.app1 (x := x) (by simp [cVS]) (by simp [cVS]) (by simp [LIM]; omega) (fun v2 G2 hg2 => ?_)
    have hv2 := hg2.plain
    obtain ⟨Gq, hgk2, hgo2⟩ := hgo'.swap hg2
    repeat' (first
      | refine awp_seqK fun K' hpK => ?_
      | refine awp_block ?_
      | refine awp_condG fun A' B' hpA hpB => ?_
      | refine useK (by with_reducible assumption) ?_
      | refine useP (by with_reducible assumption) ?_
      | refine ED_cons (fun _ => ?_) ?_
      | (refine stable_mk ?_; simp (disch := first | (with_reducible assumption) | (simp; done) | omega | (simp; omega)) [hv2, hoo]; done)
      | (refine stable_no ?_; simp (disch := first | (with_reducible assumption) | (simp; done) | omega | (simp; omega)) [hv2, hoo]; done)
      | (with_reducible refine And.intro ?_ ?_)
      | (with_reducible intro hc)
      | (with_reducible refine GDsplit (fun hc => ?_) (fun hc => ?_) <;> try simp [hc])
      | (with_reducible refine GDsplitN (fun hc => ?_) (fun hc => ?_) <;> try simp [hc])
      | (with_reducible refine GDsplitNB (fun hc => ?_) (fun hc => ?_) <;> try simp [hc])
      | (with_reducible refine GDsplitB (fun hc => ?_) (fun hc => ?_) <;> try simp [hc])
      | (with_reducible refine GKsplit (fun hc => ?_) (fun hc => ?_) <;> try simp [hc])
      | (with_reducible refine GKsplitN (fun hc => ?_) (fun hc => ?_) <;> try simp [hc])
      | (with_reducible refine GKsplitNB (fun hc => ?_) (fun hc => ?_) <;> try simp [hc])
      | (with_reducible refine GKsplitB (fun hc => ?_) (fun hc => ?_) <;> try simp [hc])
      | simp (disch := first | (with_reducible assumption) | (simp; done) | omega | (simp; omega)) [hv2, hoo])
    exact hN (w - 1) _ _ (by omega) ⟨k + 1, oo, v2, Gq, by omega, by rw [e2F hq]; exact hgk2, by rw [e1F hq]; exact hgo2, by simp⟩
  · rw [List.take_of_length_le (by omega)] at hgk hgo
    have hkn := hgk.known
    have hks := hgk.scal
    have hkc := hgk.cells
    have hat2 : uni emptyH G rb = some (0, rc K U out) := hat
    repeat' (first
      | refine awp_seqK fun K' hpK => ?_
      | refine awp_block ?_
      | refine awp_condG fun A' B' hpA hpB => ?_
      | refine useK (by with_reducible assumption) ?_
      | refine useP (by with_reducible assumption) ?_
      | refine ED_cons (fun _ => ?_) ?_
      | (refine stable_mk ?_; simp (disch := first | (with_reducible assumption) | (simp; done) | omega | (simp; omega)) [hkl, hoo, hkk, hat1, hrl, hkn, hks, hkc]; done)
      | (refine stable_no ?_; simp (disch := first | (with_reducible assumption) | (simp; done) | omega | (simp; omega)) [hkl, hoo, hkk, hat1, hrl, hkn, hks, hkc]; done)
      | (with_reducible refine And.intro ?_ ?_)
      | (with_reducible intro hc)
      | (with_reducible refine GDsplit (fun hc => ?_) (fun hc => ?_) <;> try simp [hc])
      | (with_reducible refine GDsplitN (fun hc => ?_) (fun hc => ?_) <;> try simp [hc])
      | (with_reducible refine GDsplitNB (fun hc => ?_) (fun hc => ?_) <;> try simp [hc])
      | (with_reducible refine GDsplitB (fun hc => ?_) (fun hc => ?_) <;> try simp [hc])
      | (with_reducible refine GKsplit (fun hc => ?_) (fun hc => ?_) <;> try simp [hc])
      | (with_reducible refine GKsplitN (fun hc => ?_) (fun hc => ?_) <;> try simp [hc])
      | (with_reducible refine GKsplitNB (fun hc => ?_) (fun hc => ?_) <;> try simp [hc])
      | (with_reducible refine GKsplitB (fun hc => ?_) (fun hc => ?_) <;> try simp [hc])
      | simp (disch := first | (with_reducible assumption) | (simp; done) | omega | (simp; omega)) [hkl, hoo, hkk, hat1, hrl, hkn, hks, hkc])
    rw [← uni_e G] at hgk
    obtain ⟨hn, r, hsub, hdn, hgn, hz, hr⟩ := Grow.sieve (o' := (0, rc K U kk)) rfl hat2 hgk hgo (by simp)
    rw [uni_e] at hsub hz
    have es := rc_set (out := out) (o := kk) hJ.1 hJ.2.1
    simp only [List.singleton_append] at es ⊢
    rw [es]
    exact ends_fr1 (by simp <;> rfl) hoo hsub hz (hpost _ _ ⟨⟨K, U, kk, hJ, hgn⟩, r, rfl, hr⟩)
end Go.Proofs.Ytapocekfkbkefaa
