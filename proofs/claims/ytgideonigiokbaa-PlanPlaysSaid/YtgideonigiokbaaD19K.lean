import Derived.Test.YtgideonigiokbaaD18K
set_option linter.unusedSimpArgs false
set_option linter.unusedVariables false
namespace Go.Proofs.Ytgideonigiokbaa
open Go Go.Al
set_option maxRecDepth 20000
attribute [local irreducible] awp aops aopsD eop pv ACalls CallK AppK AEnds ti

set_option maxHeartbeats 8000000 in
theorem planPlays_c {l : Option (List Oc)} {retry : Int} (hll : (LL l).length ≤ 140737488355328) (hpl : ∀ o ∈ LL l, (LL o.v.path).length ≤ 140737488355328) : ACalls Try.prog 5 [.int .i64 retry, ofS cOc l] emptyH fun r G' => G' = emptyH ∧ r = .bool true := by
  refine ACalls.hide fun post hpost => ?_
  refine F5_in (by simp) (by simp) fun hbd => ?_
  repeat' (first
    | refine awp_seqK fun K' hpK => ?_
    | refine awp_block ?_
    | refine awp_condG fun A' B' hpA hpB => ?_
    | refine useK (by with_reducible assumption) ?_
    | refine useP (by with_reducible assumption) ?_
    | refine ED_cons (fun _ => ?_) ?_
    | (refine stable_mk ?_; simp (disch := first | (with_reducible assumption) | (simp; done) | omega | (simp; omega)); done)
    | (refine stable_no ?_; simp (disch := first | (with_reducible assumption) | (simp; done) | omega | (simp; omega)); done)
    | (with_reducible refine And.intro ?_ ?_)
    | (with_reducible intro hc)
    | (with_reducible refine GDsplit (fun hc => ?_) (fun hc => ?_) <;> try simp [hc])
    | (with_reducible refine GDsplitN (fun hc => ?_) (fun hc => ?_) <;> try simp [hc])
    | (with_reducible refine GDsplitNB (fun hc => ?_) (fun hc => ?_) <;> try simp [hc])
    | (with_reducible refine GDsplitB (fun hc => ?_) (fun hc => ?_) <;> try simp [hc])
    | (with_reducible refine GKsplit (fun hc => ?_) (fun hc => ?_) <;> try simp [hc])
    | (with_reducible refine GKsplitN (fun hc => ?_) (fun hc => ?_) <;> try simp [hc])
    | (with_reducible refine GKsplitNB (fun hc => ?_) (fun hc => ?_) <;> try simp [hc])
    | (with_reducible refine GKsplitB (fun hc => ?_) (fun hc => ?_) <;> try simp [hc])
    | (refine CallK.use (new_c) ?_; rintro r G' _ _ ⟨pb, rfl, hV⟩)
    | simp (disch := first | (with_reducible assumption) | (simp; done) | omega | (simp; omega)))
  rw [← uni_empty G']
  refine CallK.fr rnew_c (dis_empty _) ?_
  rintro r hr hdis _ _ ⟨rb, rfl, hR⟩
  repeat' (first
    | refine awp_seqK fun K' hpK => ?_
    | refine awp_block ?_
    | refine awp_condG fun A' B' hpA hpB => ?_
    | refine useK (by with_reducible assumption) ?_
    | refine useP (by with_reducible assumption) ?_
    | refine ED_cons (fun _ => ?_) ?_
    | (refine stable_mk ?_; simp (disch := first | (with_reducible assumption) | (simp; done) | omega | (simp; omega)); done)
    | (refine stable_no ?_; simp (disch := first | (with_reducible assumption) | (simp; done) | omega | (simp; omega)); done)
    | (with_reducible refine And.intro ?_ ?_)
    | (with_reducible intro hc)
    | (with_reducible refine GDsplit (fun hc => ?_) (fun hc => ?_) <;> try simp [hc])
    | (with_reducible refine GDsplitN (fun hc => ?_) (fun hc => ?_) <;> try simp [hc])
    | (with_reducible refine GDsplitNB (fun hc => ?_) (fun hc => ?_) <;> try simp [hc])
    | (with_reducible refine GDsplitB (fun hc => ?_) (fun hc => ?_) <;> try simp [hc])
    | (with_reducible refine GKsplit (fun hc => ?_) (fun hc => ?_) <;> try simp [hc])
    | (with_reducible refine GKsplitN (fun hc => ?_) (fun hc => ?_) <;> try simp [hc])
    | (with_reducible refine GKsplitNB (fun hc => ?_) (fun hc => ?_) <;> try simp [hc])
    | (with_reducible refine GKsplitB (fun hc => ?_) (fun hc => ?_) <;> try simp [hc])
    | simp (disch := first | (with_reducible assumption) | (simp; done) | omega | (simp; omega)))
  refine awp_loop' (fun w T G => ∃ (k : Nat) (now sq : Int) (L : List (Int × On)) (M : List On) (hv hr : Hp), k + w = (LL l).length ∧ 0 ≤ now ∧ now ≤ 15 * k ∧ L.length ≤ k ∧ k ≤ 40 ∧ 0 ≤ sq ∧ sq ≤ k ∧ G = uni hv hr ∧ Dis hv hr ∧ TH pb hv L (clR retry) sq ∧ RH rb hr M (clR retry) sq ∧ JR L M ∧ T = ofL [(5, .ptr pb 0), (6, .ptr rb 0), (7, .int .i64 now), (14, ofS cOc l), (15, .int .i64 (LL l).length), (16, .int .i64 k)]) (LL l).length ⟨0, 0, 0, [], [], _, _, by omega, by omega, by omega, by simp, by omega, by omega, by omega, rfl, hdis, hV, hR, JR.nil, by simp⟩ ?_
  clear hV hR hdis
  rintro w T G ⟨k, now, sq, L, M, hv, hr, hk, t0, t1, hL, h40, s0, s1, rfl, hdis, hV, hR, hJ, rfl⟩ N hN
  by_cases hkl : k < (LL l).length
  · obtain ⟨y, hy⟩ : ∃ y, y = (LL l)[k] := ⟨_, rfl⟩
    by_cases h4 : (40 : Int) ≤ k
    · repeat' (first
        | refine awp_seqK fun K' hpK => ?_
        | refine awp_block ?_
        | refine awp_condG fun A' B' hpA hpB => ?_
        | refine useK (by with_reducible assumption) ?_
        | refine useP (by with_reducible assumption) ?_
        | refine ED_cons (fun _ => ?_) ?_
        | (refine stable_mk ?_; simp (disch := first | (with_reducible assumption) | (simp; done) | omega | (simp; omega)) [hkl, h4, ofS_idx (f := cOc), cOc, ← hy]; done)
        | (refine stable_no ?_; simp (disch := first | (with_reducible assumption) | (simp; done) | omega | (simp; omega)) [hkl, h4, ofS_idx (f := cOc), cOc, ← hy]; done)
        | (with_reducible refine And.intro ?_ ?_)
        | (with_reducible intro hc)
        | (with_reducible refine GDsplit (fun hc => ?_) (fun hc => ?_) <;> try simp [hc])
        | (with_reducible refine GDsplitN (fun hc => ?_) (fun hc => ?_) <;> try simp [hc])
        | (with_reducible refine GDsplitNB (fun hc => ?_) (fun hc => ?_) <;> try simp [hc])
        | (with_reducible refine GDsplitB (fun hc => ?_) (fun hc => ?_) <;> try simp [hc])
        | (with_reducible refine GKsplit (fun hc => ?_) (fun hc => ?_) <;> try simp [hc])
        | (with_reducible refine GKsplitN (fun hc => ?_) (fun hc => ?_) <;> try simp [hc])
        | (with_reducible refine GKsplitNB (fun hc => ?_) (fun hc => ?_) <;> try simp [hc])
        | (with_reducible refine GKsplitB (fun hc => ?_) (fun hc => ?_) <;> try simp [hc])
        | (refine CallK.use (awake_c _) ?_; rintro r G' _ _ ⟨rfl, rfl⟩)
        | simp (disch := first | (with_reducible assumption) | (simp; done) | omega | (simp; omega)) [hkl, h4, ofS_idx (f := cOc), cOc, ← hy])
      exact ends_drop (by simp <;> rfl) (by simp) (hpost _ _ ⟨rfl, rfl⟩)
    · obtain ⟨q, hq, hs2⟩ : ∃ q : Nat, q ≤ 15 ∧ ibits .and .i64 y.t 15 = some (q : Int) := andM (c := 15) (by omega) y.t
      obtain ⟨Q1, hQ1, sc⟩ := hideQ (step_c (o := y) (now := now + q) hdis hV hR hJ (by omega) s0 (by omega) (hpl y (by rw [hy]; exact List.getElem_mem _)))
      simp only [Oc.av] at sc
      have hw : IntKind.i64.wrap (now + q) = now + q := by rw [IntKind.wrap_i64]; omega
      repeat' (first
        | refine awp_seqK fun K' hpK => ?_
        | refine awp_block ?_
        | refine awp_condG fun A' B' hpA hpB => ?_
        | refine useK (by with_reducible assumption) ?_
        | refine useP (by with_reducible assumption) ?_
        | refine ED_cons (fun _ => ?_) ?_
        | (refine stable_mk ?_; simp (disch := first | (with_reducible assumption) | (simp; done) | omega | (simp; omega)) [hkl, h4, ofS_idx (f := cOc), cOc, ← hy, hs2, hw]; done)
        | (refine stable_no ?_; simp (disch := first | (with_reducible assumption) | (simp; done) | omega | (simp; omega)) [hkl, h4, ofS_idx (f := cOc), cOc, ← hy, hs2, hw]; done)
        | (with_reducible refine And.intro ?_ ?_)
        | (with_reducible intro hc)
        | (with_reducible refine GDsplit (fun hc => ?_) (fun hc => ?_) <;> try simp [hc])
        | (with_reducible refine GDsplitN (fun hc => ?_) (fun hc => ?_) <;> try simp [hc])
        | (with_reducible refine GDsplitNB (fun hc => ?_) (fun hc => ?_) <;> try simp [hc])
        | (with_reducible refine GDsplitB (fun hc => ?_) (fun hc => ?_) <;> try simp [hc])
        | (with_reducible refine GKsplit (fun hc => ?_) (fun hc => ?_) <;> try simp [hc])
        | (with_reducible refine GKsplitN (fun hc => ?_) (fun hc => ?_) <;> try simp [hc])
        | (with_reducible refine GKsplitNB (fun hc => ?_) (fun hc => ?_) <;> try simp [hc])
        | (with_reducible refine GKsplitB (fun hc => ?_) (fun hc => ?_) <;> try simp [hc])
        | simp (disch := first | (with_reducible assumption) | (simp; done) | omega | (simp; omega)) [hkl, h4, ofS_idx (f := cOc), cOc, ← hy, hs2, hw])
      refine CallK.use sc ?_
      rintro r G2 _ _ hq1
      rw [hQ1] at hq1
      obtain ⟨hv2, hr2, L2, M2, sq2, rfl, hdis2, rfl, hV2, hR2, hJ2, k1, k2, k3⟩ := hq1
      have hML := hJ2.len
      repeat' (first
        | refine awp_seqK fun K' hpK => ?_
        | refine awp_block ?_
        | refine awp_condG fun A' B' hpA hpB => ?_
        | refine useK (by with_reducible assumption) ?_
        | refine useP (by with_reducible assumption) ?_
        | refine ED_cons (fun _ => ?_) ?_
        | (refine stable_mk ?_; simp (disch := first | (with_reducible assumption) | (simp; done) | omega | (simp; omega)); done)
        | (refine stable_no ?_; simp (disch := first | (with_reducible assumption) | (simp; done) | omega | (simp; omega)); done)
        | (with_reducible refine And.intro ?_ ?_)
        | (with_reducible intro hc)
        | (with_reducible refine GDsplit (fun hc => ?_) (fun hc => ?_) <;> try simp [hc])
        | (with_reducible refine GDsplitN (fun hc => ?_) (fun hc => ?_) <;> try simp [hc])
        | (with_reducible refine GDsplitNB (fun hc => ?_) (fun hc => ?_) <;> try simp [hc])
        | (with_reducible refine GDsplitB (fun hc => ?_) (fun hc => ?_) <;> try simp [hc])
        | (with_reducible refine GKsplit (fun hc => ?_) (fun hc => ?_) <;> try simp [hc])
        | (with_reducible refine GKsplitN (fun hc => ?_) (fun hc => ?_) <;> try simp [hc])
        | (with_reducible refine GKsplitNB (fun hc => ?_) (fun hc => ?_) <;> try simp [hc])
        | (with_reducible refine GKsplitB (fun hc => ?_) (fun hc => ?_) <;> try simp [hc])
        | simp (disch := first | (with_reducible assumption) | (simp; done) | omega | (simp; omega)))
      refine CallK.fl (waiting_c hV2 (by omega)) hdis2 ?_
      rintro r hv3 hdis3 _ _ ⟨rfl, s, rfl, hs⟩
      repeat' (first
        | refine awp_seqK fun K' hpK => ?_
        | refine awp_block ?_
        | refine awp_condG fun A' B' hpA hpB => ?_
        | refine useK (by with_reducible assumption) ?_
        | refine useP (by with_reducible assumption) ?_
        | refine ED_cons (fun _ => ?_) ?_
        | (refine stable_mk ?_; simp (disch := first | (with_reducible assumption) | (simp; done) | omega | (simp; omega)); done)
        | (refine stable_no ?_; simp (disch := first | (with_reducible assumption) | (simp; done) | omega | (simp; omega)); done)
        | (with_reducible refine And.intro ?_ ?_)
        | (with_reducible intro hc)
        | (with_reducible refine GDsplit (fun hc => ?_) (fun hc => ?_) <;> try simp [hc])
        | (with_reducible refine GDsplitN (fun hc => ?_) (fun hc => ?_) <;> try simp [hc])
        | (with_reducible refine GDsplitNB (fun hc => ?_) (fun hc => ?_) <;> try simp [hc])
        | (with_reducible refine GDsplitB (fun hc => ?_) (fun hc => ?_) <;> try simp [hc])
        | (with_reducible refine GKsplit (fun hc => ?_) (fun hc => ?_) <;> try simp [hc])
        | (with_reducible refine GKsplitN (fun hc => ?_) (fun hc => ?_) <;> try simp [hc])
        | (with_reducible refine GKsplitNB (fun hc => ?_) (fun hc => ?_) <;> try simp [hc])
        | (with_reducible refine GKsplitB (fun hc => ?_) (fun hc => ?_) <;> try simp [hc])
        | simp (disch := first | (with_reducible assumption) | (simp; done) | omega | (simp; omega)))
      refine CallK.fr (rwaiting_c hR2 (by omega)) hdis3 ?_
      rintro r hr3 hdis4 _ _ ⟨rfl, s3, rfl, hs3⟩
      repeat' (first
        | refine awp_seqK fun K' hpK => ?_
        | refine awp_block ?_
        | refine awp_condG fun A' B' hpA hpB => ?_
        | refine useK (by with_reducible assumption) ?_
        | refine useP (by with_reducible assumption) ?_
        | refine ED_cons (fun _ => ?_) ?_
        | (refine stable_mk ?_; simp (disch := first | (with_reducible assumption) | (simp; done) | omega | (simp; omega)); done)
        | (refine stable_no ?_; simp (disch := first | (with_reducible assumption) | (simp; done) | omega | (simp; omega)); done)
        | (with_reducible refine And.intro ?_ ?_)
        | (with_reducible intro hc)
        | (with_reducible refine GDsplit (fun hc => ?_) (fun hc => ?_) <;> try simp [hc])
        | (with_reducible refine GDsplitN (fun hc => ?_) (fun hc => ?_) <;> try simp [hc])
        | (with_reducible refine GDsplitNB (fun hc => ?_) (fun hc => ?_) <;> try simp [hc])
        | (with_reducible refine GDsplitB (fun hc => ?_) (fun hc => ?_) <;> try simp [hc])
        | (with_reducible refine GKsplit (fun hc => ?_) (fun hc => ?_) <;> try simp [hc])
        | (with_reducible refine GKsplitN (fun hc => ?_) (fun hc => ?_) <;> try simp [hc])
        | (with_reducible refine GKsplitNB (fun hc => ?_) (fun hc => ?_) <;> try simp [hc])
        | (with_reducible refine GKsplitB (fun hc => ?_) (fun hc => ?_) <;> try simp [hc])
        | (refine CallK.use (nums_c (a := s) (b := s3) (by rw [hs, hs3]; exact hJ2.ids) (by rw [hs, List.length_map]; omega)) ?_; rintro r G' _ _ ⟨rfl, rfl⟩)
        | simp (disch := first | (with_reducible assumption) | (simp; done) | omega | (simp; omega)))
      exact hN (w - 1) _ _ (by omega) ⟨k + 1, now + q, sq2, L2, M2, _, _, by omega, by omega, by omega, by omega, by omega, by omega, by omega, rfl, hdis4, hV2, hR2, hJ2, by simp⟩
  · repeat' (first
      | refine awp_seqK fun K' hpK => ?_
      | refine awp_block ?_
      | refine awp_condG fun A' B' hpA hpB => ?_
      | refine useK (by with_reducible assumption) ?_
      | refine useP (by with_reducible assumption) ?_
      | refine ED_cons (fun _ => ?_) ?_
      | (refine stable_mk ?_; simp (disch := first | (with_reducible assumption) | (simp; done) | omega | (simp; omega)) [hkl]; done)
      | (refine stable_no ?_; simp (disch := first | (with_reducible assumption) | (simp; done) | omega | (simp; omega)) [hkl]; done)
      | (with_reducible refine And.intro ?_ ?_)
      | (with_reducible intro hc)
      | (with_reducible refine GDsplit (fun hc => ?_) (fun hc => ?_) <;> try simp [hc])
      | (with_reducible refine GDsplitN (fun hc => ?_) (fun hc => ?_) <;> try simp [hc])
      | (with_reducible refine GDsplitNB (fun hc => ?_) (fun hc => ?_) <;> try simp [hc])
      | (with_reducible refine GDsplitB (fun hc => ?_) (fun hc => ?_) <;> try simp [hc])
      | (with_reducible refine GKsplit (fun hc => ?_) (fun hc => ?_) <;> try simp [hc])
      | (with_reducible refine GKsplitN (fun hc => ?_) (fun hc => ?_) <;> try simp [hc])
      | (with_reducible refine GKsplitNB (fun hc => ?_) (fun hc => ?_) <;> try simp [hc])
      | (with_reducible refine GKsplitB (fun hc => ?_) (fun hc => ?_) <;> try simp [hc])
      | (refine CallK.use (awake_c _) ?_; rintro r G' _ _ ⟨rfl, rfl⟩)
      | simp (disch := first | (with_reducible assumption) | (simp; done) | omega | (simp; omega)) [hkl])
    exact ends_drop (by simp <;> rfl) (by simp) (hpost _ _ ⟨rfl, rfl⟩)
abbrev LT := Int × Int × Int × Int × Int × Int × Int × Int × Int × Unit
abbrev OT := Int × FT × LT × Int × Int × Int × Int × Int × Int × Int × Int × Unit
def toOc (x : OT) : Oc := ⟨x.1, ⟨x.2.1.1, x.2.1.2.1, x.2.1.2.2.1.1, x.2.1.2.2.1.2.1, x.2.1.2.2.1.2.2.1, x.2.1.2.2.1.2.2.2.1, x.2.1.2.2.1.2.2.2.2.1, x.2.1.2.2.1.2.2.2.2.2.1, x.2.1.2.2.1.2.2.2.2.2.2.1, x.2.1.2.2.2.1.1, x.2.1.2.2.2.1.2.1, x.2.1.2.2.2.2.1.1, x.2.1.2.2.2.2.1.2.1, x.2.1.2.2.2.2.2.1.1, x.2.1.2.2.2.2.2.1.2.1, x.2.1.2.2.2.2.2.2.1.1, x.2.1.2.2.2.2.2.2.1.2.1, x.2.1.2.2.2.2.2.2.2.1, x.2.1.2.2.2.2.2.2.2.2.1, x.2.1.2.2.2.2.2.2.2.2.2.1.map fun l => l.map toHo, x.2.2.1.1, x.2.2.1.2.1, x.2.2.1.2.2.1, x.2.2.1.2.2.2.1, x.2.2.1.2.2.2.2.1, x.2.2.1.2.2.2.2.2.1, x.2.2.1.2.2.2.2.2.2.1, x.2.2.1.2.2.2.2.2.2.2.1, x.2.2.1.2.2.2.2.2.2.2.2.1, x.2.2.2.1, x.2.2.2.2.1, 0, 0, false, 0⟩, x.2.2.2.2.2.1, x.2.2.2.2.2.2.1, x.2.2.2.2.2.2.2.1, x.2.2.2.2.2.2.2.2.1, x.2.2.2.2.2.2.2.2.2.1, x.2.2.2.2.2.2.2.2.2.2.1⟩
def cellO (x : OT) : List AV := [.int .i64 x.1, .int .u32 x.2.1.1, .int .u32 x.2.1.2.1, .int .u64 x.2.1.2.2.1.1, .int .u64 x.2.1.2.2.1.2.1, .int .u32 x.2.1.2.2.1.2.2.1, .int .u32 x.2.1.2.2.1.2.2.2.1, .int .i64 x.2.1.2.2.1.2.2.2.2.1, .int .i64 x.2.1.2.2.1.2.2.2.2.2.1, .int .i64 x.2.1.2.2.1.2.2.2.2.2.2.1, .int .i64 x.2.1.2.2.2.1.1, .int .i64 x.2.1.2.2.2.1.2.1, .int .i64 x.2.1.2.2.2.2.1.1, .int .i64 x.2.1.2.2.2.2.1.2.1, .str x.2.1.2.2.2.2.2.1.1, .str x.2.1.2.2.2.2.2.1.2.1, .str x.2.1.2.2.2.2.2.2.1.1, .str x.2.1.2.2.2.2.2.2.1.2.1, .int .i64 x.2.1.2.2.2.2.2.2.2.1, .int .i64 x.2.1.2.2.2.2.2.2.2.2.1, ofS (fun x : HT => [AV.int .i64 x.1, .int .i64 x.2.1, .int .i64 x.2.2.1]) x.2.1.2.2.2.2.2.2.2.2.2.1, .int .u32 x.2.2.1.1, .int .u32 x.2.2.1.2.1, .int .u32 x.2.2.1.2.2.1, .int .u32 x.2.2.1.2.2.2.1, .int .u32 x.2.2.1.2.2.2.2.1, .int .u32 x.2.2.1.2.2.2.2.2.1, .int .u32 x.2.2.1.2.2.2.2.2.2.1, .int .u32 x.2.2.1.2.2.2.2.2.2.2.1, .int .u32 x.2.2.1.2.2.2.2.2.2.2.2.1, .int .i64 x.2.2.2.1, .int .i64 x.2.2.2.2.1, .int .i64 x.2.2.2.2.2.1, .int .u32 x.2.2.2.2.2.2.1, .int .u32 x.2.2.2.2.2.2.2.1, .int .u32 x.2.2.2.2.2.2.2.2.1, .int .i64 x.2.2.2.2.2.2.2.2.2.1, .int .i64 x.2.2.2.2.2.2.2.2.2.2.1]
theorem oc_cells (x : OT) : cOc (toOc x) = cellO x := by
  simp only [cOc, toOc, ofS_ho]
  rfl
theorem ofS_oc (s : Option (List OT)) : ofS cOc (s.map fun l => l.map toOc) = ofS cellO s := by
  cases s with
  | none => rfl
  | some l =>
    simp only [Option.map_some, ofS, List.length_map, List.flatMap_map]
    rw [show cellO = fun x => cOc (toOc x) from funext fun x => (oc_cells x).symm]
theorem LL_oc (s : Option (List OT)) : LL (s.map fun l => l.map toOc) = (LL s).map toOc := by cases s <;> rfl
theorem planPlays_d (z0 : Int) (z1 : Option (List OT)) (h1 : (LL z1).length ≤ 140737488355328) (h2 : ∀ x ∈ LL z1, (LL x.2.1.2.2.2.2.2.2.2.2.2.1).length ≤ 140737488355328) : ACalls Try.prog 5 [.int .i64 z0, ofS cellO z1] emptyH fun r G' => G' = emptyH ∧ r = .bool true := by
  rw [← ofS_oc]
  refine planPlays_c (by rw [LL_oc, List.length_map]; exact h1) ?_
  intro o ho
  rw [LL_oc] at ho
  obtain ⟨x, hx, rfl⟩ := List.mem_map.1 ho
  show (LL (Option.map _ _)).length ≤ _
  rw [LL_ho]
  exact h2 x hx
theorem planPlays_law (z0 : (TD.int .i64).T) (z1 : (TD.slc (TD.two (.int .i64) (.two (.two (.int .u32) (.two (.int .u32) (.two (.two (.int .u64) (.two (.int .u64) (.two (.int .u32) (.two (.int .u32) (.two (.int .i64) (.two (.int .i64) (.two (.int .i64) .unit))))))) (.two (.two (.int .i64) (.two (.int .i64) .unit)) (.two (.two (.int .i64) (.two (.int .i64) .unit)) (.two (.two .str (.two .str .unit)) (.two (.two .str (.two .str .unit)) (.two (.int .i64) (.two (.int .i64) (.two (.slc (.two (.int .i64) (.two (.int .i64) (.two (.int .i64) .unit)))) .unit)))))))))) (.two (.two (.int .u32) (.two (.int .u32) (.two (.int .u32) (.two (.int .u32) (.two (.int .u32) (.two (.int .u32) (.two (.int .u32) (.two (.int .u32) (.two (.int .u32) .unit))))))))) (.two (.int .i64) (.two (.int .i64) (.two (.int .i64) (.two (.int .u32) (.two (.int .u32) (.two (.int .u32) (.two (.int .i64) (.two (.int .i64) .unit)))))))))))).T) (o0 : (TD.int .i64).ok z0) (o1 : (TD.slc (TD.two (.int .i64) (.two (.two (.int .u32) (.two (.int .u32) (.two (.two (.int .u64) (.two (.int .u64) (.two (.int .u32) (.two (.int .u32) (.two (.int .i64) (.two (.int .i64) (.two (.int .i64) .unit))))))) (.two (.two (.int .i64) (.two (.int .i64) .unit)) (.two (.two (.int .i64) (.two (.int .i64) .unit)) (.two (.two .str (.two .str .unit)) (.two (.two .str (.two .str .unit)) (.two (.int .i64) (.two (.int .i64) (.two (.slc (.two (.int .i64) (.two (.int .i64) (.two (.int .i64) .unit)))) .unit)))))))))) (.two (.two (.int .u32) (.two (.int .u32) (.two (.int .u32) (.two (.int .u32) (.two (.int .u32) (.two (.int .u32) (.two (.int .u32) (.two (.int .u32) (.two (.int .u32) .unit))))))))) (.two (.int .i64) (.two (.int .i64) (.two (.int .i64) (.two (.int .u32) (.two (.int .u32) (.two (.int .u32) (.two (.int .i64) (.two (.int .i64) .unit)))))))))))).ok z1) : ACalls Try.prog 5 [(TD.int .i64).av z0, (TD.slc (TD.two (.int .i64) (.two (.two (.int .u32) (.two (.int .u32) (.two (.two (.int .u64) (.two (.int .u64) (.two (.int .u32) (.two (.int .u32) (.two (.int .i64) (.two (.int .i64) (.two (.int .i64) .unit))))))) (.two (.two (.int .i64) (.two (.int .i64) .unit)) (.two (.two (.int .i64) (.two (.int .i64) .unit)) (.two (.two .str (.two .str .unit)) (.two (.two .str (.two .str .unit)) (.two (.int .i64) (.two (.int .i64) (.two (.slc (.two (.int .i64) (.two (.int .i64) (.two (.int .i64) .unit)))) .unit)))))))))) (.two (.two (.int .u32) (.two (.int .u32) (.two (.int .u32) (.two (.int .u32) (.two (.int .u32) (.two (.int .u32) (.two (.int .u32) (.two (.int .u32) (.two (.int .u32) .unit))))))))) (.two (.int .i64) (.two (.int .i64) (.two (.int .i64) (.two (.int .u32) (.two (.int .u32) (.two (.int .u32) (.two (.int .i64) (.two (.int .i64) .unit)))))))))))).av z1] emptyH fun r G' => G' = emptyH ∧ r = .bool true :=
  planPlays_d z0 z1 o1.1 fun x hx => (o1.2 x hx).2.1.2.2.2.2.2.2.2.2.2.1.1
end Go.Proofs.Ytgideonigiokbaa
