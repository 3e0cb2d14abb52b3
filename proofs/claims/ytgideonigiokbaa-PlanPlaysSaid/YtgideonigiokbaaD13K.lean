import Derived.Test.YtgideonigiokbaaD12K
set_option linter.unusedSimpArgs false
set_option linter.unusedVariables false
namespace Go.Proofs.Ytgideonigiokbaa
open Go Go.Al
set_option maxRecDepth 20000
attribute [local irreducible] awp aops aopsD eop pv ACalls CallK AppK AEnds ti

/-- the reference's plans -/
def RO (out : AV) (rt sq : Int) : Nat × List AV := (0, [out, .int .i64 rt, .int .u32 sq])
def RHB (rb : Nat) (G : Hp) (out : AV) (M : List On) (rt sq : Int) : Prop := Grow cVO 35 (one rb (RO out rt sq)) G out M
def RH (rb : Nat) (G : Hp) (M : List On) (rt sq : Int) : Prop := ∃ out, RHB rb G out M rt sq
theorem RHB.at {rb : Nat} {G : Hp} {out : AV} {M : List On} {rt sq : Int} (h : RHB rb G out M rt sq) : G rb = some (0, [out, .int .i64 rt, .int .u32 sq]) := Grow.base h (one_same ..)
theorem cVO_x (x : On) : cVO x = [.int .u32 x.id, .int .u32 x.ep, .int .u64 x.k1, .int .u64 x.k2, .int .u32 x.k3, .int .u32 x.k4, .int .i64 x.k5, .int .i64 x.k6, .int .i64 x.k7, .int .i64 x.f1, .int .i64 x.f2, .int .i64 x.t1, .int .i64 x.t2, .str x.su, .str x.sh, .str x.du, .str x.dh, .int .i64 x.act, .int .i64 x.rule, ofS cHo x.path, .int .u32 x.l0, .int .u32 x.l1, .int .u32 x.l2, .int .u32 x.l3, .int .u32 x.l4, .int .u32 x.l5, .int .u32 x.l6, .int .u32 x.l7, .int .u32 x.l8, .int .i64 x.idle, .int .i64 x.hard, .int .i64 x.at_, .int .u32 x.seq, .bool x.said, .int .i64 x.when] := rfl
theorem rnew_c {r0 : Int} : ACalls Try.prog 15 [.int .i64 r0] emptyH fun r G' => ∃ rb, r = .ptr rb 0 ∧ RH rb G' [] (clR r0) 0 := by
  have fin : ∀ {rb : Nat} {x : Int}, x = clR r0 → RH rb (setH emptyH rb (some (0, [.nils, .int .i64 x, .int .u32 0]))) [] (clR r0) 0 := by
    intro rb x e; subst e; exact ⟨.nils, Grow.nil _ _⟩
  by_cases h1 : r0 < 1
  · refine ACalls.hide fun post hpost => ?_
    refine F15_in (by simp) (by simp) fun hbd => ?_
    repeat' (first
      | refine awp_seqK fun K' hpK => ?_
      | refine awp_block ?_
      | refine awp_condG fun A' B' hpA hpB => ?_
      | refine useK (by with_reducible assumption) ?_
      | refine useP (by with_reducible assumption) ?_
      | refine ED_cons (fun _ => ?_) ?_
      | (refine stable_mk ?_; simp (disch := first | (with_reducible assumption) | (simp; done) | omega | (simp; omega)) [h1]; done)
      | (refine stable_no ?_; simp (disch := first | (with_reducible assumption) | (simp; done) | omega | (simp; omega)) [h1]; done)
      | (with_reducible refine And.intro ?_ ?_)
      | (with_reducible intro hc)
      | (with_reducible refine GDsplit (fun hc => ?_) (fun hc => ?_) <;> try simp [hc])
      | (with_reducible refine GDsplitN (fun hc => ?_) (fun hc => ?_) <;> try simp [hc])
      | (with_reducible refine GDsplitNB (fun hc => ?_) (fun hc => ?_) <;> try simp [hc])
      | (with_reducible refine GDsplitB (fun hc => ?_) (fun hc => ?_) <;> try simp [hc])
      | (with_reducible refine GKsplit (fun hc => ?_) (fun hc => ?_) <;> try simp [hc])
      | (with_reducible refine GKsplitN (fun hc => ?_) (fun hc => ?_) <;> try simp [hc])
      | (with_reducible refine GKsplitNB (fun hc => ?_) (fun hc => ?_) <;> try simp [hc])
      | (with_reducible refine GKsplitB (fun hc => ?_) (fun hc => ?_) <;> try simp [hc])
      | simp (disch := first | (with_reducible assumption) | (simp; done) | omega | (simp; omega)) [h1])
    intro rb hrb
    refine ⟨0, ?_⟩
    repeat' (first
      | refine awp_seqK fun K' hpK => ?_
      | refine awp_block ?_
      | refine awp_condG fun A' B' hpA hpB => ?_
      | refine useK (by with_reducible assumption) ?_
      | refine useP (by with_reducible assumption) ?_
      | refine ED_cons (fun _ => ?_) ?_
      | (refine stable_mk ?_; simp (disch := first | (with_reducible assumption) | (simp; done) | omega | (simp; omega)); done)
      | (refine stable_no ?_; simp (disch := first | (with_reducible assumption) | (simp; done) | omega | (simp; omega)); done)
      | (with_reducible refine And.intro ?_ ?_)
      | (with_reducible intro hc)
      | (with_reducible refine GDsplit (fun hc => ?_) (fun hc => ?_) <;> try simp [hc])
      | (with_reducible refine GDsplitN (fun hc => ?_) (fun hc => ?_) <;> try simp [hc])
      | (with_reducible refine GDsplitNB (fun hc => ?_) (fun hc => ?_) <;> try simp [hc])
      | (with_reducible refine GDsplitB (fun hc => ?_) (fun hc => ?_) <;> try simp [hc])
      | (with_reducible refine GKsplit (fun hc => ?_) (fun hc => ?_) <;> try simp [hc])
      | (with_reducible refine GKsplitN (fun hc => ?_) (fun hc => ?_) <;> try simp [hc])
      | (with_reducible refine GKsplitNB (fun hc => ?_) (fun hc => ?_) <;> try simp [hc])
      | (with_reducible refine GKsplitB (fun hc => ?_) (fun hc => ?_) <;> try simp [hc])
      | simp (disch := first | (with_reducible assumption) | (simp; done) | omega | (simp; omega)))
    exact ends_one (by simp <;> rfl) (by simp) (hpost _ _ ⟨rb, rfl, fin (by unfold clR; rw [if_pos h1])⟩)
  · by_cases h2 : 65535 < r0
    · refine ACalls.hide fun post hpost => ?_
      refine F15_in (by simp) (by simp) fun hbd => ?_
      repeat' (first
        | refine awp_seqK fun K' hpK => ?_
        | refine awp_block ?_
        | refine awp_condG fun A' B' hpA hpB => ?_
        | refine useK (by with_reducible assumption) ?_
        | refine useP (by with_reducible assumption) ?_
        | refine ED_cons (fun _ => ?_) ?_
        | (refine stable_mk ?_; simp (disch := first | (with_reducible assumption) | (simp; done) | omega | (simp; omega)) [h1, h2]; done)
        | (refine stable_no ?_; simp (disch := first | (with_reducible assumption) | (simp; done) | omega | (simp; omega)) [h1, h2]; done)
        | (with_reducible refine And.intro ?_ ?_)
        | (with_reducible intro hc)
        | (with_reducible refine GDsplit (fun hc => ?_) (fun hc => ?_) <;> try simp [hc])
        | (with_reducible refine GDsplitN (fun hc => ?_) (fun hc => ?_) <;> try simp [hc])
        | (with_reducible refine GDsplitNB (fun hc => ?_) (fun hc => ?_) <;> try simp [hc])
        | (with_reducible refine GDsplitB (fun hc => ?_) (fun hc => ?_) <;> try simp [hc])
        | (with_reducible refine GKsplit (fun hc => ?_) (fun hc => ?_) <;> try simp [hc])
        | (with_reducible refine GKsplitN (fun hc => ?_) (fun hc => ?_) <;> try simp [hc])
        | (with_reducible refine GKsplitNB (fun hc => ?_) (fun hc => ?_) <;> try simp [hc])
        | (with_reducible refine GKsplitB (fun hc => ?_) (fun hc => ?_) <;> try simp [hc])
        | simp (disch := first | (with_reducible assumption) | (simp; done) | omega | (simp; omega)) [h1, h2])
      intro rb hrb
      refine ⟨0, ?_⟩
      repeat' (first
        | refine awp_seqK fun K' hpK => ?_
        | refine awp_block ?_
        | refine awp_condG fun A' B' hpA hpB => ?_
        | refine useK (by with_reducible assumption) ?_
        | refine useP (by with_reducible assumption) ?_
        | refine ED_cons (fun _ => ?_) ?_
        | (refine stable_mk ?_; simp (disch := first | (with_reducible assumption) | (simp; done) | omega | (simp; omega)); done)
        | (refine stable_no ?_; simp (disch := first | (with_reducible assumption) | (simp; done) | omega | (simp; omega)); done)
        | (with_reducible refine And.intro ?_ ?_)
        | (with_reducible intro hc)
        | (with_reducible refine GDsplit (fun hc => ?_) (fun hc => ?_) <;> try simp [hc])
        | (with_reducible refine GDsplitN (fun hc => ?_) (fun hc => ?_) <;> try simp [hc])
        | (with_reducible refine GDsplitNB (fun hc => ?_) (fun hc => ?_) <;> try simp [hc])
        | (with_reducible refine GDsplitB (fun hc => ?_) (fun hc => ?_) <;> try simp [hc])
        | (with_reducible refine GKsplit (fun hc => ?_) (fun hc => ?_) <;> try simp [hc])
        | (with_reducible refine GKsplitN (fun hc => ?_) (fun hc => ?_) <;> try simp [hc])
        | (with_reducible refine GKsplitNB (fun hc => ?_) (fun hc => ?_) <;> try simp [hc])
        | (with_reducible refine GKsplitB (fun hc => ?_) (fun hc => ?_) <;> try simp [hc])
        | simp (disch := first | (with_reducible assumption) | (simp; done) | omega | (simp; omega)))
      exact ends_one (by simp <;> rfl) (by simp) (hpost _ _ ⟨rb, rfl, fin (by unfold clR; rw [if_neg h1, if_pos h2])⟩)
    · refine ACalls.hide fun post hpost => ?_
      refine F15_in (by simp) (by simp) fun hbd => ?_
      repeat' (first
        | refine awp_seqK fun K' hpK => ?_
        | refine awp_block ?_
        | refine awp_condG fun A' B' hpA hpB => ?_
        | refine useK (by with_reducible assumption) ?_
        | refine useP (by with_reducible assumption) ?_
        | refine ED_cons (fun _ => ?_) ?_
        | (refine stable_mk ?_; simp (disch := first | (with_reducible assumption) | (simp; done) | omega | (simp; omega)) [h1, h2]; done)
        | (refine stable_no ?_; simp (disch := first | (with_reducible assumption) | (simp; done) | omega | (simp; omega)) [h1, h2]; done)
        | (with_reducible refine And.intro ?_ ?_)
        | (with_reducible intro hc)
        | (with_reducible refine GDsplit (fun hc => ?_) (fun hc => ?_) <;> try simp [hc])
        | (with_reducible refine GDsplitN (fun hc => ?_) (fun hc => ?_) <;> try simp [hc])
        | (with_reducible refine GDsplitNB (fun hc => ?_) (fun hc => ?_) <;> try simp [hc])
        | (with_reducible refine GDsplitB (fun hc => ?_) (fun hc => ?_) <;> try simp [hc])
        | (with_reducible refine GKsplit (fun hc => ?_) (fun hc => ?_) <;> try simp [hc])
        | (with_reducible refine GKsplitN (fun hc => ?_) (fun hc => ?_) <;> try simp [hc])
        | (with_reducible refine GKsplitNB (fun hc => ?_) (fun hc => ?_) <;> try simp [hc])
        | (with_reducible refine GKsplitB (fun hc => ?_) (fun hc => ?_) <;> try simp [hc])
        | simp (disch := first | (with_reducible assumption) | (simp; done) | omega | (simp; omega)) [h1, h2])
      intro rb hrb
      refine ⟨0, ?_⟩
      repeat' (first
        | refine awp_seqK fun K' hpK => ?_
        | refine awp_block ?_
        | refine awp_condG fun A' B' hpA hpB => ?_
        | refine useK (by with_reducible assumption) ?_
        | refine useP (by with_reducible assumption) ?_
        | refine ED_cons (fun _ => ?_) ?_
        | (refine stable_mk ?_; simp (disch := first | (with_reducible assumption) | (simp; done) | omega | (simp; omega)); done)
        | (refine stable_no ?_; simp (disch := first | (with_reducible assumption) | (simp; done) | omega | (simp; omega)); done)
        | (with_reducible refine And.intro ?_ ?_)
        | (with_reducible intro hc)
        | (with_reducible refine GDsplit (fun hc => ?_) (fun hc => ?_) <;> try simp [hc])
        | (with_reducible refine GDsplitN (fun hc => ?_) (fun hc => ?_) <;> try simp [hc])
        | (with_reducible refine GDsplitNB (fun hc => ?_) (fun hc => ?_) <;> try simp [hc])
        | (with_reducible refine GDsplitB (fun hc => ?_) (fun hc => ?_) <;> try simp [hc])
        | (with_reducible refine GKsplit (fun hc => ?_) (fun hc => ?_) <;> try simp [hc])
        | (with_reducible refine GKsplitN (fun hc => ?_) (fun hc => ?_) <;> try simp [hc])
        | (with_reducible refine GKsplitNB (fun hc => ?_) (fun hc => ?_) <;> try simp [hc])
        | (with_reducible refine GKsplitB (fun hc => ?_) (fun hc => ?_) <;> try simp [hc])
        | simp (disch := first | (with_reducible assumption) | (simp; done) | omega | (simp; omega)))
      exact ends_one (by simp <;> rfl) (by simp) (hpost _ _ ⟨rb, rfl, fin (by unfold clR; rw [if_neg h1, if_neg h2])⟩)
theorem rwaiting_c {rb : Nat} {G : Hp} {M : List On} {rt sq : Int} (hR : RH rb G M rt sq) (hl : M.length ≤ 1000) : ACalls Try.prog 18 [.ptr rb 0] G fun r G' => G' = G ∧ ∃ s, r = ofS cKO s ∧ LL s = M.map On.id := by
  obtain ⟨out, hg⟩ := hR
  have hat := hg.at
  have hpo := Grow.plain hg
  have hal := fun {t : TypeId} => Grow.len (P := Try.prog) (t := t) hg
  refine ACalls.hide fun post hpost => ?_
  refine F18_in (by simp) (by simp) fun hbd => ?_
  repeat' (first
    | refine awp_seqK fun K' hpK => ?_
    | refine awp_block ?_
    | refine awp_condG fun A' B' hpA hpB => ?_
    | refine useK (by with_reducible assumption) ?_
    | refine useP (by with_reducible assumption) ?_
    | refine ED_cons (fun _ => ?_) ?_
    | (refine stable_mk ?_; simp (disch := first | (with_reducible assumption) | (simp; done) | omega | (simp; omega)) [hat, hpo, hal]; done)
    | (refine stable_no ?_; simp (disch := first | (with_reducible assumption) | (simp; done) | omega | (simp; omega)) [hat, hpo, hal]; done)
    | (with_reducible refine And.intro ?_ ?_)
    | (with_reducible intro hc)
    | (with_reducible refine GDsplit (fun hc => ?_) (fun hc => ?_) <;> try simp [hc])
    | (with_reducible refine GDsplitN (fun hc => ?_) (fun hc => ?_) <;> try simp [hc])
    | (with_reducible refine GDsplitNB (fun hc => ?_) (fun hc => ?_) <;> try simp [hc])
    | (with_reducible refine GDsplitB (fun hc => ?_) (fun hc => ?_) <;> try simp [hc])
    | (with_reducible refine GKsplit (fun hc => ?_) (fun hc => ?_) <;> try simp [hc])
    | (with_reducible refine GKsplitN (fun hc => ?_) (fun hc => ?_) <;> try simp [hc])
    | (with_reducible refine GKsplitNB (fun hc => ?_) (fun hc => ?_) <;> try simp [hc])
    | (with_reducible refine GKsplitB (fun hc => ?_) (fun hc => ?_) <;> try simp [hc])
    | simp (disch := first | (with_reducible assumption) | (simp; done) | omega | (simp; omega)) [hat, hpo, hal])
  refine awp_loop' (fun w T G1 => ∃ (k : Nat) (v : AV), k + w = M.length ∧ Grow cKO 1 G G1 v ((M.take k).map On.id) ∧ T = ofL [(3, v), (9, out), (10, .int .i64 M.length), (11, .int .i64 k)]) M.length ⟨0, .nils, by omega, Grow.nil _ _, by simp⟩ ?_
  rintro w T G1 ⟨k, v, hk, hgo, rfl⟩ N hN
  have hoo := hgo.plain
  by_cases hkl : k < M.length
  · obtain ⟨b, τ, hb, rfl, hG⟩ := Grow.ms hg (by intro h; subst h; simp at hkl)
    have hatb : G b = some (τ, M.flatMap cVO) := by rw [hG, setH_same]
    have hatb1 := hgo.base hatb
    have hd0 := flat_at0 (f := cVO) (sz := 35) (by simp) hkl
    have htk := take_succ_get M k hkl
    obtain ⟨x, hx⟩ : ∃ x, x = M[k] := ⟨_, rfl⟩
    rw [← hx] at hd0 htk
    rw [cVO_x] at hd0
    repeat' (first
      | refine awp_seqK fun K' hpK => ?_
      | refine awp_block ?_
      | refine awp_condG fun A' B' hpA hpB => ?_
      | refine useK (by with_reducible assumption) ?_
      | refine useP (by with_reducible assumption) ?_
      | refine ED_cons (fun _ => ?_) ?_
      | (refine stable_mk ?_; simp (disch := first | (with_reducible assumption) | (simp; done) | omega | (simp; omega)) [hkl, hatb1, hd0, hoo]; done)
      | (refine stable_no ?_; simp (disch := first | (with_reducible assumption) | (simp; done) | omega | (simp; omega)) [hkl, hatb1, hd0, hoo]; done)
      | (with_reducible refine And.intro ?_ ?_)
      | (with_reducible intro hc)
      | (with_reducible refine GDsplit (fun hc => ?_) (fun hc => ?_) <;> try simp [hc])
      | (with_reducible refine GDsplitN (fun hc => ?_) (fun hc => ?_) <;> try simp [hc])
      | (with_reducible refine GDsplitNB (fun hc => ?_) (fun hc => ?_) <;> try simp [hc])
      | (with_reducible refine GDsplitB (fun hc => ?_) (fun hc => ?_) <;> try simp [hc])
      | (with_reducible refine GKsplit (fun hc => ?_) (fun hc => ?_) <;> try simp [hc])
      | (with_reducible refine GKsplitN (fun hc => ?_) (fun hc => ?_) <;> try simp [hc])
      | (with_reducible refine GKsplitNB (fun hc => ?_) (fun hc => ?_) <;> try simp [hc])
      | (with_reducible refine GKsplitB (fun hc => ?_) (fun hc => ?_) <;> try simp [hc])
      | simp (disch := first | (with_reducible assumption) | (simp; done) | omega | (simp; omega)) [hkl, hatb1, hd0, hoo])
    refine hgo.app1 (x := x.id) (by simp [cKO]) (by simp [cKO]) (by simp [LIM]; omega) (fun v2 G2 hg2 => ?_)
    have hv2 := hg2.plain
    repeat' (first
      | refine awp_seqK fun K' hpK => ?_
      | refine awp_block ?_
      | refine awp_condG fun A' B' hpA hpB => ?_
      | refine useK (by with_reducible assumption) ?_
      | refine useP (by with_reducible assumption) ?_
      | refine ED_cons (fun _ => ?_) ?_
      | (refine stable_mk ?_; simp (disch := first | (with_reducible assumption) | (simp; done) | omega | (simp; omega)) [hv2]; done)
      | (refine stable_no ?_; simp (disch := first | (with_reducible assumption) | (simp; done) | omega | (simp; omega)) [hv2]; done)
      | (with_reducible refine And.intro ?_ ?_)
      | (with_reducible intro hc)
      | (with_reducible refine GDsplit (fun hc => ?_) (fun hc => ?_) <;> try simp [hc])
      | (with_reducible refine GDsplitN (fun hc => ?_) (fun hc => ?_) <;> try simp [hc])
      | (with_reducible refine GDsplitNB (fun hc => ?_) (fun hc => ?_) <;> try simp [hc])
      | (with_reducible refine GDsplitB (fun hc => ?_) (fun hc => ?_) <;> try simp [hc])
      | (with_reducible refine GKsplit (fun hc => ?_) (fun hc => ?_) <;> try simp [hc])
      | (with_reducible refine GKsplitN (fun hc => ?_) (fun hc => ?_) <;> try simp [hc])
      | (with_reducible refine GKsplitNB (fun hc => ?_) (fun hc => ?_) <;> try simp [hc])
      | (with_reducible refine GKsplitB (fun hc => ?_) (fun hc => ?_) <;> try simp [hc])
      | simp (disch := first | (with_reducible assumption) | (simp; done) | omega | (simp; omega)) [hv2])
    exact hN (w - 1) _ _ (by omega) ⟨k + 1, v2, by omega, by rw [htk, List.map_append]; exact hg2, by simp⟩
  · rw [List.take_of_length_le (by omega)] at hgo
    repeat' (first
      | refine awp_seqK fun K' hpK => ?_
      | refine awp_block ?_
      | refine awp_condG fun A' B' hpA hpB => ?_
      | refine useK (by with_reducible assumption) ?_
      | refine useP (by with_reducible assumption) ?_
      | refine ED_cons (fun _ => ?_) ?_
      | (refine stable_mk ?_; simp (disch := first | (with_reducible assumption) | (simp; done) | omega | (simp; omega)) [hkl, hoo]; done)
      | (refine stable_no ?_; simp (disch := first | (with_reducible assumption) | (simp; done) | omega | (simp; omega)) [hkl, hoo]; done)
      | (with_reducible refine And.intro ?_ ?_)
      | (with_reducible intro hc)
      | (with_reducible refine GDsplit (fun hc => ?_) (fun hc => ?_) <;> try simp [hc])
      | (with_reducible refine GDsplitN (fun hc => ?_) (fun hc => ?_) <;> try simp [hc])
      | (with_reducible refine GDsplitNB (fun hc => ?_) (fun hc => ?_) <;> try simp [hc])
      | (with_reducible refine GDsplitB (fun hc => ?_) (fun hc => ?_) <;> try simp [hc])
      | (with_reducible refine GKsplit (fun hc => ?_) (fun hc => ?_) <;> try simp [hc])
      | (with_reducible refine GKsplitN (fun hc => ?_) (fun hc => ?_) <;> try simp [hc])
      | (with_reducible refine GKsplitNB (fun hc => ?_) (fun hc => ?_) <;> try simp [hc])
      | (with_reducible refine GKsplitB (fun hc => ?_) (fun hc => ?_) <;> try simp [hc])
      | simp (disch := first | (with_reducible assumption) | (simp; done) | omega | (simp; omega)) [hkl, hoo])
    obtain ⟨s, hs2, hz, hsub⟩ := hgo.frz (by simp)
    exact ends_fr1 (by simp <;> rfl) hoo hsub hz (hpost _ _ ⟨rfl, s, rfl, hs2⟩)
def updV (now rt : Int) (v : On) : On := if dueO now rt v then sayO now v else v
theorem set_mid {A B : List On} {x y : On} : (A ++ x :: B).set A.length y = A ++ y :: B := by
  induction A with
  | nil => rfl
  | cons a r ih => simp only [List.cons_append, List.length_cons, List.set_cons_succ, ih]
set_option maxHeartbeats 8000000 in
theorem rnext_c {rb : Nat} {G : Hp} {M : List On} {rt sq now : Int} (hR : RH rb G M rt sq) (hl : M.length ≤ 1000) (hok : ∀ v ∈ M, okAt v) : ACalls Try.prog 33 [.ptr rb 0, .int .i64 now] G fun r G' => RH rb G' (M.map (updV now rt)) rt sq ∧ ∃ s, r = ofS cMs s ∧ LL s = (M.filter (dueO now rt)).map nowM := by
  obtain ⟨out, hg⟩ := hR
  have hat := hg.at
  have hpo := Grow.plain hg
  have hal := fun {t : TypeId} => Grow.len (P := Try.prog) (t := t) hg
  refine ACalls.hide fun post hpost => ?_
  refine F33_in (by simp) (by simp) fun hbd => ?_
  repeat' (first
    | refine awp_seqK fun K' hpK => ?_
    | refine awp_block ?_
    | refine awp_condG fun A' B' hpA hpB => ?_
    | refine useK (by with_reducible assumption) ?_
    | refine useP (by with_reducible assumption) ?_
    | refine ED_cons (fun _ => ?_) ?_
    | (refine stable_mk ?_; simp (disch := first | (with_reducible assumption) | (simp; done) | omega | (simp; omega)) [hat, hpo, hal]; done)
    | (refine stable_no ?_; simp (disch := first | (with_reducible assumption) | (simp; done) | omega | (simp; omega)) [hat, hpo, hal]; done)
    | (with_reducible refine And.intro ?_ ?_)
    | (with_reducible intro hc)
    | (with_reducible refine GDsplit (fun hc => ?_) (fun hc => ?_) <;> try simp [hc])
    | (with_reducible refine GDsplitN (fun hc => ?_) (fun hc => ?_) <;> try simp [hc])
    | (with_reducible refine GDsplitNB (fun hc => ?_) (fun hc => ?_) <;> try simp [hc])
    | (with_reducible refine GDsplitB (fun hc => ?_) (fun hc => ?_) <;> try simp [hc])
    | (with_reducible refine GKsplit (fun hc => ?_) (fun hc => ?_) <;> try simp [hc])
    | (with_reducible refine GKsplitN (fun hc => ?_) (fun hc => ?_) <;> try simp [hc])
    | (with_reducible refine GKsplitNB (fun hc => ?_) (fun hc => ?_) <;> try simp [hc])
    | (with_reducible refine GKsplitB (fun hc => ?_) (fun hc => ?_) <;> try simp [hc])
    | simp (disch := first | (with_reducible assumption) | (simp; done) | omega | (simp; omega)) [hat, hpo, hal])
  refine awp_loop' (fun w T G1 => ∃ (j : Nat) (o2 : AV) (H : Hp), j + w = M.length ∧ RHB rb H out ((M.take j).map (updV now rt) ++ M.drop j) rt sq ∧ Grow cMs 23 H G1 o2 (((M.take j).filter (dueO now rt)).map nowM) ∧ T = ofL [(0, .ptr rb 0), (1, .int .i64 now), (5, o2), (11, out), (12, .int .i64 M.length), (13, .int .i64 j)]) M.length ⟨0, .nils, G, by omega, by simpa using hg, Grow.nil _ _, by simp⟩ ?_
  rintro w T G1 ⟨j, o2, H, hj, hH, hg2, rfl⟩ N hN
  have hv := hg2.plain
  have hat1 := hg2.base hH.at
  by_cases hjl : j < M.length
  · obtain ⟨x, hx⟩ : ∃ x, x = M[j] := ⟨_, rfl⟩
    have hox := hok x (by rw [hx]; exact List.getElem_mem _)
    have hdr : M.drop j = x :: M.drop (j + 1) := by rw [hx]; exact List.drop_eq_getElem_cons hjl
    have htk := take_succ_get M j hjl
    rw [← hx] at htk
    rw [hdr] at hH
    obtain ⟨Mj, hMj⟩ : ∃ Mj, Mj = (M.take j).map (updV now rt) ++ x :: M.drop (j + 1) := ⟨_, rfl⟩
    rw [← hMj] at hH
    have hlj : ((M.take j).map (updV now rt)).length = j := by simp; omega
    have hMl : Mj.length = M.length := by rw [hMj]; simp; omega
    have hjm : j < Mj.length := by omega
    have hxj : Mj[j] = x := by simp only [hMj]; rw [List.getElem_append_right (by omega)]; simp [Nat.min_eq_left (Nat.le_of_lt hjl)]
    obtain ⟨b, τ, hb, hout, hG⟩ := Grow.ms hH (by intro h; rw [h] at hjm; simp at hjm)
    have hatb : H b = some (τ, Mj.flatMap cVO) := by rw [hG, setH_same]
    have hatb1 := hg2.base hatb
    have hd0 := flat_at0 (f := cVO) (sz := 35) (by simp) hjm
    rw [hxj, cVO_x] at hd0
    have hlen : (Mj.flatMap cVO).length = Mj.length * 35 := flat_len (by simp) Mj
    have mc2 : ∀ G, ACalls Try.prog 41 [(sayO now x).av, .int .i64 (sayO now x).at_] G fun r G' => G' = G ∧ r = (nowM x).av := fun G => rnowM_c (v := sayO now x) (G := G) hox
    simp only [On.av, Ms.av, sayO] at mc2
    rw [hMl] at hout
    subst hout
    have hlf : ((M.take j).filter (dueO now rt)).length ≤ 1000 := Nat.le_trans (List.length_filter_le _ _) (by rw [List.length_take]; omega)
    cases hsd : x.said with
    | false =>
      have hdue : dueO now rt x = true := by unfold dueO; simp [hsd]
      have hup : updV now rt x = sayO now x := by unfold updV; rw [hdue]; rfl
      have e1 : (M.take (j + 1)).filter (dueO now rt) = (M.take j).filter (dueO now rt) ++ [x] := by rw [htk, List.filter_append]; simp [hdue]
      have e2 : (M.take (j + 1)).map (updV now rt) ++ M.drop (j + 1) = Mj.set j (sayO now x) := by
        rw [hMj, htk, List.map_append, List.map_cons, List.map_nil, hup]
        have := set_mid (A := (M.take j).map (updV now rt)) (B := M.drop (j + 1)) (x := x) (y := sayO now x)
        rw [hlj] at this
        rw [this]; simp
      have hsp : splice (Mj.flatMap cVO) (j * 35) (cVO (sayO now x)) = (Mj.set j (sayO now x)).flatMap cVO := by
        have := flat_splice (f := cVO) (sz := 35) (by simp) hjm (j := 0) (vs := cVO (sayO now x)) (y := sayO now x) (by simp) (by simp)
        simpa using this
      have hsq : (Mj.flatMap cVO).take (j * 35) ++ AV.int .u32 x.id :: AV.int .u32 x.ep :: AV.int .u64 x.k1 :: AV.int .u64 x.k2 :: AV.int .u32 x.k3 :: AV.int .u32 x.k4 :: AV.int .i64 x.k5 :: AV.int .i64 x.k6 :: AV.int .i64 x.k7 :: AV.int .i64 x.f1 :: AV.int .i64 x.f2 :: AV.int .i64 x.t1 :: AV.int .i64 x.t2 :: AV.str x.su :: AV.str x.sh :: AV.str x.du :: AV.str x.dh :: AV.int .i64 x.act :: AV.int .i64 x.rule :: ofS cHo x.path :: AV.int .u32 x.l0 :: AV.int .u32 x.l1 :: AV.int .u32 x.l2 :: AV.int .u32 x.l3 :: AV.int .u32 x.l4 :: AV.int .u32 x.l5 :: AV.int .u32 x.l6 :: AV.int .u32 x.l7 :: AV.int .u32 x.l8 :: AV.int .i64 x.idle :: AV.int .i64 x.hard :: AV.int .i64 x.at_ :: AV.int .u32 x.seq :: AV.bool true :: AV.int .i64 now :: (Mj.flatMap cVO).drop (j * 35 + 35) = (Mj.set j (sayO now x)).flatMap cVO := by
        rw [← hsp]; simp [splice, cVO_x, sayO]
      have hfit : j * 35 + (cVO (sayO now x)).length ≤ (Mj.flatMap cVO).length := by rw [hlen, cVO_len]; omega
      simp only [cVO_x, sayO] at hfit
      repeat' (first
        | refine awp_seqK fun K' hpK => ?_
        | refine awp_block ?_
        | refine awp_condG fun A' B' hpA hpB => ?_
        | refine useK (by with_reducible assumption) ?_
        | refine useP (by with_reducible assumption) ?_
        | refine ED_cons (fun _ => ?_) ?_
        | (refine stable_mk ?_; simp (disch := first | (with_reducible assumption) | (simp; done) | omega | (simp; omega)) [hsd, hjl, hat1, hatb1, hd0, hv]; done)
        | (refine stable_no ?_; simp (disch := first | (with_reducible assumption) | (simp; done) | omega | (simp; omega)) [hsd, hjl, hat1, hatb1, hd0, hv]; done)
        | (with_reducible refine And.intro ?_ ?_)
        | (with_reducible intro hc)
        | (with_reducible refine GDsplit (fun hc => ?_) (fun hc => ?_) <;> try simp [hc])
        | (with_reducible refine GDsplitN (fun hc => ?_) (fun hc => ?_) <;> try simp [hc])
        | (with_reducible refine GDsplitNB (fun hc => ?_) (fun hc => ?_) <;> try simp [hc])
        | (with_reducible refine GDsplitB (fun hc => ?_) (fun hc => ?_) <;> try simp [hc])
        | (with_reducible refine GKsplit (fun hc => ?_) (fun hc => ?_) <;> try simp [hc])
        | (with_reducible refine GKsplitN (fun hc => ?_) (fun hc => ?_) <;> try simp [hc])
        | (with_reducible refine GKsplitNB (fun hc => ?_) (fun hc => ?_) <;> try simp [hc])
        | (with_reducible refine GKsplitB (fun hc => ?_) (fun hc => ?_) <;> try simp [hc])
        | simp (disch := first | (with_reducible assumption) | (simp; done) | omega | (simp; omega)) [hsd, hjl, hat1, hatb1, hd0, hv])
      refine CallK.use (mc2 _) ?_
      rintro r G3 _ _ ⟨rfl, rfl⟩
      have hg3 := Grow.set hg2 hatb (o' := (τ, (Mj.set j (sayO now x)).flatMap cVO))
      have hH3 : RHB rb (setH H b (some (τ, (Mj.set j (sayO now x)).flatMap cVO))) (.ms b 0 M.length 35) (Mj.set j (sayO now x)) rt sq := .inr ⟨b, τ, hb, by simp [hMl], by rw [hG, setH_setH]⟩
      rw [hsq]
      repeat' (first
        | refine awp_seqK fun K' hpK => ?_
        | refine awp_block ?_
        | refine awp_condG fun A' B' hpA hpB => ?_
        | refine useK (by with_reducible assumption) ?_
        | refine useP (by with_reducible assumption) ?_
        | refine ED_cons (fun _ => ?_) ?_
        | (refine stable_mk ?_; simp (disch := first | (with_reducible assumption) | (simp; done) | omega | (simp; omega)) [hv]; done)
        | (refine stable_no ?_; simp (disch := first | (with_reducible assumption) | (simp; done) | omega | (simp; omega)) [hv]; done)
        | (with_reducible refine And.intro ?_ ?_)
        | (with_reducible intro hc)
        | (with_reducible refine GDsplit (fun hc => ?_) (fun hc => ?_) <;> try simp [hc])
        | (with_reducible refine GDsplitN (fun hc => ?_) (fun hc => ?_) <;> try simp [hc])
        | (with_reducible refine GDsplitNB (fun hc => ?_) (fun hc => ?_) <;> try simp [hc])
        | (with_reducible refine GDsplitB (fun hc => ?_) (fun hc => ?_) <;> try simp [hc])
        | (with_reducible refine GKsplit (fun hc => ?_) (fun hc => ?_) <;> try simp [hc])
        | (with_reducible refine GKsplitN (fun hc => ?_) (fun hc => ?_) <;> try simp [hc])
        | (with_reducible refine GKsplitNB (fun hc => ?_) (fun hc => ?_) <;> try simp [hc])
        | (with_reducible refine GKsplitB (fun hc => ?_) (fun hc => ?_) <;> try simp [hc])
        | simp (disch := first | (with_reducible assumption) | (simp; done) | omega | (simp; omega)) [hv])
      refine hg3.app1 (x := nowM x) rfl (by simp [cMs]) (by simp [LIM]; omega) (fun v2 G4 hg4 => ?_)
      have hv2 := hg4.plain
      repeat' (first
        | refine awp_seqK fun K' hpK => ?_
        | refine awp_block ?_
        | refine awp_condG fun A' B' hpA hpB => ?_
        | refine useK (by with_reducible assumption) ?_
        | refine useP (by with_reducible assumption) ?_
        | refine ED_cons (fun _ => ?_) ?_
        | (refine stable_mk ?_; simp (disch := first | (with_reducible assumption) | (simp; done) | omega | (simp; omega)) [hv2]; done)
        | (refine stable_no ?_; simp (disch := first | (with_reducible assumption) | (simp; done) | omega | (simp; omega)) [hv2]; done)
        | (with_reducible refine And.intro ?_ ?_)
        | (with_reducible intro hc)
        | (with_reducible refine GDsplit (fun hc => ?_) (fun hc => ?_) <;> try simp [hc])
        | (with_reducible refine GDsplitN (fun hc => ?_) (fun hc => ?_) <;> try simp [hc])
        | (with_reducible refine GDsplitNB (fun hc => ?_) (fun hc => ?_) <;> try simp [hc])
        | (with_reducible refine GDsplitB (fun hc => ?_) (fun hc => ?_) <;> try simp [hc])
        | (with_reducible refine GKsplit (fun hc => ?_) (fun hc => ?_) <;> try simp [hc])
        | (with_reducible refine GKsplitN (fun hc => ?_) (fun hc => ?_) <;> try simp [hc])
        | (with_reducible refine GKsplitNB (fun hc => ?_) (fun hc => ?_) <;> try simp [hc])
        | (with_reducible refine GKsplitB (fun hc => ?_) (fun hc => ?_) <;> try simp [hc])
        | simp (disch := first | (with_reducible assumption) | (simp; done) | omega | (simp; omega)) [hv2])
      refine hN (w - 1) _ _ (by omega) ⟨j + 1, v2, setH H b (some (τ, (Mj.set j (sayO now x)).flatMap cVO)), by omega, ?_, ?_, by simp⟩
      · rw [e2]; exact hH3
      · rw [e1, List.map_append]; exact hg4
    | true =>
      by_cases hlt : IntKind.i64.wrap (now - x.when) < rt
      · have hdue : dueO now rt x = false := by unfold dueO; simp [hsd, hlt]
        have hup : updV now rt x = x := by unfold updV; rw [hdue]; rfl
        have e1 : (M.take (j + 1)).filter (dueO now rt) = (M.take j).filter (dueO now rt) := by rw [htk, List.filter_append]; simp [hdue]
        have e2 : (M.take (j + 1)).map (updV now rt) ++ M.drop (j + 1) = Mj := by rw [hMj, htk, List.map_append, List.map_cons, List.map_nil, hup]; simp
        repeat' (first
          | refine awp_seqK fun K' hpK => ?_
          | refine awp_block ?_
          | refine awp_condG fun A' B' hpA hpB => ?_
          | refine useK (by with_reducible assumption) ?_
          | refine useP (by with_reducible assumption) ?_
          | refine ED_cons (fun _ => ?_) ?_
          | (refine stable_mk ?_; simp (disch := first | (with_reducible assumption) | (simp; done) | omega | (simp; omega)) [hsd, hlt, hjl, hat1, hatb1, hd0, hv]; done)
          | (refine stable_no ?_; simp (disch := first | (with_reducible assumption) | (simp; done) | omega | (simp; omega)) [hsd, hlt, hjl, hat1, hatb1, hd0, hv]; done)
          | (with_reducible refine And.intro ?_ ?_)
          | (with_reducible intro hc)
          | (with_reducible refine GDsplit (fun hc => ?_) (fun hc => ?_) <;> try simp [hc])
          | (with_reducible refine GDsplitN (fun hc => ?_) (fun hc => ?_) <;> try simp [hc])
          | (with_reducible refine GDsplitNB (fun hc => ?_) (fun hc => ?_) <;> try simp [hc])
          | (with_reducible refine GDsplitB (fun hc => ?_) (fun hc => ?_) <;> try simp [hc])
          | (with_reducible refine GKsplit (fun hc => ?_) (fun hc => ?_) <;> try simp [hc])
          | (with_reducible refine GKsplitN (fun hc => ?_) (fun hc => ?_) <;> try simp [hc])
          | (with_reducible refine GKsplitNB (fun hc => ?_) (fun hc => ?_) <;> try simp [hc])
          | (with_reducible refine GKsplitB (fun hc => ?_) (fun hc => ?_) <;> try simp [hc])
          | simp (disch := first | (with_reducible assumption) | (simp; done) | omega | (simp; omega)) [hsd, hlt, hjl, hat1, hatb1, hd0, hv])
        refine hN (w - 1) _ _ (by omega) ⟨j + 1, o2, H, by omega, ?_, ?_, by simp⟩
        · rw [e2]; exact hH
        · rw [e1]; exact hg2
      · have hdue : dueO now rt x = true := by unfold dueO; simp [hsd, hlt]
        have hup : updV now rt x = sayO now x := by unfold updV; rw [hdue]; rfl
        have e1 : (M.take (j + 1)).filter (dueO now rt) = (M.take j).filter (dueO now rt) ++ [x] := by rw [htk, List.filter_append]; simp [hdue]
        have e2 : (M.take (j + 1)).map (updV now rt) ++ M.drop (j + 1) = Mj.set j (sayO now x) := by
          rw [hMj, htk, List.map_append, List.map_cons, List.map_nil, hup]
          have := set_mid (A := (M.take j).map (updV now rt)) (B := M.drop (j + 1)) (x := x) (y := sayO now x)
          rw [hlj] at this
          rw [this]; simp
        have hsp : splice (Mj.flatMap cVO) (j * 35) (cVO (sayO now x)) = (Mj.set j (sayO now x)).flatMap cVO := by
          have := flat_splice (f := cVO) (sz := 35) (by simp) hjm (j := 0) (vs := cVO (sayO now x)) (y := sayO now x) (by simp) (by simp)
          simpa using this
        have hsq : (Mj.flatMap cVO).take (j * 35) ++ AV.int .u32 x.id :: AV.int .u32 x.ep :: AV.int .u64 x.k1 :: AV.int .u64 x.k2 :: AV.int .u32 x.k3 :: AV.int .u32 x.k4 :: AV.int .i64 x.k5 :: AV.int .i64 x.k6 :: AV.int .i64 x.k7 :: AV.int .i64 x.f1 :: AV.int .i64 x.f2 :: AV.int .i64 x.t1 :: AV.int .i64 x.t2 :: AV.str x.su :: AV.str x.sh :: AV.str x.du :: AV.str x.dh :: AV.int .i64 x.act :: AV.int .i64 x.rule :: ofS cHo x.path :: AV.int .u32 x.l0 :: AV.int .u32 x.l1 :: AV.int .u32 x.l2 :: AV.int .u32 x.l3 :: AV.int .u32 x.l4 :: AV.int .u32 x.l5 :: AV.int .u32 x.l6 :: AV.int .u32 x.l7 :: AV.int .u32 x.l8 :: AV.int .i64 x.idle :: AV.int .i64 x.hard :: AV.int .i64 x.at_ :: AV.int .u32 x.seq :: AV.bool true :: AV.int .i64 now :: (Mj.flatMap cVO).drop (j * 35 + 35) = (Mj.set j (sayO now x)).flatMap cVO := by
          rw [← hsp]; simp [splice, cVO_x, sayO]
        have hfit : j * 35 + (cVO (sayO now x)).length ≤ (Mj.flatMap cVO).length := by rw [hlen, cVO_len]; omega
        simp only [cVO_x, sayO] at hfit
        repeat' (first
          | refine awp_seqK fun K' hpK => ?_
          | refine awp_block ?_
          | refine awp_condG fun A' B' hpA hpB => ?_
          | refine useK (by with_reducible assumption) ?_
          | refine useP (by with_reducible assumption) ?_
          | refine ED_cons (fun _ => ?_) ?_
          | (refine stable_mk ?_; simp (disch := first | (with_reducible assumption) | (simp; done) | omega | (simp; omega)) [hsd, hlt, hjl, hat1, hatb1, hd0, hv]; done)
          | (refine stable_no ?_; simp (disch := first | (with_reducible assumption) | (simp; done) | omega | (simp; omega)) [hsd, hlt, hjl, hat1, hatb1, hd0, hv]; done)
          | (with_reducible refine And.intro ?_ ?_)
          | (with_reducible intro hc)
          | (with_reducible refine GDsplit (fun hc => ?_) (fun hc => ?_) <;> try simp [hc])
          | (with_reducible refine GDsplitN (fun hc => ?_) (fun hc => ?_) <;> try simp [hc])
          | (with_reducible refine GDsplitNB (fun hc => ?_) (fun hc => ?_) <;> try simp [hc])
          | (with_reducible refine GDsplitB (fun hc => ?_) (fun hc => ?_) <;> try simp [hc])
          | (with_reducible refine GKsplit (fun hc => ?_) (fun hc => ?_) <;> try simp [hc])
          | (with_reducible refine GKsplitN (fun hc => ?_) (fun hc => ?_) <;> try simp [hc])
          | (with_reducible refine GKsplitNB (fun hc => ?_) (fun hc => ?_) <;> try simp [hc])
          | (with_reducible refine GKsplitB (fun hc => ?_) (fun hc => ?_) <;> try simp [hc])
          | simp (disch := first | (with_reducible assumption) | (simp; done) | omega | (simp; omega)) [hsd, hlt, hjl, hat1, hatb1, hd0, hv])
        refine CallK.use (mc2 _) ?_
        rintro r G3 _ _ ⟨rfl, rfl⟩
        have hg3 := Grow.set hg2 hatb (o' := (τ, (Mj.set j (sayO now x)).flatMap cVO))
        have hH3 : RHB rb (setH H b (some (τ, (Mj.set j (sayO now x)).flatMap cVO))) (.ms b 0 M.length 35) (Mj.set j (sayO now x)) rt sq := .inr ⟨b, τ, hb, by simp [hMl], by rw [hG, setH_setH]⟩
        rw [hsq]
        repeat' (first
          | refine awp_seqK fun K' hpK => ?_
          | refine awp_block ?_
          | refine awp_condG fun A' B' hpA hpB => ?_
          | refine useK (by with_reducible assumption) ?_
          | refine useP (by with_reducible assumption) ?_
          | refine ED_cons (fun _ => ?_) ?_
          | (refine stable_mk ?_; simp (disch := first | (with_reducible assumption) | (simp; done) | omega | (simp; omega)) [hv]; done)
          | (refine stable_no ?_; simp (disch := first | (with_reducible assumption) | (simp; done) | omega | (simp; omega)) [hv]; done)
          | (with_reducible refine And.intro ?_ ?_)
          | (with_reducible intro hc)
          | (with_reducible refine GDsplit (fun hc => ?_) (fun hc => ?_) <;> try simp [hc])
          | (with_reducible refine GDsplitN (fun hc => ?_) (fun hc => ?_) <;> try simp [hc])
          | (with_reducible refine GDsplitNB (fun hc => ?_) (fun hc => ?_) <;> try simp [hc])
          | (with_reducible refine GDsplitB (fun hc => ?_) (fun hc => ?_) <;> try simp [hc])
          | (with_reducible refine GKsplit (fun hc => ?_) (fun hc => ?_) <;> try simp [hc])
          | (with_reducible refine GKsplitN (fun hc => ?_) (fun hc => ?_) <;> try simp [hc])
          | (with_reducible refine GKsplitNB (fun hc => ?_) (fun hc => ?_) <;> try simp [hc])
          | (with_reducible refine GKsplitB (fun hc => ?_) (fun hc => ?_) <;> try simp [hc])
          | simp (disch := first | (with_reducible assumption) | (simp; done) | omega | (simp; omega)) [hv])
        refine hg3.app1 (x := nowM x) rfl (by simp [cMs]) (by simp [LIM]; omega) (fun v2 G4 hg4 => ?_)
        have hv2 := hg4.plain
        repeat' (first
          | refine awp_seqK fun K' hpK => ?_
          | refine awp_block ?_
          | refine awp_condG fun A' B' hpA hpB => ?_
          | refine useK (by with_reducible assumption) ?_
          | refine useP (by with_reducible assumption) ?_
          | refine ED_cons (fun _ => ?_) ?_
          | (refine stable_mk ?_; simp (disch := first | (with_reducible assumption) | (simp; done) | omega | (simp; omega)) [hv2]; done)
          | (refine stable_no ?_; simp (disch := first | (with_reducible assumption) | (simp; done) | omega | (simp; omega)) [hv2]; done)
          | (with_reducible refine And.intro ?_ ?_)
          | (with_reducible intro hc)
          | (with_reducible refine GDsplit (fun hc => ?_) (fun hc => ?_) <;> try simp [hc])
          | (with_reducible refine GDsplitN (fun hc => ?_) (fun hc => ?_) <;> try simp [hc])
          | (with_reducible refine GDsplitNB (fun hc => ?_) (fun hc => ?_) <;> try simp [hc])
          | (with_reducible refine GDsplitB (fun hc => ?_) (fun hc => ?_) <;> try simp [hc])
          | (with_reducible refine GKsplit (fun hc => ?_) (fun hc => ?_) <;> try simp [hc])
          | (with_reducible refine GKsplitN (fun hc => ?_) (fun hc => ?_) <;> try simp [hc])
          | (with_reducible refine GKsplitNB (fun hc => ?_) (fun hc => ?_) <;> try simp [hc])
          | (with_reducible refine GKsplitB (fun hc => ?_) (fun hc => ?_) <;> try simp [hc])
          | simp (disch := first | (with_reducible assumption) | (simp; done) | omega | (simp; omega)) [hv2])
        refine hN (w - 1) _ _ (by omega) ⟨j + 1, v2, setH H b (some (τ, (Mj.set j (sayO now x)).flatMap cVO)), by omega, ?_, ?_, by simp⟩
        · rw [e2]; exact hH3
        · rw [e1, List.map_append]; exact hg4
  · rw [List.take_of_length_le (by omega), List.drop_eq_nil_of_le (by omega), List.append_nil] at hH
    rw [List.take_of_length_le (by omega)] at hg2
    repeat' (first
      | refine awp_seqK fun K' hpK => ?_
      | refine awp_block ?_
      | refine awp_condG fun A' B' hpA hpB => ?_
      | refine useK (by with_reducible assumption) ?_
      | refine useP (by with_reducible assumption) ?_
      | refine ED_cons (fun _ => ?_) ?_
      | (refine stable_mk ?_; simp (disch := first | (with_reducible assumption) | (simp; done) | omega | (simp; omega)) [hjl, hv]; done)
      | (refine stable_no ?_; simp (disch := first | (with_reducible assumption) | (simp; done) | omega | (simp; omega)) [hjl, hv]; done)
      | (with_reducible refine And.intro ?_ ?_)
      | (with_reducible intro hc)
      | (with_reducible refine GDsplit (fun hc => ?_) (fun hc => ?_) <;> try simp [hc])
      | (with_reducible refine GDsplitN (fun hc => ?_) (fun hc => ?_) <;> try simp [hc])
      | (with_reducible refine GDsplitNB (fun hc => ?_) (fun hc => ?_) <;> try simp [hc])
      | (with_reducible refine GDsplitB (fun hc => ?_) (fun hc => ?_) <;> try simp [hc])
      | (with_reducible refine GKsplit (fun hc => ?_) (fun hc => ?_) <;> try simp [hc])
      | (with_reducible refine GKsplitN (fun hc => ?_) (fun hc => ?_) <;> try simp [hc])
      | (with_reducible refine GKsplitNB (fun hc => ?_) (fun hc => ?_) <;> try simp [hc])
      | (with_reducible refine GKsplitB (fun hc => ?_) (fun hc => ?_) <;> try simp [hc])
      | simp (disch := first | (with_reducible assumption) | (simp; done) | omega | (simp; omega)) [hjl, hv])
    obtain ⟨s, hs2, hz, hsub⟩ := hg2.frz (by simp)
    exact ends_fr1 (by simp <;> rfl) hv hsub hz (hpost _ _ ⟨⟨out, hH⟩, s, rfl, hs2⟩)
end Go.Proofs.Ytgideonigiokbaa
