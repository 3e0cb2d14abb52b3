import Derived.Test.YtgideonigiokbaaD14K
set_option linter.unusedSimpArgs false
set_option linter.unusedVariables false
namespace Go.Proofs.Ytgideonigiokbaa
open Go Go.Al
set_option maxRecDepth 20000
attribute [local irreducible] awp aops aopsD eop pv ACalls CallK AppK AEnds ti

/-- a call -/
structure Oc where
  kind : Int
  v : On
  sw : Int
  life : Int
  ep : Int
  sq : Int
  k : Int
  t : Int
@[simp] def cOc (o : Oc) : List AV := [.int .i64 o.kind, .int .u32 o.v.id, .int .u32 o.v.ep, .int .u64 o.v.k1, .int .u64 o.v.k2, .int .u32 o.v.k3, .int .u32 o.v.k4, .int .i64 o.v.k5, .int .i64 o.v.k6, .int .i64 o.v.k7, .int .i64 o.v.f1, .int .i64 o.v.f2, .int .i64 o.v.t1, .int .i64 o.v.t2, .str o.v.su, .str o.v.sh, .str o.v.du, .str o.v.dh, .int .i64 o.v.act, .int .i64 o.v.rule, ofS cHo o.v.path, .int .u32 o.v.l0, .int .u32 o.v.l1, .int .u32 o.v.l2, .int .u32 o.v.l3, .int .u32 o.v.l4, .int .u32 o.v.l5, .int .u32 o.v.l6, .int .u32 o.v.l7, .int .u32 o.v.l8, .int .i64 o.v.idle, .int .i64 o.v.hard, .int .i64 o.sw, .int .u32 o.life, .int .u32 o.ep, .int .u32 o.sq, .int .i64 o.k, .int .i64 o.t]
@[simp] def Oc.av (o : Oc) : AV := .agg [.int .i64 o.kind, .int .u32 o.v.id, .int .u32 o.v.ep, .int .u64 o.v.k1, .int .u64 o.v.k2, .int .u32 o.v.k3, .int .u32 o.v.k4, .int .i64 o.v.k5, .int .i64 o.v.k6, .int .i64 o.v.k7, .int .i64 o.v.f1, .int .i64 o.v.f2, .int .i64 o.v.t1, .int .i64 o.v.t2, .str o.v.su, .str o.v.sh, .str o.v.du, .str o.v.dh, .int .i64 o.v.act, .int .i64 o.v.rule, ofS cHo o.v.path, .int .u32 o.v.l0, .int .u32 o.v.l1, .int .u32 o.v.l2, .int .u32 o.v.l3, .int .u32 o.v.l4, .int .u32 o.v.l5, .int .u32 o.v.l6, .int .u32 o.v.l7, .int .u32 o.v.l8, .int .i64 o.v.idle, .int .i64 o.v.hard, .int .i64 o.sw, .int .u32 o.life, .int .u32 o.ep, .int .u32 o.sq, .int .i64 o.k, .int .i64 o.t]
theorem cOc_len (o : Oc) : (cOc o).length = 38 := nrfl rfl
def doneT (M : List On) (o : Oc) : Int × Int × Int × Int :=
  if o.kind = 4 ∨ o.k < 0 ∨ (M.length : Int) ≤ o.k then (o.sw, o.life, o.ep, o.sq) else
  match M[o.k.toNat]? with
  | none => (o.sw, o.life, o.ep, o.sq)
  | some x => ((nowM x).sw, (nowM x).life, (nowM x).ep, (nowM x).seq)
set_option maxHeartbeats 8000000 in
theorem done34_c {rb : Nat} {G : Hp} {M : List On} {rt sq : Int} {o : Oc} (hR : RH rb G M rt sq) (hl : M.length ≤ 1000) (hok : ∀ v ∈ M, okAt v) : ACalls Try.prog 34 [.ptr rb 0, o.av] G fun r G' => G' = G ∧ r = .tup [.int .i64 (doneT M o).1, .int .u32 (doneT M o).2.1, .int .u32 (doneT M o).2.2.1, .int .u32 (doneT M o).2.2.2] := by
  obtain ⟨out, hg⟩ := hR
  have hat := hg.at
  have hpo := Grow.plain hg
  have hal := fun {t : TypeId} => Grow.len (P := Try.prog) (t := t) hg
  by_cases h4 : o.kind = 4
  · have e : doneT M o = (o.sw, o.life, o.ep, o.sq) := by unfold doneT; rw [if_pos (.inl h4)]
    refine ACalls.hide fun post hpost => ?_
    refine F34_in (by simp) (by simp) fun hbd => ?_
    repeat' (first
      | refine awp_seqK fun K' hpK => ?_
      | refine awp_block ?_
      | refine awp_condG fun A' B' hpA hpB => ?_
      | refine useK (by with_reducible assumption) ?_
      | refine useP (by with_reducible assumption) ?_
      | refine ED_cons (fun _ => ?_) ?_
      | (refine stable_mk ?_; simp (disch := first | (with_reducible assumption) | (simp; done) | omega | (simp; omega)) [Oc.av, h4, hat, hpo, hal]; done)
      | (refine stable_no ?_; simp (disch := first | (with_reducible assumption) | (simp; done) | omega | (simp; omega)) [Oc.av, h4, hat, hpo, hal]; done)
      | (with_reducible refine And.intro ?_ ?_)
      | (with_reducible intro hc)
      | (with_reducible refine GDsplit (fun hc => ?_) (fun hc => ?_) <;> try simp [hc])
      | (with_reducible refine GDsplitN (fun hc => ?_) (fun hc => ?_) <;> try simp [hc])
      | (with_reducible refine GDsplitNB (fun hc => ?_) (fun hc => ?_) <;> try simp [hc])
      | (with_reducible refine GDsplitB (fun hc => ?_) (fun hc => ?_) <;> try simp [hc])
      | (with_reducible refine GKsplit (fun hc => ?_) (fun hc => ?_) <;> try simp [hc])
      | (with_reducible refine GKsplitN (fun hc => ?_) (fun hc => ?_) <;> try simp [hc])
      | (with_reducible refine GKsplitNB (fun hc => ?_) (fun hc => ?_) <;> try simp [hc])
      | (with_reducible refine GKsplitB (fun hc => ?_) (fun hc => ?_) <;> try simp [hc])
      | simp (disch := first | (with_reducible assumption) | (simp; done) | omega | (simp; omega)) [Oc.av, h4, hat, hpo, hal])
    rw [e] at hpost
    exact ends_four (by simp <;> exact ⟨rfl, rfl, rfl, rfl⟩) (by simp) (by simp) (by simp) (by simp) (hpost _ _ ⟨rfl, rfl⟩)
  · by_cases hk : o.k < 0
    · have e : doneT M o = (o.sw, o.life, o.ep, o.sq) := by unfold doneT; rw [if_pos (.inr (.inl hk))]
      refine ACalls.hide fun post hpost => ?_
      refine F34_in (by simp) (by simp) fun hbd => ?_
      repeat' (first
        | refine awp_seqK fun K' hpK => ?_
        | refine awp_block ?_
        | refine awp_condG fun A' B' hpA hpB => ?_
        | refine useK (by with_reducible assumption) ?_
        | refine useP (by with_reducible assumption) ?_
        | refine ED_cons (fun _ => ?_) ?_
        | (refine stable_mk ?_; simp (disch := first | (with_reducible assumption) | (simp; done) | omega | (simp; omega)) [Oc.av, h4, hk, hat, hpo, hal]; done)
        | (refine stable_no ?_; simp (disch := first | (with_reducible assumption) | (simp; done) | omega | (simp; omega)) [Oc.av, h4, hk, hat, hpo, hal]; done)
        | (with_reducible refine And.intro ?_ ?_)
        | (with_reducible intro hc)
        | (with_reducible refine GDsplit (fun hc => ?_) (fun hc => ?_) <;> try simp [hc])
        | (with_reducible refine GDsplitN (fun hc => ?_) (fun hc => ?_) <;> try simp [hc])
        | (with_reducible refine GDsplitNB (fun hc => ?_) (fun hc => ?_) <;> try simp [hc])
        | (with_reducible refine GDsplitB (fun hc => ?_) (fun hc => ?_) <;> try simp [hc])
        | (with_reducible refine GKsplit (fun hc => ?_) (fun hc => ?_) <;> try simp [hc])
        | (with_reducible refine GKsplitN (fun hc => ?_) (fun hc => ?_) <;> try simp [hc])
        | (with_reducible refine GKsplitNB (fun hc => ?_) (fun hc => ?_) <;> try simp [hc])
        | (with_reducible refine GKsplitB (fun hc => ?_) (fun hc => ?_) <;> try simp [hc])
        | simp (disch := first | (with_reducible assumption) | (simp; done) | omega | (simp; omega)) [Oc.av, h4, hk, hat, hpo, hal])
      rw [e] at hpost
      exact ends_four (by simp <;> exact ⟨rfl, rfl, rfl, rfl⟩) (by simp) (by simp) (by simp) (by simp) (hpost _ _ ⟨rfl, rfl⟩)
    · by_cases hm : (M.length : Int) ≤ o.k
      · have e : doneT M o = (o.sw, o.life, o.ep, o.sq) := by unfold doneT; rw [if_pos (.inr (.inr hm))]
        refine ACalls.hide fun post hpost => ?_
        refine F34_in (by simp) (by simp) fun hbd => ?_
        repeat' (first
          | refine awp_seqK fun K' hpK => ?_
          | refine awp_block ?_
          | refine awp_condG fun A' B' hpA hpB => ?_
          | refine useK (by with_reducible assumption) ?_
          | refine useP (by with_reducible assumption) ?_
          | refine ED_cons (fun _ => ?_) ?_
          | (refine stable_mk ?_; simp (disch := first | (with_reducible assumption) | (simp; done) | omega | (simp; omega)) [Oc.av, h4, hk, hm, hat, hpo, hal]; done)
          | (refine stable_no ?_; simp (disch := first | (with_reducible assumption) | (simp; done) | omega | (simp; omega)) [Oc.av, h4, hk, hm, hat, hpo, hal]; done)
          | (with_reducible refine And.intro ?_ ?_)
          | (with_reducible intro hc)
          | (with_reducible refine GDsplit (fun hc => ?_) (fun hc => ?_) <;> try simp [hc])
          | (with_reducible refine GDsplitN (fun hc => ?_) (fun hc => ?_) <;> try simp [hc])
          | (with_reducible refine GDsplitNB (fun hc => ?_) (fun hc => ?_) <;> try simp [hc])
          | (with_reducible refine GDsplitB (fun hc => ?_) (fun hc => ?_) <;> try simp [hc])
          | (with_reducible refine GKsplit (fun hc => ?_) (fun hc => ?_) <;> try simp [hc])
          | (with_reducible refine GKsplitN (fun hc => ?_) (fun hc => ?_) <;> try simp [hc])
          | (with_reducible refine GKsplitNB (fun hc => ?_) (fun hc => ?_) <;> try simp [hc])
          | (with_reducible refine GKsplitB (fun hc => ?_) (fun hc => ?_) <;> try simp [hc])
          | simp (disch := first | (with_reducible assumption) | (simp; done) | omega | (simp; omega)) [Oc.av, h4, hk, hm, hat, hpo, hal])
        rw [e] at hpost
        exact ends_four (by simp <;> exact ⟨rfl, rfl, rfl, rfl⟩) (by simp) (by simp) (by simp) (by simp) (hpost _ _ ⟨rfl, rfl⟩)
      · obtain ⟨j, hj⟩ : ∃ j : Nat, o.k = (j : Int) := ⟨o.k.toNat, by omega⟩
        have hjl : j < M.length := by omega
        obtain ⟨x, hx⟩ : ∃ x, x = M[j] := ⟨_, rfl⟩
        have hox := hok x (by rw [hx]; exact List.getElem_mem _)
        have e : doneT M o = ((nowM x).sw, (nowM x).life, (nowM x).ep, (nowM x).seq) := by
          unfold doneT; rw [if_neg (by omega), hj, Int.toNat_natCast, List.getElem?_eq_getElem hjl, ← hx]
        obtain ⟨b, τ, hb, rfl, hG⟩ := Grow.ms hg (by intro h; subst h; simp at hjl)
        have hatb : G b = some (τ, M.flatMap cVO) := by rw [hG, setH_same]
        have hd0 := flat_at0 (f := cVO) (sz := 35) (by simp) hjl
        rw [← hx, cVO_x] at hd0
        have mc : ∀ G, ACalls Try.prog 41 [x.av, .int .i64 x.at_] G fun r G' => G' = G ∧ r = (nowM x).av := fun G => rnowM_c (v := x) (G := G) hox
        simp only [On.av, Ms.av] at mc
        have hm' : ¬ (M.length : Int) ≤ (j : Int) := by omega
        rw [hj] at hk hm
        refine ACalls.hide fun post hpost => ?_
        refine F34_in (by simp) (by simp) fun hbd => ?_
        repeat' (first
          | refine awp_seqK fun K' hpK => ?_
          | refine awp_block ?_
          | refine awp_condG fun A' B' hpA hpB => ?_
          | refine useK (by with_reducible assumption) ?_
          | refine useP (by with_reducible assumption) ?_
          | refine ED_cons (fun _ => ?_) ?_
          | (refine stable_mk ?_; simp (disch := first | (with_reducible assumption) | (simp; done) | omega | (simp; omega)) [Oc.av, h4, hj, hm', hjl, hk, hat, hpo, hatb, hd0]; done)
          | (refine stable_no ?_; simp (disch := first | (with_reducible assumption) | (simp; done) | omega | (simp; omega)) [Oc.av, h4, hj, hm', hjl, hk, hat, hpo, hatb, hd0]; done)
          | (with_reducible refine And.intro ?_ ?_)
          | (with_reducible intro hc)
          | (with_reducible refine GDsplit (fun hc => ?_) (fun hc => ?_) <;> try simp [hc])
          | (with_reducible refine GDsplitN (fun hc => ?_) (fun hc => ?_) <;> try simp [hc])
          | (with_reducible refine GDsplitNB (fun hc => ?_) (fun hc => ?_) <;> try simp [hc])
          | (with_reducible refine GDsplitB (fun hc => ?_) (fun hc => ?_) <;> try simp [hc])
          | (with_reducible refine GKsplit (fun hc => ?_) (fun hc => ?_) <;> try simp [hc])
          | (with_reducible refine GKsplitN (fun hc => ?_) (fun hc => ?_) <;> try simp [hc])
          | (with_reducible refine GKsplitNB (fun hc => ?_) (fun hc => ?_) <;> try simp [hc])
          | (with_reducible refine GKsplitB (fun hc => ?_) (fun hc => ?_) <;> try simp [hc])
          | (refine CallK.use (mc _) ?_; rintro r G' _ _ ⟨rfl, rfl⟩)
          | simp (disch := first | (with_reducible assumption) | (simp; done) | omega | (simp; omega)) [Oc.av, h4, hj, hm', hjl, hk, hat, hpo, hatb, hd0])
        rw [e] at hpost
        exact ends_four (by simp <;> exact ⟨rfl, rfl, rfl, rfl⟩) (by simp) (by simp) (by simp) (by simp) (hpost _ _ ⟨rfl, rfl⟩)
end Go.Proofs.Ytgideonigiokbaa
