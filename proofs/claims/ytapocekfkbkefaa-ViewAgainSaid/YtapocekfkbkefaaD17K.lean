import Derived.Test.YtapocekfkbkefaaD15K
set_option linter.unusedSimpArgs false
set_option linter.unusedVariables false
namespace Go.Proofs.Ytapocekfkbkefaa
open Go Go.Al
set_option maxRecDepth 20000
attribute [local irreducible] awp aops aopsD eop pv ACalls CallK AppK AEnds ti

set_option maxHeartbeats 8000000 in
theorem rlearnS_c {rb : Nat} {G : Hp} {P : List (Int × Int)} {M : List Sn} {a1 a2 b1 b2 now : Int} (hR : RH rb G P M) (hO : OKP P) (hl : M.length ≤ 900) (hm : mayL P a1 a2 b1 b2 = true) (hsw : (b1 < a1 ∨ b1 = a1 ∧ b2 < a2)) : ACalls Try.prog 24 [.ptr rb 0, .agg [.int .i64 a1, .int .i64 a2], .agg [.int .i64 b1, .int .i64 b2], .int .i64 now] G fun r G' => RH rb G' P (rl M b1 b2 a1 a2 now).1 ∧ ∃ s, r = .tup [ofS cLk s, .bool (rl M b1 b2 a1 a2 now).2.2] ∧ LL s = (rl M b1 b2 a1 a2 now).2.1 := by
  have hR0 := hR
  obtain ⟨K, U, out, hJ, hg⟩ := hR
  have hat := hg.at
  have hpo := Grow.plain hg
  have hal := fun {t : TypeId} => Grow.len (P := Try.prog) (t := t) hg
  have hL := rc_L (out := out) hJ.1 hJ.2.1
  have hm2 : ¬ (a1 = b1 ∧ a2 = b2) ∧ upP P a1 a2 = true ∧ upP P b1 b2 = true := by
    unfold mayL at hm
    simp only [Bool.and_eq_true, Bool.not_eq_true', decide_eq_false_iff_not] at hm
    exact ⟨hm.1.1, hm.1.2, hm.2⟩
  obtain ⟨hab, u1, u2⟩ := hm2
  have uc1 := rup_c (sw := a1) (port := a2) hat hJ hO
  have uc2 := rup_c (sw := b1) (port := b2) hat hJ hO
  have lc := fun G => less_c (a1 := b1) (a2 := b2) (b1 := a1) (b2 := a2) (G := G)
  rw [u1] at uc1
  rw [u2] at uc2
  rw [decide_eq_true hsw] at lc
  refine ACalls.hide fun post hpost => ?_
  refine F24_in (by simp) (by simp) fun hbd => ?_
  repeat' (first
    | refine awp_seqK fun K' hpK => ?_
    | refine awp_block ?_
    | refine awp_condG fun A' B' hpA hpB => ?_
    | refine useK (by with_reducible assumption) ?_
    | refine useP (by with_reducible assumption) ?_
    | refine ED_cons (fun _ => ?_) ?_
    | (refine stable_mk ?_; simp (disch := first | (with_reducible assumption) | (simp; done) | omega | (simp; omega)) [hab]; done)
    | (refine stable_no ?_; simp (disch := first | (with_reducible assumption) | (simp; done) | omega | (simp; omega)) [hab]; done)
    | (with_reducible refine And.intro ?_ ?_)
    | (with_reducible intro hc)
    | (with_reducible refine GDsplit (fun hc => ?_) (fun hc => ?_) <;> try simp [hc])
    | (with_reducible refine GDsplitN (fun hc => ?_) (fun hc => ?_) <;> try simp [hc])
    | (with_reducible refine GDsplitNB (fun hc => ?_) (fun hc => ?_) <;> try simp [hc])
    | (with_reducible refine GDsplitB (fun hc => ?_) (fun hc => ?_) <;> try simp [hc])
    | (with_reducible refine GKsplit (fun hc => ?_) (fun hc => ?_) <;> try simp [hc])
    | (with_reducible refine GKsplitN (fun hc => ?_) (fun hc => ?_) <;> try simp [hc])
    | (with_reducible refine GKsplitNB (fun hc => ?_) (fun hc => ?_) <;> try simp [hc])
    | (with_reducible refine GKsplitB (fun hc => ?_) (fun hc => ?_) <;> try simp [hc])
    | (refine CallK.use (uc1) ?_; rintro r G' _ _ ⟨rfl, rfl⟩)
    | (refine CallK.use (uc2) ?_; rintro r G' _ _ ⟨rfl, rfl⟩)
    | (refine CallK.use (lc _) ?_; rintro r G' _ _ ⟨rfl, rfl⟩)
    | simp (disch := first | (with_reducible assumption) | (simp; done) | omega | (simp; omega)) [hab])
  repeat' (first
    | refine awp_seqK fun K' hpK => ?_
    | refine awp_block ?_
    | refine awp_condG fun A' B' hpA hpB => ?_
    | refine useK (by with_reducible assumption) ?_
    | refine useP (by with_reducible assumption) ?_
    | refine ED_cons (fun _ => ?_) ?_
    | (refine stable_mk ?_; simp (disch := first | (with_reducible assumption) | (simp; done) | omega | (simp; omega)) [hat, hL, hpo, hal]; done)
    | (refine stable_no ?_; simp (disch := first | (with_reducible assumption) | (simp; done) | omega | (simp; omega)) [hat, hL, hpo, hal]; done)
    | (with_reducible refine And.intro ?_ ?_)
    | (with_reducible intro hc)
    | (with_reducible refine GDsplit (fun hc => ?_) (fun hc => ?_) <;> try simp [hc])
    | (with_reducible refine GDsplitN (fun hc => ?_) (fun hc => ?_) <;> try simp [hc])
    | (with_reducible refine GDsplitNB (fun hc => ?_) (fun hc => ?_) <;> try simp [hc])
    | (with_reducible refine GDsplitB (fun hc => ?_) (fun hc => ?_) <;> try simp [hc])
    | (with_reducible refine GKsplit (fun hc => ?_) (fun hc => ?_) <;> try simp [hc])
    | (with_reducible refine GKsplitN (fun hc => ?_) (fun hc => ?_) <;> try simp [hc])
    | (with_reducible refine GKsplitNB (fun hc => ?_) (fun hc => ?_) <;> try simp [hc])
    | (with_reducible refine GKsplitB (fun hc => ?_) (fun hc => ?_) <;> try simp [hc])
    | simp (disch := first | (with_reducible assumption) | (simp; done) | omega | (simp; omega)) [hat, hL, hpo, hal])
  refine awp_loop' (fun w T G1 => ∃ (k : Nat), k + w = M.length ∧ G1 = G' ∧ (∀ i (hi : i < M.length), i < k → M[i].lk ≠ ⟨b1, b2, a1, a2⟩) ∧ T = ofL [(0, .ptr rb 0), (3, .int .i64 now), (10, .box [.int .i64 b1, .int .i64 b2]), (11, .box [.int .i64 a1, .int .i64 a2]), (44, out), (45, .int .i64 M.length), (46, .int .i64 k)]) M.length ⟨0, by omega, rfl, fun i hi h => absurd h (by omega), by simp⟩ ?_
  rintro w T G1 ⟨k, hk, rfl, hno, rfl⟩ N hN
  by_cases hkl : k < M.length
  · obtain ⟨b, τ, hb, rfl, hG⟩ := Grow.ms hg (by intro h; subst h; simp at hkl)
    have hatb : G1 b = some (τ, M.flatMap cVS) := by rw [hG, setH_same]
    have hd0 := flat_at0 (f := cVS) (sz := 5) (by simp) hkl
    obtain ⟨x, hx⟩ : ∃ x, x = M[k] := ⟨_, rfl⟩
    rw [← hx] at hd0
    have step : x.lk ≠ ⟨b1, b2, a1, a2⟩ → ∀ i (hi : i < M.length), i < k + 1 → M[i].lk ≠ ⟨b1, b2, a1, a2⟩ := by
      intro hne i hi hik
      by_cases e : i < k
      · exact hno i hi e
      · have : i = k := by omega
        subst this; rw [← hx]; exact hne
    by_cases h1 : x.a1 = b1 ∧ x.a2 = b2
    · by_cases h2 : x.b1 = a1 ∧ x.b2 = a2
      · have hxl : x.lk = ⟨b1, b2, a1, a2⟩ := by obtain ⟨h3, h4⟩ := h1; obtain ⟨h5, h6⟩ := h2; unfold Sn.lk; rw [h3, h4, h5, h6]
        have hrl : rl M b1 b2 a1 a2 now = (M.set k { x with t := now }, [], false) := by
          unfold rl
          rw [if_pos ⟨x, by rw [hx]; exact List.getElem_mem _, hxl⟩, updM_at hkl (fun i hi => hno i (by omega) hi) (by rw [← hx]; exact hxl), ← hx]
        rw [hrl] at hpost
        obtain ⟨rfl, rfl⟩ := h1
        obtain ⟨rfl, rfl⟩ := h2
        have hlen : (M.flatMap cVS).length = M.length * 5 := flat_len (by simp) M
        have hle : k * 5 + 5 ≤ M.length * 5 := by omega
        have hsp : splice (M.flatMap cVS) (k * 5 + 4) [.int .i64 now] = (M.set k { x with t := now }).flatMap cVS := flat_splice (by simp) hkl (by simp) (by rw [← hx]; simp [cVS])
        have hfit : k * 5 + 4 + ([AV.int .i64 now] : List AV).length ≤ (M.flatMap cVS).length := by rw [hlen]; simp; omega
        have hset : (M.set k { x with t := now }).length = M.length := by simp
        repeat' (first
          | refine awp_seqK fun K' hpK => ?_
          | refine awp_block ?_
          | refine awp_condG fun A' B' hpA hpB => ?_
          | refine useK (by with_reducible assumption) ?_
          | refine useP (by with_reducible assumption) ?_
          | refine ED_cons (fun _ => ?_) ?_
          | (refine stable_mk ?_; simp (disch := first | (with_reducible assumption) | (simp; done) | omega | (simp; omega)) [hkl, hat, hL, hatb, hd0, cVS, hlen, hle]; done)
          | (refine stable_no ?_; simp (disch := first | (with_reducible assumption) | (simp; done) | omega | (simp; omega)) [hkl, hat, hL, hatb, hd0, cVS, hlen, hle]; done)
          | (with_reducible refine And.intro ?_ ?_)
          | (with_reducible intro hc)
          | (with_reducible refine GDsplit (fun hc => ?_) (fun hc => ?_) <;> try simp [hc])
          | (with_reducible refine GDsplitN (fun hc => ?_) (fun hc => ?_) <;> try simp [hc])
          | (with_reducible refine GDsplitNB (fun hc => ?_) (fun hc => ?_) <;> try simp [hc])
          | (with_reducible refine GDsplitB (fun hc => ?_) (fun hc => ?_) <;> try simp [hc])
          | (with_reducible refine GKsplit (fun hc => ?_) (fun hc => ?_) <;> try simp [hc])
          | (with_reducible refine GKsplitN (fun hc => ?_) (fun hc => ?_) <;> try simp [hc])
          | (with_reducible refine GKsplitNB (fun hc => ?_) (fun hc => ?_) <;> try simp [hc])
          | (with_reducible refine GKsplitB (fun hc => ?_) (fun hc => ?_) <;> try simp [hc])
          | simp (disch := first | (with_reducible assumption) | (simp; done) | omega | (simp; omega)) [hkl, hat, hL, hatb, hd0, cVS, hlen, hle])
        refine ends_two (by simp <;> exact ⟨rfl, rfl⟩) (by simp) (by simp) (hpost _ _ ⟨⟨K, U, .ms b 0 M.length 5, hJ, .inr ⟨b, τ, hb, by simp, ?_⟩⟩, none, by simp [ofS], rfl⟩)
        rw [← hsp, hG]; simp [splice, setH_setH]
      · have hxl : x.lk ≠ ⟨b1, b2, a1, a2⟩ := fun h => h2 (by unfold Sn.lk at h; injection h with h3 h4 h5 h6; exact ⟨h5, h6⟩)
        have hst := step hxl
        obtain ⟨rfl, rfl⟩ := h1
        repeat' (first
          | refine awp_seqK fun K' hpK => ?_
          | refine awp_block ?_
          | refine awp_condG fun A' B' hpA hpB => ?_
          | refine useK (by with_reducible assumption) ?_
          | refine useP (by with_reducible assumption) ?_
          | refine ED_cons (fun _ => ?_) ?_
          | (refine stable_mk ?_; simp (disch := first | (with_reducible assumption) | (simp; done) | omega | (simp; omega)) [hkl, hatb, hd0, cVS, h2]; done)
          | (refine stable_no ?_; simp (disch := first | (with_reducible assumption) | (simp; done) | omega | (simp; omega)) [hkl, hatb, hd0, cVS, h2]; done)
          | (with_reducible refine And.intro ?_ ?_)
          | (with_reducible intro hc)
          | (with_reducible refine GDsplit (fun hc => ?_) (fun hc => ?_) <;> try simp [hc])
          | (with_reducible refine GDsplitN (fun hc => ?_) (fun hc => ?_) <;> try simp [hc])
          | (with_reducible refine GDsplitNB (fun hc => ?_) (fun hc => ?_) <;> try simp [hc])
          | (with_reducible refine GDsplitB (fun hc => ?_) (fun hc => ?_) <;> try simp [hc])
          | (with_reducible refine GKsplit (fun hc => ?_) (fun hc => ?_) <;> try simp [hc])
          | (with_reducible refine GKsplitN (fun hc => ?_) (fun hc => ?_) <;> try simp [hc])
          | (with_reducible refine GKsplitNB (fun hc => ?_) (fun hc => ?_) <;> try simp [hc])
          | (with_reducible refine GKsplitB (fun hc => ?_) (fun hc => ?_) <;> try simp [hc])
          | simp (disch := first | (with_reducible assumption) | (simp; done) | omega | (simp; omega)) [hkl, hatb, hd0, cVS, h2])
        exact hN (w - 1) _ _ (by omega) ⟨k + 1, by omega, rfl, hst, by simp⟩
    · have hxl : x.lk ≠ ⟨b1, b2, a1, a2⟩ := fun h => h1 (by unfold Sn.lk at h; injection h with h3 h4 h5 h6; exact ⟨h3, h4⟩)
      repeat' (first
        | refine awp_seqK fun K' hpK => ?_
        | refine awp_block ?_
        | refine awp_condG fun A' B' hpA hpB => ?_
        | refine useK (by with_reducible assumption) ?_
        | refine useP (by with_reducible assumption) ?_
        | refine ED_cons (fun _ => ?_) ?_
        | (refine stable_mk ?_; simp (disch := first | (with_reducible assumption) | (simp; done) | omega | (simp; omega)) [hkl, hatb, hd0, cVS, h1]; done)
        | (refine stable_no ?_; simp (disch := first | (with_reducible assumption) | (simp; done) | omega | (simp; omega)) [hkl, hatb, hd0, cVS, h1]; done)
        | (with_reducible refine And.intro ?_ ?_)
        | (with_reducible intro hc)
        | (with_reducible refine GDsplit (fun hc => ?_) (fun hc => ?_) <;> try simp [hc])
        | (with_reducible refine GDsplitN (fun hc => ?_) (fun hc => ?_) <;> try simp [hc])
        | (with_reducible refine GDsplitNB (fun hc => ?_) (fun hc => ?_) <;> try simp [hc])
        | (with_reducible refine GDsplitB (fun hc => ?_) (fun hc => ?_) <;> try simp [hc])
        | (with_reducible refine GKsplit (fun hc => ?_) (fun hc => ?_) <;> try simp [hc])
        | (with_reducible refine GKsplitN (fun hc => ?_) (fun hc => ?_) <;> try simp [hc])
        | (with_reducible refine GKsplitNB (fun hc => ?_) (fun hc => ?_) <;> try simp [hc])
        | (with_reducible refine GKsplitB (fun hc => ?_) (fun hc => ?_) <;> try simp [hc])
        | simp (disch := first | (with_reducible assumption) | (simp; done) | omega | (simp; omega)) [hkl, hatb, hd0, cVS, h1])
      exact hN (w - 1) _ _ (by omega) ⟨k + 1, by omega, rfl, step hxl, by simp⟩
  · have hrl : rl M b1 b2 a1 a2 now = (insS ⟨b1, b2, a1, a2, now⟩ (M.filter fun x => !touchP b1 b2 a1 a2 x), (M.filter (touchP b1 b2 a1 a2)).map Sn.lk, true) := by
      unfold rl
      rw [if_neg]
      rintro ⟨x, hx, he⟩
      obtain ⟨i, hi, rfl⟩ := List.mem_iff_getElem.1 hx
      exact hno i hi (by omega) he
    rw [hrl] at hpost
    have kc := keep1_c (a1 := b1) (a2 := b2) (b1 := a1) (b2 := a2) (now := 0) (most := 0) hR0 hO (by omega)
    have hfl : (M.filter fun x => !touchP b1 b2 a1 a2 x).length ≤ 900 := Nat.le_trans (List.length_filter_le _ _) hl
    repeat' (first
      | refine awp_seqK fun K' hpK => ?_
      | refine awp_block ?_
      | refine awp_condG fun A' B' hpA hpB => ?_
      | refine useK (by with_reducible assumption) ?_
      | refine useP (by with_reducible assumption) ?_
      | refine ED_cons (fun _ => ?_) ?_
      | (refine stable_mk ?_; simp (disch := first | (with_reducible assumption) | (simp; done) | omega | (simp; omega)) [hkl]; done)
      | (refine stable_no ?_; simp (disch := first | (with_reducible assumption) | (simp; done) | omega | (simp; omega)) [hkl]; done)
      | (with_reducible refine And.intro ?_ ?_)
      | (with_reducible intro hc)
      | (with_reducible refine GDsplit (fun hc => ?_) (fun hc => ?_) <;> try simp [hc])
      | (with_reducible refine GDsplitN (fun hc => ?_) (fun hc => ?_) <;> try simp [hc])
      | (with_reducible refine GDsplitNB (fun hc => ?_) (fun hc => ?_) <;> try simp [hc])
      | (with_reducible refine GDsplitB (fun hc => ?_) (fun hc => ?_) <;> try simp [hc])
      | (with_reducible refine GKsplit (fun hc => ?_) (fun hc => ?_) <;> try simp [hc])
      | (with_reducible refine GKsplitN (fun hc => ?_) (fun hc => ?_) <;> try simp [hc])
      | (with_reducible refine GKsplitNB (fun hc => ?_) (fun hc => ?_) <;> try simp [hc])
      | (with_reducible refine GKsplitB (fun hc => ?_) (fun hc => ?_) <;> try simp [hc])
      | simp (disch := first | (with_reducible assumption) | (simp; done) | omega | (simp; omega)) [hkl])
    refine CallK.use kc ?_
    rintro r G2 _ _ ⟨⟨K2, U2, out2, hJ2, hg2⟩, sg, rfl, hsg⟩
    generalize (M.filter fun x => !touchP b1 b2 a1 a2 x) = M2 at *
    have hat2 := hg2.at
    have hpo2 := Grow.plain hg2
    have hal2 := fun {t : TypeId} => Grow.len (P := Try.prog) (t := t) hg2
    have hL2 := rc_L (out := out2) hJ2.1 hJ2.2.1
    have hrl2 := rc_len (out := out2) hJ2.1 hJ2.2.1
    obtain ⟨v, hv⟩ : ∃ v : Sn, v = ⟨b1, b2, a1, a2, now⟩ := ⟨_, rfl⟩
    rw [← hv] at hpost
    have cv : cVS v = [.int .i64 b1, .int .i64 b2, .int .i64 a1, .int .i64 a2, .int .i64 now] := by rw [hv]; rfl
    repeat' (first
      | refine awp_seqK fun K' hpK => ?_
      | refine awp_block ?_
      | refine awp_condG fun A' B' hpA hpB => ?_
      | refine useK (by with_reducible assumption) ?_
      | refine useP (by with_reducible assumption) ?_
      | refine ED_cons (fun _ => ?_) ?_
      | (refine stable_mk ?_; simp (disch := first | (with_reducible assumption) | (simp; done) | omega | (simp; omega)) [hat2, hL2, hpo2, hal2]; done)
      | (refine stable_no ?_; simp (disch := first | (with_reducible assumption) | (simp; done) | omega | (simp; omega)) [hat2, hL2, hpo2, hal2]; done)
      | (with_reducible refine And.intro ?_ ?_)
      | (with_reducible intro hc)
      | (with_reducible refine GDsplit (fun hc => ?_) (fun hc => ?_) <;> try simp [hc])
      | (with_reducible refine GDsplitN (fun hc => ?_) (fun hc => ?_) <;> try simp [hc])
      | (with_reducible refine GDsplitNB (fun hc => ?_) (fun hc => ?_) <;> try simp [hc])
      | (with_reducible refine GDsplitB (fun hc => ?_) (fun hc => ?_) <;> try simp [hc])
      | (with_reducible refine GKsplit (fun hc => ?_) (fun hc => ?_) <;> try simp [hc])
      | (with_reducible refine GKsplitN (fun hc => ?_) (fun hc => ?_) <;> try simp [hc])
      | (with_reducible refine GKsplitNB (fun hc => ?_) (fun hc => ?_) <;> try simp [hc])
      | (with_reducible refine GKsplitB (fun hc => ?_) (fun hc => ?_) <;> try simp [hc])
      | simp (disch := first | (with_reducible assumption) | (simp; done) | omega | (simp; omega)) [hat2, hL2, hpo2, hal2])
    refine awp_loop' (fun w T G3 => ∃ (j : Nat) (o : AV) (f : Bool) (acc : List Sn), j + w = M2.length ∧ acc.length ≤ j + 1 ∧ (f = false → acc = M2.take j ∧ ∀ x ∈ M2.take j, ¬ lessS v x) ∧ (f = true → acc = insS v (M2.take j) ∧ ∃ x ∈ M2.take j, lessS v x) ∧ Grow cVS 5 G2 G3 o acc ∧ T = ofL [(0, .ptr rb 0), (3, .int .i64 now), (10, .box [.int .i64 b1, .int .i64 b2]), (11, .box [.int .i64 a1, .int .i64 a2]), (14, ofS cLk sg), (15, o), (16, .bool f), (77, out2), (78, .int .i64 M2.length), (79, .int .i64 j)]) M2.length ⟨0, .nils, false, [], by omega, by simp, fun _ => ⟨rfl, fun x hx => (by cases hx)⟩, fun h => (by cases h), Grow.nil _ _, by simp⟩ ?_
    rintro w2 T2 G3 ⟨j, o, f, acc, hj, hal3, hb0, hb1, hg3, rfl⟩ N2 hN2
    have hv3 := hg3.plain
    have hat3 := hg3.base hat2
    by_cases hjl : j < M2.length
    · obtain ⟨b, τ, hb, rfl, hG⟩ := Grow.ms hg2 (by intro h; subst h; simp at hjl)
      have hatb : G2 b = some (τ, M2.flatMap cVS) := by rw [hG, setH_same]
      have hatb3 := hg3.base hatb
      have hd0 := flat_at0 (f := cVS) (sz := 5) (by simp) hjl
      have htk := take_succ_get M2 j hjl
      obtain ⟨x, hx⟩ : ∃ x, x = M2[j] := ⟨_, rfl⟩
      rw [← hx] at hd0 htk
      have cx : cVS x = [.int .i64 x.a1, .int .i64 x.a2, .int .i64 x.b1, .int .i64 x.b2, .int .i64 x.t] := rfl
      rw [cx] at hd0
      have ls := fun G => less_c (a1 := b1) (a2 := b2) (b1 := x.a1) (b2 := x.a2) (G := G)
      have hls : lessS v x ↔ (b1 < x.a1 ∨ b1 = x.a1 ∧ b2 < x.a2) := by rw [hv]; rfl
      cases f with
      | true =>
        obtain ⟨e1, y, hy, hyk⟩ := hb1 rfl
        repeat' (first
          | refine awp_seqK fun K' hpK => ?_
          | refine awp_block ?_
          | refine awp_condG fun A' B' hpA hpB => ?_
          | refine useK (by with_reducible assumption) ?_
          | refine useP (by with_reducible assumption) ?_
          | refine ED_cons (fun _ => ?_) ?_
          | (refine stable_mk ?_; simp (disch := first | (with_reducible assumption) | (simp; done) | omega | (simp; omega)) [hjl, hatb3, hd0, hv3]; done)
          | (refine stable_no ?_; simp (disch := first | (with_reducible assumption) | (simp; done) | omega | (simp; omega)) [hjl, hatb3, hd0, hv3]; done)
          | (with_reducible refine And.intro ?_ ?_)
          | (with_reducible intro hc)
          | (with_reducible refine GDsplit (fun hc => ?_) (fun hc => ?_) <;> try simp [hc])
          | (with_reducible refine GDsplitN (fun hc => ?_) (fun hc => ?_) <;> try simp [hc])
          | (with_reducible refine GDsplitNB (fun hc => ?_) (fun hc => ?_) <;> try simp [hc])
          | (with_reducible refine GDsplitB (fun hc => ?_) (fun hc => ?_) <;> try simp [hc])
          | (with_reducible refine GKsplit (fun hc => ?_) (fun hc => ?_) <;> try simp [hc])
          | (with_reducible refine GKsplitN (fun hc => ?_) (fun hc => ?_) <;> try simp [hc])
          | (with_reducible refine GKsplitNB (fun hc => ?_) (fun hc => ?_) <;> try simp [hc])
          | (with_reducible refine GKsplitB (fun hc => ?_) (fun hc => ?_) <;> try simp [hc])
          | simp (disch := first | (with_reducible assumption) | (simp; done) | omega | (simp; omega)) [hjl, hatb3, hd0, hv3])
        refine hg3.app1 (x := x) cx.symm (by simp [cVS]) (by simp [LIM]; omega) (fun v2 G4 hg4 => ?_)
        have hv2 := hg4.plain
        repeat' (first
          | refine awp_seqK fun K' hpK => ?_
          | refine awp_block ?_
          | refine awp_condG fun A' B' hpA hpB => ?_
          | refine useK (by with_reducible assumption) ?_
          | refine useP (by with_reducible assumption) ?_
          | refine ED_cons (fun _ => ?_) ?_
          | (refine stable_mk ?_; simp (disch := first | (with_reducible assumption) | (simp; done) | omega | (simp; omega)) [hv2]; done)
          | (refine stable_no ?_; simp (disch := first | (with_reducible assumption) | (simp; done) | omega | (simp; omega)) [hv2]; done)
          | (with_reducible refine And.intro ?_ ?_)
          | (with_reducible intro hc)
          | (with_reducible refine GDsplit (fun hc => ?_) (fun hc => ?_) <;> try simp [hc])
          | (with_reducible refine GDsplitN (fun hc => ?_) (fun hc => ?_) <;> try simp [hc])
          | (with_reducible refine GDsplitNB (fun hc => ?_) (fun hc => ?_) <;> try simp [hc])
          | (with_reducible refine GDsplitB (fun hc => ?_) (fun hc => ?_) <;> try simp [hc])
          | (with_reducible refine GKsplit (fun hc => ?_) (fun hc => ?_) <;> try simp [hc])
          | (with_reducible refine GKsplitN (fun hc => ?_) (fun hc => ?_) <;> try simp [hc])
          | (with_reducible refine GKsplitNB (fun hc => ?_) (fun hc => ?_) <;> try simp [hc])
          | (with_reducible refine GKsplitB (fun hc => ?_) (fun hc => ?_) <;> try simp [hc])
          | simp (disch := first | (with_reducible assumption) | (simp; done) | omega | (simp; omega)) [hv2])
        refine hN2 (w2 - 1) _ _ (by omega) ⟨j + 1, v2, true, _, by omega, ?_, fun h => (by cases h), fun _ => ⟨?_, y, ?_, hyk⟩, hg4, by simp⟩
        · simp; omega
        · rw [htk, insS_past ⟨y, hy, hyk⟩, e1]
        · rw [htk]; simp [hy]
      | false =>
        obtain ⟨rfl, e2⟩ := hb0 rfl
        by_cases hlt : b1 < x.a1 ∨ b1 = x.a1 ∧ b2 < x.a2
        · rw [decide_eq_true hlt] at ls
          have hlt2 := hls.2 hlt
          repeat' (first
            | refine awp_seqK fun K' hpK => ?_
            | refine awp_block ?_
            | refine awp_condG fun A' B' hpA hpB => ?_
            | refine useK (by with_reducible assumption) ?_
            | refine useP (by with_reducible assumption) ?_
            | refine ED_cons (fun _ => ?_) ?_
            | (refine stable_mk ?_; simp (disch := first | (with_reducible assumption) | (simp; done) | omega | (simp; omega)) [hjl, hatb3, hd0, hv3]; done)
            | (refine stable_no ?_; simp (disch := first | (with_reducible assumption) | (simp; done) | omega | (simp; omega)) [hjl, hatb3, hd0, hv3]; done)
            | (with_reducible refine And.intro ?_ ?_)
            | (with_reducible intro hc)
            | (with_reducible refine GDsplit (fun hc => ?_) (fun hc => ?_) <;> try simp [hc])
            | (with_reducible refine GDsplitN (fun hc => ?_) (fun hc => ?_) <;> try simp [hc])
            | (with_reducible refine GDsplitNB (fun hc => ?_) (fun hc => ?_) <;> try simp [hc])
            | (with_reducible refine GDsplitB (fun hc => ?_) (fun hc => ?_) <;> try simp [hc])
            | (with_reducible refine GKsplit (fun hc => ?_) (fun hc => ?_) <;> try simp [hc])
            | (with_reducible refine GKsplitN (fun hc => ?_) (fun hc => ?_) <;> try simp [hc])
            | (with_reducible refine GKsplitNB (fun hc => ?_) (fun hc => ?_) <;> try simp [hc])
            | (with_reducible refine GKsplitB (fun hc => ?_) (fun hc => ?_) <;> try simp [hc])
            | (refine CallK.use (ls _) ?_; rintro r G' _ _ ⟨rfl, rfl⟩)
            | simp (disch := first | (with_reducible assumption) | (simp; done) | omega | (simp; omega)) [hjl, hatb3, hd0, hv3])
          refine hg3.app1 (x := v) cv.symm (by simp [cVS]) (by simp [LIM]; omega) (fun v2 G4 hg4 => ?_)
          have hv2 := hg4.plain
          repeat' (first
            | refine awp_seqK fun K' hpK => ?_
            | refine awp_block ?_
            | refine awp_condG fun A' B' hpA hpB => ?_
            | refine useK (by with_reducible assumption) ?_
            | refine useP (by with_reducible assumption) ?_
            | refine ED_cons (fun _ => ?_) ?_
            | (refine stable_mk ?_; simp (disch := first | (with_reducible assumption) | (simp; done) | omega | (simp; omega)) [hv2]; done)
            | (refine stable_no ?_; simp (disch := first | (with_reducible assumption) | (simp; done) | omega | (simp; omega)) [hv2]; done)
            | (with_reducible refine And.intro ?_ ?_)
            | (with_reducible intro hc)
            | (with_reducible refine GDsplit (fun hc => ?_) (fun hc => ?_) <;> try simp [hc])
            | (with_reducible refine GDsplitN (fun hc => ?_) (fun hc => ?_) <;> try simp [hc])
            | (with_reducible refine GDsplitNB (fun hc => ?_) (fun hc => ?_) <;> try simp [hc])
            | (with_reducible refine GDsplitB (fun hc => ?_) (fun hc => ?_) <;> try simp [hc])
            | (with_reducible refine GKsplit (fun hc => ?_) (fun hc => ?_) <;> try simp [hc])
            | (with_reducible refine GKsplitN (fun hc => ?_) (fun hc => ?_) <;> try simp [hc])
            | (with_reducible refine GKsplitNB (fun hc => ?_) (fun hc => ?_) <;> try simp [hc])
            | (with_reducible refine GKsplitB (fun hc => ?_) (fun hc => ?_) <;> try simp [hc])
            | simp (disch := first | (with_reducible assumption) | (simp; done) | omega | (simp; omega)) [hv2])
          refine hg4.app1 (x := x) cx.symm (by simp [cVS]) (by simp [LIM]; omega) (fun v3 G5 hg5 => ?_)
          have hv5 := hg5.plain
          repeat' (first
            | refine awp_seqK fun K' hpK => ?_
            | refine awp_block ?_
            | refine awp_condG fun A' B' hpA hpB => ?_
            | refine useK (by with_reducible assumption) ?_
            | refine useP (by with_reducible assumption) ?_
            | refine ED_cons (fun _ => ?_) ?_
            | (refine stable_mk ?_; simp (disch := first | (with_reducible assumption) | (simp; done) | omega | (simp; omega)) [hv5]; done)
            | (refine stable_no ?_; simp (disch := first | (with_reducible assumption) | (simp; done) | omega | (simp; omega)) [hv5]; done)
            | (with_reducible refine And.intro ?_ ?_)
            | (with_reducible intro hc)
            | (with_reducible refine GDsplit (fun hc => ?_) (fun hc => ?_) <;> try simp [hc])
            | (with_reducible refine GDsplitN (fun hc => ?_) (fun hc => ?_) <;> try simp [hc])
            | (with_reducible refine GDsplitNB (fun hc => ?_) (fun hc => ?_) <;> try simp [hc])
            | (with_reducible refine GDsplitB (fun hc => ?_) (fun hc => ?_) <;> try simp [hc])
            | (with_reducible refine GKsplit (fun hc => ?_) (fun hc => ?_) <;> try simp [hc])
            | (with_reducible refine GKsplitN (fun hc => ?_) (fun hc => ?_) <;> try simp [hc])
            | (with_reducible refine GKsplitNB (fun hc => ?_) (fun hc => ?_) <;> try simp [hc])
            | (with_reducible refine GKsplitB (fun hc => ?_) (fun hc => ?_) <;> try simp [hc])
            | simp (disch := first | (with_reducible assumption) | (simp; done) | omega | (simp; omega)) [hv5])
          refine hN2 (w2 - 1) _ _ (by omega) ⟨j + 1, v3, true, _, by omega, ?_, fun h => (by cases h), fun _ => ⟨?_, x, ?_, hlt2⟩, hg5, by simp⟩
          · simp; omega
          · rw [htk, insS_at e2 hlt2]; simp
          · rw [htk]; simp
        · rw [decide_eq_false hlt] at ls
          have hlt2 : ¬ lessS v x := fun h => hlt (hls.1 h)
          repeat' (first
            | refine awp_seqK fun K' hpK => ?_
            | refine awp_block ?_
            | refine awp_condG fun A' B' hpA hpB => ?_
            | refine useK (by with_reducible assumption) ?_
            | refine useP (by with_reducible assumption) ?_
            | refine ED_cons (fun _ => ?_) ?_
            | (refine stable_mk ?_; simp (disch := first | (with_reducible assumption) | (simp; done) | omega | (simp; omega)) [hjl, hatb3, hd0, hv3]; done)
            | (refine stable_no ?_; simp (disch := first | (with_reducible assumption) | (simp; done) | omega | (simp; omega)) [hjl, hatb3, hd0, hv3]; done)
            | (with_reducible refine And.intro ?_ ?_)
            | (with_reducible intro hc)
            | (with_reducible refine GDsplit (fun hc => ?_) (fun hc => ?_) <;> try simp [hc])
            | (with_reducible refine GDsplitN (fun hc => ?_) (fun hc => ?_) <;> try simp [hc])
            | (with_reducible refine GDsplitNB (fun hc => ?_) (fun hc => ?_) <;> try simp [hc])
            | (with_reducible refine GDsplitB (fun hc => ?_) (fun hc => ?_) <;> try simp [hc])
            | (with_reducible refine GKsplit (fun hc => ?_) (fun hc => ?_) <;> try simp [hc])
            | (with_reducible refine GKsplitN (fun hc => ?_) (fun hc => ?_) <;> try simp [hc])
            | (with_reducible refine GKsplitNB (fun hc => ?_) (fun hc => ?_) <;> try simp [hc])
            | (with_reducible refine GKsplitB (fun hc => ?_) (fun hc => ?_) <;> try simp [hc])
            | (refine CallK.use (ls _) ?_; rintro r G' _ _ ⟨rfl, rfl⟩)
            | simp (disch := first | (with_reducible assumption) | (simp; done) | omega | (simp; omega)) [hjl, hatb3, hd0, hv3])
          refine hg3.app1 (x := x) cx.symm (by simp [cVS]) (by simp [LIM]; omega) (fun v2 G4 hg4 => ?_)
          have hv2 := hg4.plain
          repeat' (first
            | refine awp_seqK fun K' hpK => ?_
            | refine awp_block ?_
            | refine awp_condG fun A' B' hpA hpB => ?_
            | refine useK (by with_reducible assumption) ?_
            | refine useP (by with_reducible assumption) ?_
            | refine ED_cons (fun _ => ?_) ?_
            | (refine stable_mk ?_; simp (disch := first | (with_reducible assumption) | (simp; done) | omega | (simp; omega)) [hv2]; done)
            | (refine stable_no ?_; simp (disch := first | (with_reducible assumption) | (simp; done) | omega | (simp; omega)) [hv2]; done)
            | (with_reducible refine And.intro ?_ ?_)
            | (with_reducible intro hc)
            | (with_reducible refine GDsplit (fun hc => ?_) (fun hc => ?_) <;> try simp [hc])
            | (with_reducible refine GDsplitN (fun hc => ?_) (fun hc => ?_) <;> try simp [hc])
            | (with_reducible refine GDsplitNB (fun hc => ?_) (fun hc => ?_) <;> try simp [hc])
            | (with_reducible refine GDsplitB (fun hc => ?_) (fun hc => ?_) <;> try simp [hc])
            | (with_reducible refine GKsplit (fun hc => ?_) (fun hc => ?_) <;> try simp [hc])
            | (with_reducible refine GKsplitN (fun hc => ?_) (fun hc => ?_) <;> try simp [hc])
            | (with_reducible refine GKsplitNB (fun hc => ?_) (fun hc => ?_) <;> try simp [hc])
            | (with_reducible refine GKsplitB (fun hc => ?_) (fun hc => ?_) <;> try simp [hc])
            | simp (disch := first | (with_reducible assumption) | (simp; done) | omega | (simp; omega)) [hv2])
          refine hN2 (w2 - 1) _ _ (by omega) ⟨j + 1, v2, false, _, by omega, ?_, fun _ => ⟨htk.symm, ?_⟩, fun h => (by cases h), hg4, by simp⟩
          · simp; omega
          · rw [htk]; intro y hy
            rcases List.mem_append.1 hy with h | h
            · exact e2 y h
            · rw [List.mem_singleton.1 h]; exact hlt2
    · rw [List.take_of_length_le (by omega)] at hb0 hb1
      cases f with
      | true =>
        obtain ⟨rfl, _⟩ := hb1 rfl
        have hkn := hg3.known
        have hks := hg3.scal
        have hkc := hg3.cells
        repeat' (first
          | refine awp_seqK fun K' hpK => ?_
          | refine awp_block ?_
          | refine awp_condG fun A' B' hpA hpB => ?_
          | refine useK (by with_reducible assumption) ?_
          | refine useP (by with_reducible assumption) ?_
          | refine ED_cons (fun _ => ?_) ?_
          | (refine stable_mk ?_; simp (disch := first | (with_reducible assumption) | (simp; done) | omega | (simp; omega)) [hjl, hv3, hat3, hrl2, hkn, hks, hkc]; done)
          | (refine stable_no ?_; simp (disch := first | (with_reducible assumption) | (simp; done) | omega | (simp; omega)) [hjl, hv3, hat3, hrl2, hkn, hks, hkc]; done)
          | (with_reducible refine And.intro ?_ ?_)
          | (with_reducible intro hc)
          | (with_reducible refine GDsplit (fun hc => ?_) (fun hc => ?_) <;> try simp [hc])
          | (with_reducible refine GDsplitN (fun hc => ?_) (fun hc => ?_) <;> try simp [hc])
          | (with_reducible refine GDsplitNB (fun hc => ?_) (fun hc => ?_) <;> try simp [hc])
          | (with_reducible refine GDsplitB (fun hc => ?_) (fun hc => ?_) <;> try simp [hc])
          | (with_reducible refine GKsplit (fun hc => ?_) (fun hc => ?_) <;> try simp [hc])
          | (with_reducible refine GKsplitN (fun hc => ?_) (fun hc => ?_) <;> try simp [hc])
          | (with_reducible refine GKsplitNB (fun hc => ?_) (fun hc => ?_) <;> try simp [hc])
          | (with_reducible refine GKsplitB (fun hc => ?_) (fun hc => ?_) <;> try simp [hc])
          | simp (disch := first | (with_reducible assumption) | (simp; done) | omega | (simp; omega)) [hjl, hv3, hat3, hrl2, hkn, hks, hkc])
        obtain ⟨h6, hsub, hg6⟩ := Grow.cut hg3 hat2 (o' := (0, rc K2 U2 o))
        have es := rc_set (out := out2) (o := o) hJ2.1 hJ2.2.1
        simp only [List.singleton_append] at es ⊢
        rw [es]
        exact ends_two_sub (by simp <;> exact ⟨rfl, rfl⟩) (by simp) (by simp) hsub (hpost _ _ ⟨⟨K2, U2, o, hJ2, hg6⟩, sg, rfl, hsg⟩)
      | false =>
        obtain ⟨rfl, e2⟩ := hb0 rfl
        repeat' (first
          | refine awp_seqK fun K' hpK => ?_
          | refine awp_block ?_
          | refine awp_condG fun A' B' hpA hpB => ?_
          | refine useK (by with_reducible assumption) ?_
          | refine useP (by with_reducible assumption) ?_
          | refine ED_cons (fun _ => ?_) ?_
          | (refine stable_mk ?_; simp (disch := first | (with_reducible assumption) | (simp; done) | omega | (simp; omega)) [hjl, hv3]; done)
          | (refine stable_no ?_; simp (disch := first | (with_reducible assumption) | (simp; done) | omega | (simp; omega)) [hjl, hv3]; done)
          | (with_reducible refine And.intro ?_ ?_)
          | (with_reducible intro hc)
          | (with_reducible refine GDsplit (fun hc => ?_) (fun hc => ?_) <;> try simp [hc])
          | (with_reducible refine GDsplitN (fun hc => ?_) (fun hc => ?_) <;> try simp [hc])
          | (with_reducible refine GDsplitNB (fun hc => ?_) (fun hc => ?_) <;> try simp [hc])
          | (with_reducible refine GDsplitB (fun hc => ?_) (fun hc => ?_) <;> try simp [hc])
          | (with_reducible refine GKsplit (fun hc => ?_) (fun hc => ?_) <;> try simp [hc])
          | (with_reducible refine GKsplitN (fun hc => ?_) (fun hc => ?_) <;> try simp [hc])
          | (with_reducible refine GKsplitNB (fun hc => ?_) (fun hc => ?_) <;> try simp [hc])
          | (with_reducible refine GKsplitB (fun hc => ?_) (fun hc => ?_) <;> try simp [hc])
          | simp (disch := first | (with_reducible assumption) | (simp; done) | omega | (simp; omega)) [hjl, hv3])
        refine hg3.app1 (x := v) cv.symm (by simp [cVS]) (by simp [LIM]; omega) (fun v2 G4 hg4 => ?_)
        have hv2 := hg4.plain
        have hkn := hg4.known
        have hks := hg4.scal
        have hkc := hg4.cells
        have hat4 := hg4.base hat2
        repeat' (first
          | refine awp_seqK fun K' hpK => ?_
          | refine awp_block ?_
          | refine awp_condG fun A' B' hpA hpB => ?_
          | refine useK (by with_reducible assumption) ?_
          | refine useP (by with_reducible assumption) ?_
          | refine ED_cons (fun _ => ?_) ?_
          | (refine stable_mk ?_; simp (disch := first | (with_reducible assumption) | (simp; done) | omega | (simp; omega)) [hv2, hat4, hrl2, hkn, hks, hkc]; done)
          | (refine stable_no ?_; simp (disch := first | (with_reducible assumption) | (simp; done) | omega | (simp; omega)) [hv2, hat4, hrl2, hkn, hks, hkc]; done)
          | (with_reducible refine And.intro ?_ ?_)
          | (with_reducible intro hc)
          | (with_reducible refine GDsplit (fun hc => ?_) (fun hc => ?_) <;> try simp [hc])
          | (with_reducible refine GDsplitN (fun hc => ?_) (fun hc => ?_) <;> try simp [hc])
          | (with_reducible refine GDsplitNB (fun hc => ?_) (fun hc => ?_) <;> try simp [hc])
          | (with_reducible refine GDsplitB (fun hc => ?_) (fun hc => ?_) <;> try simp [hc])
          | (with_reducible refine GKsplit (fun hc => ?_) (fun hc => ?_) <;> try simp [hc])
          | (with_reducible refine GKsplitN (fun hc => ?_) (fun hc => ?_) <;> try simp [hc])
          | (with_reducible refine GKsplitNB (fun hc => ?_) (fun hc => ?_) <;> try simp [hc])
          | (with_reducible refine GKsplitB (fun hc => ?_) (fun hc => ?_) <;> try simp [hc])
          | simp (disch := first | (with_reducible assumption) | (simp; done) | omega | (simp; omega)) [hv2, hat4, hrl2, hkn, hks, hkc])
        obtain ⟨h6, hsub, hg6⟩ := Grow.cut hg4 hat2 (o' := (0, rc K2 U2 v2))
        have es := rc_set (out := out2) (o := v2) hJ2.1 hJ2.2.1
        simp only [List.singleton_append] at es ⊢
        rw [es]
        rw [← insS_all e2] at hg6
        exact ends_two_sub (by simp <;> exact ⟨rfl, rfl⟩) (by simp) (by simp) hsub (hpost _ _ ⟨⟨K2, U2, v2, hJ2, hg6⟩, sg, rfl, hsg⟩)
end Go.Proofs.Ytapocekfkbkefaa
