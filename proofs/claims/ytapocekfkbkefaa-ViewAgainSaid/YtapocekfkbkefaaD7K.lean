import Derived.Test.YtapocekfkbkefaaD6K
set_option linter.unusedSimpArgs false
set_option linter.unusedVariables false
namespace Go.Proofs.Ytapocekfkbkefaa
open Go Go.Al
set_option maxRecDepth 20000
attribute [local irreducible] awp aops aopsD eop pv ACalls CallK AppK AEnds ti

theorem loses1_c {k : Int} {x : Sn} {tb f : Nat} {caps : List AV} {F : Hp} {p : Sn → Bool} (hF : F tb = some (0, [.fn f caps])) (hcal : callable Try.prog f = true) (hcp : (AV.fn f caps).plain = true) (hp : ACalls Try.prog f ([x.av] ++ caps) F fun r G' => G' = F ∧ r = .bool (p x)) : ACalls Try.prog 52 ([.int .i64 k, x.av] ++ [.ptr tb 0]) F fun r G' => G' = F ∧ r = .bool (p x) := by
  simp only [Sn.av] at hp
  refine ACalls.hide fun post hpost => ?_
  refine F52_in (by simp) (by simp) fun hbd => ?_
  repeat' (first
    | refine awp_seqK fun K' hpK => ?_
    | refine awp_block ?_
    | refine awp_condG fun A' B' hpA hpB => ?_
    | refine useK (by with_reducible assumption) ?_
    | refine useP (by with_reducible assumption) ?_
    | refine ED_cons (fun _ => ?_) ?_
    | (refine stable_mk ?_; simp (disch := first | (with_reducible assumption) | (simp; done) | omega | (simp; omega)) [hF, hcal]; done)
    | (refine stable_no ?_; simp (disch := first | (with_reducible assumption) | (simp; done) | omega | (simp; omega)) [hF, hcal]; done)
    | (with_reducible refine And.intro ?_ ?_)
    | (with_reducible intro hc)
    | (with_reducible refine GDsplit (fun hc => ?_) (fun hc => ?_) <;> try simp [hc])
    | (with_reducible refine GDsplitN (fun hc => ?_) (fun hc => ?_) <;> try simp [hc])
    | (with_reducible refine GDsplitNB (fun hc => ?_) (fun hc => ?_) <;> try simp [hc])
    | (with_reducible refine GDsplitB (fun hc => ?_) (fun hc => ?_) <;> try simp [hc])
    | (with_reducible refine GKsplit (fun hc => ?_) (fun hc => ?_) <;> try simp [hc])
    | (with_reducible refine GKsplitN (fun hc => ?_) (fun hc => ?_) <;> try simp [hc])
    | (with_reducible refine GKsplitNB (fun hc => ?_) (fun hc => ?_) <;> try simp [hc])
    | (with_reducible refine GKsplitB (fun hc => ?_) (fun hc => ?_) <;> try simp [hc])
    | (refine CallK.use (hp) ?_; rintro r G' _ _ ⟨rfl, rfl⟩)
    | simp (disch := first | (with_reducible assumption) | (simp; done) | omega | (simp; omega)) [hF, hcal])
  exact ends_one (by simp <;> rfl) (by simp) (hpost _ _ ⟨rfl, rfl⟩)
theorem ext_set {F : Hp} {b : Nat} {o : Nat × List AV} (h : F b = none) : Ext F (setH F b (some o)) := by
  intro i p hi
  by_cases e : i = b
  · subst e; rw [h] at hi; cases hi
  · rw [setH_ne _ _ e]; exact hi
theorem sub_ext {F F' h : Hp} (hx : Ext F F') (hd : Dis F' h) : sub (uni F h) (uni F' h) := by
  intro i o hi
  cases hq : F i with
  | some q => rw [uni_left hq] at hi; rw [uni_left (hx i q hq)]; exact hi
  | none =>
    rw [uni_right hq] at hi
    rcases hd i with h1 | h1
    · rw [uni_right h1]; exact hi
    · rw [h1] at hi; cases hi
theorem dis_ext {F F' h : Hp} (hx : Ext F F') (hd : Dis F' h) : Dis F h := by
  intro i
  rcases hd i with h1 | h1
  · left
    cases hq : F i with
    | none => rfl
    | some o => rw [hx i o hq] at h1; cases h1
  · exact .inr h1
theorem frz_sub {α : Type} {f : α → List AV} {sz : Nat} {G0 G1 G : Hp} {out : AV} {l : List α} (h : Grow f sz G0 G out l) (hf : ∀ x, (f x).length = sz) (h1 : sub G1 G0) : ∃ s : Option (List α), LL s = l ∧ Frz G G1 out (ofS f s) ∧ sub G1 G := by
  have h0 := h
  rcases h with ⟨rfl, rfl, rfl⟩ | ⟨b, τ, hb, rfl, rfl⟩
  · exact ⟨none, rfl, .refl _, h1⟩
  · refine ⟨some l, rfl, .ms b 0 l.length sz τ (l.flatMap f) (l.flatMap f) (setH_same ..) ?_ ?_, fun c o hc => ?_⟩
    · cases e : G1 b with
      | none => rfl
      | some o => rw [h1 b o e] at hb; cases hb
    · have : ((l.flatMap f).drop 0).take (l.length * sz) = l.flatMap f := by rw [List.drop_zero, ← flat_len hf l, List.take_length]
      rw [this]; exact Frzs.refl _
    · exact h0.base (h1 c o hc)
set_option maxHeartbeats 2000000 in
theorem loses_c {pb sp sl : Nat} {F hk : Hp} {L : List (Int × Sn)} {f : Nat} {caps : List AV} {p : Sn → Bool} (hF : F pb = some (0, [.ptr sp 0, .ptr sl 0])) (hdis : Dis F hk) (hs : SHS sl hk L 64) (hl : L.length ≤ 1000) (hcal : callable Try.prog f = true) (hcp : (AV.fn f caps).plain = true)
    (hp : ∀ x ∈ L.map Prod.snd, ACalls Try.prog f ([x.av] ++ caps) F fun r G' => G' = F ∧ r = .bool (p x)) : ACalls Try.prog 35 [.ptr pb 0, .fn f caps] (uni F hk) fun r G' => ∃ hk', G' = uni F hk' ∧ Dis F hk' ∧ SHS sl hk' (L.filter fun x => !p x.2) 64 ∧ ∃ s, r = ofS cLk s ∧ LL s = ((L.filter fun x => p x.2).map Prod.snd).map Sn.lk := by
  refine ACalls.hide fun post hpost => ?_
  refine F35_in (by simp) (by simp) fun hbd => ?_
  repeat' (first
    | refine awp_seqK fun K' hpK => ?_
    | refine awp_block ?_
    | refine awp_condG fun A' B' hpA hpB => ?_
    | refine useK (by with_reducible assumption) ?_
    | refine useP (by with_reducible assumption) ?_
    | refine ED_cons (fun _ => ?_) ?_
    | (refine stable_mk ?_; simp (disch := first | (with_reducible assumption) | (simp; done) | omega | (simp; omega)); done)
    | (refine stable_no ?_; simp (disch := first | (with_reducible assumption) | (simp; done) | omega | (simp; omega)); done)
    | (with_reducible refine And.intro ?_ ?_)
    | (with_reducible intro hc)
    | (with_reducible refine GDsplit (fun hc => ?_) (fun hc => ?_) <;> try simp [hc])
    | (with_reducible refine GDsplitN (fun hc => ?_) (fun hc => ?_) <;> try simp [hc])
    | (with_reducible refine GDsplitNB (fun hc => ?_) (fun hc => ?_) <;> try simp [hc])
    | (with_reducible refine GDsplitB (fun hc => ?_) (fun hc => ?_) <;> try simp [hc])
    | (with_reducible refine GKsplit (fun hc => ?_) (fun hc => ?_) <;> try simp [hc])
    | (with_reducible refine GKsplitN (fun hc => ?_) (fun hc => ?_) <;> try simp [hc])
    | (with_reducible refine GKsplitNB (fun hc => ?_) (fun hc => ?_) <;> try simp [hc])
    | (with_reducible refine GKsplitB (fun hc => ?_) (fun hc => ?_) <;> try simp [hc])
    | simp (disch := first | (with_reducible assumption) | (simp; done) | omega | (simp; omega)))
  intro tb htb
  refine ⟨0, ?_⟩
  have hFt : F tb = none := by
    cases e : F tb with
    | none => rfl
    | some o => rw [uni_left e] at htb; cases htb
  have hkt : hk tb = none := by rw [uni_right hFt] at htb; exact htb
  have hne : pb ≠ tb := by rintro rfl; rw [hF] at hFt; cases hFt
  rw [uni_swapF hkt]
  obtain ⟨F', hF'⟩ : ∃ F', F' = setH F tb (some (0, [.fn f caps])) := ⟨_, rfl⟩
  have hx : Ext F F' := by rw [hF']; exact ext_set hFt
  have hFtb : F' tb = some (0, [.fn f caps]) := by rw [hF', setH_same]
  have hFpb : F' pb = some (0, [.ptr sp 0, .ptr sl 0]) := hx _ _ hF
  have hdis' : Dis F' hk := by rw [hF']; exact dis_set hdis hkt
  rw [← hF']
  have hG : uni F' hk pb = some (0, [.ptr sp 0, .ptr sl 0]) := uni_left hFpb
  have dc := dropS_c (f := 52) (caps := [.ptr tb 0]) (p := fun x => p x.2) hs (by omega) hdis' (by simp) (by simp) (fun x hx2 => loses1_c (p := p) (x := x.2) hFtb hcal hcp ((hp x.2 (List.mem_map_of_mem hx2)).ext hx))
  repeat' (first
    | refine awp_seqK fun K' hpK => ?_
    | refine awp_block ?_
    | refine awp_condG fun A' B' hpA hpB => ?_
    | refine useK (by with_reducible assumption) ?_
    | refine useP (by with_reducible assumption) ?_
    | refine ED_cons (fun _ => ?_) ?_
    | (refine stable_mk ?_; simp (disch := first | (with_reducible assumption) | (simp; done) | omega | (simp; omega)) [hG]; done)
    | (refine stable_no ?_; simp (disch := first | (with_reducible assumption) | (simp; done) | omega | (simp; omega)) [hG]; done)
    | (with_reducible refine And.intro ?_ ?_)
    | (with_reducible intro hc)
    | (with_reducible refine GDsplit (fun hc => ?_) (fun hc => ?_) <;> try simp [hc])
    | (with_reducible refine GDsplitN (fun hc => ?_) (fun hc => ?_) <;> try simp [hc])
    | (with_reducible refine GDsplitNB (fun hc => ?_) (fun hc => ?_) <;> try simp [hc])
    | (with_reducible refine GDsplitB (fun hc => ?_) (fun hc => ?_) <;> try simp [hc])
    | (with_reducible refine GKsplit (fun hc => ?_) (fun hc => ?_) <;> try simp [hc])
    | (with_reducible refine GKsplitN (fun hc => ?_) (fun hc => ?_) <;> try simp [hc])
    | (with_reducible refine GKsplitNB (fun hc => ?_) (fun hc => ?_) <;> try simp [hc])
    | (with_reducible refine GKsplitB (fun hc => ?_) (fun hc => ?_) <;> try simp [hc])
    | simp (disch := first | (with_reducible assumption) | (simp; done) | omega | (simp; omega)) [hG])
  refine CallK.use dc ?_
  rintro r G2 _ _ ⟨hk', rfl, hdis2, hs', t, rfl, ht⟩
  have htl : (LL t).length ≤ 1000 := by rw [ht, List.length_map]; exact Nat.le_trans (List.length_filter_le _ _) hl
  rw [← ht] at hpost
  repeat' (first
    | refine awp_seqK fun K' hpK => ?_
    | refine awp_block ?_
    | refine awp_condG fun A' B' hpA hpB => ?_
    | refine useK (by with_reducible assumption) ?_
    | refine useP (by with_reducible assumption) ?_
    | refine ED_cons (fun _ => ?_) ?_
    | (refine stable_mk ?_; simp (disch := first | (with_reducible assumption) | (simp; done) | omega | (simp; omega)); done)
    | (refine stable_no ?_; simp (disch := first | (with_reducible assumption) | (simp; done) | omega | (simp; omega)); done)
    | (with_reducible refine And.intro ?_ ?_)
    | (with_reducible intro hc)
    | (with_reducible refine GDsplit (fun hc => ?_) (fun hc => ?_) <;> try simp [hc])
    | (with_reducible refine GDsplitN (fun hc => ?_) (fun hc => ?_) <;> try simp [hc])
    | (with_reducible refine GDsplitNB (fun hc => ?_) (fun hc => ?_) <;> try simp [hc])
    | (with_reducible refine GDsplitB (fun hc => ?_) (fun hc => ?_) <;> try simp [hc])
    | (with_reducible refine GKsplit (fun hc => ?_) (fun hc => ?_) <;> try simp [hc])
    | (with_reducible refine GKsplitN (fun hc => ?_) (fun hc => ?_) <;> try simp [hc])
    | (with_reducible refine GKsplitNB (fun hc => ?_) (fun hc => ?_) <;> try simp [hc])
    | (with_reducible refine GKsplitB (fun hc => ?_) (fun hc => ?_) <;> try simp [hc])
    | simp (disch := first | (with_reducible assumption) | (simp; done) | omega | (simp; omega)))
  refine awp_loop' (fun w T G2 => ∃ (j : Nat) (v : AV), j + w = (LL t).length ∧ Grow cLk 4 (uni F' hk') G2 v (((LL t).take j).map Sn.lk) ∧ T = ofL [(5, v), (13, ofS cVS t), (14, .int .i64 (LL t).length), (15, .int .i64 j)]) (LL t).length ⟨0, .nils, by omega, Grow.nil _ _, by simp⟩ ?_
  rintro w T G2 ⟨j, v, hj, hg, rfl⟩ N hN
  have hv := hg.plain
  by_cases hjl : j < (LL t).length
  · obtain ⟨x, hx⟩ : ∃ x, x = (LL t)[j] := ⟨_, rfl⟩
    have htk := take_succ_get (LL t) j hjl
    rw [← hx] at htk
    repeat' (first
      | refine awp_seqK fun K' hpK => ?_
      | refine awp_block ?_
      | refine awp_condG fun A' B' hpA hpB => ?_
      | refine useK (by with_reducible assumption) ?_
      | refine useP (by with_reducible assumption) ?_
      | refine ED_cons (fun _ => ?_) ?_
      | (refine stable_mk ?_; simp (disch := first | (with_reducible assumption) | (simp; done) | omega | (simp; omega)) [hjl, ofS_idx (f := cVS), cVS, ← hx, hv]; done)
      | (refine stable_no ?_; simp (disch := first | (with_reducible assumption) | (simp; done) | omega | (simp; omega)) [hjl, ofS_idx (f := cVS), cVS, ← hx, hv]; done)
      | (with_reducible refine And.intro ?_ ?_)
      | (with_reducible intro hc)
      | (with_reducible refine GDsplit (fun hc => ?_) (fun hc => ?_) <;> try simp [hc])
      | (with_reducible refine GDsplitN (fun hc => ?_) (fun hc => ?_) <;> try simp [hc])
      | (with_reducible refine GDsplitNB (fun hc => ?_) (fun hc => ?_) <;> try simp [hc])
      | (with_reducible refine GDsplitB (fun hc => ?_) (fun hc => ?_) <;> try simp [hc])
      | (with_reducible refine GKsplit (fun hc => ?_) (fun hc => ?_) <;> try simp [hc])
      | (with_reducible refine GKsplitN (fun hc => ?_) (fun hc => ?_) <;> try simp [hc])
      | (with_reducible refine GKsplitNB (fun hc => ?_) (fun hc => ?_) <;> try simp [hc])
      | (with_reducible refine GKsplitB (fun hc => ?_) (fun hc => ?_) <;> try simp [hc])
      | simp (disch := first | (with_reducible assumption) | (simp; done) | omega | (simp; omega)) [hjl, ofS_idx (f := cVS), cVS, ← hx, hv])
    refine hg.app1 (x := x.lk) (by simp [cLk, Sn.lk]) (by simp [cLk]) (by simp [LIM]; omega) (fun v2 G3 hg3 => ?_)
    have hv2 := hg3.plain
    repeat' (first
      | refine awp_seqK fun K' hpK => ?_
      | refine awp_block ?_
      | refine awp_condG fun A' B' hpA hpB => ?_
      | refine useK (by with_reducible assumption) ?_
      | refine useP (by with_reducible assumption) ?_
      | refine ED_cons (fun _ => ?_) ?_
      | (refine stable_mk ?_; simp (disch := first | (with_reducible assumption) | (simp; done) | omega | (simp; omega)) [hv2]; done)
      | (refine stable_no ?_; simp (disch := first | (with_reducible assumption) | (simp; done) | omega | (simp; omega)) [hv2]; done)
      | (with_reducible refine And.intro ?_ ?_)
      | (with_reducible intro hc)
      | (with_reducible refine GDsplit (fun hc => ?_) (fun hc => ?_) <;> try simp [hc])
      | (with_reducible refine GDsplitN (fun hc => ?_) (fun hc => ?_) <;> try simp [hc])
      | (with_reducible refine GDsplitNB (fun hc => ?_) (fun hc => ?_) <;> try simp [hc])
      | (with_reducible refine GDsplitB (fun hc => ?_) (fun hc => ?_) <;> try simp [hc])
      | (with_reducible refine GKsplit (fun hc => ?_) (fun hc => ?_) <;> try simp [hc])
      | (with_reducible refine GKsplitN (fun hc => ?_) (fun hc => ?_) <;> try simp [hc])
      | (with_reducible refine GKsplitNB (fun hc => ?_) (fun hc => ?_) <;> try simp [hc])
      | (with_reducible refine GKsplitB (fun hc => ?_) (fun hc => ?_) <;> try simp [hc])
      | simp (disch := first | (with_reducible assumption) | (simp; done) | omega | (simp; omega)) [hv2])
    exact hN (w - 1) _ _ (by omega) ⟨j + 1, v2, by omega, by rw [htk, List.map_append]; exact hg3, by simp⟩
  · rw [List.take_of_length_le (by omega)] at hg
    repeat' (first
      | refine awp_seqK fun K' hpK => ?_
      | refine awp_block ?_
      | refine awp_condG fun A' B' hpA hpB => ?_
      | refine useK (by with_reducible assumption) ?_
      | refine useP (by with_reducible assumption) ?_
      | refine ED_cons (fun _ => ?_) ?_
      | (refine stable_mk ?_; simp (disch := first | (with_reducible assumption) | (simp; done) | omega | (simp; omega)) [hjl, hv]; done)
      | (refine stable_no ?_; simp (disch := first | (with_reducible assumption) | (simp; done) | omega | (simp; omega)) [hjl, hv]; done)
      | (with_reducible refine And.intro ?_ ?_)
      | (with_reducible intro hc)
      | (with_reducible refine GDsplit (fun hc => ?_) (fun hc => ?_) <;> try simp [hc])
      | (with_reducible refine GDsplitN (fun hc => ?_) (fun hc => ?_) <;> try simp [hc])
      | (with_reducible refine GDsplitNB (fun hc => ?_) (fun hc => ?_) <;> try simp [hc])
      | (with_reducible refine GDsplitB (fun hc => ?_) (fun hc => ?_) <;> try simp [hc])
      | (with_reducible refine GKsplit (fun hc => ?_) (fun hc => ?_) <;> try simp [hc])
      | (with_reducible refine GKsplitN (fun hc => ?_) (fun hc => ?_) <;> try simp [hc])
      | (with_reducible refine GKsplitNB (fun hc => ?_) (fun hc => ?_) <;> try simp [hc])
      | (with_reducible refine GKsplitB (fun hc => ?_) (fun hc => ?_) <;> try simp [hc])
      | simp (disch := first | (with_reducible assumption) | (simp; done) | omega | (simp; omega)) [hjl, hv])
    obtain ⟨s, hs2, hz, hsub⟩ := frz_sub hg (by simp) (sub_ext hx hdis2)
    exact ends_fr1 (by simp <;> rfl) hv hsub hz (hpost _ _ ⟨hk', rfl, dis_ext hx hdis2, hs', s, rfl, hs2⟩)
end Go.Proofs.Ytapocekfkbkefaa
