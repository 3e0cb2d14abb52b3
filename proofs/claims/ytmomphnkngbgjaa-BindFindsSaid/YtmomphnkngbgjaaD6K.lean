import Derived.Test.YtmomphnkngbgjaaD5K
set_option linter.unusedSimpArgs false
set_option linter.unusedVariables false
namespace Go.Proofs.Ytmomphnkngbgjaa
open Go Go.Al
set_option maxRecDepth 20000
attribute [local irreducible] awp aops aopsD eop pv ACalls CallK AppK AEnds ti

theorem ext_set {F : Hp} {b : Nat} {o : Nat × List AV} (h : F b = none) : Ext F (setH F b (some o)) := by
  intro i p hi
  by_cases e : i = b
  · subst e; rw [h] at hi; cases hi
  · rw [setH_ne _ _ e]; exact hi
theorem ext_trans {F G H : Hp} (h : Ext F G) (k : Ext G H) : Ext F H := fun b o e => k b o (h b o e)
theorem drop1_c {k : Int} {x : Bd} {tb f : Nat} {caps : List AV} {F : Hp} {p : Bd → Bool} (hF : F tb = some (0, [.fn f caps])) (hcal : callable Try.prog f = true) (hcp : (AV.fn f caps).plain = true) (hp : ACalls Try.prog f ([x.av] ++ caps) F fun r G' => G' = F ∧ r = .bool (p x)) : ACalls Try.prog 56 ([.int .u64 k, x.av] ++ [.ptr tb 0]) F fun r G' => G' = F ∧ r = .bool (p x) := by
  simp only [Bd.av] at hp
  refine ACalls.hide fun post hpost => ?_
  refine F56_in (by simp) (by simp) fun hbd => ?_
  repeat' (first
    | refine awp_seqK fun K' hpK => ?_
    | refine awp_block ?_
    | refine awp_condG fun A' B' hpA hpB => ?_
    | refine useK (by with_reducible assumption) ?_
    | refine useP (by with_reducible assumption) ?_
    | refine ED_cons (fun _ => ?_) ?_
    | (refine stable_mk ?_; simp (disch := first | (with_reducible assumption) | (simp; done) | omega | (simp; omega)) [hF, hcal]; done)
    | (refine stable_no ?_; simp (disch := first | (with_reducible assumption) | (simp; done) | omega | (simp; omega)) [hF, hcal]; done)
    | (with_reducible refine And.intro ?_ ?_)
    | (with_reducible intro hc)
    | (with_reducible refine GDsplit (fun hc => ?_) (fun hc => ?_) <;> try simp [hc])
    | (with_reducible refine GDsplitN (fun hc => ?_) (fun hc => ?_) <;> try simp [hc])
    | (with_reducible refine GDsplitNB (fun hc => ?_) (fun hc => ?_) <;> try simp [hc])
    | (with_reducible refine GDsplitB (fun hc => ?_) (fun hc => ?_) <;> try simp [hc])
    | (with_reducible refine GKsplit (fun hc => ?_) (fun hc => ?_) <;> try simp [hc])
    | (with_reducible refine GKsplitN (fun hc => ?_) (fun hc => ?_) <;> try simp [hc])
    | (with_reducible refine GKsplitNB (fun hc => ?_) (fun hc => ?_) <;> try simp [hc])
    | (with_reducible refine GKsplitB (fun hc => ?_) (fun hc => ?_) <;> try simp [hc])
    | (refine CallK.use (hp) ?_; rintro r G' _ _ ⟨rfl, rfl⟩)
    | simp (disch := first | (with_reducible assumption) | (simp; done) | omega | (simp; omega)) [hF, hcal])
  exact ends_one (by simp <;> rfl) (by simp) (hpost _ _ ⟨rfl, rfl⟩)
set_option maxHeartbeats 2000000 in
theorem tdrop_c {pb : Nat} {F G : Hp} {L : List (Int × Bd)} {f : Nat} {caps : List AV} {p : Bd → Bool} (hdis : Dis F G) (hP : TH pb G L) (hl : L.length ≤ 64) (hcal : callable Try.prog f = true) (hcp : (AV.fn f caps).plain = true)
    (hp : ∀ x ∈ L.map Prod.snd, ACalls Try.prog f ([x.av] ++ caps) F fun r G' => G' = F ∧ r = .bool (p x)) : ACalls Try.prog 40 [.ptr pb 0, .fn f caps] (uni F G) fun r G' => ∃ G1, G' = uni F G1 ∧ Dis F G1 ∧ TH pb G1 (L.filter fun x => !p x.2) ∧ ∃ s, r = ofS cVB s ∧ LL s = (L.filter fun x => p x.2).map Prod.snd := by
  obtain ⟨sb, h, rfl, hpb, hs⟩ := hP
  have hFp : F pb = none := by
    rcases hdis pb with h1 | h1
    · exact h1
    · rw [setH_same] at h1; cases h1
  have hd0 : Dis F h := by
    intro i
    rcases hdis i with h1 | h1
    · exact .inl h1
    · by_cases e : i = pb
      · subst e; exact .inr hpb
      · rw [setH_ne _ _ e] at h1; exact .inr h1
  have hpbu : uni F (setH h pb (some (TO sb))) pb = some (TO sb) := by rw [uni_right hFp, setH_same]
  refine ACalls.hide fun post hpost => ?_
  refine F40_in (by simp) (by simp) fun hbd => ?_
  repeat' (first
    | refine awp_seqK fun K' hpK => ?_
    | refine awp_block ?_
    | refine awp_condG fun A' B' hpA hpB => ?_
    | refine useK (by with_reducible assumption) ?_
    | refine useP (by with_reducible assumption) ?_
    | refine ED_cons (fun _ => ?_) ?_
    | (refine stable_mk ?_; simp (disch := first | (with_reducible assumption) | (simp; done) | omega | (simp; omega)); done)
    | (refine stable_no ?_; simp (disch := first | (with_reducible assumption) | (simp; done) | omega | (simp; omega)); done)
    | (with_reducible refine And.intro ?_ ?_)
    | (with_reducible intro hc)
    | (with_reducible refine GDsplit (fun hc => ?_) (fun hc => ?_) <;> try simp [hc])
    | (with_reducible refine GDsplitN (fun hc => ?_) (fun hc => ?_) <;> try simp [hc])
    | (with_reducible refine GDsplitNB (fun hc => ?_) (fun hc => ?_) <;> try simp [hc])
    | (with_reducible refine GDsplitB (fun hc => ?_) (fun hc => ?_) <;> try simp [hc])
    | (with_reducible refine GKsplit (fun hc => ?_) (fun hc => ?_) <;> try simp [hc])
    | (with_reducible refine GKsplitN (fun hc => ?_) (fun hc => ?_) <;> try simp [hc])
    | (with_reducible refine GKsplitNB (fun hc => ?_) (fun hc => ?_) <;> try simp [hc])
    | (with_reducible refine GKsplitB (fun hc => ?_) (fun hc => ?_) <;> try simp [hc])
    | simp (disch := first | (with_reducible assumption) | (simp; done) | omega | (simp; omega)))
  intro tb htb
  refine ⟨0, ?_⟩
  have hne : tb ≠ pb := by rintro rfl; rw [hpbu] at htb; cases htb
  have hFt : F tb = none := by
    cases e : F tb with
    | none => rfl
    | some o => rw [uni_left e] at htb; cases htb
  have hht : h tb = none := by rw [uni_right hFt, setH_ne _ _ hne] at htb; exact htb
  obtain ⟨F', hF'⟩ : ∃ F', F' = setH (setH F pb (some (TO sb))) tb (some (0, [.fn f caps])) := ⟨_, rfl⟩
  have e1 : setH (uni F (setH h pb (some (TO sb)))) tb (some (0, [.fn f caps])) = uni F' h := by
    rw [uni_swap hFp, uni_swapF hpb, uni_swapF hht, hF']
  have hdis' : Dis F' h := by rw [hF']; exact dis_set (dis_set hd0 hpb) hht
  have hx : Ext F F' := by
    rw [hF']
    exact ext_trans (ext_set hFp) (ext_set (by rw [setH_ne _ _ hne]; exact hFt))
  have hFtb : F' tb = some (0, [.fn f caps]) := by rw [hF', setH_same]
  have hFpb : F' pb = some (0, [.ptr sb 0]) := by rw [hF', setH_ne _ _ hne.symm, setH_same]; rfl
  have hGpb : uni F' h pb = some (0, [.ptr sb 0]) := uni_left hFpb
  rw [e1]
  repeat' (first
    | refine awp_seqK fun K' hpK => ?_
    | refine awp_block ?_
    | refine awp_condG fun A' B' hpA hpB => ?_
    | refine useK (by with_reducible assumption) ?_
    | refine useP (by with_reducible assumption) ?_
    | refine ED_cons (fun _ => ?_) ?_
    | (refine stable_mk ?_; simp (disch := first | (with_reducible assumption) | (simp; done) | omega | (simp; omega)) [hGpb]; done)
    | (refine stable_no ?_; simp (disch := first | (with_reducible assumption) | (simp; done) | omega | (simp; omega)) [hGpb]; done)
    | (with_reducible refine And.intro ?_ ?_)
    | (with_reducible intro hc)
    | (with_reducible refine GDsplit (fun hc => ?_) (fun hc => ?_) <;> try simp [hc])
    | (with_reducible refine GDsplitN (fun hc => ?_) (fun hc => ?_) <;> try simp [hc])
    | (with_reducible refine GDsplitNB (fun hc => ?_) (fun hc => ?_) <;> try simp [hc])
    | (with_reducible refine GDsplitB (fun hc => ?_) (fun hc => ?_) <;> try simp [hc])
    | (with_reducible refine GKsplit (fun hc => ?_) (fun hc => ?_) <;> try simp [hc])
    | (with_reducible refine GKsplitN (fun hc => ?_) (fun hc => ?_) <;> try simp [hc])
    | (with_reducible refine GKsplitNB (fun hc => ?_) (fun hc => ?_) <;> try simp [hc])
    | (with_reducible refine GKsplitB (fun hc => ?_) (fun hc => ?_) <;> try simp [hc])
    | simp (disch := first | (with_reducible assumption) | (simp; done) | omega | (simp; omega)) [hGpb])
  have dc := dropB_c (f := 56) (caps := [.ptr tb 0]) (p := fun x => p x.2) hs (by omega) hdis' (by simp) (by simp) (fun x hx2 => drop1_c (p := p) (x := x.2) hFtb hcal hcp ((hp x.2 (List.mem_map_of_mem hx2)).ext hx))
  refine CallK.use dc ?_
  rintro r G2 _ _ ⟨h', rfl, hdis2, hs', s, rfl, hss⟩
  have hpb' : h' pb = none := by
    rcases hdis2 pb with h1 | h1
    · rw [hFpb] at h1; cases h1
    · exact h1
  have htb' : h' tb = none := by
    rcases hdis2 tb with h1 | h1
    · rw [hFtb] at h1; cases h1
    · exact h1
  have hdF : Dis F (setH h' pb (some (TO sb))) := by
    intro i
    by_cases e : i = pb
    · subst e; exact .inl hFp
    · rw [setH_ne _ _ e]
      rcases hdis2 i with h1 | h1
      · left
        cases hq : F i with
        | none => rfl
        | some o => rw [hx i o hq] at h1; cases h1
      · exact .inr h1
  have hsub : sub (uni F (setH h' pb (some (TO sb)))) (uni F' h') := by
    intro i o hi
    by_cases e : i = pb
    · subst e
      rw [uni_right hFp, setH_same] at hi
      rw [uni_left hFpb]; exact hi
    · cases hq : F i with
      | some q => rw [uni_left hq] at hi; rw [uni_left (hx i q hq)]; exact hi
      | none =>
        rw [uni_right hq, setH_ne _ _ e] at hi
        rcases hdis2 i with h1 | h1
        · rw [uni_right h1]; exact hi
        · rw [h1] at hi; cases hi
  repeat' (first
    | refine awp_seqK fun K' hpK => ?_
    | refine awp_block ?_
    | refine awp_condG fun A' B' hpA hpB => ?_
    | refine useK (by with_reducible assumption) ?_
    | refine useP (by with_reducible assumption) ?_
    | refine ED_cons (fun _ => ?_) ?_
    | (refine stable_mk ?_; simp (disch := first | (with_reducible assumption) | (simp; done) | omega | (simp; omega)); done)
    | (refine stable_no ?_; simp (disch := first | (with_reducible assumption) | (simp; done) | omega | (simp; omega)); done)
    | (with_reducible refine And.intro ?_ ?_)
    | (with_reducible intro hc)
    | (with_reducible refine GDsplit (fun hc => ?_) (fun hc => ?_) <;> try simp [hc])
    | (with_reducible refine GDsplitN (fun hc => ?_) (fun hc => ?_) <;> try simp [hc])
    | (with_reducible refine GDsplitNB (fun hc => ?_) (fun hc => ?_) <;> try simp [hc])
    | (with_reducible refine GDsplitB (fun hc => ?_) (fun hc => ?_) <;> try simp [hc])
    | (with_reducible refine GKsplit (fun hc => ?_) (fun hc => ?_) <;> try simp [hc])
    | (with_reducible refine GKsplitN (fun hc => ?_) (fun hc => ?_) <;> try simp [hc])
    | (with_reducible refine GKsplitNB (fun hc => ?_) (fun hc => ?_) <;> try simp [hc])
    | (with_reducible refine GKsplitB (fun hc => ?_) (fun hc => ?_) <;> try simp [hc])
    | simp (disch := first | (with_reducible assumption) | (simp; done) | omega | (simp; omega)))
  exact ends_one_sub (by simp <;> rfl) (by simp) hsub (hpost _ _ ⟨_, rfl, hdF, ⟨sb, h', rfl, hpb', hs'⟩, s, rfl, hss⟩)
end Go.Proofs.Ytmomphnkngbgjaa
