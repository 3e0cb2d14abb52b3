import Derived.Test.YtapocekfkbkefaaD7K
set_option linter.unusedSimpArgs false
set_option linter.unusedVariables false
namespace Go.Proofs.Ytapocekfkbkefaa
open Go Go.Al
set_option maxRecDepth 20000
attribute [local irreducible] awp aops aopsD eop pv ACalls CallK AppK AEnds ti

theorem OKP.set {P : List (Int × Int)} (h : OKP P) {sw up : Int} (h1 : 1 ≤ sw) (h2 : sw ≤ 8) (h3 : 0 ≤ up) (h4 : up ≤ 255) : OKP (setL P sw up) := by
  refine ⟨h.1.set _ _, fun q hq => ?_⟩
  rcases setL_mem hq with rfl | hq
  · exact ⟨h1, h2, h3, h4⟩
  · exact h.2 q hq
theorem OKP.room {P : List (Int × Int)} (h : OKP P) {sw up : Int} (h1 : 1 ≤ sw) (h2 : sw ≤ 8) : setRP P 8 sw = true := by
  unfold setRP
  cases hh : hasL P sw with
  | true => rfl
  | false =>
    have h3 := (h.set (up := 0) h1 h2 (by omega) (by omega)).len
    rw [setL_len h.1, hh] at h3
    simp only [Bool.false_eq_true, if_false] at h3
    rw [decide_eq_true (by omega)]; rfl
theorem OKP.del {P : List (Int × Int)} (h : OKP P) (sw : Int) : OKP (delL P sw) := ⟨h.1.del _, fun q hq => h.2 q (List.mem_filter.1 hq).1⟩
def offP (P : List (Int × Int)) (x : Sn) : Bool := !upP P x.a1 x.a2 || !upP P x.b1 x.b2
theorem ports1_c {x : Sn} {pb sl tb : Nat} {F0 F : Hp} {P : List (Int × Int)} (hU : UH pb sl F0 P) (hx : Ext F0 F) (hO : OKP P) (hF : F tb = some (0, [.ptr pb 0])) : ACalls Try.prog 42 ([x.av] ++ [.ptr tb 0]) F fun r G' => G' = F ∧ r = .bool (offP P x) := by
  have u1 := (up_c (sw := x.a1) (port := x.a2) hU hO).ext hx
  have u2 := (up_c (sw := x.b1) (port := x.b2) hU hO).ext hx
  unfold offP
  cases h1 : upP P x.a1 x.a2 with
  | false =>
    rw [h1] at u1
    refine ACalls.hide fun post hpost => ?_
    refine F42_in (by simp) (by simp) fun hbd => ?_
    repeat' (first
      | refine awp_seqK fun K' hpK => ?_
      | refine awp_block ?_
      | refine awp_condG fun A' B' hpA hpB => ?_
      | refine useK (by with_reducible assumption) ?_
      | refine useP (by with_reducible assumption) ?_
      | refine ED_cons (fun _ => ?_) ?_
      | (refine stable_mk ?_; simp (disch := first | (with_reducible assumption) | (simp; done) | omega | (simp; omega)) [hF]; done)
      | (refine stable_no ?_; simp (disch := first | (with_reducible assumption) | (simp; done) | omega | (simp; omega)) [hF]; done)
      | (with_reducible refine And.intro ?_ ?_)
      | (with_reducible intro hc)
      | (with_reducible refine GDsplit (fun hc => ?_) (fun hc => ?_) <;> try simp [hc])
      | (with_reducible refine GDsplitN (fun hc => ?_) (fun hc => ?_) <;> try simp [hc])
      | (with_reducible refine GDsplitNB (fun hc => ?_) (fun hc => ?_) <;> try simp [hc])
      | (with_reducible refine GDsplitB (fun hc => ?_) (fun hc => ?_) <;> try simp [hc])
      | (with_reducible refine GKsplit (fun hc => ?_) (fun hc => ?_) <;> try simp [hc])
      | (with_reducible refine GKsplitN (fun hc => ?_) (fun hc => ?_) <;> try simp [hc])
      | (with_reducible refine GKsplitNB (fun hc => ?_) (fun hc => ?_) <;> try simp [hc])
      | (with_reducible refine GKsplitB (fun hc => ?_) (fun hc => ?_) <;> try simp [hc])
      | (refine CallK.use (u1) ?_; rintro r G' _ _ ⟨rfl, rfl⟩)
      | simp (disch := first | (with_reducible assumption) | (simp; done) | omega | (simp; omega)) [hF])
    exact ends_one (by simp <;> rfl) (by simp) (hpost _ _ ⟨rfl, by simp⟩)
  | true =>
    rw [h1] at u1
    refine ACalls.hide fun post hpost => ?_
    refine F42_in (by simp) (by simp) fun hbd => ?_
    repeat' (first
      | refine awp_seqK fun K' hpK => ?_
      | refine awp_block ?_
      | refine awp_condG fun A' B' hpA hpB => ?_
      | refine useK (by with_reducible assumption) ?_
      | refine useP (by with_reducible assumption) ?_
      | refine ED_cons (fun _ => ?_) ?_
      | (refine stable_mk ?_; simp (disch := first | (with_reducible assumption) | (simp; done) | omega | (simp; omega)) [hF]; done)
      | (refine stable_no ?_; simp (disch := first | (with_reducible assumption) | (simp; done) | omega | (simp; omega)) [hF]; done)
      | (with_reducible refine And.intro ?_ ?_)
      | (with_reducible intro hc)
      | (with_reducible refine GDsplit (fun hc => ?_) (fun hc => ?_) <;> try simp [hc])
      | (with_reducible refine GDsplitN (fun hc => ?_) (fun hc => ?_) <;> try simp [hc])
      | (with_reducible refine GDsplitNB (fun hc => ?_) (fun hc => ?_) <;> try simp [hc])
      | (with_reducible refine GDsplitB (fun hc => ?_) (fun hc => ?_) <;> try simp [hc])
      | (with_reducible refine GKsplit (fun hc => ?_) (fun hc => ?_) <;> try simp [hc])
      | (with_reducible refine GKsplitN (fun hc => ?_) (fun hc => ?_) <;> try simp [hc])
      | (with_reducible refine GKsplitNB (fun hc => ?_) (fun hc => ?_) <;> try simp [hc])
      | (with_reducible refine GKsplitB (fun hc => ?_) (fun hc => ?_) <;> try simp [hc])
      | (refine CallK.use (u1) ?_; rintro r G' _ _ ⟨rfl, rfl⟩)
      | (refine CallK.use (u2) ?_; rintro r G' _ _ ⟨rfl, rfl⟩)
      | simp (disch := first | (with_reducible assumption) | (simp; done) | omega | (simp; omega)) [hF])
    exact ends_one (by simp <;> rfl) (by simp) (hpost _ _ ⟨rfl, by simp⟩)
def portsP (P : List (Int × Int)) (L : List (Int × Sn)) (sw up : Int) : List (Int × Int) × List (Int × Sn) × List Lk :=
  if 1 ≤ sw ∧ sw ≤ 8 ∧ 0 ≤ up ∧ up ≤ 255 then (setL P sw up, L.filter (fun x => !offP (setL P sw up) x.2), ((L.filter fun x => offP (setL P sw up) x.2).map Prod.snd).map Sn.lk) else (P, L, [])
theorem none_of {F hk : Hp} {tb : Nat} (h : uni F hk tb = none) : F tb = none ∧ hk tb = none := by
  cases e : F tb with
  | none => rw [uni_right e] at h; exact ⟨rfl, h⟩
  | some o => rw [uni_left e] at h; cases h
set_option maxHeartbeats 2000000 in
theorem ports_c {pb : Nat} {G : Hp} {P : List (Int × Int)} {L : List (Int × Sn)} {sw up : Int} (hV : VH pb G P L) (hO : OKP P) (hl : L.length ≤ 1000) : ACalls Try.prog 17 [.ptr pb 0, .int .i64 sw, .int .i64 up] G fun r G' => VH pb G' (portsP P L sw up).1 (portsP P L sw up).2.1 ∧ ∃ s, r = ofS cLk s ∧ LL s = (portsP P L sw up).2.2 := by
  have hV0 := hV
  obtain ⟨sl, F, hk, ⟨sp, hp, rfl, hpb, hsp⟩, rfl, hdis, hs⟩ := hV
  have gc := fun G => good_c (sw := sw) (port := 1) (G := G)
  unfold portsP
  by_cases hok : 1 ≤ sw ∧ sw ≤ 8 ∧ 0 ≤ up ∧ up ≤ 255
  · obtain ⟨g1, g2, g3, g4⟩ := hok
    have gg : goodP sw 1 = true := goodP_iff.2 ⟨g1, g2, by omega, by omega⟩
    rw [gg] at gc
    have hroom := hO.room (up := up) g1 g2
    have hO2 := hO.set g1 g2 g3 g4
    have hlp := hO.len
    simp only [g1, g2, g3, g4, and_self, if_true]
    have n1 : ¬ up < 0 := by omega
    have n2 : ¬ 255 < up := by omega
    refine ACalls.hide fun post hpost => ?_
    refine F17_in (by simp) (by simp) fun hbd => ?_
    repeat' (first
      | refine awp_seqK fun K' hpK => ?_
      | refine awp_block ?_
      | refine awp_condG fun A' B' hpA hpB => ?_
      | refine useK (by with_reducible assumption) ?_
      | refine useP (by with_reducible assumption) ?_
      | refine ED_cons (fun _ => ?_) ?_
      | (refine stable_mk ?_; simp (disch := first | (with_reducible assumption) | (simp; done) | omega | (simp; omega)); done)
      | (refine stable_no ?_; simp (disch := first | (with_reducible assumption) | (simp; done) | omega | (simp; omega)); done)
      | (with_reducible refine And.intro ?_ ?_)
      | (with_reducible intro hc)
      | (with_reducible refine GDsplit (fun hc => ?_) (fun hc => ?_) <;> try simp [hc])
      | (with_reducible refine GDsplitN (fun hc => ?_) (fun hc => ?_) <;> try simp [hc])
      | (with_reducible refine GDsplitNB (fun hc => ?_) (fun hc => ?_) <;> try simp [hc])
      | (with_reducible refine GDsplitB (fun hc => ?_) (fun hc => ?_) <;> try simp [hc])
      | (with_reducible refine GKsplit (fun hc => ?_) (fun hc => ?_) <;> try simp [hc])
      | (with_reducible refine GKsplitN (fun hc => ?_) (fun hc => ?_) <;> try simp [hc])
      | (with_reducible refine GKsplitNB (fun hc => ?_) (fun hc => ?_) <;> try simp [hc])
      | (with_reducible refine GKsplitB (fun hc => ?_) (fun hc => ?_) <;> try simp [hc])
      | simp (disch := first | (with_reducible assumption) | (simp; done) | omega | (simp; omega)))
    intro tb htb
    refine ⟨0, ?_⟩
    obtain ⟨hFt, hkt⟩ := none_of htb
    have hne : tb ≠ pb := by rintro rfl; rw [setH_same] at hFt; cases hFt
    have hpt : hp tb = none := by rw [setH_ne _ _ hne] at hFt; exact hFt
    rw [uni_swapF hkt]
    have hdis' : Dis (setH (setH hp pb (some (VO sp sl))) tb (some (0, [.ptr pb 0]))) hk := dis_set hdis hkt
    have hGt : uni (setH (setH hp pb (some (VO sp sl))) tb (some (0, [.ptr pb 0]))) hk tb = some (0, [.ptr pb 0]) := uni_left (by rw [setH_same])
    have hGp : uni (setH (setH hp pb (some (VO sp sl))) tb (some (0, [.ptr pb 0]))) hk pb = some (0, [.ptr sp 0, .ptr sl 0]) := uni_left (by rw [setH_ne _ _ hne.symm, setH_same]; rfl)
    repeat' (first
      | refine awp_seqK fun K' hpK => ?_
      | refine awp_block ?_
      | refine awp_condG fun A' B' hpA hpB => ?_
      | refine useK (by with_reducible assumption) ?_
      | refine useP (by with_reducible assumption) ?_
      | refine ED_cons (fun _ => ?_) ?_
      | (refine stable_mk ?_; simp (disch := first | (with_reducible assumption) | (simp; done) | omega | (simp; omega)) [hGt, hGp, n1, n2]; done)
      | (refine stable_no ?_; simp (disch := first | (with_reducible assumption) | (simp; done) | omega | (simp; omega)) [hGt, hGp, n1, n2]; done)
      | (with_reducible refine And.intro ?_ ?_)
      | (with_reducible intro hc)
      | (with_reducible refine GDsplit (fun hc => ?_) (fun hc => ?_) <;> try simp [hc])
      | (with_reducible refine GDsplitN (fun hc => ?_) (fun hc => ?_) <;> try simp [hc])
      | (with_reducible refine GDsplitNB (fun hc => ?_) (fun hc => ?_) <;> try simp [hc])
      | (with_reducible refine GDsplitB (fun hc => ?_) (fun hc => ?_) <;> try simp [hc])
      | (with_reducible refine GKsplit (fun hc => ?_) (fun hc => ?_) <;> try simp [hc])
      | (with_reducible refine GKsplitN (fun hc => ?_) (fun hc => ?_) <;> try simp [hc])
      | (with_reducible refine GKsplitNB (fun hc => ?_) (fun hc => ?_) <;> try simp [hc])
      | (with_reducible refine GKsplitB (fun hc => ?_) (fun hc => ?_) <;> try simp [hc])
      | (refine CallK.use (gc _) ?_; rintro r G' _ _ ⟨rfl, rfl⟩)
      | simp (disch := first | (with_reducible assumption) | (simp; done) | omega | (simp; omega)) [hGt, hGp, n1, n2])
    have sc := ((setP_E (k := sw) (v := up) hsp (by omega) (if_pos hroom) (if_pos hroom)).frame1 (o := VO sp sl) hpb).frame1 (o := (0, [.ptr pb 0])) hFt
    refine CallK.fl sc hdis' ?_
    rintro r G2 hdis2 _ _ ⟨h2, h2t, rfl, h3, h3p, rfl, hsp2, rfl⟩
    have hGt2 : uni (setH (setH h3 pb (some (VO sp sl))) tb (some (0, [.ptr pb 0]))) hk tb = some (0, [.ptr pb 0]) := uni_left (by rw [setH_same])
    have hU2 : UH pb sl (setH h3 pb (some (VO sp sl))) (setL P sw up) := ⟨sp, h3, rfl, h3p, hsp2⟩
    have hx2 : Ext (setH h3 pb (some (VO sp sl))) (setH (setH h3 pb (some (VO sp sl))) tb (some (0, [.ptr pb 0]))) := ext_set h2t
    repeat' (first
      | refine awp_seqK fun K' hpK => ?_
      | refine awp_block ?_
      | refine awp_condG fun A' B' hpA hpB => ?_
      | refine useK (by with_reducible assumption) ?_
      | refine useP (by with_reducible assumption) ?_
      | refine ED_cons (fun _ => ?_) ?_
      | (refine stable_mk ?_; simp (disch := first | (with_reducible assumption) | (simp; done) | omega | (simp; omega)) [hGt2]; done)
      | (refine stable_no ?_; simp (disch := first | (with_reducible assumption) | (simp; done) | omega | (simp; omega)) [hGt2]; done)
      | (with_reducible refine And.intro ?_ ?_)
      | (with_reducible intro hc)
      | (with_reducible refine GDsplit (fun hc => ?_) (fun hc => ?_) <;> try simp [hc])
      | (with_reducible refine GDsplitN (fun hc => ?_) (fun hc => ?_) <;> try simp [hc])
      | (with_reducible refine GDsplitNB (fun hc => ?_) (fun hc => ?_) <;> try simp [hc])
      | (with_reducible refine GDsplitB (fun hc => ?_) (fun hc => ?_) <;> try simp [hc])
      | (with_reducible refine GKsplit (fun hc => ?_) (fun hc => ?_) <;> try simp [hc])
      | (with_reducible refine GKsplitN (fun hc => ?_) (fun hc => ?_) <;> try simp [hc])
      | (with_reducible refine GKsplitNB (fun hc => ?_) (fun hc => ?_) <;> try simp [hc])
      | (with_reducible refine GKsplitB (fun hc => ?_) (fun hc => ?_) <;> try simp [hc])
      | simp (disch := first | (with_reducible assumption) | (simp; done) | omega | (simp; omega)) [hGt2])
    have lc := loses_c (f := 42) (caps := [.ptr tb 0]) (p := offP (setL P sw up)) (pb := pb) (sp := sp) (F := setH (setH h3 pb (some (VO sp sl))) tb (some (0, [.ptr pb 0]))) (by rw [setH_ne _ _ hne.symm, setH_same]; rfl) hdis2 hs hl (by simp) (by simp) (fun x _ => ports1_c hU2 hx2 hO2 (by rw [setH_same]))
    refine CallK.use lc ?_
    rintro r G3 _ _ ⟨hk', rfl, hdis3, hs', s, rfl, hss⟩
    repeat' (first
      | refine awp_seqK fun K' hpK => ?_
      | refine awp_block ?_
      | refine awp_condG fun A' B' hpA hpB => ?_
      | refine useK (by with_reducible assumption) ?_
      | refine useP (by with_reducible assumption) ?_
      | refine ED_cons (fun _ => ?_) ?_
      | (refine stable_mk ?_; simp (disch := first | (with_reducible assumption) | (simp; done) | omega | (simp; omega)); done)
      | (refine stable_no ?_; simp (disch := first | (with_reducible assumption) | (simp; done) | omega | (simp; omega)); done)
      | (with_reducible refine And.intro ?_ ?_)
      | (with_reducible intro hc)
      | (with_reducible refine GDsplit (fun hc => ?_) (fun hc => ?_) <;> try simp [hc])
      | (with_reducible refine GDsplitN (fun hc => ?_) (fun hc => ?_) <;> try simp [hc])
      | (with_reducible refine GDsplitNB (fun hc => ?_) (fun hc => ?_) <;> try simp [hc])
      | (with_reducible refine GDsplitB (fun hc => ?_) (fun hc => ?_) <;> try simp [hc])
      | (with_reducible refine GKsplit (fun hc => ?_) (fun hc => ?_) <;> try simp [hc])
      | (with_reducible refine GKsplitN (fun hc => ?_) (fun hc => ?_) <;> try simp [hc])
      | (with_reducible refine GKsplitNB (fun hc => ?_) (fun hc => ?_) <;> try simp [hc])
      | (with_reducible refine GKsplitB (fun hc => ?_) (fun hc => ?_) <;> try simp [hc])
      | simp (disch := first | (with_reducible assumption) | (simp; done) | omega | (simp; omega)))
    exact ends_one_sub (by simp <;> rfl) (by simp) (sub_ext hx2 hdis3) (hpost _ _ ⟨⟨sl, _, hk', hU2, rfl, dis_ext hx2 hdis3, hs'⟩, s, rfl, hss⟩)
  · simp only [hok, if_false]
    have fin : ∀ {tb : Nat}, uni (setH hp pb (some (VO sp sl))) hk tb = none → sub (uni (setH hp pb (some (VO sp sl))) hk) (setH (uni (setH hp pb (some (VO sp sl))) hk) tb (some (0, [.ptr pb 0]))) := by
      intro tb htb i o hi
      by_cases e : i = tb
      · subst e; rw [htb] at hi; cases hi
      · rw [setH_ne _ _ e]; exact hi
    refine ACalls.hide fun post hpost => ?_
    refine F17_in (by simp) (by simp) fun hbd => ?_
    repeat' (first
      | refine awp_seqK fun K' hpK => ?_
      | refine awp_block ?_
      | refine awp_condG fun A' B' hpA hpB => ?_
      | refine useK (by with_reducible assumption) ?_
      | refine useP (by with_reducible assumption) ?_
      | refine ED_cons (fun _ => ?_) ?_
      | (refine stable_mk ?_; simp (disch := first | (with_reducible assumption) | (simp; done) | omega | (simp; omega)); done)
      | (refine stable_no ?_; simp (disch := first | (with_reducible assumption) | (simp; done) | omega | (simp; omega)); done)
      | (with_reducible refine And.intro ?_ ?_)
      | (with_reducible intro hc)
      | (with_reducible refine GDsplit (fun hc => ?_) (fun hc => ?_) <;> try simp [hc])
      | (with_reducible refine GDsplitN (fun hc => ?_) (fun hc => ?_) <;> try simp [hc])
      | (with_reducible refine GDsplitNB (fun hc => ?_) (fun hc => ?_) <;> try simp [hc])
      | (with_reducible refine GDsplitB (fun hc => ?_) (fun hc => ?_) <;> try simp [hc])
      | (with_reducible refine GKsplit (fun hc => ?_) (fun hc => ?_) <;> try simp [hc])
      | (with_reducible refine GKsplitN (fun hc => ?_) (fun hc => ?_) <;> try simp [hc])
      | (with_reducible refine GKsplitNB (fun hc => ?_) (fun hc => ?_) <;> try simp [hc])
      | (with_reducible refine GKsplitB (fun hc => ?_) (fun hc => ?_) <;> try simp [hc])
      | simp (disch := first | (with_reducible assumption) | (simp; done) | omega | (simp; omega)))
    intro tb htb
    refine ⟨0, ?_⟩
    cases hgd : goodP sw 1 with
    | false =>
      rw [hgd] at gc
      repeat' (first
        | refine awp_seqK fun K' hpK => ?_
        | refine awp_block ?_
        | refine awp_condG fun A' B' hpA hpB => ?_
        | refine useK (by with_reducible assumption) ?_
        | refine useP (by with_reducible assumption) ?_
        | refine ED_cons (fun _ => ?_) ?_
        | (refine stable_mk ?_; simp (disch := first | (with_reducible assumption) | (simp; done) | omega | (simp; omega)); done)
        | (refine stable_no ?_; simp (disch := first | (with_reducible assumption) | (simp; done) | omega | (simp; omega)); done)
        | (with_reducible refine And.intro ?_ ?_)
        | (with_reducible intro hc)
        | (with_reducible refine GDsplit (fun hc => ?_) (fun hc => ?_) <;> try simp [hc])
        | (with_reducible refine GDsplitN (fun hc => ?_) (fun hc => ?_) <;> try simp [hc])
        | (with_reducible refine GDsplitNB (fun hc => ?_) (fun hc => ?_) <;> try simp [hc])
        | (with_reducible refine GDsplitB (fun hc => ?_) (fun hc => ?_) <;> try simp [hc])
        | (with_reducible refine GKsplit (fun hc => ?_) (fun hc => ?_) <;> try simp [hc])
        | (with_reducible refine GKsplitN (fun hc => ?_) (fun hc => ?_) <;> try simp [hc])
        | (with_reducible refine GKsplitNB (fun hc => ?_) (fun hc => ?_) <;> try simp [hc])
        | (with_reducible refine GKsplitB (fun hc => ?_) (fun hc => ?_) <;> try simp [hc])
        | (refine CallK.use (gc _) ?_; rintro r G' _ _ ⟨rfl, rfl⟩)
        | simp (disch := first | (with_reducible assumption) | (simp; done) | omega | (simp; omega)))
      exact ends_one_sub (by simp <;> rfl) (by simp) (fin htb) (hpost _ _ ⟨hV0, none, by simp [ofS], rfl⟩)
    | true =>
      rw [hgd] at gc
      have := goodP_iff.1 hgd
      by_cases h3 : up < 0
      · repeat' (first
          | refine awp_seqK fun K' hpK => ?_
          | refine awp_block ?_
          | refine awp_condG fun A' B' hpA hpB => ?_
          | refine useK (by with_reducible assumption) ?_
          | refine useP (by with_reducible assumption) ?_
          | refine ED_cons (fun _ => ?_) ?_
          | (refine stable_mk ?_; simp (disch := first | (with_reducible assumption) | (simp; done) | omega | (simp; omega)) [h3]; done)
          | (refine stable_no ?_; simp (disch := first | (with_reducible assumption) | (simp; done) | omega | (simp; omega)) [h3]; done)
          | (with_reducible refine And.intro ?_ ?_)
          | (with_reducible intro hc)
          | (with_reducible refine GDsplit (fun hc => ?_) (fun hc => ?_) <;> try simp [hc])
          | (with_reducible refine GDsplitN (fun hc => ?_) (fun hc => ?_) <;> try simp [hc])
          | (with_reducible refine GDsplitNB (fun hc => ?_) (fun hc => ?_) <;> try simp [hc])
          | (with_reducible refine GDsplitB (fun hc => ?_) (fun hc => ?_) <;> try simp [hc])
          | (with_reducible refine GKsplit (fun hc => ?_) (fun hc => ?_) <;> try simp [hc])
          | (with_reducible refine GKsplitN (fun hc => ?_) (fun hc => ?_) <;> try simp [hc])
          | (with_reducible refine GKsplitNB (fun hc => ?_) (fun hc => ?_) <;> try simp [hc])
          | (with_reducible refine GKsplitB (fun hc => ?_) (fun hc => ?_) <;> try simp [hc])
          | (refine CallK.use (gc _) ?_; rintro r G' _ _ ⟨rfl, rfl⟩)
          | simp (disch := first | (with_reducible assumption) | (simp; done) | omega | (simp; omega)) [h3])
        exact ends_one_sub (by simp <;> rfl) (by simp) (fin htb) (hpost _ _ ⟨hV0, none, by simp [ofS], rfl⟩)
      · have h4 : 255 < up := by omega
        repeat' (first
          | refine awp_seqK fun K' hpK => ?_
          | refine awp_block ?_
          | refine awp_condG fun A' B' hpA hpB => ?_
          | refine useK (by with_reducible assumption) ?_
          | refine useP (by with_reducible assumption) ?_
          | refine ED_cons (fun _ => ?_) ?_
          | (refine stable_mk ?_; simp (disch := first | (with_reducible assumption) | (simp; done) | omega | (simp; omega)) [h3, h4]; done)
          | (refine stable_no ?_; simp (disch := first | (with_reducible assumption) | (simp; done) | omega | (simp; omega)) [h3, h4]; done)
          | (with_reducible refine And.intro ?_ ?_)
          | (with_reducible intro hc)
          | (with_reducible refine GDsplit (fun hc => ?_) (fun hc => ?_) <;> try simp [hc])
          | (with_reducible refine GDsplitN (fun hc => ?_) (fun hc => ?_) <;> try simp [hc])
          | (with_reducible refine GDsplitNB (fun hc => ?_) (fun hc => ?_) <;> try simp [hc])
          | (with_reducible refine GDsplitB (fun hc => ?_) (fun hc => ?_) <;> try simp [hc])
          | (with_reducible refine GKsplit (fun hc => ?_) (fun hc => ?_) <;> try simp [hc])
          | (with_reducible refine GKsplitN (fun hc => ?_) (fun hc => ?_) <;> try simp [hc])
          | (with_reducible refine GKsplitNB (fun hc => ?_) (fun hc => ?_) <;> try simp [hc])
          | (with_reducible refine GKsplitB (fun hc => ?_) (fun hc => ?_) <;> try simp [hc])
          | (refine CallK.use (gc _) ?_; rintro r G' _ _ ⟨rfl, rfl⟩)
          | simp (disch := first | (with_reducible assumption) | (simp; done) | omega | (simp; omega)) [h3, h4])
        exact ends_one_sub (by simp <;> rfl) (by simp) (fin htb) (hpost _ _ ⟨hV0, none, by simp [ofS], rfl⟩)
end Go.Proofs.Ytapocekfkbkefaa
