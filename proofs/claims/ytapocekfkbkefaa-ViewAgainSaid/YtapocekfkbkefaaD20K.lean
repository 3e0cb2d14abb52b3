import Derived.Test.YtapocekfkbkefaaD19K
set_option linter.unusedSimpArgs false
set_option linter.unusedVariables false
namespace Go.Proofs.Ytapocekfkbkefaa
open Go Go.Al
set_option maxRecDepth 20000
attribute [local irreducible] awp aops aopsD eop pv ACalls CallK AppK AEnds ti

@[simp] def opV (kd a1 a2 b1 b2 up most t : Int) : AV := .agg [.int .i64 kd, .int .i64 a1, .int .i64 a2, .int .i64 b1, .int .i64 b2, .int .i64 up, .int .i64 most, .int .i64 t]
def m10 (n : Int) : Int := ((ibits .and .i64 n 1023).getD 0)
def stepV (kd a1 a2 b1 b2 up most now : Int) (P : List (Int × Int)) (L : List (Int × Sn)) : List (Int × Int) × List (Int × Sn) :=
  if kd = 0 then ((portsP P L a1 up).1, (portsP P L a1 up).2.1) else if kd = 1 ∨ kd = 2 ∨ kd = 3 then (P, (learnP P L a1 a2 b1 b2 now).1)
  else if kd = 4 then (delL P a1, L.filter fun x => !atSw a1 x.2) else if kd = 5 then (P, L.filter fun x => !oldP now (m10 most) x.2) else (P, L)
theorem rports_a {rb : Nat} {G : Hp} {P : List (Int × Int)} {L : List (Int × Sn)} {sw up : Int} (hR : RH rb G P (L.map Prod.snd)) (hO : OKP P) (hl : L.length ≤ 1000) : ACalls Try.prog 23 [.ptr rb 0, .int .i64 sw, .int .i64 up] G fun r G' => RH rb G' (portsP P L sw up).1 ((portsP P L sw up).2.1.map Prod.snd) ∧ ∃ s, r = ofS cLk s ∧ LL s = (portsP P L sw up).2.2 := by
  unfold portsP
  by_cases hok : 1 ≤ sw ∧ sw ≤ 8 ∧ 0 ≤ up ∧ up ≤ 255
  · rw [if_pos hok]
    simp only
    rw [filter_snd L (fun x => !offP (setL P sw up) x), filter_snd L (offP (setL P sw up))]
    exact rports_c hR hO (by rw [List.length_map]; exact hl) hok
  · rw [if_neg hok]
    refine (rports_no hok).mono ?_
    rintro r G' ⟨rfl, rfl⟩
    exact ⟨hR, none, by simp [ofS], rfl⟩
set_option maxHeartbeats 2000000 in
theorem step_0 {pb rb : Nat} {hv hr : Hp} {P : List (Int × Int)} {L : List (Int × Sn)} {a1 a2 b1 b2 up most t now n0 : Int} (hdis : Dis hv hr) (hV : VH pb hv P L) (hR : RH rb hr P (L.map Prod.snd)) (hJ : JV P L n0) (hl : L.length ≤ 60) : ACalls Try.prog 8 [.ptr pb 0, .ptr rb 0, opV 0 a1 a2 b1 b2 up most t, .int .i64 now] (uni hv hr) fun r G' => ∃ hv' hr', G' = uni hv' hr' ∧ Dis hv' hr' ∧ r = .bool true ∧ VH pb hv' (portsP P L a1 up).1 (portsP P L a1 up).2.1 ∧ RH rb hr' (portsP P L a1 up).1 ((portsP P L a1 up).2.1.map Prod.snd) := by
  refine ACalls.hide fun post hpost => ?_
  refine F8_in (by simp) (by simp) fun hbd => ?_
  repeat' (first
    | refine awp_seqK fun K' hpK => ?_
    | refine awp_block ?_
    | refine awp_condG fun A' B' hpA hpB => ?_
    | refine useK (by with_reducible assumption) ?_
    | refine useP (by with_reducible assumption) ?_
    | refine ED_cons (fun _ => ?_) ?_
    | (refine stable_mk ?_; simp (disch := first | (with_reducible assumption) | (simp; done) | omega | (simp; omega)); done)
    | (refine stable_no ?_; simp (disch := first | (with_reducible assumption) | (simp; done) | omega | (simp; omega)); done)
    | (with_reducible refine And.intro ?_ ?_)
    | (with_reducible intro hc)
    | (with_reducible refine GDsplit (fun hc => ?_) (fun hc => ?_) <;> try simp [hc])
    | (with_reducible refine GDsplitN (fun hc => ?_) (fun hc => ?_) <;> try simp [hc])
    | (with_reducible refine GDsplitNB (fun hc => ?_) (fun hc => ?_) <;> try simp [hc])
    | (with_reducible refine GDsplitB (fun hc => ?_) (fun hc => ?_) <;> try simp [hc])
    | (with_reducible refine GKsplit (fun hc => ?_) (fun hc => ?_) <;> try simp [hc])
    | (with_reducible refine GKsplitN (fun hc => ?_) (fun hc => ?_) <;> try simp [hc])
    | (with_reducible refine GKsplitNB (fun hc => ?_) (fun hc => ?_) <;> try simp [hc])
    | (with_reducible refine GKsplitB (fun hc => ?_) (fun hc => ?_) <;> try simp [hc])
    | simp (disch := first | (with_reducible assumption) | (simp; done) | omega | (simp; omega)))
  refine CallK.fl (ports_c (sw := a1) (up := up) hV hJ.p (by omega)) hdis ?_
  rintro r hv2 hdis2 _ _ ⟨hV2, s, rfl, hs⟩
  repeat' (first
    | refine awp_seqK fun K' hpK => ?_
    | refine awp_block ?_
    | refine awp_condG fun A' B' hpA hpB => ?_
    | refine useK (by with_reducible assumption) ?_
    | refine useP (by with_reducible assumption) ?_
    | refine ED_cons (fun _ => ?_) ?_
    | (refine stable_mk ?_; simp (disch := first | (with_reducible assumption) | (simp; done) | omega | (simp; omega)); done)
    | (refine stable_no ?_; simp (disch := first | (with_reducible assumption) | (simp; done) | omega | (simp; omega)); done)
    | (with_reducible refine And.intro ?_ ?_)
    | (with_reducible intro hc)
    | (with_reducible refine GDsplit (fun hc => ?_) (fun hc => ?_) <;> try simp [hc])
    | (with_reducible refine GDsplitN (fun hc => ?_) (fun hc => ?_) <;> try simp [hc])
    | (with_reducible refine GDsplitNB (fun hc => ?_) (fun hc => ?_) <;> try simp [hc])
    | (with_reducible refine GDsplitB (fun hc => ?_) (fun hc => ?_) <;> try simp [hc])
    | (with_reducible refine GKsplit (fun hc => ?_) (fun hc => ?_) <;> try simp [hc])
    | (with_reducible refine GKsplitN (fun hc => ?_) (fun hc => ?_) <;> try simp [hc])
    | (with_reducible refine GKsplitNB (fun hc => ?_) (fun hc => ?_) <;> try simp [hc])
    | (with_reducible refine GKsplitB (fun hc => ?_) (fun hc => ?_) <;> try simp [hc])
    | simp (disch := first | (with_reducible assumption) | (simp; done) | omega | (simp; omega)))
  refine CallK.fr (rports_a (sw := a1) (up := up) hR hJ.p (by omega)) hdis2 ?_
  rintro r hr2 hdis3 _ _ ⟨hR2, s2, rfl, hs2⟩
  have hsl : (LL s).length ≤ 1000000 := by
    rw [hs]; unfold portsP; split
    · simp only [List.length_map]; exact Nat.le_trans (List.length_filter_le _ _) (by omega)
    · simp
  repeat' (first
    | refine awp_seqK fun K' hpK => ?_
    | refine awp_block ?_
    | refine awp_condG fun A' B' hpA hpB => ?_
    | refine useK (by with_reducible assumption) ?_
    | refine useP (by with_reducible assumption) ?_
    | refine ED_cons (fun _ => ?_) ?_
    | (refine stable_mk ?_; simp (disch := first | (with_reducible assumption) | (simp; done) | omega | (simp; omega)); done)
    | (refine stable_no ?_; simp (disch := first | (with_reducible assumption) | (simp; done) | omega | (simp; omega)); done)
    | (with_reducible refine And.intro ?_ ?_)
    | (with_reducible intro hc)
    | (with_reducible refine GDsplit (fun hc => ?_) (fun hc => ?_) <;> try simp [hc])
    | (with_reducible refine GDsplitN (fun hc => ?_) (fun hc => ?_) <;> try simp [hc])
    | (with_reducible refine GDsplitNB (fun hc => ?_) (fun hc => ?_) <;> try simp [hc])
    | (with_reducible refine GDsplitB (fun hc => ?_) (fun hc => ?_) <;> try simp [hc])
    | (with_reducible refine GKsplit (fun hc => ?_) (fun hc => ?_) <;> try simp [hc])
    | (with_reducible refine GKsplitN (fun hc => ?_) (fun hc => ?_) <;> try simp [hc])
    | (with_reducible refine GKsplitNB (fun hc => ?_) (fun hc => ?_) <;> try simp [hc])
    | (with_reducible refine GKsplitB (fun hc => ?_) (fun hc => ?_) <;> try simp [hc])
    | (refine CallK.use (same_c (a := s) (b := s2) (by rw [hs, hs2]) hsl) ?_; rintro r G' _ _ ⟨rfl, rfl⟩)
    | simp (disch := first | (with_reducible assumption) | (simp; done) | omega | (simp; omega)))
  exact ends_one (by simp <;> rfl) (by simp) (hpost _ _ ⟨hv2, hr2, rfl, hdis3, rfl, hV2, hR2⟩)
set_option maxHeartbeats 2000000 in
theorem step_1 {pb rb : Nat} {hv hr : Hp} {P : List (Int × Int)} {L : List (Int × Sn)} {a1 a2 b1 b2 up most t now n0 : Int} (hdis : Dis hv hr) (hV : VH pb hv P L) (hR : RH rb hr P (L.map Prod.snd)) (hJ : JV P L n0) (hl : L.length ≤ 60) : ACalls Try.prog 8 [.ptr pb 0, .ptr rb 0, opV 1 a1 a2 b1 b2 up most t, .int .i64 now] (uni hv hr) fun r G' => ∃ hv' hr', G' = uni hv' hr' ∧ Dis hv' hr' ∧ r = .bool true ∧ VH pb hv' P (learnP P L a1 a2 b1 b2 now).1 ∧ RH rb hr' P ((learnP P L a1 a2 b1 b2 now).1.map Prod.snd) := by
  refine ACalls.hide fun post hpost => ?_
  refine F8_in (by simp) (by simp) fun hbd => ?_
  repeat' (first
    | refine awp_seqK fun K' hpK => ?_
    | refine awp_block ?_
    | refine awp_condG fun A' B' hpA hpB => ?_
    | refine useK (by with_reducible assumption) ?_
    | refine useP (by with_reducible assumption) ?_
    | refine ED_cons (fun _ => ?_) ?_
    | (refine stable_mk ?_; simp (disch := first | (with_reducible assumption) | (simp; done) | omega | (simp; omega)); done)
    | (refine stable_no ?_; simp (disch := first | (with_reducible assumption) | (simp; done) | omega | (simp; omega)); done)
    | (with_reducible refine And.intro ?_ ?_)
    | (with_reducible intro hc)
    | (with_reducible refine GDsplit (fun hc => ?_) (fun hc => ?_) <;> try simp [hc])
    | (with_reducible refine GDsplitN (fun hc => ?_) (fun hc => ?_) <;> try simp [hc])
    | (with_reducible refine GDsplitNB (fun hc => ?_) (fun hc => ?_) <;> try simp [hc])
    | (with_reducible refine GDsplitB (fun hc => ?_) (fun hc => ?_) <;> try simp [hc])
    | (with_reducible refine GKsplit (fun hc => ?_) (fun hc => ?_) <;> try simp [hc])
    | (with_reducible refine GKsplitN (fun hc => ?_) (fun hc => ?_) <;> try simp [hc])
    | (with_reducible refine GKsplitNB (fun hc => ?_) (fun hc => ?_) <;> try simp [hc])
    | (with_reducible refine GKsplitB (fun hc => ?_) (fun hc => ?_) <;> try simp [hc])
    | simp (disch := first | (with_reducible assumption) | (simp; done) | omega | (simp; omega)))
  refine CallK.fl (learn_c (a1 := a1) (a2 := a2) (b1 := b1) (b2 := b2) (now := now) hV hJ.p (by omega)) hdis ?_
  rintro r hv2 hdis2 _ _ ⟨hV2, s, rfl, hs⟩
  repeat' (first
    | refine awp_seqK fun K' hpK => ?_
    | refine awp_block ?_
    | refine awp_condG fun A' B' hpA hpB => ?_
    | refine useK (by with_reducible assumption) ?_
    | refine useP (by with_reducible assumption) ?_
    | refine ED_cons (fun _ => ?_) ?_
    | (refine stable_mk ?_; simp (disch := first | (with_reducible assumption) | (simp; done) | omega | (simp; omega)); done)
    | (refine stable_no ?_; simp (disch := first | (with_reducible assumption) | (simp; done) | omega | (simp; omega)); done)
    | (with_reducible refine And.intro ?_ ?_)
    | (with_reducible intro hc)
    | (with_reducible refine GDsplit (fun hc => ?_) (fun hc => ?_) <;> try simp [hc])
    | (with_reducible refine GDsplitN (fun hc => ?_) (fun hc => ?_) <;> try simp [hc])
    | (with_reducible refine GDsplitNB (fun hc => ?_) (fun hc => ?_) <;> try simp [hc])
    | (with_reducible refine GDsplitB (fun hc => ?_) (fun hc => ?_) <;> try simp [hc])
    | (with_reducible refine GKsplit (fun hc => ?_) (fun hc => ?_) <;> try simp [hc])
    | (with_reducible refine GKsplitN (fun hc => ?_) (fun hc => ?_) <;> try simp [hc])
    | (with_reducible refine GKsplitNB (fun hc => ?_) (fun hc => ?_) <;> try simp [hc])
    | (with_reducible refine GKsplitB (fun hc => ?_) (fun hc => ?_) <;> try simp [hc])
    | simp (disch := first | (with_reducible assumption) | (simp; done) | omega | (simp; omega)))
  refine CallK.fr (rlearn_c (a1 := a1) (a2 := a2) (b1 := b1) (b2 := b2) (now := now) hR hJ (by omega)) hdis2 ?_
  rintro r hr2 hdis3 _ _ ⟨hR2, s2, rfl, hs2⟩
  have hsl : (LL s).length ≤ 1000000 := by
    rw [hs]; unfold learnP; split
    · split
      · simp
      · simp only [List.length_map]; exact Nat.le_trans (List.length_filter_le _ _) (by omega)
    · simp
  repeat' (first
    | refine awp_seqK fun K' hpK => ?_
    | refine awp_block ?_
    | refine awp_condG fun A' B' hpA hpB => ?_
    | refine useK (by with_reducible assumption) ?_
    | refine useP (by with_reducible assumption) ?_
    | refine ED_cons (fun _ => ?_) ?_
    | (refine stable_mk ?_; simp (disch := first | (with_reducible assumption) | (simp; done) | omega | (simp; omega)); done)
    | (refine stable_no ?_; simp (disch := first | (with_reducible assumption) | (simp; done) | omega | (simp; omega)); done)
    | (with_reducible refine And.intro ?_ ?_)
    | (with_reducible intro hc)
    | (with_reducible refine GDsplit (fun hc => ?_) (fun hc => ?_) <;> try simp [hc])
    | (with_reducible refine GDsplitN (fun hc => ?_) (fun hc => ?_) <;> try simp [hc])
    | (with_reducible refine GDsplitNB (fun hc => ?_) (fun hc => ?_) <;> try simp [hc])
    | (with_reducible refine GDsplitB (fun hc => ?_) (fun hc => ?_) <;> try simp [hc])
    | (with_reducible refine GKsplit (fun hc => ?_) (fun hc => ?_) <;> try simp [hc])
    | (with_reducible refine GKsplitN (fun hc => ?_) (fun hc => ?_) <;> try simp [hc])
    | (with_reducible refine GKsplitNB (fun hc => ?_) (fun hc => ?_) <;> try simp [hc])
    | (with_reducible refine GKsplitB (fun hc => ?_) (fun hc => ?_) <;> try simp [hc])
    | (refine CallK.use (same_c (a := s) (b := s2) (by rw [hs, hs2]) hsl) ?_; rintro r G' _ _ ⟨rfl, rfl⟩)
    | simp (disch := first | (with_reducible assumption) | (simp; done) | omega | (simp; omega)))
  exact ends_one (by simp <;> rfl) (by simp) (hpost _ _ ⟨hv2, hr2, rfl, hdis3, rfl, hV2, hR2⟩)
set_option maxHeartbeats 2000000 in
theorem step_2 {pb rb : Nat} {hv hr : Hp} {P : List (Int × Int)} {L : List (Int × Sn)} {a1 a2 b1 b2 up most t now n0 : Int} (hdis : Dis hv hr) (hV : VH pb hv P L) (hR : RH rb hr P (L.map Prod.snd)) (hJ : JV P L n0) (hl : L.length ≤ 60) : ACalls Try.prog 8 [.ptr pb 0, .ptr rb 0, opV 2 a1 a2 b1 b2 up most t, .int .i64 now] (uni hv hr) fun r G' => ∃ hv' hr', G' = uni hv' hr' ∧ Dis hv' hr' ∧ r = .bool true ∧ VH pb hv' P (learnP P L a1 a2 b1 b2 now).1 ∧ RH rb hr' P ((learnP P L a1 a2 b1 b2 now).1.map Prod.snd) := by
  refine ACalls.hide fun post hpost => ?_
  refine F8_in (by simp) (by simp) fun hbd => ?_
  repeat' (first
    | refine awp_seqK fun K' hpK => ?_
    | refine awp_block ?_
    | refine awp_condG fun A' B' hpA hpB => ?_
    | refine useK (by with_reducible assumption) ?_
    | refine useP (by with_reducible assumption) ?_
    | refine ED_cons (fun _ => ?_) ?_
    | (refine stable_mk ?_; simp (disch := first | (with_reducible assumption) | (simp; done) | omega | (simp; omega)); done)
    | (refine stable_no ?_; simp (disch := first | (with_reducible assumption) | (simp; done) | omega | (simp; omega)); done)
    | (with_reducible refine And.intro ?_ ?_)
    | (with_reducible intro hc)
    | (with_reducible refine GDsplit (fun hc => ?_) (fun hc => ?_) <;> try simp [hc])
    | (with_reducible refine GDsplitN (fun hc => ?_) (fun hc => ?_) <;> try simp [hc])
    | (with_reducible refine GDsplitNB (fun hc => ?_) (fun hc => ?_) <;> try simp [hc])
    | (with_reducible refine GDsplitB (fun hc => ?_) (fun hc => ?_) <;> try simp [hc])
    | (with_reducible refine GKsplit (fun hc => ?_) (fun hc => ?_) <;> try simp [hc])
    | (with_reducible refine GKsplitN (fun hc => ?_) (fun hc => ?_) <;> try simp [hc])
    | (with_reducible refine GKsplitNB (fun hc => ?_) (fun hc => ?_) <;> try simp [hc])
    | (with_reducible refine GKsplitB (fun hc => ?_) (fun hc => ?_) <;> try simp [hc])
    | simp (disch := first | (with_reducible assumption) | (simp; done) | omega | (simp; omega)))
  refine CallK.fl (learn_c (a1 := a1) (a2 := a2) (b1 := b1) (b2 := b2) (now := now) hV hJ.p (by omega)) hdis ?_
  rintro r hv2 hdis2 _ _ ⟨hV2, s, rfl, hs⟩
  repeat' (first
    | refine awp_seqK fun K' hpK => ?_
    | refine awp_block ?_
    | refine awp_condG fun A' B' hpA hpB => ?_
    | refine useK (by with_reducible assumption) ?_
    | refine useP (by with_reducible assumption) ?_
    | refine ED_cons (fun _ => ?_) ?_
    | (refine stable_mk ?_; simp (disch := first | (with_reducible assumption) | (simp; done) | omega | (simp; omega)); done)
    | (refine stable_no ?_; simp (disch := first | (with_reducible assumption) | (simp; done) | omega | (simp; omega)); done)
    | (with_reducible refine And.intro ?_ ?_)
    | (with_reducible intro hc)
    | (with_reducible refine GDsplit (fun hc => ?_) (fun hc => ?_) <;> try simp [hc])
    | (with_reducible refine GDsplitN (fun hc => ?_) (fun hc => ?_) <;> try simp [hc])
    | (with_reducible refine GDsplitNB (fun hc => ?_) (fun hc => ?_) <;> try simp [hc])
    | (with_reducible refine GDsplitB (fun hc => ?_) (fun hc => ?_) <;> try simp [hc])
    | (with_reducible refine GKsplit (fun hc => ?_) (fun hc => ?_) <;> try simp [hc])
    | (with_reducible refine GKsplitN (fun hc => ?_) (fun hc => ?_) <;> try simp [hc])
    | (with_reducible refine GKsplitNB (fun hc => ?_) (fun hc => ?_) <;> try simp [hc])
    | (with_reducible refine GKsplitB (fun hc => ?_) (fun hc => ?_) <;> try simp [hc])
    | simp (disch := first | (with_reducible assumption) | (simp; done) | omega | (simp; omega)))
  refine CallK.fr (rlearn_c (a1 := a1) (a2 := a2) (b1 := b1) (b2 := b2) (now := now) hR hJ (by omega)) hdis2 ?_
  rintro r hr2 hdis3 _ _ ⟨hR2, s2, rfl, hs2⟩
  have hsl : (LL s).length ≤ 1000000 := by
    rw [hs]; unfold learnP; split
    · split
      · simp
      · simp only [List.length_map]; exact Nat.le_trans (List.length_filter_le _ _) (by omega)
    · simp
  repeat' (first
    | refine awp_seqK fun K' hpK => ?_
    | refine awp_block ?_
    | refine awp_condG fun A' B' hpA hpB => ?_
    | refine useK (by with_reducible assumption) ?_
    | refine useP (by with_reducible assumption) ?_
    | refine ED_cons (fun _ => ?_) ?_
    | (refine stable_mk ?_; simp (disch := first | (with_reducible assumption) | (simp; done) | omega | (simp; omega)); done)
    | (refine stable_no ?_; simp (disch := first | (with_reducible assumption) | (simp; done) | omega | (simp; omega)); done)
    | (with_reducible refine And.intro ?_ ?_)
    | (with_reducible intro hc)
    | (with_reducible refine GDsplit (fun hc => ?_) (fun hc => ?_) <;> try simp [hc])
    | (with_reducible refine GDsplitN (fun hc => ?_) (fun hc => ?_) <;> try simp [hc])
    | (with_reducible refine GDsplitNB (fun hc => ?_) (fun hc => ?_) <;> try simp [hc])
    | (with_reducible refine GDsplitB (fun hc => ?_) (fun hc => ?_) <;> try simp [hc])
    | (with_reducible refine GKsplit (fun hc => ?_) (fun hc => ?_) <;> try simp [hc])
    | (with_reducible refine GKsplitN (fun hc => ?_) (fun hc => ?_) <;> try simp [hc])
    | (with_reducible refine GKsplitNB (fun hc => ?_) (fun hc => ?_) <;> try simp [hc])
    | (with_reducible refine GKsplitB (fun hc => ?_) (fun hc => ?_) <;> try simp [hc])
    | (refine CallK.use (same_c (a := s) (b := s2) (by rw [hs, hs2]) hsl) ?_; rintro r G' _ _ ⟨rfl, rfl⟩)
    | simp (disch := first | (with_reducible assumption) | (simp; done) | omega | (simp; omega)))
  exact ends_one (by simp <;> rfl) (by simp) (hpost _ _ ⟨hv2, hr2, rfl, hdis3, rfl, hV2, hR2⟩)
set_option maxHeartbeats 2000000 in
theorem step_3 {pb rb : Nat} {hv hr : Hp} {P : List (Int × Int)} {L : List (Int × Sn)} {a1 a2 b1 b2 up most t now n0 : Int} (hdis : Dis hv hr) (hV : VH pb hv P L) (hR : RH rb hr P (L.map Prod.snd)) (hJ : JV P L n0) (hl : L.length ≤ 60) : ACalls Try.prog 8 [.ptr pb 0, .ptr rb 0, opV 3 a1 a2 b1 b2 up most t, .int .i64 now] (uni hv hr) fun r G' => ∃ hv' hr', G' = uni hv' hr' ∧ Dis hv' hr' ∧ r = .bool true ∧ VH pb hv' P (learnP P L a1 a2 b1 b2 now).1 ∧ RH rb hr' P ((learnP P L a1 a2 b1 b2 now).1.map Prod.snd) := by
  refine ACalls.hide fun post hpost => ?_
  refine F8_in (by simp) (by simp) fun hbd => ?_
  repeat' (first
    | refine awp_seqK fun K' hpK => ?_
    | refine awp_block ?_
    | refine awp_condG fun A' B' hpA hpB => ?_
    | refine useK (by with_reducible assumption) ?_
    | refine useP (by with_reducible assumption) ?_
    | refine ED_cons (fun _ => ?_) ?_
    | (refine stable_mk ?_; simp (disch := first | (with_reducible assumption) | (simp; done) | omega | (simp; omega)); done)
    | (refine stable_no ?_; simp (disch := first | (with_reducible assumption) | (simp; done) | omega | (simp; omega)); done)
    | (with_reducible refine And.intro ?_ ?_)
    | (with_reducible intro hc)
    | (with_reducible refine GDsplit (fun hc => ?_) (fun hc => ?_) <;> try simp [hc])
    | (with_reducible refine GDsplitN (fun hc => ?_) (fun hc => ?_) <;> try simp [hc])
    | (with_reducible refine GDsplitNB (fun hc => ?_) (fun hc => ?_) <;> try simp [hc])
    | (with_reducible refine GDsplitB (fun hc => ?_) (fun hc => ?_) <;> try simp [hc])
    | (with_reducible refine GKsplit (fun hc => ?_) (fun hc => ?_) <;> try simp [hc])
    | (with_reducible refine GKsplitN (fun hc => ?_) (fun hc => ?_) <;> try simp [hc])
    | (with_reducible refine GKsplitNB (fun hc => ?_) (fun hc => ?_) <;> try simp [hc])
    | (with_reducible refine GKsplitB (fun hc => ?_) (fun hc => ?_) <;> try simp [hc])
    | simp (disch := first | (with_reducible assumption) | (simp; done) | omega | (simp; omega)))
  refine CallK.fl (learn_c (a1 := a1) (a2 := a2) (b1 := b1) (b2 := b2) (now := now) hV hJ.p (by omega)) hdis ?_
  rintro r hv2 hdis2 _ _ ⟨hV2, s, rfl, hs⟩
  repeat' (first
    | refine awp_seqK fun K' hpK => ?_
    | refine awp_block ?_
    | refine awp_condG fun A' B' hpA hpB => ?_
    | refine useK (by with_reducible assumption) ?_
    | refine useP (by with_reducible assumption) ?_
    | refine ED_cons (fun _ => ?_) ?_
    | (refine stable_mk ?_; simp (disch := first | (with_reducible assumption) | (simp; done) | omega | (simp; omega)); done)
    | (refine stable_no ?_; simp (disch := first | (with_reducible assumption) | (simp; done) | omega | (simp; omega)); done)
    | (with_reducible refine And.intro ?_ ?_)
    | (with_reducible intro hc)
    | (with_reducible refine GDsplit (fun hc => ?_) (fun hc => ?_) <;> try simp [hc])
    | (with_reducible refine GDsplitN (fun hc => ?_) (fun hc => ?_) <;> try simp [hc])
    | (with_reducible refine GDsplitNB (fun hc => ?_) (fun hc => ?_) <;> try simp [hc])
    | (with_reducible refine GDsplitB (fun hc => ?_) (fun hc => ?_) <;> try simp [hc])
    | (with_reducible refine GKsplit (fun hc => ?_) (fun hc => ?_) <;> try simp [hc])
    | (with_reducible refine GKsplitN (fun hc => ?_) (fun hc => ?_) <;> try simp [hc])
    | (with_reducible refine GKsplitNB (fun hc => ?_) (fun hc => ?_) <;> try simp [hc])
    | (with_reducible refine GKsplitB (fun hc => ?_) (fun hc => ?_) <;> try simp [hc])
    | simp (disch := first | (with_reducible assumption) | (simp; done) | omega | (simp; omega)))
  refine CallK.fr (rlearn_c (a1 := a1) (a2 := a2) (b1 := b1) (b2 := b2) (now := now) hR hJ (by omega)) hdis2 ?_
  rintro r hr2 hdis3 _ _ ⟨hR2, s2, rfl, hs2⟩
  have hsl : (LL s).length ≤ 1000000 := by
    rw [hs]; unfold learnP; split
    · split
      · simp
      · simp only [List.length_map]; exact Nat.le_trans (List.length_filter_le _ _) (by omega)
    · simp
  repeat' (first
    | refine awp_seqK fun K' hpK => ?_
    | refine awp_block ?_
    | refine awp_condG fun A' B' hpA hpB => ?_
    | refine useK (by with_reducible assumption) ?_
    | refine useP (by with_reducible assumption) ?_
    | refine ED_cons (fun _ => ?_) ?_
    | (refine stable_mk ?_; simp (disch := first | (with_reducible assumption) | (simp; done) | omega | (simp; omega)); done)
    | (refine stable_no ?_; simp (disch := first | (with_reducible assumption) | (simp; done) | omega | (simp; omega)); done)
    | (with_reducible refine And.intro ?_ ?_)
    | (with_reducible intro hc)
    | (with_reducible refine GDsplit (fun hc => ?_) (fun hc => ?_) <;> try simp [hc])
    | (with_reducible refine GDsplitN (fun hc => ?_) (fun hc => ?_) <;> try simp [hc])
    | (with_reducible refine GDsplitNB (fun hc => ?_) (fun hc => ?_) <;> try simp [hc])
    | (with_reducible refine GDsplitB (fun hc => ?_) (fun hc => ?_) <;> try simp [hc])
    | (with_reducible refine GKsplit (fun hc => ?_) (fun hc => ?_) <;> try simp [hc])
    | (with_reducible refine GKsplitN (fun hc => ?_) (fun hc => ?_) <;> try simp [hc])
    | (with_reducible refine GKsplitNB (fun hc => ?_) (fun hc => ?_) <;> try simp [hc])
    | (with_reducible refine GKsplitB (fun hc => ?_) (fun hc => ?_) <;> try simp [hc])
    | (refine CallK.use (same_c (a := s) (b := s2) (by rw [hs, hs2]) hsl) ?_; rintro r G' _ _ ⟨rfl, rfl⟩)
    | simp (disch := first | (with_reducible assumption) | (simp; done) | omega | (simp; omega)))
  exact ends_one (by simp <;> rfl) (by simp) (hpost _ _ ⟨hv2, hr2, rfl, hdis3, rfl, hV2, hR2⟩)
set_option maxHeartbeats 2000000 in
theorem step_4 {pb rb : Nat} {hv hr : Hp} {P : List (Int × Int)} {L : List (Int × Sn)} {a1 a2 b1 b2 up most t now n0 : Int} (hdis : Dis hv hr) (hV : VH pb hv P L) (hR : RH rb hr P (L.map Prod.snd)) (hJ : JV P L n0) (hl : L.length ≤ 60) : ACalls Try.prog 8 [.ptr pb 0, .ptr rb 0, opV 4 a1 a2 b1 b2 up most t, .int .i64 now] (uni hv hr) fun r G' => ∃ hv' hr', G' = uni hv' hr' ∧ Dis hv' hr' ∧ r = .bool true ∧ VH pb hv' (delL P a1) (L.filter fun x => !atSw a1 x.2) ∧ RH rb hr' (delL P a1) ((L.filter fun x => !atSw a1 x.2).map Prod.snd) := by
  refine ACalls.hide fun post hpost => ?_
  refine F8_in (by simp) (by simp) fun hbd => ?_
  repeat' (first
    | refine awp_seqK fun K' hpK => ?_
    | refine awp_block ?_
    | refine awp_condG fun A' B' hpA hpB => ?_
    | refine useK (by with_reducible assumption) ?_
    | refine useP (by with_reducible assumption) ?_
    | refine ED_cons (fun _ => ?_) ?_
    | (refine stable_mk ?_; simp (disch := first | (with_reducible assumption) | (simp; done) | omega | (simp; omega)); done)
    | (refine stable_no ?_; simp (disch := first | (with_reducible assumption) | (simp; done) | omega | (simp; omega)); done)
    | (with_reducible refine And.intro ?_ ?_)
    | (with_reducible intro hc)
    | (with_reducible refine GDsplit (fun hc => ?_) (fun hc => ?_) <;> try simp [hc])
    | (with_reducible refine GDsplitN (fun hc => ?_) (fun hc => ?_) <;> try simp [hc])
    | (with_reducible refine GDsplitNB (fun hc => ?_) (fun hc => ?_) <;> try simp [hc])
    | (with_reducible refine GDsplitB (fun hc => ?_) (fun hc => ?_) <;> try simp [hc])
    | (with_reducible refine GKsplit (fun hc => ?_) (fun hc => ?_) <;> try simp [hc])
    | (with_reducible refine GKsplitN (fun hc => ?_) (fun hc => ?_) <;> try simp [hc])
    | (with_reducible refine GKsplitNB (fun hc => ?_) (fun hc => ?_) <;> try simp [hc])
    | (with_reducible refine GKsplitB (fun hc => ?_) (fun hc => ?_) <;> try simp [hc])
    | simp (disch := first | (with_reducible assumption) | (simp; done) | omega | (simp; omega)))
  refine CallK.fl (drop_c (sw := a1) hV hJ.p (by omega)) hdis ?_
  rintro r hv2 hdis2 _ _ ⟨hV2, s, rfl, hs⟩
  repeat' (first
    | refine awp_seqK fun K' hpK => ?_
    | refine awp_block ?_
    | refine awp_condG fun A' B' hpA hpB => ?_
    | refine useK (by with_reducible assumption) ?_
    | refine useP (by with_reducible assumption) ?_
    | refine ED_cons (fun _ => ?_) ?_
    | (refine stable_mk ?_; simp (disch := first | (with_reducible assumption) | (simp; done) | omega | (simp; omega)); done)
    | (refine stable_no ?_; simp (disch := first | (with_reducible assumption) | (simp; done) | omega | (simp; omega)); done)
    | (with_reducible refine And.intro ?_ ?_)
    | (with_reducible intro hc)
    | (with_reducible refine GDsplit (fun hc => ?_) (fun hc => ?_) <;> try simp [hc])
    | (with_reducible refine GDsplitN (fun hc => ?_) (fun hc => ?_) <;> try simp [hc])
    | (with_reducible refine GDsplitNB (fun hc => ?_) (fun hc => ?_) <;> try simp [hc])
    | (with_reducible refine GDsplitB (fun hc => ?_) (fun hc => ?_) <;> try simp [hc])
    | (with_reducible refine GKsplit (fun hc => ?_) (fun hc => ?_) <;> try simp [hc])
    | (with_reducible refine GKsplitN (fun hc => ?_) (fun hc => ?_) <;> try simp [hc])
    | (with_reducible refine GKsplitNB (fun hc => ?_) (fun hc => ?_) <;> try simp [hc])
    | (with_reducible refine GKsplitB (fun hc => ?_) (fun hc => ?_) <;> try simp [hc])
    | simp (disch := first | (with_reducible assumption) | (simp; done) | omega | (simp; omega)))
  refine CallK.fr (rdrop_c (sw := a1) hR hJ.p (by rw [List.length_map]; omega)) hdis2 ?_
  rintro r hr2 hdis3 _ _ ⟨hR2, s2, rfl, hs2⟩
  rw [← filter_snd L (fun x => !atSw a1 x)] at hR2
  rw [← filter_snd L (atSw a1)] at hs2
  have hsl : (LL s).length ≤ 1000000 := by rw [hs]; simp only [List.length_map]; exact Nat.le_trans (List.length_filter_le _ _) (by omega)
  repeat' (first
    | refine awp_seqK fun K' hpK => ?_
    | refine awp_block ?_
    | refine awp_condG fun A' B' hpA hpB => ?_
    | refine useK (by with_reducible assumption) ?_
    | refine useP (by with_reducible assumption) ?_
    | refine ED_cons (fun _ => ?_) ?_
    | (refine stable_mk ?_; simp (disch := first | (with_reducible assumption) | (simp; done) | omega | (simp; omega)); done)
    | (refine stable_no ?_; simp (disch := first | (with_reducible assumption) | (simp; done) | omega | (simp; omega)); done)
    | (with_reducible refine And.intro ?_ ?_)
    | (with_reducible intro hc)
    | (with_reducible refine GDsplit (fun hc => ?_) (fun hc => ?_) <;> try simp [hc])
    | (with_reducible refine GDsplitN (fun hc => ?_) (fun hc => ?_) <;> try simp [hc])
    | (with_reducible refine GDsplitNB (fun hc => ?_) (fun hc => ?_) <;> try simp [hc])
    | (with_reducible refine GDsplitB (fun hc => ?_) (fun hc => ?_) <;> try simp [hc])
    | (with_reducible refine GKsplit (fun hc => ?_) (fun hc => ?_) <;> try simp [hc])
    | (with_reducible refine GKsplitN (fun hc => ?_) (fun hc => ?_) <;> try simp [hc])
    | (with_reducible refine GKsplitNB (fun hc => ?_) (fun hc => ?_) <;> try simp [hc])
    | (with_reducible refine GKsplitB (fun hc => ?_) (fun hc => ?_) <;> try simp [hc])
    | (refine CallK.use (same_c (a := s) (b := s2) (by rw [hs, hs2]) hsl) ?_; rintro r G' _ _ ⟨rfl, rfl⟩)
    | simp (disch := first | (with_reducible assumption) | (simp; done) | omega | (simp; omega)))
  exact ends_one (by simp <;> rfl) (by simp) (hpost _ _ ⟨hv2, hr2, rfl, hdis3, rfl, hV2, hR2⟩)
set_option maxHeartbeats 2000000 in
theorem step_5 {pb rb : Nat} {hv hr : Hp} {P : List (Int × Int)} {L : List (Int × Sn)} {a1 a2 b1 b2 up most t now n0 : Int} (hdis : Dis hv hr) (hV : VH pb hv P L) (hR : RH rb hr P (L.map Prod.snd)) (hJ : JV P L n0) (hl : L.length ≤ 60) : ACalls Try.prog 8 [.ptr pb 0, .ptr rb 0, opV 5 a1 a2 b1 b2 up most t, .int .i64 now] (uni hv hr) fun r G' => ∃ hv' hr', G' = uni hv' hr' ∧ Dis hv' hr' ∧ r = .bool true ∧ VH pb hv' P (L.filter fun x => !oldP now (m10 most) x.2) ∧ RH rb hr' P ((L.filter fun x => !oldP now (m10 most) x.2).map Prod.snd) := by
  obtain ⟨q, hq, hm⟩ : ∃ q : Nat, q ≤ 1023 ∧ ibits .and .i64 most 1023 = some (q : Int) := andM (c := 1023) (by omega) most
  have em : m10 most = (q : Int) := by unfold m10; rw [hm]; rfl
  rw [em]
  refine ACalls.hide fun post hpost => ?_
  refine F8_in (by simp) (by simp) fun hbd => ?_
  repeat' (first
    | refine awp_seqK fun K' hpK => ?_
    | refine awp_block ?_
    | refine awp_condG fun A' B' hpA hpB => ?_
    | refine useK (by with_reducible assumption) ?_
    | refine useP (by with_reducible assumption) ?_
    | refine ED_cons (fun _ => ?_) ?_
    | (refine stable_mk ?_; simp (disch := first | (with_reducible assumption) | (simp; done) | omega | (simp; omega)) [hm]; done)
    | (refine stable_no ?_; simp (disch := first | (with_reducible assumption) | (simp; done) | omega | (simp; omega)) [hm]; done)
    | (with_reducible refine And.intro ?_ ?_)
    | (with_reducible intro hc)
    | (with_reducible refine GDsplit (fun hc => ?_) (fun hc => ?_) <;> try simp [hc])
    | (with_reducible refine GDsplitN (fun hc => ?_) (fun hc => ?_) <;> try simp [hc])
    | (with_reducible refine GDsplitNB (fun hc => ?_) (fun hc => ?_) <;> try simp [hc])
    | (with_reducible refine GDsplitB (fun hc => ?_) (fun hc => ?_) <;> try simp [hc])
    | (with_reducible refine GKsplit (fun hc => ?_) (fun hc => ?_) <;> try simp [hc])
    | (with_reducible refine GKsplitN (fun hc => ?_) (fun hc => ?_) <;> try simp [hc])
    | (with_reducible refine GKsplitNB (fun hc => ?_) (fun hc => ?_) <;> try simp [hc])
    | (with_reducible refine GKsplitB (fun hc => ?_) (fun hc => ?_) <;> try simp [hc])
    | simp (disch := first | (with_reducible assumption) | (simp; done) | omega | (simp; omega)) [hm])
  refine CallK.fl (age_c (now := now) (most := q) hV (by omega)) hdis ?_
  rintro r hv2 hdis2 _ _ ⟨hV2, s, rfl, hs⟩
  repeat' (first
    | refine awp_seqK fun K' hpK => ?_
    | refine awp_block ?_
    | refine awp_condG fun A' B' hpA hpB => ?_
    | refine useK (by with_reducible assumption) ?_
    | refine useP (by with_reducible assumption) ?_
    | refine ED_cons (fun _ => ?_) ?_
    | (refine stable_mk ?_; simp (disch := first | (with_reducible assumption) | (simp; done) | omega | (simp; omega)); done)
    | (refine stable_no ?_; simp (disch := first | (with_reducible assumption) | (simp; done) | omega | (simp; omega)); done)
    | (with_reducible refine And.intro ?_ ?_)
    | (with_reducible intro hc)
    | (with_reducible refine GDsplit (fun hc => ?_) (fun hc => ?_) <;> try simp [hc])
    | (with_reducible refine GDsplitN (fun hc => ?_) (fun hc => ?_) <;> try simp [hc])
    | (with_reducible refine GDsplitNB (fun hc => ?_) (fun hc => ?_) <;> try simp [hc])
    | (with_reducible refine GDsplitB (fun hc => ?_) (fun hc => ?_) <;> try simp [hc])
    | (with_reducible refine GKsplit (fun hc => ?_) (fun hc => ?_) <;> try simp [hc])
    | (with_reducible refine GKsplitN (fun hc => ?_) (fun hc => ?_) <;> try simp [hc])
    | (with_reducible refine GKsplitNB (fun hc => ?_) (fun hc => ?_) <;> try simp [hc])
    | (with_reducible refine GKsplitB (fun hc => ?_) (fun hc => ?_) <;> try simp [hc])
    | simp (disch := first | (with_reducible assumption) | (simp; done) | omega | (simp; omega)))
  refine CallK.fr (rage_c (now := now) (most := q) hR hJ.p (by rw [List.length_map]; omega)) hdis2 ?_
  rintro r hr2 hdis3 _ _ ⟨hR2, s2, rfl, hs2⟩
  rw [← filter_snd L (fun x => !oldP now q x)] at hR2
  rw [← filter_snd L (oldP now q)] at hs2
  have hsl : (LL s).length ≤ 1000000 := by rw [hs]; simp only [List.length_map]; exact Nat.le_trans (List.length_filter_le _ _) (by omega)
  repeat' (first
    | refine awp_seqK fun K' hpK => ?_
    | refine awp_block ?_
    | refine awp_condG fun A' B' hpA hpB => ?_
    | refine useK (by with_reducible assumption) ?_
    | refine useP (by with_reducible assumption) ?_
    | refine ED_cons (fun _ => ?_) ?_
    | (refine stable_mk ?_; simp (disch := first | (with_reducible assumption) | (simp; done) | omega | (simp; omega)); done)
    | (refine stable_no ?_; simp (disch := first | (with_reducible assumption) | (simp; done) | omega | (simp; omega)); done)
    | (with_reducible refine And.intro ?_ ?_)
    | (with_reducible intro hc)
    | (with_reducible refine GDsplit (fun hc => ?_) (fun hc => ?_) <;> try simp [hc])
    | (with_reducible refine GDsplitN (fun hc => ?_) (fun hc => ?_) <;> try simp [hc])
    | (with_reducible refine GDsplitNB (fun hc => ?_) (fun hc => ?_) <;> try simp [hc])
    | (with_reducible refine GDsplitB (fun hc => ?_) (fun hc => ?_) <;> try simp [hc])
    | (with_reducible refine GKsplit (fun hc => ?_) (fun hc => ?_) <;> try simp [hc])
    | (with_reducible refine GKsplitN (fun hc => ?_) (fun hc => ?_) <;> try simp [hc])
    | (with_reducible refine GKsplitNB (fun hc => ?_) (fun hc => ?_) <;> try simp [hc])
    | (with_reducible refine GKsplitB (fun hc => ?_) (fun hc => ?_) <;> try simp [hc])
    | (refine CallK.use (same_c (a := s) (b := s2) (by rw [hs, hs2]) hsl) ?_; rintro r G' _ _ ⟨rfl, rfl⟩)
    | simp (disch := first | (with_reducible assumption) | (simp; done) | omega | (simp; omega)))
  exact ends_one (by simp <;> rfl) (by simp) (hpost _ _ ⟨hv2, hr2, rfl, hdis3, rfl, hV2, hR2⟩)
set_option maxHeartbeats 2000000 in
theorem step_c {pb rb : Nat} {hv hr : Hp} {P : List (Int × Int)} {L : List (Int × Sn)} {kd a1 a2 b1 b2 up most t now n0 : Int} (hdis : Dis hv hr) (hV : VH pb hv P L) (hR : RH rb hr P (L.map Prod.snd)) (hJ : JV P L n0) (hl : L.length ≤ 60) : ACalls Try.prog 8 [.ptr pb 0, .ptr rb 0, opV kd a1 a2 b1 b2 up most t, .int .i64 now] (uni hv hr) fun r G' => ∃ hv' hr', G' = uni hv' hr' ∧ Dis hv' hr' ∧ r = .bool true ∧ VH pb hv' (stepV kd a1 a2 b1 b2 up most now P L).1 (stepV kd a1 a2 b1 b2 up most now P L).2 ∧ RH rb hr' (stepV kd a1 a2 b1 b2 up most now P L).1 ((stepV kd a1 a2 b1 b2 up most now P L).2.map Prod.snd) := by
  by_cases k0 : kd = 0
  · subst k0; exact step_0 hdis hV hR hJ hl
  by_cases k1 : kd = 1
  · subst k1; exact step_1 hdis hV hR hJ hl
  by_cases k2 : kd = 2
  · subst k2; exact step_2 hdis hV hR hJ hl
  by_cases k3 : kd = 3
  · subst k3; exact step_3 hdis hV hR hJ hl
  by_cases k4 : kd = 4
  · subst k4; exact step_4 hdis hV hR hJ hl
  by_cases k5 : kd = 5
  · subst k5; exact step_5 hdis hV hR hJ hl
  have e : stepV kd a1 a2 b1 b2 up most now P L = (P, L) := by simp [stepV, k0, k1, k2, k3, k4, k5]
  rw [e]
  refine ACalls.hide fun post hpost => ?_
  refine F8_in (by simp) (by simp) fun hbd => ?_
  repeat' (first
    | refine awp_seqK fun K' hpK => ?_
    | refine awp_block ?_
    | refine awp_condG fun A' B' hpA hpB => ?_
    | refine useK (by with_reducible assumption) ?_
    | refine useP (by with_reducible assumption) ?_
    | refine ED_cons (fun _ => ?_) ?_
    | (refine stable_mk ?_; simp (disch := first | (with_reducible assumption) | (simp; done) | omega | (simp; omega)) [k0, k1, k2, k3, k4, k5]; done)
    | (refine stable_no ?_; simp (disch := first | (with_reducible assumption) | (simp; done) | omega | (simp; omega)) [k0, k1, k2, k3, k4, k5]; done)
    | (with_reducible refine And.intro ?_ ?_)
    | (with_reducible intro hc)
    | (with_reducible refine GDsplit (fun hc => ?_) (fun hc => ?_) <;> try simp [hc])
    | (with_reducible refine GDsplitN (fun hc => ?_) (fun hc => ?_) <;> try simp [hc])
    | (with_reducible refine GDsplitNB (fun hc => ?_) (fun hc => ?_) <;> try simp [hc])
    | (with_reducible refine GDsplitB (fun hc => ?_) (fun hc => ?_) <;> try simp [hc])
    | (with_reducible refine GKsplit (fun hc => ?_) (fun hc => ?_) <;> try simp [hc])
    | (with_reducible refine GKsplitN (fun hc => ?_) (fun hc => ?_) <;> try simp [hc])
    | (with_reducible refine GKsplitNB (fun hc => ?_) (fun hc => ?_) <;> try simp [hc])
    | (with_reducible refine GKsplitB (fun hc => ?_) (fun hc => ?_) <;> try simp [hc])
    | simp (disch := first | (with_reducible assumption) | (simp; done) | omega | (simp; omega)) [k0, k1, k2, k3, k4, k5])
  exact ends_one (by simp <;> rfl) (by simp) (hpost _ _ ⟨hv, hr, rfl, hdis, rfl, hV, hR⟩)
theorem JV.step {P : List (Int × Int)} {L : List (Int × Sn)} {now n0 : Int} (h : JV P L n0) (hn : n0 ≤ now) (h0 : 0 ≤ now) (kd a1 a2 b1 b2 up most : Int) : JV (stepV kd a1 a2 b1 b2 up most now P L).1 (stepV kd a1 a2 b1 b2 up most now P L).2 now := by
  have h := h.later hn
  unfold stepV
  split
  · exact h.ports _ _
  split
  · exact h.learn h0
  split
  · exact h.drop _
  split
  · exact h.age _
  · exact h
theorem learn_len {P : List (Int × Int)} {L : List (Int × Sn)} (hS : Srt L) (a1 a2 b1 b2 now : Int) : (learnP P L a1 a2 b1 b2 now).1.length ≤ L.length + 1 := by
  unfold learnP
  split
  · split
    · exact setL_len_le hS _ _
    · exact Nat.le_trans (setL_len_le (hS.filter _) _ _) (Nat.succ_le_succ (List.length_filter_le _ _))
  · exact Nat.le_succ _
theorem stepV_len {P : List (Int × Int)} {L : List (Int × Sn)} (hS : Srt L) (kd a1 a2 b1 b2 up most now : Int) : (stepV kd a1 a2 b1 b2 up most now P L).2.length ≤ L.length + 1 := by
  unfold stepV
  split
  · unfold portsP; split
    · exact Nat.le_succ_of_le (List.length_filter_le _ _)
    · exact Nat.le_succ _
  split
  · exact learn_len hS ..
  split
  · exact Nat.le_succ_of_le (List.length_filter_le _ _)
  split
  · exact Nat.le_succ_of_le (List.length_filter_le _ _)
  · exact Nat.le_succ _
end Go.Proofs.Ytapocekfkbkefaa
