import Derived.Test.YtapocekfkbkefaaD18K
set_option linter.unusedSimpArgs false
set_option linter.unusedVariables false
namespace Go.Proofs.Ytapocekfkbkefaa
open Go Go.Al
set_option maxRecDepth 20000
attribute [local irreducible] awp aops aopsD eop pv ACalls CallK AppK AEnds ti

/- the document's list is the shelf's -/
theorem JV.find {P : List (Int × Int)} {L : List (Int × Sn)} {now : Int} (h : JV P L now) (l : Lk) : (∃ x ∈ L.map Prod.snd, x.lk = l) ↔ (getL L (numL l)).map Sn.lk = some l := by
  constructor
  · rintro ⟨x, hx, rfl⟩
    obtain ⟨q, hq, rfl⟩ := List.mem_map.1 hx
    have h1 := mem_getL h.s (k := q.1) (v := q.2) hq
    rw [h.k q hq] at h1
    rw [h1]; rfl
  · intro he
    cases hg : getL L (numL l) with
    | none => rw [hg] at he; cases he
    | some x =>
      rw [hg] at he
      exact ⟨x, List.mem_map.2 ⟨_, getL_mem hg, rfl⟩, by simpa using he⟩
theorem upd_no {l : Lk} {now : Int} {M : List Sn} (h : ∀ x ∈ M, x.lk ≠ l) : updM l now M = M := by
  induction M with
  | nil => rfl
  | cons x r ih => unfold updM; rw [if_neg (h x (by simp)), ih fun y hy => h y (by simp [hy])]
theorem upd_set {L : List (Int × Sn)} {l : Lk} {now : Int} {x : Sn} (hS : Srt L) (hk : ∀ x ∈ L, x.1 = numL x.2.lk) (hg : getL L (numL l) = some x) (hx : x.lk = l) : (setL L (numL l) (mkS l now)).map Prod.snd = updM l now (L.map Prod.snd) := by
  induction L with
  | nil => cases hg
  | cons p r ih =>
    have hp := hk p (by simp)
    by_cases e : p.1 = numL l
    · have hxp : x = p.2 := by rw [getL, if_pos e] at hg; injection hg with hg; exact hg.symm
      subst hxp
      unfold setL
      rw [if_neg (by rw [KO_int]; simp; omega), if_pos e, List.map_cons, List.map_cons]
      unfold updM
      rw [if_pos hx]
      congr 1
      cases l; simp only [Sn.lk, Lk.mk.injEq] at hx; simp [mkS, hx]
    · rw [getL, if_neg e] at hg
      have hlt : p.1 < numL l := by
        have h1 := (Srt.cons.1 hS).1 _ (getL_mem hg)
        rw [KO_int] at h1
        exact of_decide_eq_true h1
      unfold setL
      rw [if_pos (by rw [KO_int]; simpa using hlt), List.map_cons, ih (Srt.cons.1 hS).2 (fun x hx => hk x (by simp [hx])) hg, List.map_cons]
      rw [show updM l now (p.2 :: List.map Prod.snd r) = p.2 :: updM l now (List.map Prod.snd r) by
        conv => lhs; unfold updM
        rw [if_neg (fun h => e (by rw [hp, h]))]]
theorem ins_set {L : List (Int × Sn)} {v : Sn} (hk : ∀ x ∈ L, x.1 = numL x.2.lk) (hg : ∀ x ∈ L, goodP x.2.a1 x.2.a2 = true) (hv : goodP v.a1 v.a2 = true) (hn : ∀ x ∈ L, ¬ (x.2.a1 = v.a1 ∧ x.2.a2 = v.a2)) : (setL L (numL v.lk) v).map Prod.snd = insS v (L.map Prod.snd) := by
  induction L with
  | nil => rfl
  | cons p r ih =>
    have hp := hk p (by simp)
    have g1 := goodP_iff.1 (hg p (by simp))
    have g2 := goodP_iff.1 hv
    have hn0 := hn p (by simp)
    have hl : lessS v p.2 ↔ numL v.lk < p.1 := by
      rw [hp]; unfold lessS numL Sn.lk; simp only; omega
    have hne : p.1 ≠ numL v.lk := by
      rw [hp]; unfold numL Sn.lk; simp only; intro e; apply hn0; omega
    unfold setL
    rw [List.map_cons]
    by_cases hlt : numL v.lk < p.1
    · rw [if_neg (by rw [KO_int]; simp; omega), if_neg hne]
      unfold insS
      rw [if_pos (hl.2 hlt)]; simp
    · rw [if_pos (by rw [KO_int]; simp; omega)]
      rw [List.map_cons, ih (fun x hx => hk x (by simp [hx])) (fun x hx => hg x (by simp [hx])) (fun x hx => hn x (by simp [hx]))]
      conv => rhs; unfold insS
      rw [if_neg (fun h => hlt (hl.1 h))]
theorem learn_rl {P : List (Int × Int)} {L : List (Int × Sn)} {n0 now a1 a2 b1 b2 : Int} (h : JV P L n0) (hm : mayL P a1 a2 b1 b2 = true) :
    rl (L.map Prod.snd) (linkL a1 a2 b1 b2).a1 (linkL a1 a2 b1 b2).a2 (linkL a1 a2 b1 b2).b1 (linkL a1 a2 b1 b2).b2 now = ((learnP P L a1 a2 b1 b2 now).1.map Prod.snd, (learnP P L a1 a2 b1 b2 now).2) := by
  obtain ⟨u1, u2, u3⟩ := link_ok hm
  have htl := fun x => touch_link a1 a2 b1 b2 x
  unfold rl learnP
  rw [if_pos hm]
  generalize linkL a1 a2 b1 b2 = l at *
  by_cases he : (getL L (numL l)).map Sn.lk = some l
  · rw [if_pos ((h.find l).2 he), if_pos he]
    obtain ⟨x, hx, hxl⟩ : ∃ x, getL L (numL l) = some x ∧ x.lk = l := by
      cases hg : getL L (numL l) with
      | none => rw [hg] at he; cases he
      | some x => rw [hg] at he; exact ⟨x, rfl, by simpa using he⟩
    rw [upd_set h.s h.k hx hxl]
  · rw [if_neg (fun h2 => he ((h.find l).1 h2)), if_neg he]
    have e1 : (fun x => touchP l.a1 l.a2 l.b1 l.b2 x) = touchP a1 a2 b1 b2 := funext htl
    have e1' : touchP l.a1 l.a2 l.b1 l.b2 = touchP a1 a2 b1 b2 := funext htl
    rw [e1']
    have hf := h.age (fun x => !touchP a1 a2 b1 b2 x.2)
    have e2 : (setL (L.filter fun x => !touchP a1 a2 b1 b2 x.2) (numL l) (mkS l now)).map Prod.snd = insS (mkS l now) ((L.filter fun x => !touchP a1 a2 b1 b2 x.2).map Prod.snd) := by
      refine ins_set (v := mkS l now) hf.k (fun x hx => upP_good (hf.g x hx).1) (upP_good u1) ?_
      intro x hx hxl
      have h1 := (List.mem_filter.1 hx).2
      have h2 : touchP a1 a2 b1 b2 x.2 = true := by rw [← htl, touch_iff]; exact .inl (.inl hxl)
      simp [h2] at h1
    simp only
    rw [e2, filter_snd L (fun x => !touchP a1 a2 b1 b2 x), filter_snd L (touchP a1 a2 b1 b2)]
    rfl
theorem rlearn_c {rb : Nat} {G : Hp} {P : List (Int × Int)} {L : List (Int × Sn)} {a1 a2 b1 b2 now n0 : Int} (hR : RH rb G P (L.map Prod.snd)) (h : JV P L n0) (hl : L.length ≤ 900) : ACalls Try.prog 24 [.ptr rb 0, .agg [.int .i64 a1, .int .i64 a2], .agg [.int .i64 b1, .int .i64 b2], .int .i64 now] G fun r G' => RH rb G' P ((learnP P L a1 a2 b1 b2 now).1.map Prod.snd) ∧ ∃ s, r = .tup [ofS cLk s, .bool (learnP P L a1 a2 b1 b2 now).2.2] ∧ LL s = (learnP P L a1 a2 b1 b2 now).2.1 := by
  have hO := h.p
  cases hm : mayL P a1 a2 b1 b2 with
  | true =>
    have hrl := learn_rl (now := now) h hm
    obtain ⟨m1, m2, m3⟩ := mayL_ups hm
    have g1 := goodP_iff.1 (upP_good m2)
    have g2 := goodP_iff.1 (upP_good m3)
    by_cases hsw : b1 < a1 ∨ b1 = a1 ∧ b2 < a2
    · have e : linkL a1 a2 b1 b2 = ⟨b1, b2, a1, a2⟩ := by unfold linkL; rw [if_pos (by omega)]
      rw [e] at hrl
      have := rlearnS_c (now := now) hR hO (by rw [List.length_map]; exact hl) hm hsw
      rw [hrl] at this; exact this
    · have e : linkL a1 a2 b1 b2 = ⟨a1, a2, b1, b2⟩ := by unfold linkL; rw [if_neg (by omega)]
      rw [e] at hrl
      have := rlearnN_c (now := now) hR hO (by rw [List.length_map]; exact hl) hm hsw
      rw [hrl] at this; exact this
  | false =>
    have e : learnP P L a1 a2 b1 b2 now = (L, [], false) := by unfold learnP; rw [hm]; rfl
    rw [e]
    have hR0 := hR
    obtain ⟨K, U, out, hJ, hg⟩ := hR
    have hat := hg.at
    have uc1 := rup_c (sw := a1) (port := a2) hat hJ hO
    have uc2 := rup_c (sw := b1) (port := b2) hat hJ hO
    by_cases hab : a1 = b1 ∧ a2 = b2
    · obtain ⟨rfl, rfl⟩ := hab
      refine ACalls.hide fun post hpost => ?_
      refine F24_in (by simp) (by simp) fun hbd => ?_
      repeat' (first
        | refine awp_seqK fun K' hpK => ?_
        | refine awp_block ?_
        | refine awp_condG fun A' B' hpA hpB => ?_
        | refine useK (by with_reducible assumption) ?_
        | refine useP (by with_reducible assumption) ?_
        | refine ED_cons (fun _ => ?_) ?_
        | (refine stable_mk ?_; simp (disch := first | (with_reducible assumption) | (simp; done) | omega | (simp; omega)); done)
        | (refine stable_no ?_; simp (disch := first | (with_reducible assumption) | (simp; done) | omega | (simp; omega)); done)
        | (with_reducible refine And.intro ?_ ?_)
        | (with_reducible intro hc)
        | (with_reducible refine GDsplit (fun hc => ?_) (fun hc => ?_) <;> try simp [hc])
        | (with_reducible refine GDsplitN (fun hc => ?_) (fun hc => ?_) <;> try simp [hc])
        | (with_reducible refine GDsplitNB (fun hc => ?_) (fun hc => ?_) <;> try simp [hc])
        | (with_reducible refine GDsplitB (fun hc => ?_) (fun hc => ?_) <;> try simp [hc])
        | (with_reducible refine GKsplit (fun hc => ?_) (fun hc => ?_) <;> try simp [hc])
        | (with_reducible refine GKsplitN (fun hc => ?_) (fun hc => ?_) <;> try simp [hc])
        | (with_reducible refine GKsplitNB (fun hc => ?_) (fun hc => ?_) <;> try simp [hc])
        | (with_reducible refine GKsplitB (fun hc => ?_) (fun hc => ?_) <;> try simp [hc])
        | simp (disch := first | (with_reducible assumption) | (simp; done) | omega | (simp; omega)))
      exact ends_two (by simp <;> exact ⟨rfl, rfl⟩) (by simp) (by simp) (hpost _ _ ⟨hR0, none, by simp [ofS], rfl⟩)
    cases u1 : upP P a1 a2 with
    | false =>
      rw [u1] at uc1
      refine ACalls.hide fun post hpost => ?_
      refine F24_in (by simp) (by simp) fun hbd => ?_
      repeat' (first
        | refine awp_seqK fun K' hpK => ?_
        | refine awp_block ?_
        | refine awp_condG fun A' B' hpA hpB => ?_
        | refine useK (by with_reducible assumption) ?_
        | refine useP (by with_reducible assumption) ?_
        | refine ED_cons (fun _ => ?_) ?_
        | (refine stable_mk ?_; simp (disch := first | (with_reducible assumption) | (simp; done) | omega | (simp; omega)) [hab]; done)
        | (refine stable_no ?_; simp (disch := first | (with_reducible assumption) | (simp; done) | omega | (simp; omega)) [hab]; done)
        | (with_reducible refine And.intro ?_ ?_)
        | (with_reducible intro hc)
        | (with_reducible refine GDsplit (fun hc => ?_) (fun hc => ?_) <;> try simp [hc])
        | (with_reducible refine GDsplitN (fun hc => ?_) (fun hc => ?_) <;> try simp [hc])
        | (with_reducible refine GDsplitNB (fun hc => ?_) (fun hc => ?_) <;> try simp [hc])
        | (with_reducible refine GDsplitB (fun hc => ?_) (fun hc => ?_) <;> try simp [hc])
        | (with_reducible refine GKsplit (fun hc => ?_) (fun hc => ?_) <;> try simp [hc])
        | (with_reducible refine GKsplitN (fun hc => ?_) (fun hc => ?_) <;> try simp [hc])
        | (with_reducible refine GKsplitNB (fun hc => ?_) (fun hc => ?_) <;> try simp [hc])
        | (with_reducible refine GKsplitB (fun hc => ?_) (fun hc => ?_) <;> try simp [hc])
        | (refine CallK.use (uc1) ?_; rintro r G' _ _ ⟨rfl, rfl⟩)
        | simp (disch := first | (with_reducible assumption) | (simp; done) | omega | (simp; omega)) [hab])
      exact ends_two (by simp <;> exact ⟨rfl, rfl⟩) (by simp) (by simp) (hpost _ _ ⟨hR0, none, by simp [ofS], rfl⟩)
    | true =>
      have u2 : upP P b1 b2 = false := by
        cases u2 : upP P b1 b2 with
        | false => rfl
        | true => unfold mayL at hm; simp [hab, u1, u2] at hm
      rw [u1] at uc1
      rw [u2] at uc2
      refine ACalls.hide fun post hpost => ?_
      refine F24_in (by simp) (by simp) fun hbd => ?_
      repeat' (first
        | refine awp_seqK fun K' hpK => ?_
        | refine awp_block ?_
        | refine awp_condG fun A' B' hpA hpB => ?_
        | refine useK (by with_reducible assumption) ?_
        | refine useP (by with_reducible assumption) ?_
        | refine ED_cons (fun _ => ?_) ?_
        | (refine stable_mk ?_; simp (disch := first | (with_reducible assumption) | (simp; done) | omega | (simp; omega)) [hab]; done)
        | (refine stable_no ?_; simp (disch := first | (with_reducible assumption) | (simp; done) | omega | (simp; omega)) [hab]; done)
        | (with_reducible refine And.intro ?_ ?_)
        | (with_reducible intro hc)
        | (with_reducible refine GDsplit (fun hc => ?_) (fun hc => ?_) <;> try simp [hc])
        | (with_reducible refine GDsplitN (fun hc => ?_) (fun hc => ?_) <;> try simp [hc])
        | (with_reducible refine GDsplitNB (fun hc => ?_) (fun hc => ?_) <;> try simp [hc])
        | (with_reducible refine GDsplitB (fun hc => ?_) (fun hc => ?_) <;> try simp [hc])
        | (with_reducible refine GKsplit (fun hc => ?_) (fun hc => ?_) <;> try simp [hc])
        | (with_reducible refine GKsplitN (fun hc => ?_) (fun hc => ?_) <;> try simp [hc])
        | (with_reducible refine GKsplitNB (fun hc => ?_) (fun hc => ?_) <;> try simp [hc])
        | (with_reducible refine GKsplitB (fun hc => ?_) (fun hc => ?_) <;> try simp [hc])
        | (refine CallK.use (uc1) ?_; rintro r G' _ _ ⟨rfl, rfl⟩)
        | (refine CallK.use (uc2) ?_; rintro r G' _ _ ⟨rfl, rfl⟩)
        | simp (disch := first | (with_reducible assumption) | (simp; done) | omega | (simp; omega)) [hab])
      exact ends_two (by simp <;> exact ⟨rfl, rfl⟩) (by simp) (by simp) (hpost _ _ ⟨hR0, none, by simp [ofS], rfl⟩)
end Go.Proofs.Ytapocekfkbkefaa
