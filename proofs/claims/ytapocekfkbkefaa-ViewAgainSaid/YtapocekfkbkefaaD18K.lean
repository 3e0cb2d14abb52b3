import Derived.Test.YtapocekfkbkefaaD16K
import Derived.Test.YtapocekfkbkefaaD17K
set_option linter.unusedSimpArgs false
set_option linter.unusedVariables false
namespace Go.Proofs.Ytapocekfkbkefaa
open Go Go.Al
set_option maxRecDepth 20000

/-- what the calls keep -/
structure JV (P : List (Int × Int)) (L : List (Int × Sn)) (now : Int) : Prop where
  p : OKP P
  s : Srt L
  k : ∀ x ∈ L, x.1 = numL x.2.lk
  g : ∀ x ∈ L, upP P x.2.a1 x.2.a2 = true ∧ upP P x.2.b1 x.2.b2 = true
  o : ∀ x ∈ L, 100 * x.2.a1 + x.2.a2 < 100 * x.2.b1 + x.2.b2
  d : ∀ x ∈ L, ∀ y ∈ L, touchP x.2.a1 x.2.a2 x.2.b1 x.2.b2 y.2 = true → x.1 = y.1
  t : ∀ x ∈ L, 0 ≤ x.2.t ∧ x.2.t ≤ now
theorem JV.nil : JV [] [] 0 := ⟨okp1, Srt.nil, fun x hx => (by cases hx), fun x hx => (by cases hx), fun x hx => (by cases hx), fun x hx => (by cases hx), fun x hx => (by cases hx)⟩
theorem filter_snd (L : List (Int × Sn)) (p : Sn → Bool) : (L.filter fun x => p x.2).map Prod.snd = (L.map Prod.snd).filter p := by
  induction L with
  | nil => rfl
  | cons x r ih => simp only [List.filter_cons, List.map_cons]; cases h : p x.2 <;> simp [ih]
theorem JV.later {P : List (Int × Int)} {L : List (Int × Sn)} {now n2 : Int} (h : JV P L now) (hn : now ≤ n2) : JV P L n2 :=
  ⟨h.p, h.s, h.k, h.g, h.o, h.d, fun x hx => by have := h.t x hx; omega⟩
theorem JV.sub {P P' : List (Int × Int)} {L : List (Int × Sn)} {now : Int} (h : JV P L now) (hp : OKP P') (q : Int × Sn → Bool) (hg : ∀ x ∈ L, q x = true → upP P' x.2.a1 x.2.a2 = true ∧ upP P' x.2.b1 x.2.b2 = true) : JV P' (L.filter q) now :=
  ⟨hp, h.s.filter _, fun x hx => h.k x (List.mem_filter.1 hx).1, fun x hx => hg x (List.mem_filter.1 hx).1 (List.mem_filter.1 hx).2, fun x hx => h.o x (List.mem_filter.1 hx).1, fun x hx y hy => h.d x (List.mem_filter.1 hx).1 y (List.mem_filter.1 hy).1, fun x hx => h.t x (List.mem_filter.1 hx).1⟩
theorem JV.ports {P : List (Int × Int)} {L : List (Int × Sn)} {now : Int} (h : JV P L now) (sw up : Int) : JV (portsP P L sw up).1 (portsP P L sw up).2.1 now := by
  unfold portsP
  split
  · rename_i hok
    refine h.sub (h.p.set hok.1 hok.2.1 hok.2.2.1 hok.2.2.2) _ fun x hx hq => ?_
    unfold offP at hq
    simp only [Bool.not_or, Bool.not_not, Bool.and_eq_true] at hq
    exact hq
  · exact h
theorem upP_del {P : List (Int × Int)} {sw a b : Int} (h : a ≠ sw) : upP (delL P sw) a b = upP P a b := by
  unfold upP; rw [getL_del, if_neg h]
theorem JV.drop {P : List (Int × Int)} {L : List (Int × Sn)} {now : Int} (h : JV P L now) (sw : Int) : JV (delL P sw) (L.filter fun x => !atSw sw x.2) now := by
  refine h.sub (h.p.del sw) _ fun x hx hq => ?_
  have h2 := h.g x hx
  unfold atSw at hq
  simp only [Bool.not_eq_true', decide_eq_false_iff_not, not_or] at hq
  rw [upP_del hq.1, upP_del hq.2]; exact h2
theorem JV.age {P : List (Int × Int)} {L : List (Int × Sn)} {now : Int} (h : JV P L now) (q : Int × Sn → Bool) : JV P (L.filter q) now := h.sub h.p q fun x hx _ => h.g x hx
/-- the two ends' order -/
theorem link_or (a1 a2 b1 b2 : Int) : linkL a1 a2 b1 b2 = ⟨a1, a2, b1, b2⟩ ∨ linkL a1 a2 b1 b2 = ⟨b1, b2, a1, a2⟩ := by unfold linkL; split <;> simp
theorem touch_swap (a1 a2 b1 b2 : Int) (x : Sn) : touchP b1 b2 a1 a2 x = touchP a1 a2 b1 b2 x := by unfold touchP; rw [Bool.or_comm]
theorem touch_link (a1 a2 b1 b2 : Int) (x : Sn) : touchP (linkL a1 a2 b1 b2).a1 (linkL a1 a2 b1 b2).a2 (linkL a1 a2 b1 b2).b1 (linkL a1 a2 b1 b2).b2 x = touchP a1 a2 b1 b2 x := by
  rcases link_or a1 a2 b1 b2 with e | e <;> rw [e]
  exact touch_swap ..
theorem touch_iff {a1 a2 b1 b2 : Int} {x : Sn} : touchP a1 a2 b1 b2 x = true ↔ (x.a1 = a1 ∧ x.a2 = a2 ∨ x.b1 = a1 ∧ x.b2 = a2) ∨ (x.a1 = b1 ∧ x.a2 = b2 ∨ x.b1 = b1 ∧ x.b2 = b2) := by
  unfold touchP endsP; simp
theorem touch_sym {x y : Sn} (h : touchP x.a1 x.a2 x.b1 x.b2 y = true) : touchP y.a1 y.a2 y.b1 y.b2 x = true := by
  rw [touch_iff] at h ⊢
  rcases h with (⟨h1, h2⟩ | ⟨h1, h2⟩) | (⟨h1, h2⟩ | ⟨h1, h2⟩) <;> simp [h1, h2]
theorem mayL_ups {P : List (Int × Int)} {a1 a2 b1 b2 : Int} (h : mayL P a1 a2 b1 b2 = true) : ¬ (a1 = b1 ∧ a2 = b2) ∧ upP P a1 a2 = true ∧ upP P b1 b2 = true := by
  unfold mayL at h
  simp only [Bool.and_eq_true, Bool.not_eq_true', decide_eq_false_iff_not] at h
  exact ⟨h.1.1, h.1.2, h.2⟩
theorem link_ok {P : List (Int × Int)} {a1 a2 b1 b2 : Int} (h : mayL P a1 a2 b1 b2 = true) : upP P (linkL a1 a2 b1 b2).a1 (linkL a1 a2 b1 b2).a2 = true ∧ upP P (linkL a1 a2 b1 b2).b1 (linkL a1 a2 b1 b2).b2 = true ∧ 100 * (linkL a1 a2 b1 b2).a1 + (linkL a1 a2 b1 b2).a2 < 100 * (linkL a1 a2 b1 b2).b1 + (linkL a1 a2 b1 b2).b2 := by
  obtain ⟨h1, h2, h3⟩ := mayL_ups h
  have g1 := goodP_iff.1 (upP_good h2)
  have g2 := goodP_iff.1 (upP_good h3)
  unfold linkL
  split
  · exact ⟨h3, h2, by simpa using ‹_›⟩
  · rename_i h4
    refine ⟨h2, h3, ?_⟩
    simp only
    by_cases e : a1 = b1
    · have : a2 ≠ b2 := fun e2 => h1 ⟨e, e2⟩
      omega
    · omega
theorem JV.learn {P : List (Int × Int)} {L : List (Int × Sn)} {now a1 a2 b1 b2 : Int} (h : JV P L now) (h0 : 0 ≤ now) : JV P (learnP P L a1 a2 b1 b2 now).1 now := by
  unfold learnP
  split
  · rename_i hm
    obtain ⟨u1, u2, u3⟩ := link_ok hm
    have htl := touch_link a1 a2 b1 b2
    generalize linkL a1 a2 b1 b2 = l at *
    split
    · rename_i he
      obtain ⟨x, hx, hxl⟩ : ∃ x, getL L (numL l) = some x ∧ x.lk = l := by
        cases hg : getL L (numL l) with
        | none => rw [hg] at he; cases he
        | some x => rw [hg] at he; exact ⟨x, rfl, by simpa using he⟩
      have hmx := getL_mem hx
      have hgx := h.g _ hmx
      have hox := h.o _ hmx
      subst hxl
      refine ⟨h.p, h.s.set _ _, ?_, ?_, ?_, ?_, ?_⟩
      · intro y hy
        rcases setL_mem hy with rfl | hy
        · rfl
        · exact h.k y hy
      · intro y hy
        rcases setL_mem hy with rfl | hy
        · exact hgx
        · exact h.g y hy
      · intro y hy
        rcases setL_mem hy with rfl | hy
        · exact hox
        · exact h.o y hy
      · intro y hy z hz hyz
        rcases setL_mem hy with rfl | hy
        · rcases setL_mem hz with rfl | hz
          · rfl
          · exact h.d _ hmx z hz hyz
        · rcases setL_mem hz with rfl | hz
          · have := h.d y hy (numL x.lk, x) hmx hyz
            exact this
          · exact h.d y hy z hz hyz
      · intro y hy
        rcases setL_mem hy with rfl | hy
        · exact ⟨h0, Int.le_refl _⟩
        · exact h.t y hy
    · have hf := h.age (fun x => !touchP a1 a2 b1 b2 x.2)
      have hnt : ∀ y ∈ L.filter (fun x => !touchP a1 a2 b1 b2 x.2), touchP l.a1 l.a2 l.b1 l.b2 y.2 = false := by
        intro y hy
        rw [htl]
        have := (List.mem_filter.1 hy).2
        simpa using this
      refine ⟨h.p, hf.s.set _ _, ?_, ?_, ?_, ?_, ?_⟩
      · intro y hy
        rcases setL_mem hy with rfl | hy
        · rfl
        · exact hf.k y hy
      · intro y hy
        rcases setL_mem hy with rfl | hy
        · exact ⟨u1, u2⟩
        · exact hf.g y hy
      · intro y hy
        rcases setL_mem hy with rfl | hy
        · exact u3
        · exact hf.o y hy
      · intro y hy z hz hyz
        rcases setL_mem hy with rfl | hy
        · rcases setL_mem hz with rfl | hz
          · rfl
          · have := hnt z hz
            rw [show touchP l.a1 l.a2 l.b1 l.b2 z.2 = true from hyz] at this; cases this
        · rcases setL_mem hz with rfl | hz
          · have h1 := touch_sym hyz
            have := hnt y hy
            rw [show touchP l.a1 l.a2 l.b1 l.b2 y.2 = true from h1] at this; cases this
          · exact hf.d y hy z hz hyz
      · intro y hy
        rcases setL_mem hy with rfl | hy
        · exact ⟨h0, Int.le_refl _⟩
        · exact hf.t y hy
  · exact h
end Go.Proofs.Ytapocekfkbkefaa
