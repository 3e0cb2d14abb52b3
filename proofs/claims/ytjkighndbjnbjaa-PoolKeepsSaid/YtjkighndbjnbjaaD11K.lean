import Derived.Test.YtjkighndbjnbjaaD10K
set_option linter.unusedSimpArgs false
set_option linter.unusedVariables false
namespace Go.Proofs.Ytjkighndbjnbjaa
open Go Go.Al
set_option maxRecDepth 20000
attribute [local irreducible] awp aops aopsD eop pv ACalls CallK AppK AEnds ti

def MOk (L : List (Int × Ls)) : Prop := ∀ x ∈ L, ∀ y ∈ L, x.2.mac = y.2.mac → x = y
structure J (q : PP) (L : List (Int × Ls)) : Prop where
  s : Srt L
  o : LOk q L
  m : MOk L
theorem findP_some {L : List (Int × Ls)} {m : Int} {l : Ls} (h : findP L m = some l) : l.mac = m ∧ ∃ x ∈ L, x.2 = l := by
  unfold findP at h
  have h1 := List.find?_some h
  have h2 := List.mem_of_find?_eq_some h
  obtain ⟨x, hx, e⟩ := List.mem_map.1 h2
  exact ⟨by simpa using h1, x, hx, e⟩
theorem findP_none {L : List (Int × Ls)} {m : Int} (h : findP L m = none) : ∀ x ∈ L, x.2.mac ≠ m := by
  intro x hx
  have := List.find?_eq_none.1 h x.2 (List.mem_map_of_mem hx)
  simpa using this
theorem J.filter {q : PP} {L : List (Int × Ls)} (h : J q L) (p : Int × Ls → Bool) : J q (L.filter p) :=
  ⟨List.Pairwise.filter _ h.s, h.o.filter p, fun x hx y hy e => h.m x (List.mem_filter.1 hx).1 y (List.mem_filter.1 hy).1 e⟩
theorem J.free {q : PP} {L : List (Int × Ls)} (h : J q L) (m : Int) : J q (freeP L m) := by
  unfold freeP; split
  · exact h.filter _
  · exact h
theorem J.freed {q : PP} {L : List (Int × Ls)} (h : J q L) (m : Int) : ∀ x ∈ freeP L m, x.2.mac ≠ m := by
  intro x hx
  unfold freeP at hx
  cases hf : findP L m with
  | none => rw [hf] at hx; exact findP_none hf x hx
  | some l =>
    rw [hf] at hx
    obtain ⟨h1, y, hy, rfl⟩ := findP_some hf
    have hx1 := mem_delL.1 hx
    intro e
    have := h.m x hx1.2 y hy (by rw [e, h1])
    subst this
    exact hx1.1 (h.o x hy).1.symm
theorem J.set {q : PP} {L : List (Int × Ls)} (h : J q L) {ip : Int} {v : Ls} (hp : hasP q ip = true) (hv : v.ip = ip) (hm : ∀ x ∈ L, x.2.mac ≠ v.mac) : J q (setL L ip v) := by
  refine ⟨h.s.set _ _, h.o.set hp hv, ?_⟩
  rintro ⟨a, x⟩ hx ⟨b, y⟩ hy e
  rcases (mem_setL h.s).1 hx with ⟨rfl, rfl⟩ | ⟨h1, h2⟩
  · rcases (mem_setL h.s).1 hy with ⟨rfl, rfl⟩ | ⟨h3, h4⟩
    · rfl
    · exact absurd e.symm (hm _ h4)
  · rcases (mem_setL h.s).1 hy with ⟨rfl, rfl⟩ | ⟨h3, h4⟩
    · exact absurd e (hm _ h2)
    · exact h.m _ h2 _ h4 e
theorem J.grant {q : PP} {L : List (Int × Ls)} (h : J q L) (m ip now : Int) : J q (grantP q L m ip now).1 := by
  unfold grantP
  split
  · exact h
  · rename_i h1
    split
    · exact h
    · exact (h.free m).set (by cases hh : hasP q ip with | true => rfl | false => exact absurd hh h1) rfl (h.freed m)
theorem J.put {q : PP} {L : List (Int × Ls)} (h : J q L) (l : Ls) : J q (putP q L l).1 := by
  unfold putP
  split
  · exact h
  · rename_i h1
    split
    · exact h
    · rename_i h2
      refine h.set (by cases hh : hasP q l.ip with | true => rfl | false => exact absurd hh h1) rfl (findP_none ?_)
      cases hf : findP L l.mac with
      | none => rfl
      | some x => exact absurd (.inr (by rw [hf]; rfl)) h2
theorem J.step {q : PP} {L : List (Int × Ls)} (h : J q L) (x : Cl) (now u : Int) : J q (stepP q L x now u) := by
  unfold stepP
  split
  · exact h.grant _ _ _
  · split
    · exact h.free _
    · split
      · exact h.filter _
      · split
        · exact h.put _
        · exact h
theorem J.nil (q : PP) : J q [] := ⟨Srt.nil, fun x hx => (by cases hx), fun x hx => (by cases hx)⟩
theorem J.get {q : PP} {L : List (Int × Ls)} (h : J q L) {x : Int × Ls} (hx : x ∈ L) : getL L x.1 = some x.2 := mem_getL h.s hx
theorem held_own {q : PP} {L : List (Int × Ls)} (h : J q L) {m now : Int} {l : Ls} (hf : findP L m = some l) : hasP q l.ip = true ∧ heldP L m l.ip now = false := by
  obtain ⟨h1, x, hx, rfl⟩ := findP_some hf
  have h2 := h.o x hx
  refine ⟨by rw [h2.1]; exact h2.2, ?_⟩
  unfold heldP
  rw [h2.1, h.get hx]
  simp [h1]
theorem offer_ok {q : PP} {L : List (Int × Ls)} (h : J q L) {m now a e : Int} (ho : offerP q L m now = (a, e)) : e = 4 ∨ e = 0 ∧ hasP q a = true ∧ heldP L m a now = false := by
  unfold offerP at ho
  cases hf : findP L m with
  | some l =>
    rw [hf] at ho
    injection ho with e1 e2
    subst e1; subst e2
    exact .inr ⟨rfl, held_own h hf⟩
  | none =>
    rw [hf] at ho
    simp only at ho
    cases hk : (List.range q.n).find? (freeK q L now) with
    | none => rw [hk] at ho; injection ho with e1 e2; exact .inl e2.symm
    | some k =>
      rw [hk] at ho
      injection ho with e1 e2
      subst e1; subst e2
      have h1 := List.find?_some hk
      have h2 := List.mem_range.1 (List.mem_of_find?_eq_some hk)
      refine .inr ⟨rfl, hasP_iff.2 ⟨by omega, by omega⟩, ?_⟩
      unfold freeK at h1
      unfold heldP
      cases hg : getL L (q.base + 1 + (k : Int)) with
      | none => rfl
      | some l => rw [hg] at h1; simp at h1; simp; omega
theorem grant_ok {q : PP} {L : List (Int × Ls)} {m ip now : Int} (h1 : hasP q ip = true) (h2 : heldP L m ip now = false) : grantP q L m ip now = (setL (freeP L m) ip ⟨m, ip, now + q.ticks⟩, now + q.ticks, 0) := by
  unfold grantP; rw [if_neg (by rw [h1]; simp), if_neg (by rw [h2]; simp)]
theorem find_new {q : PP} {L : List (Int × Ls)} (h : J q L) {m ip t : Int} : findP (setL (freeP L m) ip ⟨m, ip, t⟩) m = some ⟨m, ip, t⟩ := by
  have hS := (h.free m).s
  cases hf : findP (setL (freeP L m) ip ⟨m, ip, t⟩) m with
  | none => exact absurd rfl (findP_none hf (ip, ⟨m, ip, t⟩) ((mem_setL hS).2 (.inl ⟨rfl, rfl⟩)))
  | some l =>
    obtain ⟨h1, ⟨k, x⟩, hx, rfl⟩ := findP_some hf
    rcases (mem_setL hS).1 hx with ⟨rfl, rfl⟩ | ⟨_, h3⟩
    · rfl
    · exact absurd h1 (h.freed m _ h3)
theorem rnew_no {base n ticks : Int} (hb : 0 ≤ base) (hb2 : base ≤ 4294967295) (h : okN base n ticks = false) (G : Hp) : ACalls Try.prog 8 [.int .u32 base, .int .i64 n, .int .i64 ticks] G fun r G' => G' = G ∧ r = .tup [.nil, .bool false] := by
  have h' := of_decide_eq_false h
  by_cases a1 : n < 1
  · refine ACalls.hide fun post hpost => ?_
    refine F8_in (by simp) (by simp) fun hbd => ?_
    repeat' (first
      | refine awp_seqK fun K' hpK => ?_
      | refine awp_block ?_
      | refine awp_condG fun A' B' hpA hpB => ?_
      | refine useK (by with_reducible assumption) ?_
      | refine useP (by with_reducible assumption) ?_
      | refine ED_cons (fun _ => ?_) ?_
      | (refine stable_mk ?_; simp (disch := first | (with_reducible assumption) | (simp; done) | omega | (simp; omega)) [a1]; done)
      | (refine stable_no ?_; simp (disch := first | (with_reducible assumption) | (simp; done) | omega | (simp; omega)) [a1]; done)
      | (with_reducible refine And.intro ?_ ?_)
      | (with_reducible intro hc; try (exfalso; omega))
      | (with_reducible refine GDsplit (fun hc => ?_) (fun hc => ?_) <;> try simp [hc])
      | (with_reducible refine GDsplitN (fun hc => ?_) (fun hc => ?_) <;> try simp [hc])
      | (with_reducible refine GDsplitNB (fun hc => ?_) (fun hc => ?_) <;> try simp [hc])
      | (with_reducible refine GDsplitB (fun hc => ?_) (fun hc => ?_) <;> try simp [hc])
      | (with_reducible refine GKsplit (fun hc => ?_) (fun hc => ?_) <;> try simp [hc])
      | (with_reducible refine GKsplitN (fun hc => ?_) (fun hc => ?_) <;> try simp [hc])
      | (with_reducible refine GKsplitNB (fun hc => ?_) (fun hc => ?_) <;> try simp [hc])
      | (with_reducible refine GKsplitB (fun hc => ?_) (fun hc => ?_) <;> try simp [hc])
      | simp (disch := first | (with_reducible assumption) | (simp; done) | omega | (simp; omega)) [a1])
    exact ends_two (by simp <;> exact ⟨rfl, rfl⟩) (by simp) (by simp) (hpost _ _ ⟨rfl, rfl⟩)
  by_cases a2 : 64 < n
  · refine ACalls.hide fun post hpost => ?_
    refine F8_in (by simp) (by simp) fun hbd => ?_
    repeat' (first
      | refine awp_seqK fun K' hpK => ?_
      | refine awp_block ?_
      | refine awp_condG fun A' B' hpA hpB => ?_
      | refine useK (by with_reducible assumption) ?_
      | refine useP (by with_reducible assumption) ?_
      | refine ED_cons (fun _ => ?_) ?_
      | (refine stable_mk ?_; simp (disch := first | (with_reducible assumption) | (simp; done) | omega | (simp; omega)) [a1, a2]; done)
      | (refine stable_no ?_; simp (disch := first | (with_reducible assumption) | (simp; done) | omega | (simp; omega)) [a1, a2]; done)
      | (with_reducible refine And.intro ?_ ?_)
      | (with_reducible intro hc; try (exfalso; omega))
      | (with_reducible refine GDsplit (fun hc => ?_) (fun hc => ?_) <;> try simp [hc])
      | (with_reducible refine GDsplitN (fun hc => ?_) (fun hc => ?_) <;> try simp [hc])
      | (with_reducible refine GDsplitNB (fun hc => ?_) (fun hc => ?_) <;> try simp [hc])
      | (with_reducible refine GDsplitB (fun hc => ?_) (fun hc => ?_) <;> try simp [hc])
      | (with_reducible refine GKsplit (fun hc => ?_) (fun hc => ?_) <;> try simp [hc])
      | (with_reducible refine GKsplitN (fun hc => ?_) (fun hc => ?_) <;> try simp [hc])
      | (with_reducible refine GKsplitNB (fun hc => ?_) (fun hc => ?_) <;> try simp [hc])
      | (with_reducible refine GKsplitB (fun hc => ?_) (fun hc => ?_) <;> try simp [hc])
      | simp (disch := first | (with_reducible assumption) | (simp; done) | omega | (simp; omega)) [a1, a2])
    exact ends_two (by simp <;> exact ⟨rfl, rfl⟩) (by simp) (by simp) (hpost _ _ ⟨rfl, rfl⟩)
  by_cases a4 : ticks < 1
  · refine ACalls.hide fun post hpost => ?_
    refine F8_in (by simp) (by simp) fun hbd => ?_
    repeat' (first
      | refine awp_seqK fun K' hpK => ?_
      | refine awp_block ?_
      | refine awp_condG fun A' B' hpA hpB => ?_
      | refine useK (by with_reducible assumption) ?_
      | refine useP (by with_reducible assumption) ?_
      | refine ED_cons (fun _ => ?_) ?_
      | (refine stable_mk ?_; simp (disch := first | (with_reducible assumption) | (simp; done) | omega | (simp; omega)) [a1, a2, a4]; done)
      | (refine stable_no ?_; simp (disch := first | (with_reducible assumption) | (simp; done) | omega | (simp; omega)) [a1, a2, a4]; done)
      | (with_reducible refine And.intro ?_ ?_)
      | (with_reducible intro hc; try (exfalso; omega))
      | (with_reducible refine GDsplit (fun hc => ?_) (fun hc => ?_) <;> try simp [hc])
      | (with_reducible refine GDsplitN (fun hc => ?_) (fun hc => ?_) <;> try simp [hc])
      | (with_reducible refine GDsplitNB (fun hc => ?_) (fun hc => ?_) <;> try simp [hc])
      | (with_reducible refine GDsplitB (fun hc => ?_) (fun hc => ?_) <;> try simp [hc])
      | (with_reducible refine GKsplit (fun hc => ?_) (fun hc => ?_) <;> try simp [hc])
      | (with_reducible refine GKsplitN (fun hc => ?_) (fun hc => ?_) <;> try simp [hc])
      | (with_reducible refine GKsplitNB (fun hc => ?_) (fun hc => ?_) <;> try simp [hc])
      | (with_reducible refine GKsplitB (fun hc => ?_) (fun hc => ?_) <;> try simp [hc])
      | simp (disch := first | (with_reducible assumption) | (simp; done) | omega | (simp; omega)) [a1, a2, a4])
    exact ends_two (by simp <;> exact ⟨rfl, rfl⟩) (by simp) (by simp) (hpost _ _ ⟨rfl, rfl⟩)
  by_cases a5 : 1048576 < ticks
  · refine ACalls.hide fun post hpost => ?_
    refine F8_in (by simp) (by simp) fun hbd => ?_
    repeat' (first
      | refine awp_seqK fun K' hpK => ?_
      | refine awp_block ?_
      | refine awp_condG fun A' B' hpA hpB => ?_
      | refine useK (by with_reducible assumption) ?_
      | refine useP (by with_reducible assumption) ?_
      | refine ED_cons (fun _ => ?_) ?_
      | (refine stable_mk ?_; simp (disch := first | (with_reducible assumption) | (simp; done) | omega | (simp; omega)) [a1, a2, a4, a5]; done)
      | (refine stable_no ?_; simp (disch := first | (with_reducible assumption) | (simp; done) | omega | (simp; omega)) [a1, a2, a4, a5]; done)
      | (with_reducible refine And.intro ?_ ?_)
      | (with_reducible intro hc; try (exfalso; omega))
      | (with_reducible refine GDsplit (fun hc => ?_) (fun hc => ?_) <;> try simp [hc])
      | (with_reducible refine GDsplitN (fun hc => ?_) (fun hc => ?_) <;> try simp [hc])
      | (with_reducible refine GDsplitNB (fun hc => ?_) (fun hc => ?_) <;> try simp [hc])
      | (with_reducible refine GDsplitB (fun hc => ?_) (fun hc => ?_) <;> try simp [hc])
      | (with_reducible refine GKsplit (fun hc => ?_) (fun hc => ?_) <;> try simp [hc])
      | (with_reducible refine GKsplitN (fun hc => ?_) (fun hc => ?_) <;> try simp [hc])
      | (with_reducible refine GKsplitNB (fun hc => ?_) (fun hc => ?_) <;> try simp [hc])
      | (with_reducible refine GKsplitB (fun hc => ?_) (fun hc => ?_) <;> try simp [hc])
      | simp (disch := first | (with_reducible assumption) | (simp; done) | omega | (simp; omega)) [a1, a2, a4, a5])
    exact ends_two (by simp <;> exact ⟨rfl, rfl⟩) (by simp) (by simp) (hpost _ _ ⟨rfl, rfl⟩)
  have a3 : 4294967295 < base + n := by omega
  refine ACalls.hide fun post hpost => ?_
  refine F8_in (by simp) (by simp) fun hbd => ?_
  repeat' (first
    | refine awp_seqK fun K' hpK => ?_
    | refine awp_block ?_
    | refine awp_condG fun A' B' hpA hpB => ?_
    | refine useK (by with_reducible assumption) ?_
    | refine useP (by with_reducible assumption) ?_
    | refine ED_cons (fun _ => ?_) ?_
    | (refine stable_mk ?_; simp (disch := first | (with_reducible assumption) | (simp; done) | omega | (simp; omega)) [a1, a2, a3, a4, a5]; done)
    | (refine stable_no ?_; simp (disch := first | (with_reducible assumption) | (simp; done) | omega | (simp; omega)) [a1, a2, a3, a4, a5]; done)
    | (with_reducible refine And.intro ?_ ?_)
    | (with_reducible intro hc; try (exfalso; omega))
    | (with_reducible refine GDsplit (fun hc => ?_) (fun hc => ?_) <;> try simp [hc])
    | (with_reducible refine GDsplitN (fun hc => ?_) (fun hc => ?_) <;> try simp [hc])
    | (with_reducible refine GDsplitNB (fun hc => ?_) (fun hc => ?_) <;> try simp [hc])
    | (with_reducible refine GDsplitB (fun hc => ?_) (fun hc => ?_) <;> try simp [hc])
    | (with_reducible refine GKsplit (fun hc => ?_) (fun hc => ?_) <;> try simp [hc])
    | (with_reducible refine GKsplitN (fun hc => ?_) (fun hc => ?_) <;> try simp [hc])
    | (with_reducible refine GKsplitNB (fun hc => ?_) (fun hc => ?_) <;> try simp [hc])
    | (with_reducible refine GKsplitB (fun hc => ?_) (fun hc => ?_) <;> try simp [hc])
    | simp (disch := first | (with_reducible assumption) | (simp; done) | omega | (simp; omega)) [a1, a2, a3, a4, a5])
  exact ends_two (by simp <;> exact ⟨rfl, rfl⟩) (by simp) (by simp) (hpost _ _ ⟨rfl, rfl⟩)
theorem and31 (n : Int) : ∃ q : Nat, q ≤ 31 ∧ ibits .and .i64 n 31 = some (q : Int) := by
  rw [ibits_and]
  refine ⟨(n % ((2 ^ IntKind.i64.bits : Nat) : Int)).toNat &&& 31, Nat.and_le_right, ?_⟩
  have h := Nat.and_le_right (n := (n % ((2 ^ IntKind.i64.bits : Nat) : Int)).toNat) (m := 31)
  have e : ((31 : Int) % ((2 ^ IntKind.i64.bits : Nat) : Int)).toNat = 31 := by decide
  rw [e]
  congr 1
  rw [IntKind.wrap_i64]; omega
end Go.Proofs.Ytjkighndbjnbjaa
