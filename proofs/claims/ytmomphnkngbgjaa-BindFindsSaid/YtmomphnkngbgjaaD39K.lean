import Derived.Test.YtmomphnkngbgjaaD35K
set_option linter.unusedSimpArgs false
set_option linter.unusedVariables false
namespace Go.Proofs.Ytmomphnkngbgjaa
open Go Go.Al
set_option maxRecDepth 20000
attribute [local irreducible] awp aops aopsD eop pv ACalls CallK AppK AEnds ti

theorem uniq_ip {L : List (Int × Bd)} (hJ : JC L) {p q : Int × Bd} (hp : p ∈ L) (hq : q ∈ L) (h : p.2.ip = q.2.ip ∨ (p.2.sw = q.2.sw ∧ p.2.port = q.2.port)) : p.2 = q.2 := by
  have e := hJ.d p hp q hq h
  have g1 := mem_getL hJ.j.s (k := p.1) (v := p.2) hp
  have g2 := mem_getL hJ.j.s (k := q.1) (v := q.2) hq
  rw [e, g2] at g1
  injection g1 with g1
  exact g1.symm
theorem find_b {L : List (Int × Bd)} (hJ : JC L) {b : Bd} {k : Int} (hb : (k, b) ∈ L) {f : Bd → Bool} (hf : f b = true) (hu : ∀ x, f x = true → x.ip = b.ip ∨ (x.sw = b.sw ∧ x.port = b.port)) : (L.map Prod.snd).find? f = some b := by
  cases h : (L.map Prod.snd).find? f with
  | none => exact absurd hf (List.find?_eq_none.1 h b (List.mem_map.2 ⟨_, hb, rfl⟩))
  | some x =>
    obtain ⟨p, hp, rfl⟩ := List.mem_map.1 (List.mem_of_find?_eq_some h)
    rw [uniq_ip hJ hp hb (hu _ (List.find?_some h))]
theorem filt_none {α : Type} {f : α → Bool} {l : List α} (h : ∀ x ∈ l, f x = false) : l.filter f = [] := List.filter_eq_nil_iff.2 fun x hx => by rw [h x hx]; simp
theorem filt_b {L : List (Int × Bd)} (hJ : JC L) {b : Bd} (hb : (b.mac, b) ∈ L) {f : Bd → Bool} (hf : ∀ x, f x = true ↔ (x.sw = b.sw ∧ x.port = b.port)) : (L.filter fun x => f x.2).map Prod.snd = [b] := by
  have key : ∀ M : List (Int × Bd), Srt M → (b.mac, b) ∈ M → (∀ x ∈ M, f x.2 = true → x = (b.mac, b)) → M.filter (fun x => f x.2) = [(b.mac, b)] := by
    intro M
    induction M with
    | nil => intro _ h _; cases h
    | cons p r ih =>
      intro hS hm hu
      have hfb : f b = true := (hf b).2 ⟨rfl, rfl⟩
      have hS' := Srt.cons.1 hS
      rcases List.mem_cons.1 hm with rfl | hm
      · rw [List.filter_cons, if_pos hfb, filt_none]
        intro x hx
        cases e : f x.2 with
        | false => rfl
        | true =>
          have h1 := hu x (by simp [hx]) e
          have h2 := hS'.1 x hx
          rw [h1, KO_int] at h2
          have := of_decide_eq_true h2
          simp at this
      · have hp : f p.2 = false := by
          cases e : f p.2 with
          | false => rfl
          | true =>
            have h1 := hu p (by simp) e
            have h2 := hS'.1 _ hm
            rw [h1, KO_int] at h2
            have := of_decide_eq_true h2
            simp at this
        rw [List.filter_cons, hp]
        exact ih hS'.2 hm fun x hx => hu x (by simp [hx])
  rw [key L hJ.j.s hb]
  · rfl
  · intro x hx e
    have h1 := uniq_ip hJ hx hb (.inr ((hf _).1 e))
    have h2 := hJ.j.k x hx
    obtain ⟨k, v⟩ := x
    simp only at h1 h2
    rw [h2, h1]
theorem put_mem {L : List (Int × Bd)} (hJ : JC L) {b : Bd} (hm : mayB b = true) : (b.mac, b) ∈ putB L b := by
  unfold putB; rw [if_pos hm]
  have := getL_set (hJ.filter (fun x => !clashB b x.2)).j.s b.mac b b.mac
  rw [if_pos rfl] at this
  exact getL_mem this
set_option maxHeartbeats 4000000 in
theorem bindFinds_c {l : Option (List CT)} {b : Bd} (hll : (LL l).length ≤ 140737488355328) : ACalls Try.prog 7 [ofS cC l, b.av] emptyH fun r G' => G' = emptyH ∧ r = .bool true := by
  refine ACalls.hide fun post hpost => ?_
  refine F7_in (by simp) (by simp) fun hbd => ?_
  repeat' (first
    | refine awp_seqK fun K' hpK => ?_
    | refine awp_block ?_
    | refine awp_condG fun A' B' hpA hpB => ?_
    | refine useK (by with_reducible assumption) ?_
    | refine useP (by with_reducible assumption) ?_
    | refine ED_cons (fun _ => ?_) ?_
    | (refine stable_mk ?_; simp (disch := first | (with_reducible assumption) | (simp; done) | omega | (simp; omega)); done)
    | (refine stable_no ?_; simp (disch := first | (with_reducible assumption) | (simp; done) | omega | (simp; omega)); done)
    | (with_reducible refine And.intro ?_ ?_)
    | (with_reducible intro hc)
    | (with_reducible refine GDsplit (fun hc => ?_) (fun hc => ?_) <;> try simp [hc])
    | (with_reducible refine GDsplitN (fun hc => ?_) (fun hc => ?_) <;> try simp [hc])
    | (with_reducible refine GDsplitNB (fun hc => ?_) (fun hc => ?_) <;> try simp [hc])
    | (with_reducible refine GDsplitB (fun hc => ?_) (fun hc => ?_) <;> try simp [hc])
    | (with_reducible refine GKsplit (fun hc => ?_) (fun hc => ?_) <;> try simp [hc])
    | (with_reducible refine GKsplitN (fun hc => ?_) (fun hc => ?_) <;> try simp [hc])
    | (with_reducible refine GKsplitNB (fun hc => ?_) (fun hc => ?_) <;> try simp [hc])
    | (with_reducible refine GKsplitB (fun hc => ?_) (fun hc => ?_) <;> try simp [hc])
    | (refine CallK.use (new_c) ?_; rintro r G' _ _ ⟨pb, rfl, hP⟩)
    | simp (disch := first | (with_reducible assumption) | (simp; done) | omega | (simp; omega)))
  refine awp_loop' (fun w T G' => ∃ (k : Nat) (L : List (Int × Bd)) (t : Option (List Bd)), k + w = (LL l).length ∧ L.length ≤ k ∧ L.length ≤ 50 ∧ TH pb G' L ∧ JC L ∧ LL t = L.map Prod.snd ∧ T = ofL [(3, .box [.int .u64 b.mac, .int .u32 b.ip, .int .i64 b.sw, .int .i64 b.port, .str b.host, .str b.user, .int .i64 b.u]), (5, .ptr pb 0), (6, ofS cVB t), (21, ofS cC l), (22, .int .i64 (LL l).length), (23, .int .i64 k)]) (LL l).length ⟨0, [], none, by omega, by simp, by simp, hP, JC.nil, rfl, by simp [ofS]⟩ ?_
  rintro w T G' ⟨k, L, t, hk, hL, h50, hP, hJ, ht, rfl⟩ N hN
  by_cases hkl : k < (LL l).length
  · obtain ⟨y, hy⟩ : ∃ y, y = (LL l)[k] := ⟨_, rfl⟩
    by_cases h5 : (k : Int) < 50
    · obtain ⟨kd, ⟨b1, b2, ⟨b3, b4, _⟩, b5, b6, b7, _⟩, ⟨q1, q2, _⟩, nm, n, _⟩ := y
      have cc := fun G => cut_c (kd := kd) (b := ⟨b1, b2, b3, b4, b5, b6, b7⟩) (sw := q1) (port := q2) (nm := nm) (n := n) (G := G)
      have sc := step_c (kd := kd) (b := ⟨b1, b2, b3, b4, cut12 b5, cut12 b6, b7⟩) (sw := q1) (port := q2) (nm := cut12 nm) (n := n) hP hJ.j (by omega) ht
      simp only [opA] at sc
      repeat' (first
        | refine awp_seqK fun K' hpK => ?_
        | refine awp_block ?_
        | refine awp_condG fun A' B' hpA hpB => ?_
        | refine useK (by with_reducible assumption) ?_
        | refine useP (by with_reducible assumption) ?_
        | refine ED_cons (fun _ => ?_) ?_
        | (refine stable_mk ?_; simp (disch := first | (with_reducible assumption) | (simp; done) | omega | (simp; omega)) [hkl, h5, ofS_idx (f := cC), cC, ← hy]; done)
        | (refine stable_no ?_; simp (disch := first | (with_reducible assumption) | (simp; done) | omega | (simp; omega)) [hkl, h5, ofS_idx (f := cC), cC, ← hy]; done)
        | (with_reducible refine And.intro ?_ ?_)
        | (with_reducible intro hc)
        | (with_reducible refine GDsplit (fun hc => ?_) (fun hc => ?_) <;> try simp [hc])
        | (with_reducible refine GDsplitN (fun hc => ?_) (fun hc => ?_) <;> try simp [hc])
        | (with_reducible refine GDsplitNB (fun hc => ?_) (fun hc => ?_) <;> try simp [hc])
        | (with_reducible refine GDsplitB (fun hc => ?_) (fun hc => ?_) <;> try simp [hc])
        | (with_reducible refine GKsplit (fun hc => ?_) (fun hc => ?_) <;> try simp [hc])
        | (with_reducible refine GKsplitN (fun hc => ?_) (fun hc => ?_) <;> try simp [hc])
        | (with_reducible refine GKsplitNB (fun hc => ?_) (fun hc => ?_) <;> try simp [hc])
        | (with_reducible refine GKsplitB (fun hc => ?_) (fun hc => ?_) <;> try simp [hc])
        | (refine CallK.use (cc _) ?_; rintro r G' _ _ ⟨rfl, rfl⟩)
        | simp (disch := first | (with_reducible assumption) | (simp; done) | omega | (simp; omega)) [hkl, h5, ofS_idx (f := cC), cC, ← hy])
      refine CallK.use sc ?_
      rintro r G2 _ _ ⟨t2, rfl, hP2, ht2⟩
      have hlen := stepL_len hJ.j kd ⟨b1, b2, b3, b4, cut12 b5, cut12 b6, b7⟩ q1 q2 (cut12 nm) n
      have hJ2 : JC (stepL kd ⟨b1, b2, b3, b4, cut12 b5, cut12 b6, b7⟩ q1 q2 (cut12 nm) n L) := hJ.step _ _ _ _ _ _
      repeat' (first
        | refine awp_seqK fun K' hpK => ?_
        | refine awp_block ?_
        | refine awp_condG fun A' B' hpA hpB => ?_
        | refine useK (by with_reducible assumption) ?_
        | refine useP (by with_reducible assumption) ?_
        | refine ED_cons (fun _ => ?_) ?_
        | (refine stable_mk ?_; simp (disch := first | (with_reducible assumption) | (simp; done) | omega | (simp; omega)); done)
        | (refine stable_no ?_; simp (disch := first | (with_reducible assumption) | (simp; done) | omega | (simp; omega)); done)
        | (with_reducible refine And.intro ?_ ?_)
        | (with_reducible intro hc)
        | (with_reducible refine GDsplit (fun hc => ?_) (fun hc => ?_) <;> try simp [hc])
        | (with_reducible refine GDsplitN (fun hc => ?_) (fun hc => ?_) <;> try simp [hc])
        | (with_reducible refine GDsplitNB (fun hc => ?_) (fun hc => ?_) <;> try simp [hc])
        | (with_reducible refine GDsplitB (fun hc => ?_) (fun hc => ?_) <;> try simp [hc])
        | (with_reducible refine GKsplit (fun hc => ?_) (fun hc => ?_) <;> try simp [hc])
        | (with_reducible refine GKsplitN (fun hc => ?_) (fun hc => ?_) <;> try simp [hc])
        | (with_reducible refine GKsplitNB (fun hc => ?_) (fun hc => ?_) <;> try simp [hc])
        | (with_reducible refine GKsplitB (fun hc => ?_) (fun hc => ?_) <;> try simp [hc])
        | simp (disch := first | (with_reducible assumption) | (simp; done) | omega | (simp; omega)))
      exact hN (w - 1) _ _ (by omega) ⟨k + 1, _, t2, by omega, by omega, by omega, hP2, hJ2, ht2, by simp⟩
    · repeat' (first
        | refine awp_seqK fun K' hpK => ?_
        | refine awp_block ?_
        | refine awp_condG fun A' B' hpA hpB => ?_
        | refine useK (by with_reducible assumption) ?_
        | refine useP (by with_reducible assumption) ?_
        | refine ED_cons (fun _ => ?_) ?_
        | (refine stable_mk ?_; simp (disch := first | (with_reducible assumption) | (simp; done) | omega | (simp; omega)) [hkl, h5, ofS_idx (f := cC), cC, ← hy]; done)
        | (refine stable_no ?_; simp (disch := first | (with_reducible assumption) | (simp; done) | omega | (simp; omega)) [hkl, h5, ofS_idx (f := cC), cC, ← hy]; done)
        | (with_reducible refine And.intro ?_ ?_)
        | (with_reducible intro hc)
        | (with_reducible refine GDsplit (fun hc => ?_) (fun hc => ?_) <;> try simp [hc])
        | (with_reducible refine GDsplitN (fun hc => ?_) (fun hc => ?_) <;> try simp [hc])
        | (with_reducible refine GDsplitNB (fun hc => ?_) (fun hc => ?_) <;> try simp [hc])
        | (with_reducible refine GDsplitB (fun hc => ?_) (fun hc => ?_) <;> try simp [hc])
        | (with_reducible refine GKsplit (fun hc => ?_) (fun hc => ?_) <;> try simp [hc])
        | (with_reducible refine GKsplitN (fun hc => ?_) (fun hc => ?_) <;> try simp [hc])
        | (with_reducible refine GKsplitNB (fun hc => ?_) (fun hc => ?_) <;> try simp [hc])
        | (with_reducible refine GKsplitB (fun hc => ?_) (fun hc => ?_) <;> try simp [hc])
        | simp (disch := first | (with_reducible assumption) | (simp; done) | omega | (simp; omega)) [hkl, h5, ofS_idx (f := cC), cC, ← hy])
      exact hN (w - 1) _ _ (by omega) ⟨k + 1, L, t, by omega, by omega, h50, hP, hJ, ht, by simp⟩
  · have oc := fun G => ours_c (b := b) (G := G)
    have pc := put_c (b := b) hP (by omega)
    have mc := fun G => rmay_c (b := b) (G := G)
    simp only [Bd.av] at oc pc mc
    repeat' (first
      | refine awp_seqK fun K' hpK => ?_
      | refine awp_block ?_
      | refine awp_condG fun A' B' hpA hpB => ?_
      | refine useK (by with_reducible assumption) ?_
      | refine useP (by with_reducible assumption) ?_
      | refine ED_cons (fun _ => ?_) ?_
      | (refine stable_mk ?_; simp (disch := first | (with_reducible assumption) | (simp; done) | omega | (simp; omega)) [hkl]; done)
      | (refine stable_no ?_; simp (disch := first | (with_reducible assumption) | (simp; done) | omega | (simp; omega)) [hkl]; done)
      | (with_reducible refine And.intro ?_ ?_)
      | (with_reducible intro hc)
      | (with_reducible refine GDsplit (fun hc => ?_) (fun hc => ?_) <;> try simp [hc])
      | (with_reducible refine GDsplitN (fun hc => ?_) (fun hc => ?_) <;> try simp [hc])
      | (with_reducible refine GDsplitNB (fun hc => ?_) (fun hc => ?_) <;> try simp [hc])
      | (with_reducible refine GDsplitB (fun hc => ?_) (fun hc => ?_) <;> try simp [hc])
      | (with_reducible refine GKsplit (fun hc => ?_) (fun hc => ?_) <;> try simp [hc])
      | (with_reducible refine GKsplitN (fun hc => ?_) (fun hc => ?_) <;> try simp [hc])
      | (with_reducible refine GKsplitNB (fun hc => ?_) (fun hc => ?_) <;> try simp [hc])
      | (with_reducible refine GKsplitB (fun hc => ?_) (fun hc => ?_) <;> try simp [hc])
      | (refine CallK.use (oc _) ?_; rintro r G' _ _ ⟨rfl, rfl⟩)
      | simp (disch := first | (with_reducible assumption) | (simp; done) | omega | (simp; omega)) [hkl])
    refine CallK.use pc ?_
    rintro r G2 _ _ ⟨hP2, s, rfl, hs⟩
    cases hm : mayB b with
    | false =>
      rw [hm] at mc
      simp only [Bool.false_eq_true, if_false]
      repeat' (first
        | refine awp_seqK fun K' hpK => ?_
        | refine awp_block ?_
        | refine awp_condG fun A' B' hpA hpB => ?_
        | refine useK (by with_reducible assumption) ?_
        | refine useP (by with_reducible assumption) ?_
        | refine ED_cons (fun _ => ?_) ?_
        | (refine stable_mk ?_; simp (disch := first | (with_reducible assumption) | (simp; done) | omega | (simp; omega)); done)
        | (refine stable_no ?_; simp (disch := first | (with_reducible assumption) | (simp; done) | omega | (simp; omega)); done)
        | (with_reducible refine And.intro ?_ ?_)
        | (with_reducible intro hc)
        | (with_reducible refine GDsplit (fun hc => ?_) (fun hc => ?_) <;> try simp [hc])
        | (with_reducible refine GDsplitN (fun hc => ?_) (fun hc => ?_) <;> try simp [hc])
        | (with_reducible refine GDsplitNB (fun hc => ?_) (fun hc => ?_) <;> try simp [hc])
        | (with_reducible refine GDsplitB (fun hc => ?_) (fun hc => ?_) <;> try simp [hc])
        | (with_reducible refine GKsplit (fun hc => ?_) (fun hc => ?_) <;> try simp [hc])
        | (with_reducible refine GKsplitN (fun hc => ?_) (fun hc => ?_) <;> try simp [hc])
        | (with_reducible refine GKsplitNB (fun hc => ?_) (fun hc => ?_) <;> try simp [hc])
        | (with_reducible refine GKsplitB (fun hc => ?_) (fun hc => ?_) <;> try simp [hc])
        | (refine CallK.use (mc _) ?_; rintro r G' _ _ ⟨rfl, rfl⟩)
        | (refine CallK.use (awake_c _) ?_; rintro r G' _ _ ⟨rfl, rfl⟩)
        | simp (disch := first | (with_reducible assumption) | (simp; done) | omega | (simp; omega)))
      exact ends_drop (by simp <;> rfl) (by simp) (hpost _ _ ⟨rfl, rfl⟩)
    | true =>
      rw [hm] at mc
      simp only [if_true]
      have hJ2 := hJ.put b
      have hbm := put_mem hJ hm
      have hl2 := putB_len hJ.j b
      generalize putB L b = L2 at hP2 hJ2 hbm hl2
      have o1 := of_c (ip := b.ip) hP2 (by omega)
      have a1 := tat_c (sw := b.sw) (port := b.port) hP2 (by omega)
      have c1 := check_c (sw := b.sw) (port := b.port) (mac := b.mac) (ip := b.ip) hP2 (by omega)
      have eo : ofB L2 b.ip = some b := find_b hJ2 hbm (by simp) (fun x h => .inl (of_decide_eq_true h))
      have ea : atB L2 b.sw b.port = some b := find_b hJ2 hbm (by simp) (fun x h => .inr (of_decide_eq_true h))
      have hin : ∀ x : Bd, inPl [(b.sw, b.port)] x.sw x.port = true ↔ (x.sw = b.sw ∧ x.port = b.port) := by
        intro x; unfold inPl; simp
      have ef := filt_b hJ2 hbm (f := fun x => inPl [(b.sw, b.port)] x.sw x.port) hin
      have lc : ACalls Try.prog 22 [.ptr pb 0, .sl 1 [.int .i64 b.sw, .int .i64 b.port]] G2 _ := leave_c (s := some [(b.sw, b.port)]) hP2 (by omega) (by simp [LL])
      have el : LL (some [(b.sw, b.port)]) = [(b.sw, b.port)] := rfl
      rw [checkB_eq, ea] at c1
      rw [eo] at o1
      rw [ea] at a1
      simp only [el] at lc
      simp only [Bd.av, Option.getD_some, Option.isSome_some] at o1 a1
      have pl := fun G => plain_c (b := b) (G := G)
      simp only [Bd.av] at pl
      have h1L : 1 ≤ LIM := by simp [LIM]
      by_cases hu : b.user = ByteArray.empty
      · have ec : chkO (some b) b.mac b.ip = (b, 41) := by unfold chkO; simp [hu]
        rw [ec] at c1
        simp only [Bd.av] at c1
        repeat' (first
          | refine awp_seqK fun K' hpK => ?_
          | refine awp_block ?_
          | refine awp_condG fun A' B' hpA hpB => ?_
          | refine useK (by with_reducible assumption) ?_
          | refine useP (by with_reducible assumption) ?_
          | refine ED_cons (fun _ => ?_) ?_
          | (refine stable_mk ?_; simp (disch := first | (with_reducible assumption) | (simp; done) | omega | (simp; omega)) [h1L]; done)
          | (refine stable_no ?_; simp (disch := first | (with_reducible assumption) | (simp; done) | omega | (simp; omega)) [h1L]; done)
          | (with_reducible refine And.intro ?_ ?_)
          | (with_reducible intro hc)
          | (with_reducible refine GDsplit (fun hc => ?_) (fun hc => ?_) <;> try simp [hc])
          | (with_reducible refine GDsplitN (fun hc => ?_) (fun hc => ?_) <;> try simp [hc])
          | (with_reducible refine GDsplitNB (fun hc => ?_) (fun hc => ?_) <;> try simp [hc])
          | (with_reducible refine GDsplitB (fun hc => ?_) (fun hc => ?_) <;> try simp [hc])
          | (with_reducible refine GKsplit (fun hc => ?_) (fun hc => ?_) <;> try simp [hc])
          | (with_reducible refine GKsplitN (fun hc => ?_) (fun hc => ?_) <;> try simp [hc])
          | (with_reducible refine GKsplitNB (fun hc => ?_) (fun hc => ?_) <;> try simp [hc])
          | (with_reducible refine GKsplitB (fun hc => ?_) (fun hc => ?_) <;> try simp [hc])
          | (refine CallK.use (mc _) ?_; rintro r G' _ _ ⟨rfl, rfl⟩)
          | (refine CallK.use (o1) ?_; rintro r G' _ _ ⟨rfl, rfl⟩)
          | (refine CallK.use (a1) ?_; rintro r G' _ _ ⟨rfl, rfl⟩)
          | (refine CallK.use (c1) ?_; rintro r G' _ _ ⟨rfl, rfl⟩)
          | (refine CallK.use (pl _) ?_; rintro r G' _ _ ⟨rfl, rfl⟩)
          | (refine CallK.use (pl _) ?_; rintro r G' _ _ ⟨rfl, rfl⟩)
          | (refine CallK.use (pl _) ?_; rintro r G' _ _ ⟨rfl, rfl⟩)
          | simp (disch := first | (with_reducible assumption) | (simp; done) | omega | (simp; omega)) [h1L])
        · exact absurd hu (by assumption)
        refine CallK.use lc ?_
        rintro r G3 _ _ ⟨hP3, s3, rfl, hs3⟩
        rw [ef] at hs3
        have a2 := tat_c (sw := b.sw) (port := b.port) hP3 (Nat.le_trans (List.length_filter_le _ _) (by omega))
        have en : atB (L2.filter fun x => !inPl [(b.sw, b.port)] x.2.sw x.2.port) b.sw b.port = none := by
          unfold atB
          rw [List.find?_eq_none]
          intro x hx e
          obtain ⟨p, hp, rfl⟩ := List.mem_map.1 hx
          have h1 := (List.mem_filter.1 hp).2
          have h2 := (hin p.2).2 (of_decide_eq_true e)
          simp [h2] at h1
        rw [en] at a2
        simp only [Option.getD_none, Option.isSome_none, b0, Bd.av] at a2
        obtain rfl : s3 = some [b] := by
          cases s3 with
          | none => simp [LL] at hs3
          | some q => simp only [LL, Option.getD_some] at hs3; rw [hs3]
        have hl1 : (LL (some [b])).length = 1 := rfl
        have hi0 : (0 : Int) = ((0 : Nat) : Int) := rfl
        repeat' (first
          | refine awp_seqK fun K' hpK => ?_
          | refine awp_block ?_
          | refine awp_condG fun A' B' hpA hpB => ?_
          | refine useK (by with_reducible assumption) ?_
          | refine useP (by with_reducible assumption) ?_
          | refine ED_cons (fun _ => ?_) ?_
          | (refine stable_mk ?_; simp (disch := first | (with_reducible assumption) | (simp; done) | omega | (simp; omega)); done)
          | (refine stable_no ?_; simp (disch := first | (with_reducible assumption) | (simp; done) | omega | (simp; omega)); done)
          | (with_reducible refine And.intro ?_ ?_)
          | (with_reducible intro hc)
          | (with_reducible refine GDsplit (fun hc => ?_) (fun hc => ?_) <;> try simp [hc])
          | (with_reducible refine GDsplitN (fun hc => ?_) (fun hc => ?_) <;> try simp [hc])
          | (with_reducible refine GDsplitNB (fun hc => ?_) (fun hc => ?_) <;> try simp [hc])
          | (with_reducible refine GDsplitB (fun hc => ?_) (fun hc => ?_) <;> try simp [hc])
          | (with_reducible refine GKsplit (fun hc => ?_) (fun hc => ?_) <;> try simp [hc])
          | (with_reducible refine GKsplitN (fun hc => ?_) (fun hc => ?_) <;> try simp [hc])
          | (with_reducible refine GKsplitNB (fun hc => ?_) (fun hc => ?_) <;> try simp [hc])
          | (with_reducible refine GKsplitB (fun hc => ?_) (fun hc => ?_) <;> try simp [hc])
          | (refine CallK.use (a2) ?_; rintro r G' _ _ ⟨rfl, rfl⟩)
          | simp (disch := first | (with_reducible assumption) | (simp; done) | omega | (simp; omega)))
        repeat' (first
          | refine awp_seqK fun K' hpK => ?_
          | refine awp_block ?_
          | refine awp_condG fun A' B' hpA hpB => ?_
          | refine useK (by with_reducible assumption) ?_
          | refine useP (by with_reducible assumption) ?_
          | refine ED_cons (fun _ => ?_) ?_
          | (refine stable_mk ?_; simp (disch := first | (with_reducible assumption) | (simp; done) | omega | (simp; omega)) [hl1, ofS, cVB]; done)
          | (refine stable_no ?_; simp (disch := first | (with_reducible assumption) | (simp; done) | omega | (simp; omega)) [hl1, ofS, cVB]; done)
          | (with_reducible refine And.intro ?_ ?_)
          | (with_reducible intro hc)
          | (with_reducible refine GDsplit (fun hc => ?_) (fun hc => ?_) <;> try simp [hc])
          | (with_reducible refine GDsplitN (fun hc => ?_) (fun hc => ?_) <;> try simp [hc])
          | (with_reducible refine GDsplitNB (fun hc => ?_) (fun hc => ?_) <;> try simp [hc])
          | (with_reducible refine GDsplitB (fun hc => ?_) (fun hc => ?_) <;> try simp [hc])
          | (with_reducible refine GKsplit (fun hc => ?_) (fun hc => ?_) <;> try simp [hc])
          | (with_reducible refine GKsplitN (fun hc => ?_) (fun hc => ?_) <;> try simp [hc])
          | (with_reducible refine GKsplitNB (fun hc => ?_) (fun hc => ?_) <;> try simp [hc])
          | (with_reducible refine GKsplitB (fun hc => ?_) (fun hc => ?_) <;> try simp [hc])
          | (refine CallK.use (pl _) ?_; rintro r G' _ _ ⟨rfl, rfl⟩)
          | (refine CallK.use (awake_c _) ?_; rintro r G' _ _ ⟨rfl, rfl⟩)
          | simp (disch := first | (with_reducible assumption) | (simp; done) | omega | (simp; omega)) [hl1, ofS, cVB])
        exact ends_drop (by simp <;> rfl) (by simp) (hpost _ _ ⟨rfl, rfl⟩)
      · have ec : chkO (some b) b.mac b.ip = (b, 0) := by unfold chkO; simp [hu]
        rw [ec] at c1
        simp only [Bd.av] at c1
        repeat' (first
          | refine awp_seqK fun K' hpK => ?_
          | refine awp_block ?_
          | refine awp_condG fun A' B' hpA hpB => ?_
          | refine useK (by with_reducible assumption) ?_
          | refine useP (by with_reducible assumption) ?_
          | refine ED_cons (fun _ => ?_) ?_
          | (refine stable_mk ?_; simp (disch := first | (with_reducible assumption) | (simp; done) | omega | (simp; omega)) [h1L]; done)
          | (refine stable_no ?_; simp (disch := first | (with_reducible assumption) | (simp; done) | omega | (simp; omega)) [h1L]; done)
          | (with_reducible refine And.intro ?_ ?_)
          | (with_reducible intro hc)
          | (with_reducible refine GDsplit (fun hc => ?_) (fun hc => ?_) <;> try simp [hc])
          | (with_reducible refine GDsplitN (fun hc => ?_) (fun hc => ?_) <;> try simp [hc])
          | (with_reducible refine GDsplitNB (fun hc => ?_) (fun hc => ?_) <;> try simp [hc])
          | (with_reducible refine GDsplitB (fun hc => ?_) (fun hc => ?_) <;> try simp [hc])
          | (with_reducible refine GKsplit (fun hc => ?_) (fun hc => ?_) <;> try simp [hc])
          | (with_reducible refine GKsplitN (fun hc => ?_) (fun hc => ?_) <;> try simp [hc])
          | (with_reducible refine GKsplitNB (fun hc => ?_) (fun hc => ?_) <;> try simp [hc])
          | (with_reducible refine GKsplitB (fun hc => ?_) (fun hc => ?_) <;> try simp [hc])
          | (refine CallK.use (mc _) ?_; rintro r G' _ _ ⟨rfl, rfl⟩)
          | (refine CallK.use (o1) ?_; rintro r G' _ _ ⟨rfl, rfl⟩)
          | (refine CallK.use (a1) ?_; rintro r G' _ _ ⟨rfl, rfl⟩)
          | (refine CallK.use (c1) ?_; rintro r G' _ _ ⟨rfl, rfl⟩)
          | (refine CallK.use (pl _) ?_; rintro r G' _ _ ⟨rfl, rfl⟩)
          | (refine CallK.use (pl _) ?_; rintro r G' _ _ ⟨rfl, rfl⟩)
          | (refine CallK.use (pl _) ?_; rintro r G' _ _ ⟨rfl, rfl⟩)
          | simp (disch := first | (with_reducible assumption) | (simp; done) | omega | (simp; omega)) [h1L])
        all_goals first | exact absurd (by assumption) hu | skip
        refine CallK.use lc ?_
        rintro r G3 _ _ ⟨hP3, s3, rfl, hs3⟩
        rw [ef] at hs3
        have a2 := tat_c (sw := b.sw) (port := b.port) hP3 (Nat.le_trans (List.length_filter_le _ _) (by omega))
        have en : atB (L2.filter fun x => !inPl [(b.sw, b.port)] x.2.sw x.2.port) b.sw b.port = none := by
          unfold atB
          rw [List.find?_eq_none]
          intro x hx e
          obtain ⟨p, hp, rfl⟩ := List.mem_map.1 hx
          have h1 := (List.mem_filter.1 hp).2
          have h2 := (hin p.2).2 (of_decide_eq_true e)
          simp [h2] at h1
        rw [en] at a2
        simp only [Option.getD_none, Option.isSome_none, b0, Bd.av] at a2
        obtain rfl : s3 = some [b] := by
          cases s3 with
          | none => simp [LL] at hs3
          | some q => simp only [LL, Option.getD_some] at hs3; rw [hs3]
        have hl1 : (LL (some [b])).length = 1 := rfl
        have hi0 : (0 : Int) = ((0 : Nat) : Int) := rfl
        repeat' (first
          | refine awp_seqK fun K' hpK => ?_
          | refine awp_block ?_
          | refine awp_condG fun A' B' hpA hpB => ?_
          | refine useK (by with_reducible assumption) ?_
          | refine useP (by with_reducible assumption) ?_
          | refine ED_cons (fun _ => ?_) ?_
          | (refine stable_mk ?_; simp (disch := first | (with_reducible assumption) | (simp; done) | omega | (simp; omega)); done)
          | (refine stable_no ?_; simp (disch := first | (with_reducible assumption) | (simp; done) | omega | (simp; omega)); done)
          | (with_reducible refine And.intro ?_ ?_)
          | (with_reducible intro hc)
          | (with_reducible refine GDsplit (fun hc => ?_) (fun hc => ?_) <;> try simp [hc])
          | (with_reducible refine GDsplitN (fun hc => ?_) (fun hc => ?_) <;> try simp [hc])
          | (with_reducible refine GDsplitNB (fun hc => ?_) (fun hc => ?_) <;> try simp [hc])
          | (with_reducible refine GDsplitB (fun hc => ?_) (fun hc => ?_) <;> try simp [hc])
          | (with_reducible refine GKsplit (fun hc => ?_) (fun hc => ?_) <;> try simp [hc])
          | (with_reducible refine GKsplitN (fun hc => ?_) (fun hc => ?_) <;> try simp [hc])
          | (with_reducible refine GKsplitNB (fun hc => ?_) (fun hc => ?_) <;> try simp [hc])
          | (with_reducible refine GKsplitB (fun hc => ?_) (fun hc => ?_) <;> try simp [hc])
          | (refine CallK.use (a2) ?_; rintro r G' _ _ ⟨rfl, rfl⟩)
          | simp (disch := first | (with_reducible assumption) | (simp; done) | omega | (simp; omega)))
        repeat' (first
          | refine awp_seqK fun K' hpK => ?_
          | refine awp_block ?_
          | refine awp_condG fun A' B' hpA hpB => ?_
          | refine useK (by with_reducible assumption) ?_
          | refine useP (by with_reducible assumption) ?_
          | refine ED_cons (fun _ => ?_) ?_
          | (refine stable_mk ?_; simp (disch := first | (with_reducible assumption) | (simp; done) | omega | (simp; omega)) [hl1, ofS, cVB]; done)
          | (refine stable_no ?_; simp (disch := first | (with_reducible assumption) | (simp; done) | omega | (simp; omega)) [hl1, ofS, cVB]; done)
          | (with_reducible refine And.intro ?_ ?_)
          | (with_reducible intro hc)
          | (with_reducible refine GDsplit (fun hc => ?_) (fun hc => ?_) <;> try simp [hc])
          | (with_reducible refine GDsplitN (fun hc => ?_) (fun hc => ?_) <;> try simp [hc])
          | (with_reducible refine GDsplitNB (fun hc => ?_) (fun hc => ?_) <;> try simp [hc])
          | (with_reducible refine GDsplitB (fun hc => ?_) (fun hc => ?_) <;> try simp [hc])
          | (with_reducible refine GKsplit (fun hc => ?_) (fun hc => ?_) <;> try simp [hc])
          | (with_reducible refine GKsplitN (fun hc => ?_) (fun hc => ?_) <;> try simp [hc])
          | (with_reducible refine GKsplitNB (fun hc => ?_) (fun hc => ?_) <;> try simp [hc])
          | (with_reducible refine GKsplitB (fun hc => ?_) (fun hc => ?_) <;> try simp [hc])
          | (refine CallK.use (pl _) ?_; rintro r G' _ _ ⟨rfl, rfl⟩)
          | (refine CallK.use (awake_c _) ?_; rintro r G' _ _ ⟨rfl, rfl⟩)
          | simp (disch := first | (with_reducible assumption) | (simp; done) | omega | (simp; omega)) [hl1, ofS, cVB])
        exact ends_drop (by simp <;> rfl) (by simp) (hpost _ _ ⟨rfl, rfl⟩)
theorem bindFinds_law (z0 : (TD.slc (.two (.int .i64) (.two (.two (.int .u64) (.two (.int .u32) (.two (.two (.int .i64) (.two (.int .i64) .unit)) (.two .str (.two .str (.two (.int .i64) .unit)))))) (.two (.two (.int .i64) (.two (.int .i64) .unit)) (.two .str (.two (.int .i64) .unit)))))).T) (z1 : (TD.two (.int .u64) (.two (.int .u32) (.two (.two (.int .i64) (.two (.int .i64) .unit)) (.two .str (.two .str (.two (.int .i64) .unit)))))).T) (o0 : (TD.slc (.two (.int .i64) (.two (.two (.int .u64) (.two (.int .u32) (.two (.two (.int .i64) (.two (.int .i64) .unit)) (.two .str (.two .str (.two (.int .i64) .unit)))))) (.two (.two (.int .i64) (.two (.int .i64) .unit)) (.two .str (.two (.int .i64) .unit)))))).ok z0) (o1 : (TD.two (.int .u64) (.two (.int .u32) (.two (.two (.int .i64) (.two (.int .i64) .unit)) (.two .str (.two .str (.two (.int .i64) .unit)))))).ok z1) :
    ACalls Try.prog 7 [(TD.slc (.two (.int .i64) (.two (.two (.int .u64) (.two (.int .u32) (.two (.two (.int .i64) (.two (.int .i64) .unit)) (.two .str (.two .str (.two (.int .i64) .unit)))))) (.two (.two (.int .i64) (.two (.int .i64) .unit)) (.two .str (.two (.int .i64) .unit)))))).av z0, (TD.two (.int .u64) (.two (.int .u32) (.two (.two (.int .i64) (.two (.int .i64) .unit)) (.two .str (.two .str (.two (.int .i64) .unit)))))).av z1] emptyH fun r G' => G' = emptyH ∧ r = .bool true :=
  bindFinds_c (l := z0) (b := bdT z1) o0.1
end Go.Proofs.Ytmomphnkngbgjaa
