import Derived.Test.YtfllkpdhkeiofaaD5K
set_option linter.unusedSimpArgs false
set_option linter.unusedVariables false
namespace Go.Proofs.Ytfllkpdhkeiofaa
open Go Go.Al
set_option maxRecDepth 20000
attribute [local irreducible] awp aops aopsD eop pv ACalls CallK AppK AEnds ti

/-- is v in l -/
theorem in_c {out : AV} {G0 G : Hp} {l : List Int} {v : Int} (hg : Grow cI 1 G0 G out l) (hl : l.length ≤ 1000000) : ACalls Try.prog 10 [.int .i64 v, out] G fun r G' => G' = G ∧ r = .bool (decide (v ∈ l)) := by
  have hpo := hg.plain
  have hal := fun {t : TypeId} => Grow.len (P := Try.prog) (t := t) hg
  refine ACalls.hide fun post hpost => ?_
  refine F10_in (by simp [hpo]) (by simp) fun hbd => ?_
  repeat' (first
    | refine awp_seqK fun K' hpK => ?_
    | refine awp_block ?_
    | refine awp_condG fun A' B' hpA hpB => ?_
    | refine useK (by with_reducible assumption) ?_
    | refine useP (by with_reducible assumption) ?_
    | refine ED_cons (fun _ => ?_) ?_
    | (refine stable_mk ?_; simp (disch := first | (with_reducible assumption) | (simp; done) | omega | (simp; omega)) [hpo, hal]; done)
    | (refine stable_no ?_; simp (disch := first | (with_reducible assumption) | (simp; done) | omega | (simp; omega)) [hpo, hal]; done)
    | (with_reducible refine And.intro ?_ ?_)
    | (with_reducible intro hc)
    | (with_reducible refine GDsplit (fun hc => ?_) (fun hc => ?_) <;> try simp [hc])
    | (with_reducible refine GDsplitN (fun hc => ?_) (fun hc => ?_) <;> try simp [hc])
    | (with_reducible refine GDsplitNB (fun hc => ?_) (fun hc => ?_) <;> try simp [hc])
    | (with_reducible refine GDsplitB (fun hc => ?_) (fun hc => ?_) <;> try simp [hc])
    | (with_reducible refine GKsplit (fun hc => ?_) (fun hc => ?_) <;> try simp [hc])
    | (with_reducible refine GKsplitN (fun hc => ?_) (fun hc => ?_) <;> try simp [hc])
    | (with_reducible refine GKsplitNB (fun hc => ?_) (fun hc => ?_) <;> try simp [hc])
    | (with_reducible refine GKsplitB (fun hc => ?_) (fun hc => ?_) <;> try simp [hc])
    | simp (disch := first | (with_reducible assumption) | (simp; done) | omega | (simp; omega)) [hpo, hal])
  refine awp_loop' (fun w T G' => ∃ k : Nat, k + w = l.length ∧ G' = G ∧ v ∉ l.take k ∧ T = ofL [(0, .int .i64 v), (7, out), (8, .int .i64 l.length), (9, .int .i64 k)]) l.length ⟨0, by omega, rfl, by simp, rfl⟩ ?_
  rintro w T G' ⟨k, hk, rfl, hv, rfl⟩ N hN
  by_cases hkl : k < l.length
  · obtain ⟨b, τ, hb, rfl, hG⟩ := Grow.ms hg (by intro h; subst h; simp at hkl)
    have hatb : G' b = some (τ, l.map (AV.int .i64)) := by rw [hG, setH_same, cI_map]
    have htk := take_succ_get l k hkl
    by_cases hx : l[k] = v
    · repeat' (first
        | refine awp_seqK fun K' hpK => ?_
        | refine awp_block ?_
        | refine awp_condG fun A' B' hpA hpB => ?_
        | refine useK (by with_reducible assumption) ?_
        | refine useP (by with_reducible assumption) ?_
        | refine ED_cons (fun _ => ?_) ?_
        | (refine stable_mk ?_; simp (disch := first | (with_reducible assumption) | (simp; done) | omega | (simp; omega)) [hkl, hatb, hx]; done)
        | (refine stable_no ?_; simp (disch := first | (with_reducible assumption) | (simp; done) | omega | (simp; omega)) [hkl, hatb, hx]; done)
        | (with_reducible refine And.intro ?_ ?_)
        | (with_reducible intro hc)
        | (with_reducible refine GDsplit (fun hc => ?_) (fun hc => ?_) <;> try simp [hc])
        | (with_reducible refine GDsplitN (fun hc => ?_) (fun hc => ?_) <;> try simp [hc])
        | (with_reducible refine GDsplitNB (fun hc => ?_) (fun hc => ?_) <;> try simp [hc])
        | (with_reducible refine GDsplitB (fun hc => ?_) (fun hc => ?_) <;> try simp [hc])
        | (with_reducible refine GKsplit (fun hc => ?_) (fun hc => ?_) <;> try simp [hc])
        | (with_reducible refine GKsplitN (fun hc => ?_) (fun hc => ?_) <;> try simp [hc])
        | (with_reducible refine GKsplitNB (fun hc => ?_) (fun hc => ?_) <;> try simp [hc])
        | (with_reducible refine GKsplitB (fun hc => ?_) (fun hc => ?_) <;> try simp [hc])
        | simp (disch := first | (with_reducible assumption) | (simp; done) | omega | (simp; omega)) [hkl, hatb, hx])
      exact ends_one (by simp <;> rfl) (by simp) (hpost _ _ ⟨rfl, by rw [decide_eq_true]; rw [← hx]; exact List.getElem_mem _⟩)
    · repeat' (first
        | refine awp_seqK fun K' hpK => ?_
        | refine awp_block ?_
        | refine awp_condG fun A' B' hpA hpB => ?_
        | refine useK (by with_reducible assumption) ?_
        | refine useP (by with_reducible assumption) ?_
        | refine ED_cons (fun _ => ?_) ?_
        | (refine stable_mk ?_; simp (disch := first | (with_reducible assumption) | (simp; done) | omega | (simp; omega)) [hkl, hatb, hx]; done)
        | (refine stable_no ?_; simp (disch := first | (with_reducible assumption) | (simp; done) | omega | (simp; omega)) [hkl, hatb, hx]; done)
        | (with_reducible refine And.intro ?_ ?_)
        | (with_reducible intro hc)
        | (with_reducible refine GDsplit (fun hc => ?_) (fun hc => ?_) <;> try simp [hc])
        | (with_reducible refine GDsplitN (fun hc => ?_) (fun hc => ?_) <;> try simp [hc])
        | (with_reducible refine GDsplitNB (fun hc => ?_) (fun hc => ?_) <;> try simp [hc])
        | (with_reducible refine GDsplitB (fun hc => ?_) (fun hc => ?_) <;> try simp [hc])
        | (with_reducible refine GKsplit (fun hc => ?_) (fun hc => ?_) <;> try simp [hc])
        | (with_reducible refine GKsplitN (fun hc => ?_) (fun hc => ?_) <;> try simp [hc])
        | (with_reducible refine GKsplitNB (fun hc => ?_) (fun hc => ?_) <;> try simp [hc])
        | (with_reducible refine GKsplitB (fun hc => ?_) (fun hc => ?_) <;> try simp [hc])
        | simp (disch := first | (with_reducible assumption) | (simp; done) | omega | (simp; omega)) [hkl, hatb, hx])
      refine hN (w - 1) _ _ (by omega) ⟨k + 1, by omega, rfl, ?_, by simp⟩
      rw [htk]; intro h
      rcases List.mem_append.1 h with h | h
      · exact hv h
      · simp at h; exact hx h.symm
  · have hke : k = l.length := by omega
    rw [hke, List.take_length] at hv
    repeat' (first
      | refine awp_seqK fun K' hpK => ?_
      | refine awp_block ?_
      | refine awp_condG fun A' B' hpA hpB => ?_
      | refine useK (by with_reducible assumption) ?_
      | refine useP (by with_reducible assumption) ?_
      | refine ED_cons (fun _ => ?_) ?_
      | (refine stable_mk ?_; simp (disch := first | (with_reducible assumption) | (simp; done) | omega | (simp; omega)) [hkl]; done)
      | (refine stable_no ?_; simp (disch := first | (with_reducible assumption) | (simp; done) | omega | (simp; omega)) [hkl]; done)
      | (with_reducible refine And.intro ?_ ?_)
      | (with_reducible intro hc)
      | (with_reducible refine GDsplit (fun hc => ?_) (fun hc => ?_) <;> try simp [hc])
      | (with_reducible refine GDsplitN (fun hc => ?_) (fun hc => ?_) <;> try simp [hc])
      | (with_reducible refine GDsplitNB (fun hc => ?_) (fun hc => ?_) <;> try simp [hc])
      | (with_reducible refine GDsplitB (fun hc => ?_) (fun hc => ?_) <;> try simp [hc])
      | (with_reducible refine GKsplit (fun hc => ?_) (fun hc => ?_) <;> try simp [hc])
      | (with_reducible refine GKsplitN (fun hc => ?_) (fun hc => ?_) <;> try simp [hc])
      | (with_reducible refine GKsplitNB (fun hc => ?_) (fun hc => ?_) <;> try simp [hc])
      | (with_reducible refine GKsplitB (fun hc => ?_) (fun hc => ?_) <;> try simp [hc])
      | simp (disch := first | (with_reducible assumption) | (simp; done) | omega | (simp; omega)) [hkl])
    exact ends_one (by simp <;> rfl) (by simp) (hpost _ _ ⟨rfl, by rw [decide_eq_false hv]⟩)

/-- a call of the two laws -/
abbrev Cl : Type := Int × Int × Int × Option (List Int) × Unit
def cC (x : Cl) : List AV := [.int .i64 x.1, .int .i64 x.2.1, .int .i64 x.2.2.1, ofS cI x.2.2.2.1]

@[simp] theorem cC_len (x : Cl) : (cC x).length = 4 := by simp only [cC, List.length_cons, List.length_nil]

/-- bounds behind k steps -/
def PS.bd (x : PS) (k : Nat) : Prop := x.L.length ≤ 10 * k ∧ 1 ≤ x.mx ∧ x.mx ≤ 4096 ∧ 0 ≤ x.s ∧ x.s ≤ 10 * k ∧ 0 ≤ x.c ∧ x.c ≤ 10 * k ∧ 0 ≤ x.w ∧ x.w ≤ 10 * k ∧ 0 ≤ x.lo ∧ x.lo ≤ 10 * k
theorem PS.bd_ok {x : PS} {k n : Nat} (h : x.bd k) (hk : k ≤ 1000) (hn : n ≤ 1000) : x.ok n := by
  unfold PS.bd at h; unfold PS.ok; omega
theorem PS.bd_le {x : PS} {k m : Nat} (h : x.bd k) (hm : k ≤ m) : x.bd m := by
  unfold PS.bd at h ⊢; omega
/-- the law of the counts, and where all comes from -/
def PS.inv (x : PS) (l : List Int) : Prop := x.s + x.w = x.c + x.lo + x.L.length ∧ ∀ v ∈ x.L, v ∈ l

theorem atL_some {l : List Int} {i v : Int} (h : atL l i = some v) : ∃ k : Nat, i = k ∧ ∃ hk : k < l.length, l[k] = v := by
  unfold atL at h
  split at h
  · rename_i h0
    obtain ⟨k, rfl⟩ := Int.eq_ofNat_of_zero_le h0
    obtain ⟨h1, h2⟩ := List.getElem?_eq_some_iff.1 h
    exact ⟨k, rfl, h1, h2⟩
  · cases h
theorem atL_mem {l : List Int} {i v : Int} (h : atL l i = some v) : v ∈ l := by
  obtain ⟨k, _, hk, rfl⟩ := atL_some h
  exact List.getElem_mem _
theorem cutAt_mem {l : List Int} {i v : Int} (h : v ∈ cutAt l i) : v ∈ l := by
  unfold cutAt at h
  split at h
  · rcases List.mem_append.1 h with h | h
    · exact List.mem_of_mem_take h
    · exact List.mem_of_mem_drop h
  · exact h
theorem cutAt_some {l : List Int} {i : Int} (h : (atL l i).isSome = true) : (cutAt l i).length + 1 = l.length := by
  obtain ⟨v, hv⟩ := Option.isSome_iff_exists.1 h
  obtain ⟨k, rfl, hk, _⟩ := atL_some hv
  unfold cutAt
  rw [if_pos h]
  simp only [List.length_append, List.length_take, List.length_drop, Int.toNat_natCast]; omega
theorem cutAt_none {l : List Int} {i : Int} (h : (atL l i).isSome = false) : cutAt l i = l := by
  unfold cutAt; rw [h]; rfl

theorem PS.take_inv {x : PS} {i : Int} {l : List Int} (h : x.inv l) : (x.take i).inv l := by
  obtain ⟨h1, h2⟩ := h
  unfold PS.take
  cases hq : (atL x.L i).isSome with
  | false => exact ⟨h1, h2⟩
  | true =>
    have := cutAt_some hq
    exact ⟨by simp; omega, fun v hv => h2 v (cutAt_mem hv)⟩
theorem PS.twice_inv {x : PS} {i : Int} {l : List Int} (h : x.inv l) : (x.twice i).inv l := by
  obtain ⟨h1, h2⟩ := h
  unfold PS.twice
  split
  · rename_i hc
    obtain ⟨v, hv⟩ := Option.isSome_iff_exists.1 hc.2
    refine ⟨by simp; omega, fun u hu => ?_⟩
    rcases List.mem_append.1 hu with hu | hu
    · exact h2 u hu
    · rw [hv] at hu
      simp at hu; subst hu
      exact h2 _ (atL_mem hv)
  · exact ⟨h1, h2⟩
theorem PS.send1_inv {x : PS} {v : Int} {l : List Int} (h : x.inv l) (hv : v ∈ l) : (x.send1 v).inv l := by
  obtain ⟨h1, h2⟩ := h
  unfold PS.send1
  split
  · refine ⟨by simp; omega, fun u hu => ?_⟩
    rcases List.mem_append.1 hu with hu | hu
    · exact h2 u hu
    · simp at hu; subst hu; exact hv
  · exact ⟨by simp; omega, h2⟩
theorem PS.send_inv {x : PS} {m l : List Int} (h : x.inv l) (hm : ∀ v ∈ m, v ∈ l) : (x.send m).inv l := by
  induction m generalizing x with
  | nil => exact h
  | cons v m ih => exact ih (PS.send1_inv h (hm v (by simp))) fun u hu => hm u (by simp [hu])
theorem PS.inv_more {x : PS} {l m : List Int} (h : x.inv l) : x.inv (l ++ m) := ⟨h.1, fun v hv => List.mem_append_left _ (h.2 v hv)⟩
theorem PS.lose_inv {x : PS} {is l : List Int} (h : x.inv l) : (x.lose is).inv l := by
  have key : ∀ (is : List Int) (x : PS), (x.lose0 is).L.length + x.lostN is = x.L.length ∧ ∀ v ∈ (x.lose0 is).L, v ∈ x.L := by
    intro is
    induction is with
    | nil => intro x; exact ⟨rfl, fun v hv => hv⟩
    | cons i is ih =>
      intro x
      obtain ⟨k1, k2⟩ := ih (x.lose1 i)
      refine ⟨?_, fun v hv => cutAt_mem (k2 v hv)⟩
      simp only [PS.lose0, PS.lostN]
      cases hq : (atL x.L i).isSome with
      | false =>
        have : (x.lose1 i).L = x.L := cutAt_none hq
        rw [this] at k1; simp; omega
      | true =>
        have : (x.lose1 i).L.length + 1 = x.L.length := cutAt_some hq
        simp; omega
  obtain ⟨L, e1, _⟩ := PS.lose0_eq x is
  obtain ⟨k1, k2⟩ := key is x
  have e2 : x.lose is = { x with L := L, lo := x.lo + x.lostN is } := by unfold PS.lose; rw [e1]
  rw [e2]
  rw [e1] at k1 k2
  obtain ⟨h1, h2⟩ := h
  refine ⟨?_, fun v hv => h2 v (k2 v hv)⟩
  simp only at k1 ⊢
  omega
theorem PS.take_bd {x : PS} {i : Int} {k : Nat} (h : x.bd k) : (x.take i).bd (k + 1) := by
  unfold PS.bd at h ⊢
  unfold PS.take
  have := cutAt_len x.L i
  split <;> simp <;> omega
theorem PS.twice_bd {x : PS} {i : Int} {k : Nat} (h : x.bd k) : (x.twice i).bd (k + 1) := by
  unfold PS.bd at h ⊢
  unfold PS.twice
  split <;> simp <;> omega
theorem PS.send_bd {x : PS} {m : List Int} {k : Nat} (h : x.bd k) (hm : m.length ≤ 10) : (x.send m).bd (k + 1) := by
  have key : ∀ (m : List Int) (x : PS), (x.send m).L.length ≤ x.L.length + m.length ∧ (x.send m).mx = x.mx ∧ x.s ≤ (x.send m).s ∧ (x.send m).s ≤ x.s + m.length ∧ (x.send m).c = x.c ∧ (x.send m).w = x.w ∧ x.lo ≤ (x.send m).lo ∧ (x.send m).lo ≤ x.lo + m.length := by
    intro m
    induction m with
    | nil => intro x; simp [PS.send]
    | cons v m ih =>
      intro x
      obtain ⟨a1, a2, a3, a4, a5, a6, a7, a8⟩ := ih (x.send1 v)
      simp only [PS.send, List.length_cons]
      have : (x.send1 v).L.length ≤ x.L.length + 1 ∧ (x.send1 v).mx = x.mx ∧ (x.send1 v).s = x.s + 1 ∧ (x.send1 v).c = x.c ∧ (x.send1 v).w = x.w ∧ x.lo ≤ (x.send1 v).lo ∧ (x.send1 v).lo ≤ x.lo + 1 := by
        unfold PS.send1; split <;> simp <;> omega
      obtain ⟨b1, b2, b3, b4, b5, b6, b7⟩ := this
      refine ⟨by omega, by omega, by omega, by omega, by omega, by omega, by omega, by omega⟩
  obtain ⟨a1, a2, a3, a4, a5, a6, a7, a8⟩ := key m x
  unfold PS.bd at h ⊢
  omega
theorem PS.lose_bd {x : PS} {is : List Int} {k : Nat} (h : x.bd k) (hm : is.length ≤ 10) : (x.lose is).bd (k + 1) := by
  obtain ⟨L, e1, e2⟩ := PS.lose0_eq x is
  have e3 : x.lose is = { x with L := L, lo := x.lo + x.lostN is } := by unfold PS.lose; rw [e1]
  have := PS.lostN_le x is
  rw [e3]
  unfold PS.bd at h ⊢
  simp only
  omega

set_option maxHeartbeats 2000000 in
theorem pipeCounts_c {n : Int} {l : Option (List Cl)} (hll : (LL l).length ≤ 140737488355328) : ACalls Try.prog 3 [.int .i64 n, ofS cC l] emptyH fun r G' => G' = emptyH ∧ r = .bool true := by
  obtain ⟨q, hq⟩ : ∃ q, q = n.tmod 20 := ⟨_, rfl⟩
  have hq1 : -20 < q := by rw [hq]; have := Int.lt_tmod_of_pos n (show (0 : Int) < 20 by omega); omega
  have hq2 : q < 20 := by rw [hq]; have := Int.tmod_lt_of_pos n (show (0 : Int) < 20 by omega); omega
  have hm : 1 ≤ clampP q ∧ clampP q ≤ 4096 := by unfold clampP; (repeat' split) <;> omega
  refine ACalls.hide fun post hpost => ?_
  refine F3_in (by simp) (by simp) fun hbd => ?_
  repeat' (first
    | refine awp_seqK fun K' hpK => ?_
    | refine awp_block ?_
    | refine awp_condG fun A' B' hpA hpB => ?_
    | refine useK (by with_reducible assumption) ?_
    | refine useP (by with_reducible assumption) ?_
    | refine ED_cons (fun _ => ?_) ?_
    | (refine stable_mk ?_; simp (disch := first | (with_reducible assumption) | (simp; done) | omega | (simp; omega)) [← hq]; done)
    | (refine stable_no ?_; simp (disch := first | (with_reducible assumption) | (simp; done) | omega | (simp; omega)) [← hq]; done)
    | (with_reducible refine And.intro ?_ ?_)
    | (with_reducible intro hc)
    | (with_reducible refine GDsplit (fun hc => ?_) (fun hc => ?_) <;> try simp [hc])
    | (with_reducible refine GDsplitN (fun hc => ?_) (fun hc => ?_) <;> try simp [hc])
    | (with_reducible refine GDsplitNB (fun hc => ?_) (fun hc => ?_) <;> try simp [hc])
    | (with_reducible refine GDsplitB (fun hc => ?_) (fun hc => ?_) <;> try simp [hc])
    | (with_reducible refine GKsplit (fun hc => ?_) (fun hc => ?_) <;> try simp [hc])
    | (with_reducible refine GKsplitN (fun hc => ?_) (fun hc => ?_) <;> try simp [hc])
    | (with_reducible refine GKsplitNB (fun hc => ?_) (fun hc => ?_) <;> try simp [hc])
    | (with_reducible refine GKsplitB (fun hc => ?_) (fun hc => ?_) <;> try simp [hc])
    | (refine CallK.use (pnewE (m := clampP q) rfl) ?_; rintro r G' _ _ ⟨pb, rfl, hp⟩)
    | simp (disch := first | (with_reducible assumption) | (simp; done) | omega | (simp; omega)) [← hq])
  refine awp_loop' (fun w T G' => ∃ (k : Nat) (out : AV) (G0 : Hp) (x : PS) (acc : List Int), k + w = (LL l).length ∧ PipeH pb G0 x ∧ Grow cI 1 G0 G' out acc ∧ acc.length ≤ 10 * k ∧ k ≤ 50 ∧ x.bd k ∧ x.inv acc ∧ T = ofL [(5, .ptr pb 0), (6, out), (19, ofS cC l), (20, .int .i64 (LL l).length), (21, .int .i64 k)]) (LL l).length
    ⟨0, .nils, _, _, [], by omega, hp, Grow.nil _ _, by simp, by omega, by simp [PS.bd]; omega, by simp [PS.inv], rfl⟩ ?_
  rintro w T G' ⟨k, out, G0, x, acc, hk, hpx, hg, hacc, hk50, hbd, hinv, rfl⟩ N hN
  have hpo := hg.plain
  by_cases hkl : k < (LL l).length
  · by_cases h50 : (50 : Int) ≤ k
    · repeat' (first
        | refine awp_seqK fun K' hpK => ?_
        | refine awp_block ?_
        | refine awp_condG fun A' B' hpA hpB => ?_
        | refine useK (by with_reducible assumption) ?_
        | refine useP (by with_reducible assumption) ?_
        | refine ED_cons (fun _ => ?_) ?_
        | (refine stable_mk ?_; simp (disch := first | (with_reducible assumption) | (simp; done) | omega | (simp; omega)) [hkl, h50, hpo, ofS_idx (f := cC), cC]; done)
        | (refine stable_no ?_; simp (disch := first | (with_reducible assumption) | (simp; done) | omega | (simp; omega)) [hkl, h50, hpo, ofS_idx (f := cC), cC]; done)
        | (with_reducible refine And.intro ?_ ?_)
        | (with_reducible intro hc)
        | (with_reducible refine GDsplit (fun hc => ?_) (fun hc => ?_) <;> try simp [hc])
        | (with_reducible refine GDsplitN (fun hc => ?_) (fun hc => ?_) <;> try simp [hc])
        | (with_reducible refine GDsplitNB (fun hc => ?_) (fun hc => ?_) <;> try simp [hc])
        | (with_reducible refine GDsplitB (fun hc => ?_) (fun hc => ?_) <;> try simp [hc])
        | (with_reducible refine GKsplit (fun hc => ?_) (fun hc => ?_) <;> try simp [hc])
        | (with_reducible refine GKsplitN (fun hc => ?_) (fun hc => ?_) <;> try simp [hc])
        | (with_reducible refine GKsplitNB (fun hc => ?_) (fun hc => ?_) <;> try simp [hc])
        | (with_reducible refine GKsplitB (fun hc => ?_) (fun hc => ?_) <;> try simp [hc])
        | simp (disch := first | (with_reducible assumption) | (simp; done) | omega | (simp; omega)) [hkl, h50, hpo, ofS_idx (f := cC), cC])
      refine CallK.grow hg (pcounts_c hpx) ?_
      rintro r G1 G3 hg3 _ _ ⟨rfl, rfl⟩
      have heq := hinv.1
      have hx1 := hbd
      obtain ⟨x1, x2, x3, x4, x5, x6, x7, x8, x9, x10, x11⟩ := hx1
      repeat' (first
        | refine awp_seqK fun K' hpK => ?_
        | refine awp_block ?_
        | refine awp_condG fun A' B' hpA hpB => ?_
        | refine useK (by with_reducible assumption) ?_
        | refine useP (by with_reducible assumption) ?_
        | refine ED_cons (fun _ => ?_) ?_
        | (refine stable_mk ?_; simp (disch := first | (with_reducible assumption) | (simp; done) | omega | (simp; omega)) [heq]; done)
        | (refine stable_no ?_; simp (disch := first | (with_reducible assumption) | (simp; done) | omega | (simp; omega)) [heq]; done)
        | (with_reducible refine And.intro ?_ ?_)
        | (with_reducible intro hc)
        | (with_reducible refine GDsplit (fun hc => ?_) (fun hc => ?_) <;> try simp [hc])
        | (with_reducible refine GDsplitN (fun hc => ?_) (fun hc => ?_) <;> try simp [hc])
        | (with_reducible refine GDsplitNB (fun hc => ?_) (fun hc => ?_) <;> try simp [hc])
        | (with_reducible refine GDsplitB (fun hc => ?_) (fun hc => ?_) <;> try simp [hc])
        | (with_reducible refine GKsplit (fun hc => ?_) (fun hc => ?_) <;> try simp [hc])
        | (with_reducible refine GKsplitN (fun hc => ?_) (fun hc => ?_) <;> try simp [hc])
        | (with_reducible refine GKsplitNB (fun hc => ?_) (fun hc => ?_) <;> try simp [hc])
        | (with_reducible refine GKsplitB (fun hc => ?_) (fun hc => ?_) <;> try simp [hc])
        | simp (disch := first | (with_reducible assumption) | (simp; done) | omega | (simp; omega)) [heq])
      refine CallK.grow hg3 (plen_c hpx) ?_
      rintro r G4 G5 hg5 _ _ ⟨rfl, rfl⟩
      repeat' (first
        | refine awp_seqK fun K' hpK => ?_
        | refine awp_block ?_
        | refine awp_condG fun A' B' hpA hpB => ?_
        | refine useK (by with_reducible assumption) ?_
        | refine useP (by with_reducible assumption) ?_
        | refine ED_cons (fun _ => ?_) ?_
        | (refine stable_mk ?_; simp (disch := first | (with_reducible assumption) | (simp; done) | omega | (simp; omega)) [heq]; done)
        | (refine stable_no ?_; simp (disch := first | (with_reducible assumption) | (simp; done) | omega | (simp; omega)) [heq]; done)
        | (with_reducible refine And.intro ?_ ?_)
        | (with_reducible intro hc)
        | (with_reducible refine GDsplit (fun hc => ?_) (fun hc => ?_) <;> try simp [hc])
        | (with_reducible refine GDsplitN (fun hc => ?_) (fun hc => ?_) <;> try simp [hc])
        | (with_reducible refine GDsplitNB (fun hc => ?_) (fun hc => ?_) <;> try simp [hc])
        | (with_reducible refine GDsplitB (fun hc => ?_) (fun hc => ?_) <;> try simp [hc])
        | (with_reducible refine GKsplit (fun hc => ?_) (fun hc => ?_) <;> try simp [hc])
        | (with_reducible refine GKsplitN (fun hc => ?_) (fun hc => ?_) <;> try simp [hc])
        | (with_reducible refine GKsplitNB (fun hc => ?_) (fun hc => ?_) <;> try simp [hc])
        | (with_reducible refine GKsplitB (fun hc => ?_) (fun hc => ?_) <;> try simp [hc])
        | (refine CallK.use (awake_c _) ?_; rintro r G' _ _ ⟨rfl, rfl⟩)
        | exact ends_drop (by simp <;> rfl) (by simp) (hpost _ _ ⟨rfl, rfl⟩)
        | simp (disch := first | (with_reducible assumption) | (simp; done) | omega | (simp; omega)) [heq])
    · have hkn : k < 50 := by omega
      obtain ⟨y, hy⟩ : ∃ y, y = (LL l)[k] := ⟨_, rfl⟩
      obtain ⟨kd, at_, also, sl, u⟩ := y
      have hx := PS.bd_ok (n := 10) hbd (by omega) (by omega)
      have fin : ∀ (out' : AV) (G1 G2 : Hp) (x' : PS) (acc' : List Int), PipeH pb G1 x' → Grow cI 1 G1 G2 out' acc' → acc'.length ≤ 10 * (k + 1) → x'.bd (k + 1) → x'.inv acc' → N (ofL [(5, .ptr pb 0), (6, out'), (19, ofS cC l), (20, .int .i64 (LL l).length), (21, .int .i64 ((k : Int) + 1))]) G2 :=
        fun out' G1 G2 x' acc' a1 a2 a3 a4 a5 => hN (w - 1) _ _ (by omega) ⟨k + 1, out', G1, x', acc', by omega, a1, a2, a3, by omega, a4, a5, by simp⟩
      have app : ∀ (m : Option (List Int)) (kk : AV → Tm → Hp → Prop) (T : Tm), (LL m).length ≤ 6 → (∀ v G2, Grow cI 1 G0 G2 v (acc ++ LL m) → kk v T G2) → AppK Try.prog 25 25 out (ofS cI m) G' kk T :=
        fun m kk T hm6 hkk => Grow.app (xs := LL m) hg (ofS_src (by simp)) (cI_scal _) (by simp [LIM]; omega) hkk
      have send : ∀ (m : Option (List Int)) (v : AV) (G2 : Hp) (kk : AV → Tm → Hp → Prop) (T : Tm), (LL m).length ≤ 6 → Grow cI 1 G0 G2 v (acc ++ LL m) → (∀ r G3, N (ofL [(5, .ptr pb 0), (6, v), (19, ofS cC l), (20, .int .i64 (LL l).length), (21, .int .i64 ((k : Int) + 1))]) G3 → r.plain = true → kk r T G3) → CallK Try.prog 8 [.ptr pb 0, ofS cI m] G2 kk T := by
        intro m v G2 kk T hm6 hg2 hkk
        refine CallK.grow hg2 (psend_c hpx (PS.ok_le hx (by omega)) (by omega)) ?_
        rintro r G1 G3 hg3 _ hr ⟨hp3, rfl⟩
        refine hkk _ _ (fin v G1 G3 _ _ hp3 hg3 (by simp; omega) (PS.send_bd hbd (by omega)) (PS.send_inv (PS.inv_more hinv) fun u hu => List.mem_append_right _ hu)) hr
      have h6 : (LL (sl.map fun l => l.take 6)).length ≤ 6 := by
        cases sl with
        | none => simp [LL]
        | some l => simp [LL]; omega
      repeat' (first
        | refine awp_seqK fun K' hpK => ?_
        | refine awp_block ?_
        | refine awp_condG fun A' B' hpA hpB => ?_
        | refine useK (by with_reducible assumption) ?_
        | refine useP (by with_reducible assumption) ?_
        | refine ED_cons (fun _ => ?_) ?_
        | (refine stable_mk ?_; simp (disch := first | (with_reducible assumption) | (simp; done) | omega | (simp; omega)) [hkl, h50, hpo, ofS_idx (f := cC), cC, ← hy, aslc_hi (f := cI), fI2]; done)
        | (refine stable_no ?_; simp (disch := first | (with_reducible assumption) | (simp; done) | omega | (simp; omega)) [hkl, h50, hpo, ofS_idx (f := cC), cC, ← hy, aslc_hi (f := cI), fI2]; done)
        | (with_reducible refine And.intro ?_ ?_)
        | (with_reducible intro hc; try (exfalso; omega))
        | (with_reducible refine GDsplit (fun hc => ?_) (fun hc => ?_) <;> try simp [hc])
        | (with_reducible refine GDsplitN (fun hc => ?_) (fun hc => ?_) <;> try simp [hc])
        | (with_reducible refine GDsplitNB (fun hc => ?_) (fun hc => ?_) <;> try simp [hc])
        | (with_reducible refine GDsplitB (fun hc => ?_) (fun hc => ?_) <;> try simp [hc])
        | (with_reducible refine GKsplit (fun hc => ?_) (fun hc => ?_) <;> try simp [hc])
        | (with_reducible refine GKsplitN (fun hc => ?_) (fun hc => ?_) <;> try simp [hc])
        | (with_reducible refine GKsplitNB (fun hc => ?_) (fun hc => ?_) <;> try simp [hc])
        | (with_reducible refine GKsplitB (fun hc => ?_) (fun hc => ?_) <;> try simp [hc])
        | simp (disch := first | (with_reducible assumption) | (simp; done) | omega | (simp; omega)) [hkl, h50, hpo, ofS_idx (f := cC), cC, ← hy, aslc_hi (f := cI), fI2])
      · refine app _ _ _ h6 (fun v G2 hg2 => ?_)
        have hv2 := hg2.plain
        repeat' (first
          | refine awp_seqK fun K' hpK => ?_
          | refine awp_block ?_
          | refine awp_condG fun A' B' hpA hpB => ?_
          | refine useK (by with_reducible assumption) ?_
          | refine useP (by with_reducible assumption) ?_
          | refine ED_cons (fun _ => ?_) ?_
          | (refine stable_mk ?_; simp (disch := first | (with_reducible assumption) | (simp; done) | omega | (simp; omega)) [hv2]; done)
          | (refine stable_no ?_; simp (disch := first | (with_reducible assumption) | (simp; done) | omega | (simp; omega)) [hv2]; done)
          | (with_reducible refine And.intro ?_ ?_)
          | (with_reducible intro hc; try (exfalso; omega))
          | (with_reducible refine GDsplit (fun hc => ?_) (fun hc => ?_) <;> try simp [hc])
          | (with_reducible refine GDsplitN (fun hc => ?_) (fun hc => ?_) <;> try simp [hc])
          | (with_reducible refine GDsplitNB (fun hc => ?_) (fun hc => ?_) <;> try simp [hc])
          | (with_reducible refine GDsplitB (fun hc => ?_) (fun hc => ?_) <;> try simp [hc])
          | (with_reducible refine GKsplit (fun hc => ?_) (fun hc => ?_) <;> try simp [hc])
          | (with_reducible refine GKsplitN (fun hc => ?_) (fun hc => ?_) <;> try simp [hc])
          | (with_reducible refine GKsplitNB (fun hc => ?_) (fun hc => ?_) <;> try simp [hc])
          | (with_reducible refine GKsplitB (fun hc => ?_) (fun hc => ?_) <;> try simp [hc])
          | simp (disch := first | (with_reducible assumption) | (simp; done) | omega | (simp; omega)) [hv2])
        refine send _ v _ _ _ h6 hg2 (fun r G3 hN3 hr => ?_)
        repeat' (first
          | refine awp_seqK fun K' hpK => ?_
          | refine awp_block ?_
          | refine awp_condG fun A' B' hpA hpB => ?_
          | refine useK (by with_reducible assumption) ?_
          | refine useP (by with_reducible assumption) ?_
          | refine ED_cons (fun _ => ?_) ?_
          | (refine stable_mk ?_; simp (disch := first | (with_reducible assumption) | (simp; done) | omega | (simp; omega)) [hr]; done)
          | (refine stable_no ?_; simp (disch := first | (with_reducible assumption) | (simp; done) | omega | (simp; omega)) [hr]; done)
          | (with_reducible refine And.intro ?_ ?_)
          | (with_reducible intro hc)
          | (with_reducible refine GDsplit (fun hc => ?_) (fun hc => ?_) <;> try simp [hc])
          | (with_reducible refine GDsplitN (fun hc => ?_) (fun hc => ?_) <;> try simp [hc])
          | (with_reducible refine GDsplitNB (fun hc => ?_) (fun hc => ?_) <;> try simp [hc])
          | (with_reducible refine GDsplitB (fun hc => ?_) (fun hc => ?_) <;> try simp [hc])
          | (with_reducible refine GKsplit (fun hc => ?_) (fun hc => ?_) <;> try simp [hc])
          | (with_reducible refine GKsplitN (fun hc => ?_) (fun hc => ?_) <;> try simp [hc])
          | (with_reducible refine GKsplitNB (fun hc => ?_) (fun hc => ?_) <;> try simp [hc])
          | (with_reducible refine GKsplitB (fun hc => ?_) (fun hc => ?_) <;> try simp [hc])
          | simp (disch := first | (with_reducible assumption) | (simp; done) | omega | (simp; omega)) [hr])
        exact hN3
      · refine app _ _ _ (by omega) (fun v G2 hg2 => ?_)
        have hv2 := hg2.plain
        repeat' (first
          | refine awp_seqK fun K' hpK => ?_
          | refine awp_block ?_
          | refine awp_condG fun A' B' hpA hpB => ?_
          | refine useK (by with_reducible assumption) ?_
          | refine useP (by with_reducible assumption) ?_
          | refine ED_cons (fun _ => ?_) ?_
          | (refine stable_mk ?_; simp (disch := first | (with_reducible assumption) | (simp; done) | omega | (simp; omega)) [hv2]; done)
          | (refine stable_no ?_; simp (disch := first | (with_reducible assumption) | (simp; done) | omega | (simp; omega)) [hv2]; done)
          | (with_reducible refine And.intro ?_ ?_)
          | (with_reducible intro hc; try (exfalso; omega))
          | (with_reducible refine GDsplit (fun hc => ?_) (fun hc => ?_) <;> try simp [hc])
          | (with_reducible refine GDsplitN (fun hc => ?_) (fun hc => ?_) <;> try simp [hc])
          | (with_reducible refine GDsplitNB (fun hc => ?_) (fun hc => ?_) <;> try simp [hc])
          | (with_reducible refine GDsplitB (fun hc => ?_) (fun hc => ?_) <;> try simp [hc])
          | (with_reducible refine GKsplit (fun hc => ?_) (fun hc => ?_) <;> try simp [hc])
          | (with_reducible refine GKsplitN (fun hc => ?_) (fun hc => ?_) <;> try simp [hc])
          | (with_reducible refine GKsplitNB (fun hc => ?_) (fun hc => ?_) <;> try simp [hc])
          | (with_reducible refine GKsplitB (fun hc => ?_) (fun hc => ?_) <;> try simp [hc])
          | simp (disch := first | (with_reducible assumption) | (simp; done) | omega | (simp; omega)) [hv2])
        refine send _ v _ _ _ (by omega) hg2 (fun r G3 hN3 hr => ?_)
        repeat' (first
          | refine awp_seqK fun K' hpK => ?_
          | refine awp_block ?_
          | refine awp_condG fun A' B' hpA hpB => ?_
          | refine useK (by with_reducible assumption) ?_
          | refine useP (by with_reducible assumption) ?_
          | refine ED_cons (fun _ => ?_) ?_
          | (refine stable_mk ?_; simp (disch := first | (with_reducible assumption) | (simp; done) | omega | (simp; omega)) [hr]; done)
          | (refine stable_no ?_; simp (disch := first | (with_reducible assumption) | (simp; done) | omega | (simp; omega)) [hr]; done)
          | (with_reducible refine And.intro ?_ ?_)
          | (with_reducible intro hc)
          | (with_reducible refine GDsplit (fun hc => ?_) (fun hc => ?_) <;> try simp [hc])
          | (with_reducible refine GDsplitN (fun hc => ?_) (fun hc => ?_) <;> try simp [hc])
          | (with_reducible refine GDsplitNB (fun hc => ?_) (fun hc => ?_) <;> try simp [hc])
          | (with_reducible refine GDsplitB (fun hc => ?_) (fun hc => ?_) <;> try simp [hc])
          | (with_reducible refine GKsplit (fun hc => ?_) (fun hc => ?_) <;> try simp [hc])
          | (with_reducible refine GKsplitN (fun hc => ?_) (fun hc => ?_) <;> try simp [hc])
          | (with_reducible refine GKsplitNB (fun hc => ?_) (fun hc => ?_) <;> try simp [hc])
          | (with_reducible refine GKsplitB (fun hc => ?_) (fun hc => ?_) <;> try simp [hc])
          | simp (disch := first | (with_reducible assumption) | (simp; done) | omega | (simp; omega)) [hr])
        exact hN3
      · refine app _ _ _ h6 (fun v G2 hg2 => ?_)
        have hv2 := hg2.plain
        repeat' (first
          | refine awp_seqK fun K' hpK => ?_
          | refine awp_block ?_
          | refine awp_condG fun A' B' hpA hpB => ?_
          | refine useK (by with_reducible assumption) ?_
          | refine useP (by with_reducible assumption) ?_
          | refine ED_cons (fun _ => ?_) ?_
          | (refine stable_mk ?_; simp (disch := first | (with_reducible assumption) | (simp; done) | omega | (simp; omega)) [hv2]; done)
          | (refine stable_no ?_; simp (disch := first | (with_reducible assumption) | (simp; done) | omega | (simp; omega)) [hv2]; done)
          | (with_reducible refine And.intro ?_ ?_)
          | (with_reducible intro hc; try (exfalso; omega))
          | (with_reducible refine GDsplit (fun hc => ?_) (fun hc => ?_) <;> try simp [hc])
          | (with_reducible refine GDsplitN (fun hc => ?_) (fun hc => ?_) <;> try simp [hc])
          | (with_reducible refine GDsplitNB (fun hc => ?_) (fun hc => ?_) <;> try simp [hc])
          | (with_reducible refine GDsplitB (fun hc => ?_) (fun hc => ?_) <;> try simp [hc])
          | (with_reducible refine GKsplit (fun hc => ?_) (fun hc => ?_) <;> try simp [hc])
          | (with_reducible refine GKsplitN (fun hc => ?_) (fun hc => ?_) <;> try simp [hc])
          | (with_reducible refine GKsplitNB (fun hc => ?_) (fun hc => ?_) <;> try simp [hc])
          | (with_reducible refine GKsplitB (fun hc => ?_) (fun hc => ?_) <;> try simp [hc])
          | simp (disch := first | (with_reducible assumption) | (simp; done) | omega | (simp; omega)) [hv2])
        refine send _ v _ _ _ h6 hg2 (fun r G3 hN3 hr => ?_)
        repeat' (first
          | refine awp_seqK fun K' hpK => ?_
          | refine awp_block ?_
          | refine awp_condG fun A' B' hpA hpB => ?_
          | refine useK (by with_reducible assumption) ?_
          | refine useP (by with_reducible assumption) ?_
          | refine ED_cons (fun _ => ?_) ?_
          | (refine stable_mk ?_; simp (disch := first | (with_reducible assumption) | (simp; done) | omega | (simp; omega)) [hr]; done)
          | (refine stable_no ?_; simp (disch := first | (with_reducible assumption) | (simp; done) | omega | (simp; omega)) [hr]; done)
          | (with_reducible refine And.intro ?_ ?_)
          | (with_reducible intro hc)
          | (with_reducible refine GDsplit (fun hc => ?_) (fun hc => ?_) <;> try simp [hc])
          | (with_reducible refine GDsplitN (fun hc => ?_) (fun hc => ?_) <;> try simp [hc])
          | (with_reducible refine GDsplitNB (fun hc => ?_) (fun hc => ?_) <;> try simp [hc])
          | (with_reducible refine GDsplitB (fun hc => ?_) (fun hc => ?_) <;> try simp [hc])
          | (with_reducible refine GKsplit (fun hc => ?_) (fun hc => ?_) <;> try simp [hc])
          | (with_reducible refine GKsplitN (fun hc => ?_) (fun hc => ?_) <;> try simp [hc])
          | (with_reducible refine GKsplitNB (fun hc => ?_) (fun hc => ?_) <;> try simp [hc])
          | (with_reducible refine GKsplitB (fun hc => ?_) (fun hc => ?_) <;> try simp [hc])
          | simp (disch := first | (with_reducible assumption) | (simp; done) | omega | (simp; omega)) [hr])
        exact hN3
      · refine app _ _ _ (by omega) (fun v G2 hg2 => ?_)
        have hv2 := hg2.plain
        repeat' (first
          | refine awp_seqK fun K' hpK => ?_
          | refine awp_block ?_
          | refine awp_condG fun A' B' hpA hpB => ?_
          | refine useK (by with_reducible assumption) ?_
          | refine useP (by with_reducible assumption) ?_
          | refine ED_cons (fun _ => ?_) ?_
          | (refine stable_mk ?_; simp (disch := first | (with_reducible assumption) | (simp; done) | omega | (simp; omega)) [hv2]; done)
          | (refine stable_no ?_; simp (disch := first | (with_reducible assumption) | (simp; done) | omega | (simp; omega)) [hv2]; done)
          | (with_reducible refine And.intro ?_ ?_)
          | (with_reducible intro hc; try (exfalso; omega))
          | (with_reducible refine GDsplit (fun hc => ?_) (fun hc => ?_) <;> try simp [hc])
          | (with_reducible refine GDsplitN (fun hc => ?_) (fun hc => ?_) <;> try simp [hc])
          | (with_reducible refine GDsplitNB (fun hc => ?_) (fun hc => ?_) <;> try simp [hc])
          | (with_reducible refine GDsplitB (fun hc => ?_) (fun hc => ?_) <;> try simp [hc])
          | (with_reducible refine GKsplit (fun hc => ?_) (fun hc => ?_) <;> try simp [hc])
          | (with_reducible refine GKsplitN (fun hc => ?_) (fun hc => ?_) <;> try simp [hc])
          | (with_reducible refine GKsplitNB (fun hc => ?_) (fun hc => ?_) <;> try simp [hc])
          | (with_reducible refine GKsplitB (fun hc => ?_) (fun hc => ?_) <;> try simp [hc])
          | simp (disch := first | (with_reducible assumption) | (simp; done) | omega | (simp; omega)) [hv2])
        refine send _ v _ _ _ (by omega) hg2 (fun r G3 hN3 hr => ?_)
        repeat' (first
          | refine awp_seqK fun K' hpK => ?_
          | refine awp_block ?_
          | refine awp_condG fun A' B' hpA hpB => ?_
          | refine useK (by with_reducible assumption) ?_
          | refine useP (by with_reducible assumption) ?_
          | refine ED_cons (fun _ => ?_) ?_
          | (refine stable_mk ?_; simp (disch := first | (with_reducible assumption) | (simp; done) | omega | (simp; omega)) [hr]; done)
          | (refine stable_no ?_; simp (disch := first | (with_reducible assumption) | (simp; done) | omega | (simp; omega)) [hr]; done)
          | (with_reducible refine And.intro ?_ ?_)
          | (with_reducible intro hc)
          | (with_reducible refine GDsplit (fun hc => ?_) (fun hc => ?_) <;> try simp [hc])
          | (with_reducible refine GDsplitN (fun hc => ?_) (fun hc => ?_) <;> try simp [hc])
          | (with_reducible refine GDsplitNB (fun hc => ?_) (fun hc => ?_) <;> try simp [hc])
          | (with_reducible refine GDsplitB (fun hc => ?_) (fun hc => ?_) <;> try simp [hc])
          | (with_reducible refine GKsplit (fun hc => ?_) (fun hc => ?_) <;> try simp [hc])
          | (with_reducible refine GKsplitN (fun hc => ?_) (fun hc => ?_) <;> try simp [hc])
          | (with_reducible refine GKsplitNB (fun hc => ?_) (fun hc => ?_) <;> try simp [hc])
          | (with_reducible refine GKsplitB (fun hc => ?_) (fun hc => ?_) <;> try simp [hc])
          | simp (disch := first | (with_reducible assumption) | (simp; done) | omega | (simp; omega)) [hr])
        exact hN3
      · refine CallK.grow hg (ptake_c hpx (PS.ok_le hx (by omega))) ?_
        rintro r G1 G3 hg3 _ _ ⟨hp3, rfl⟩
        have hf3 := fin out G1 G3 _ _ hp3 hg3 (by omega) (PS.take_bd hbd) (PS.take_inv hinv)
        cases hqa : atL x.L at_ with
        | none =>
          repeat' (first
            | refine awp_seqK fun K' hpK => ?_
            | refine awp_block ?_
            | refine awp_condG fun A' B' hpA hpB => ?_
            | refine useK (by with_reducible assumption) ?_
            | refine useP (by with_reducible assumption) ?_
            | refine ED_cons (fun _ => ?_) ?_
            | (refine stable_mk ?_; simp (disch := first | (with_reducible assumption) | (simp; done) | omega | (simp; omega)) [hpo]; done)
            | (refine stable_no ?_; simp (disch := first | (with_reducible assumption) | (simp; done) | omega | (simp; omega)) [hpo]; done)
            | (with_reducible refine And.intro ?_ ?_)
            | (with_reducible intro hc; try (exfalso; omega))
            | (with_reducible refine GDsplit (fun hc => ?_) (fun hc => ?_) <;> try simp [hc])
            | (with_reducible refine GDsplitN (fun hc => ?_) (fun hc => ?_) <;> try simp [hc])
            | (with_reducible refine GDsplitNB (fun hc => ?_) (fun hc => ?_) <;> try simp [hc])
            | (with_reducible refine GDsplitB (fun hc => ?_) (fun hc => ?_) <;> try simp [hc])
            | (with_reducible refine GKsplit (fun hc => ?_) (fun hc => ?_) <;> try simp [hc])
            | (with_reducible refine GKsplitN (fun hc => ?_) (fun hc => ?_) <;> try simp [hc])
            | (with_reducible refine GKsplitNB (fun hc => ?_) (fun hc => ?_) <;> try simp [hc])
            | (with_reducible refine GKsplitB (fun hc => ?_) (fun hc => ?_) <;> try simp [hc])
            | simp (disch := first | (with_reducible assumption) | (simp; done) | omega | (simp; omega)) [hpo])
          exact hf3
        | some v =>
          have hin := in_c (v := v) hg3 (by omega)
          rw [decide_eq_true (hinv.2 _ (atL_mem hqa))] at hin
          repeat' (first
            | refine awp_seqK fun K' hpK => ?_
            | refine awp_block ?_
            | refine awp_condG fun A' B' hpA hpB => ?_
            | refine useK (by with_reducible assumption) ?_
            | refine useP (by with_reducible assumption) ?_
            | refine ED_cons (fun _ => ?_) ?_
            | (refine stable_mk ?_; simp (disch := first | (with_reducible assumption) | (simp; done) | omega | (simp; omega)) [hpo]; done)
            | (refine stable_no ?_; simp (disch := first | (with_reducible assumption) | (simp; done) | omega | (simp; omega)) [hpo]; done)
            | (with_reducible refine And.intro ?_ ?_)
            | (with_reducible intro hc; try (exfalso; omega))
            | (with_reducible refine GDsplit (fun hc => ?_) (fun hc => ?_) <;> try simp [hc])
            | (with_reducible refine GDsplitN (fun hc => ?_) (fun hc => ?_) <;> try simp [hc])
            | (with_reducible refine GDsplitNB (fun hc => ?_) (fun hc => ?_) <;> try simp [hc])
            | (with_reducible refine GDsplitB (fun hc => ?_) (fun hc => ?_) <;> try simp [hc])
            | (with_reducible refine GKsplit (fun hc => ?_) (fun hc => ?_) <;> try simp [hc])
            | (with_reducible refine GKsplitN (fun hc => ?_) (fun hc => ?_) <;> try simp [hc])
            | (with_reducible refine GKsplitNB (fun hc => ?_) (fun hc => ?_) <;> try simp [hc])
            | (with_reducible refine GKsplitB (fun hc => ?_) (fun hc => ?_) <;> try simp [hc])
            | (refine CallK.use (hin) ?_; rintro r G' _ _ ⟨rfl, rfl⟩)
            | simp (disch := first | (with_reducible assumption) | (simp; done) | omega | (simp; omega)) [hpo])
          exact hf3
      · refine CallK.grow hg (ptake_c hpx (PS.ok_le hx (by omega))) ?_
        rintro r G1 G3 hg3 _ _ ⟨hp3, rfl⟩
        have hf3 := fin out G1 G3 _ _ hp3 hg3 (by omega) (PS.take_bd hbd) (PS.take_inv hinv)
        cases hqa : atL x.L at_ with
        | none =>
          repeat' (first
            | refine awp_seqK fun K' hpK => ?_
            | refine awp_block ?_
            | refine awp_condG fun A' B' hpA hpB => ?_
            | refine useK (by with_reducible assumption) ?_
            | refine useP (by with_reducible assumption) ?_
            | refine ED_cons (fun _ => ?_) ?_
            | (refine stable_mk ?_; simp (disch := first | (with_reducible assumption) | (simp; done) | omega | (simp; omega)) [hpo]; done)
            | (refine stable_no ?_; simp (disch := first | (with_reducible assumption) | (simp; done) | omega | (simp; omega)) [hpo]; done)
            | (with_reducible refine And.intro ?_ ?_)
            | (with_reducible intro hc; try (exfalso; omega))
            | (with_reducible refine GDsplit (fun hc => ?_) (fun hc => ?_) <;> try simp [hc])
            | (with_reducible refine GDsplitN (fun hc => ?_) (fun hc => ?_) <;> try simp [hc])
            | (with_reducible refine GDsplitNB (fun hc => ?_) (fun hc => ?_) <;> try simp [hc])
            | (with_reducible refine GDsplitB (fun hc => ?_) (fun hc => ?_) <;> try simp [hc])
            | (with_reducible refine GKsplit (fun hc => ?_) (fun hc => ?_) <;> try simp [hc])
            | (with_reducible refine GKsplitN (fun hc => ?_) (fun hc => ?_) <;> try simp [hc])
            | (with_reducible refine GKsplitNB (fun hc => ?_) (fun hc => ?_) <;> try simp [hc])
            | (with_reducible refine GKsplitB (fun hc => ?_) (fun hc => ?_) <;> try simp [hc])
            | simp (disch := first | (with_reducible assumption) | (simp; done) | omega | (simp; omega)) [hpo])
          exact hf3
        | some v =>
          have hin := in_c (v := v) hg3 (by omega)
          rw [decide_eq_true (hinv.2 _ (atL_mem hqa))] at hin
          repeat' (first
            | refine awp_seqK fun K' hpK => ?_
            | refine awp_block ?_
            | refine awp_condG fun A' B' hpA hpB => ?_
            | refine useK (by with_reducible assumption) ?_
            | refine useP (by with_reducible assumption) ?_
            | refine ED_cons (fun _ => ?_) ?_
            | (refine stable_mk ?_; simp (disch := first | (with_reducible assumption) | (simp; done) | omega | (simp; omega)) [hpo]; done)
            | (refine stable_no ?_; simp (disch := first | (with_reducible assumption) | (simp; done) | omega | (simp; omega)) [hpo]; done)
            | (with_reducible refine And.intro ?_ ?_)
            | (with_reducible intro hc; try (exfalso; omega))
            | (with_reducible refine GDsplit (fun hc => ?_) (fun hc => ?_) <;> try simp [hc])
            | (with_reducible refine GDsplitN (fun hc => ?_) (fun hc => ?_) <;> try simp [hc])
            | (with_reducible refine GDsplitNB (fun hc => ?_) (fun hc => ?_) <;> try simp [hc])
            | (with_reducible refine GDsplitB (fun hc => ?_) (fun hc => ?_) <;> try simp [hc])
            | (with_reducible refine GKsplit (fun hc => ?_) (fun hc => ?_) <;> try simp [hc])
            | (with_reducible refine GKsplitN (fun hc => ?_) (fun hc => ?_) <;> try simp [hc])
            | (with_reducible refine GKsplitNB (fun hc => ?_) (fun hc => ?_) <;> try simp [hc])
            | (with_reducible refine GKsplitB (fun hc => ?_) (fun hc => ?_) <;> try simp [hc])
            | (refine CallK.use (hin) ?_; rintro r G' _ _ ⟨rfl, rfl⟩)
            | simp (disch := first | (with_reducible assumption) | (simp; done) | omega | (simp; omega)) [hpo])
          exact hf3
      · refine CallK.grow hg (ptwice_c hpx (PS.ok_le hx (by omega))) ?_
        rintro r G1 G3 hg3 _ _ ⟨hp3, rfl⟩
        have hf3 := fin out G1 G3 _ _ hp3 hg3 (by omega) (PS.twice_bd hbd) (PS.twice_inv hinv)
        repeat' (first
          | refine awp_seqK fun K' hpK => ?_
          | refine awp_block ?_
          | refine awp_condG fun A' B' hpA hpB => ?_
          | refine useK (by with_reducible assumption) ?_
          | refine useP (by with_reducible assumption) ?_
          | refine ED_cons (fun _ => ?_) ?_
          | (refine stable_mk ?_; simp (disch := first | (with_reducible assumption) | (simp; done) | omega | (simp; omega)) [hpo]; done)
          | (refine stable_no ?_; simp (disch := first | (with_reducible assumption) | (simp; done) | omega | (simp; omega)) [hpo]; done)
          | (with_reducible refine And.intro ?_ ?_)
          | (with_reducible intro hc; try (exfalso; omega))
          | (with_reducible refine GDsplit (fun hc => ?_) (fun hc => ?_) <;> try simp [hc])
          | (with_reducible refine GDsplitN (fun hc => ?_) (fun hc => ?_) <;> try simp [hc])
          | (with_reducible refine GDsplitNB (fun hc => ?_) (fun hc => ?_) <;> try simp [hc])
          | (with_reducible refine GDsplitB (fun hc => ?_) (fun hc => ?_) <;> try simp [hc])
          | (with_reducible refine GKsplit (fun hc => ?_) (fun hc => ?_) <;> try simp [hc])
          | (with_reducible refine GKsplitN (fun hc => ?_) (fun hc => ?_) <;> try simp [hc])
          | (with_reducible refine GKsplitNB (fun hc => ?_) (fun hc => ?_) <;> try simp [hc])
          | (with_reducible refine GKsplitB (fun hc => ?_) (fun hc => ?_) <;> try simp [hc])
          | simp (disch := first | (with_reducible assumption) | (simp; done) | omega | (simp; omega)) [hpo])
        exact hf3
      · refine CallK.grow hg (plose_c (s := some [at_, also]) hpx (PS.ok_le hx (by simp)) (by simp)) ?_
        rintro r G1 G3 hg3 _ _ ⟨hp3, rfl⟩
        have hf3 := fin out G1 G3 _ _ hp3 hg3 (by omega) (PS.lose_bd hbd (by simp)) (PS.lose_inv hinv)
        repeat' (first
          | refine awp_seqK fun K' hpK => ?_
          | refine awp_block ?_
          | refine awp_condG fun A' B' hpA hpB => ?_
          | refine useK (by with_reducible assumption) ?_
          | refine useP (by with_reducible assumption) ?_
          | refine ED_cons (fun _ => ?_) ?_
          | (refine stable_mk ?_; simp (disch := first | (with_reducible assumption) | (simp; done) | omega | (simp; omega)) [hpo]; done)
          | (refine stable_no ?_; simp (disch := first | (with_reducible assumption) | (simp; done) | omega | (simp; omega)) [hpo]; done)
          | (with_reducible refine And.intro ?_ ?_)
          | (with_reducible intro hc; try (exfalso; omega))
          | (with_reducible refine GDsplit (fun hc => ?_) (fun hc => ?_) <;> try simp [hc])
          | (with_reducible refine GDsplitN (fun hc => ?_) (fun hc => ?_) <;> try simp [hc])
          | (with_reducible refine GDsplitNB (fun hc => ?_) (fun hc => ?_) <;> try simp [hc])
          | (with_reducible refine GDsplitB (fun hc => ?_) (fun hc => ?_) <;> try simp [hc])
          | (with_reducible refine GKsplit (fun hc => ?_) (fun hc => ?_) <;> try simp [hc])
          | (with_reducible refine GKsplitN (fun hc => ?_) (fun hc => ?_) <;> try simp [hc])
          | (with_reducible refine GKsplitNB (fun hc => ?_) (fun hc => ?_) <;> try simp [hc])
          | (with_reducible refine GKsplitB (fun hc => ?_) (fun hc => ?_) <;> try simp [hc])
          | simp (disch := first | (with_reducible assumption) | (simp; done) | omega | (simp; omega)) [hpo])
        exact hf3
      · exact fin out G0 G' x acc hpx hg (by omega) (PS.bd_le hbd (by omega)) hinv
  · repeat' (first
      | refine awp_seqK fun K' hpK => ?_
      | refine awp_block ?_
      | refine awp_condG fun A' B' hpA hpB => ?_
      | refine useK (by with_reducible assumption) ?_
      | refine useP (by with_reducible assumption) ?_
      | refine ED_cons (fun _ => ?_) ?_
      | (refine stable_mk ?_; simp (disch := first | (with_reducible assumption) | (simp; done) | omega | (simp; omega)) [hkl, hpo]; done)
      | (refine stable_no ?_; simp (disch := first | (with_reducible assumption) | (simp; done) | omega | (simp; omega)) [hkl, hpo]; done)
      | (with_reducible refine And.intro ?_ ?_)
      | (with_reducible intro hc)
      | (with_reducible refine GDsplit (fun hc => ?_) (fun hc => ?_) <;> try simp [hc])
      | (with_reducible refine GDsplitN (fun hc => ?_) (fun hc => ?_) <;> try simp [hc])
      | (with_reducible refine GDsplitNB (fun hc => ?_) (fun hc => ?_) <;> try simp [hc])
      | (with_reducible refine GDsplitB (fun hc => ?_) (fun hc => ?_) <;> try simp [hc])
      | (with_reducible refine GKsplit (fun hc => ?_) (fun hc => ?_) <;> try simp [hc])
      | (with_reducible refine GKsplitN (fun hc => ?_) (fun hc => ?_) <;> try simp [hc])
      | (with_reducible refine GKsplitNB (fun hc => ?_) (fun hc => ?_) <;> try simp [hc])
      | (with_reducible refine GKsplitB (fun hc => ?_) (fun hc => ?_) <;> try simp [hc])
      | simp (disch := first | (with_reducible assumption) | (simp; done) | omega | (simp; omega)) [hkl, hpo])
    refine CallK.grow hg (pcounts_c hpx) ?_
    rintro r G1 G3 hg3 _ _ ⟨rfl, rfl⟩
    have heq := hinv.1
    have hx1 := hbd
    obtain ⟨x1, x2, x3, x4, x5, x6, x7, x8, x9, x10, x11⟩ := hx1
    repeat' (first
      | refine awp_seqK fun K' hpK => ?_
      | refine awp_block ?_
      | refine awp_condG fun A' B' hpA hpB => ?_
      | refine useK (by with_reducible assumption) ?_
      | refine useP (by with_reducible assumption) ?_
      | refine ED_cons (fun _ => ?_) ?_
      | (refine stable_mk ?_; simp (disch := first | (with_reducible assumption) | (simp; done) | omega | (simp; omega)) [heq]; done)
      | (refine stable_no ?_; simp (disch := first | (with_reducible assumption) | (simp; done) | omega | (simp; omega)) [heq]; done)
      | (with_reducible refine And.intro ?_ ?_)
      | (with_reducible intro hc)
      | (with_reducible refine GDsplit (fun hc => ?_) (fun hc => ?_) <;> try simp [hc])
      | (with_reducible refine GDsplitN (fun hc => ?_) (fun hc => ?_) <;> try simp [hc])
      | (with_reducible refine GDsplitNB (fun hc => ?_) (fun hc => ?_) <;> try simp [hc])
      | (with_reducible refine GDsplitB (fun hc => ?_) (fun hc => ?_) <;> try simp [hc])
      | (with_reducible refine GKsplit (fun hc => ?_) (fun hc => ?_) <;> try simp [hc])
      | (with_reducible refine GKsplitN (fun hc => ?_) (fun hc => ?_) <;> try simp [hc])
      | (with_reducible refine GKsplitNB (fun hc => ?_) (fun hc => ?_) <;> try simp [hc])
      | (with_reducible refine GKsplitB (fun hc => ?_) (fun hc => ?_) <;> try simp [hc])
      | simp (disch := first | (with_reducible assumption) | (simp; done) | omega | (simp; omega)) [heq])
    refine CallK.grow hg3 (plen_c hpx) ?_
    rintro r G4 G5 hg5 _ _ ⟨rfl, rfl⟩
    repeat' (first
      | refine awp_seqK fun K' hpK => ?_
      | refine awp_block ?_
      | refine awp_condG fun A' B' hpA hpB => ?_
      | refine useK (by with_reducible assumption) ?_
      | refine useP (by with_reducible assumption) ?_
      | refine ED_cons (fun _ => ?_) ?_
      | (refine stable_mk ?_; simp (disch := first | (with_reducible assumption) | (simp; done) | omega | (simp; omega)) [heq]; done)
      | (refine stable_no ?_; simp (disch := first | (with_reducible assumption) | (simp; done) | omega | (simp; omega)) [heq]; done)
      | (with_reducible refine And.intro ?_ ?_)
      | (with_reducible intro hc)
      | (with_reducible refine GDsplit (fun hc => ?_) (fun hc => ?_) <;> try simp [hc])
      | (with_reducible refine GDsplitN (fun hc => ?_) (fun hc => ?_) <;> try simp [hc])
      | (with_reducible refine GDsplitNB (fun hc => ?_) (fun hc => ?_) <;> try simp [hc])
      | (with_reducible refine GDsplitB (fun hc => ?_) (fun hc => ?_) <;> try simp [hc])
      | (with_reducible refine GKsplit (fun hc => ?_) (fun hc => ?_) <;> try simp [hc])
      | (with_reducible refine GKsplitN (fun hc => ?_) (fun hc => ?_) <;> try simp [hc])
      | (with_reducible refine GKsplitNB (fun hc => ?_) (fun hc => ?_) <;> try simp [hc])
      | (with_reducible refine GKsplitB (fun hc => ?_) (fun hc => ?_) <;> try simp [hc])
      | (refine CallK.use (awake_c _) ?_; rintro r G' _ _ ⟨rfl, rfl⟩)
      | exact ends_drop (by simp <;> rfl) (by simp) (hpost _ _ ⟨rfl, rfl⟩)
      | simp (disch := first | (with_reducible assumption) | (simp; done) | omega | (simp; omega)) [heq])

theorem pipeCounts_law (z0 : (TD.int .i64).T) (z1 : (TD.slc (.two (.int .i64) (.two (.int .i64) (.two (.int .i64) (.two (.slc (.int .i64)) .unit))))).T) (_ : (TD.int .i64).ok z0) (o1 : (TD.slc (.two (.int .i64) (.two (.int .i64) (.two (.int .i64) (.two (.slc (.int .i64)) .unit))))).ok z1) :
    ACalls Try.prog 3 [(TD.int .i64).av z0, (TD.slc (.two (.int .i64) (.two (.int .i64) (.two (.int .i64) (.two (.slc (.int .i64)) .unit))))).av z1] emptyH fun r G' => G' = emptyH ∧ r = .bool true :=
  pipeCounts_c (n := z0) (l := z1) o1.1
end Go.Proofs.Ytfllkpdhkeiofaa
