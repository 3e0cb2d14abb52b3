import Derived.Test.YtfllkpdhkeiofaaD5K
import Derived.Test.YtfllkpdhkeiofaaAl1
set_option linter.unusedSimpArgs false
set_option linter.unusedVariables false
namespace Go.Proofs.Ytfllkpdhkeiofaa
open Go Go.Al
set_option maxRecDepth 20000
attribute [local irreducible] awp aops aopsD eop pv ACalls CallK AppK AEnds ti

theorem send_all (x : PS) (m : Nat) (hm : (m : Int) = x.mx - x.L.length) (l : List Int) : x.send l = { x with L := x.L ++ l.take m, s := x.s + l.length, lo := x.lo + (l.length - m : Nat) } ∧ x.sent l = min l.length m := by
  induction l generalizing x m with
  | nil => simp [PS.send, PS.sent]
  | cons v l ih =>
    cases m with
    | zero =>
      have hr : x.room = false := by unfold PS.room; rw [decide_eq_false]; omega
      have e : x.send1 v = { x with s := x.s + 1, lo := x.lo + 1 } := by unfold PS.send1; rw [hr]; simp
      obtain ⟨h1, h2⟩ := ih (x.send1 v) 0 (by rw [e]; exact hm)
      refine ⟨?_, ?_⟩
      · show (x.send1 v).send l = _
        rw [h1, e]; simp; omega
      · simp only [PS.sent, hr, h2]; simp
    | succ m =>
      have hr : x.room = true := by unfold PS.room; rw [decide_eq_true]; omega
      have e : x.send1 v = { x with L := x.L ++ [v], s := x.s + 1 } := by unfold PS.send1; rw [hr]; simp
      obtain ⟨h1, h2⟩ := ih (x.send1 v) m (by rw [e]; simp; omega)
      refine ⟨?_, ?_⟩
      · show (x.send1 v).send l = _
        rw [h1, e]; simp; omega
      · simp only [PS.sent, hr, h2, if_true, List.length_cons]; omega

theorem and31 (n : Int) : ∃ q : Nat, q ≤ 31 ∧ ibits .and .i64 n 31 = some (q : Int) := by
  rw [ibits_and]
  refine ⟨(n % ((2 ^ IntKind.i64.bits : Nat) : Int)).toNat &&& 31, Nat.and_le_right, ?_⟩
  have h := Nat.and_le_right (n := (n % ((2 ^ IntKind.i64.bits : Nat) : Int)).toNat) (m := 31)
  have e : ((31 : Int) % ((2 ^ IntKind.i64.bits : Nat) : Int)).toNat = 31 := by decide
  rw [e]
  congr 1
  rw [IntKind.wrap_i64]; omega


def XS (M : List Int) (m : Nat) (len : Nat) (k : Nat) : PS := ⟨M.drop k, m, len, k, 0, (len - m : Nat)⟩
theorem XS_take {M : List Int} {m len k : Nat} (h : k < M.length) : (XS M m len k).take 0 = XS M m len (k + 1) ∧ (atL (XS M m len k).L 0).getD 0 = M[k] ∧ (atL (XS M m len k).L 0).isSome = true := by
  have e : M.drop k = M[k] :: M.drop (k + 1) := List.drop_eq_getElem_cons h
  have e1 : atL (M.drop k) 0 = some M[k] := by rw [e]; rfl
  refine ⟨?_, ?_, ?_⟩
  · unfold PS.take XS
    simp only [e1, Option.isSome_some, if_true]
    congr 1
    unfold cutAt
    rw [e1, e]; simp
  · unfold XS; simp only [e1]; rfl
  · unfold XS; simp only [e1]; rfl
theorem XS_end {M : List Int} {m len : Nat} : (XS M m len M.length).take 0 = XS M m len M.length ∧ (atL (XS M m len M.length).L 0) = none := by
  have e1 : atL (M.drop M.length) 0 = none := by rw [List.drop_length]; rfl
  refine ⟨?_, e1⟩
  unfold PS.take XS
  simp only [e1]; rfl
theorem XS_ok {M : List Int} {m len k : Nat} (h : k ≤ M.length) (hM : M.length ≤ 100) (hm : 1 ≤ m) (hm2 : m ≤ 31) (hl : len ≤ 60) : (XS M m len k).ok 1 := by
  unfold PS.ok XS; simp only [List.length_drop]; omega

set_option maxHeartbeats 2000000 in
theorem order_00 {q m t : Nat} {s : Option (List Int)} {n : Int} (hl : (LL s).length ≤ 60) (hand : ibits .and .i64 n 31 = some (q : Int)) (hm : clampP q = m) (hm1 : 1 ≤ m) (hm31 : m ≤ 31) (hq : ¬ (q : Int) < 1) (hq2 : (m : Int) = (q : Int)) (ht : t = min (LL s).length m) (htm : ¬ t < m) :
    ACalls Try.prog 4 [.int .i64 n, ofS cI s] emptyH fun r G' => G' = emptyH ∧ r = .bool true := by
  have hc : ¬ (60 : Int) < (LL s).length := by omega
  obtain ⟨hA1, hA2⟩ := send_all ⟨[], m, 0, 0, 0, 0⟩ m (by simp) (LL s)
  simp only [List.nil_append, Int.zero_add] at hA1
  obtain ⟨M, hM⟩ : ∃ M, M = (LL s).take m := ⟨_, rfl⟩
  have hMl : M.length = t := by rw [hM, List.length_take, ht]; omega
  have hA3 : (⟨[], m, 0, 0, 0, 0⟩ : PS).send (LL s) = XS M m (LL s).length 0 := by rw [hA1, hM]; rfl
  have hA4 : (((⟨[], m, 0, 0, 0, 0⟩ : PS).sent (LL s) : Nat) : Int) = (t : Int) := by rw [hA2, ht]
  have hok : (⟨[], m, 0, 0, 0, 0⟩ : PS).ok (LL s).length := by simp only [PS.ok, List.length_nil]; omega
  have c1 : ¬ (q : Int) < (t : Int) := by omega
  have c1' : ¬ (LL s).length < t := by omega
  have c2 : ¬ (t : Int) < (q : Int) := by omega
  refine ACalls.hide fun post hpost => ?_
  refine F4_in (by simp) (by simp) fun hbd => ?_
  repeat' (first
    | refine awp_seqK fun K' hpK => ?_
    | refine awp_block ?_
    | refine awp_condG fun A' B' hpA hpB => ?_
    | refine useK (by with_reducible assumption) ?_
    | refine useP (by with_reducible assumption) ?_
    | refine ED_cons (fun _ => ?_) ?_
    | (refine stable_mk ?_; simp (disch := first | (with_reducible assumption) | (simp; done) | omega | (simp; omega)) [hc, hand, hq, c1, c1', c2]; done)
    | (refine stable_no ?_; simp (disch := first | (with_reducible assumption) | (simp; done) | omega | (simp; omega)) [hc, hand, hq, c1, c1', c2]; done)
    | (with_reducible refine And.intro ?_ ?_)
    | (with_reducible intro hc; try (exfalso; omega))
    | (with_reducible refine GDsplit (fun hc => ?_) (fun hc => ?_) <;> try simp [hc])
    | (with_reducible refine GDsplitN (fun hc => ?_) (fun hc => ?_) <;> try simp [hc])
    | (with_reducible refine GDsplitNB (fun hc => ?_) (fun hc => ?_) <;> try simp [hc])
    | (with_reducible refine GDsplitB (fun hc => ?_) (fun hc => ?_) <;> try simp [hc])
    | (with_reducible refine GKsplit (fun hc => ?_) (fun hc => ?_) <;> try simp [hc])
    | (with_reducible refine GKsplitN (fun hc => ?_) (fun hc => ?_) <;> try simp [hc])
    | (with_reducible refine GKsplitNB (fun hc => ?_) (fun hc => ?_) <;> try simp [hc])
    | (with_reducible refine GKsplitB (fun hc => ?_) (fun hc => ?_) <;> try simp [hc])
    | (refine CallK.use (pnewE hm) ?_; rintro r G' _ _ ⟨pb, rfl, hp⟩)
    | (refine CallK.use (psendE hp hok (by omega) hA3 hA4) ?_; rintro r G' _ _ ⟨hp, rfl⟩)
    | simp (disch := first | (with_reducible assumption) | (simp; done) | omega | (simp; omega)) [hc, hand, hq, c1, c1', c2])
  refine awp_loop' (fun w T G' => ∃ k : Nat, k + w = t ∧ PipeH pb G' (XS M m (LL s).length k) ∧ T = ofL [(1, ofS cI s), (5, .ptr pb 0), (6, .int .i64 t), (7, .int .i64 k)]) t ⟨0, by omega, hp, rfl⟩ ?_
  rintro w T G' ⟨k, hk, hpk, rfl⟩ N hN
  by_cases hkt : k < t
  · obtain ⟨e1, e2, e3⟩ := XS_take (M := M) (m := m) (len := (LL s).length) (k := k) (by omega)
    have hkl : k < (LL s).length := by omega
    have e4 : M[k]'(by omega) = (LL s)[k] := by simp only [hM, List.getElem_take]
    rw [e4] at e2
    repeat' (first
      | refine awp_seqK fun K' hpK => ?_
      | refine awp_block ?_
      | refine awp_condG fun A' B' hpA hpB => ?_
      | refine useK (by with_reducible assumption) ?_
      | refine useP (by with_reducible assumption) ?_
      | refine ED_cons (fun _ => ?_) ?_
      | (refine stable_mk ?_; simp (disch := first | (with_reducible assumption) | (simp; done) | omega | (simp; omega)) [hkt, hkl, ofS_idx (f := cI), cI]; done)
      | (refine stable_no ?_; simp (disch := first | (with_reducible assumption) | (simp; done) | omega | (simp; omega)) [hkt, hkl, ofS_idx (f := cI), cI]; done)
      | (with_reducible refine And.intro ?_ ?_)
      | (with_reducible intro hc; try (exfalso; omega))
      | (with_reducible refine GDsplit (fun hc => ?_) (fun hc => ?_) <;> try simp [hc])
      | (with_reducible refine GDsplitN (fun hc => ?_) (fun hc => ?_) <;> try simp [hc])
      | (with_reducible refine GDsplitNB (fun hc => ?_) (fun hc => ?_) <;> try simp [hc])
      | (with_reducible refine GDsplitB (fun hc => ?_) (fun hc => ?_) <;> try simp [hc])
      | (with_reducible refine GKsplit (fun hc => ?_) (fun hc => ?_) <;> try simp [hc])
      | (with_reducible refine GKsplitN (fun hc => ?_) (fun hc => ?_) <;> try simp [hc])
      | (with_reducible refine GKsplitNB (fun hc => ?_) (fun hc => ?_) <;> try simp [hc])
      | (with_reducible refine GKsplitB (fun hc => ?_) (fun hc => ?_) <;> try simp [hc])
      | (refine CallK.use (ptakeE hpk (XS_ok (by omega) (by omega) hm1 hm31 hl) e1 e2 e3) ?_; rintro r G' _ _ ⟨hp1, rfl⟩)
      | simp (disch := first | (with_reducible assumption) | (simp; done) | omega | (simp; omega)) [hkt, hkl, ofS_idx (f := cI), cI])
    exact hN (w - 1) _ _ (by omega) ⟨k + 1, by omega, hp1, by simp⟩
  · have hkm : k = M.length := by omega
    subst hkm
    obtain ⟨e1, e2⟩ := XS_end (M := M) (m := m) (len := (LL s).length)
    have hlen : (XS M m (LL s).length M.length).L.length = 0 := by unfold XS; simp
    have hpl := fun G hp => plen_c (pb := pb) (G := G) (x := XS M m (LL s).length M.length) hp
    simp only [hlen] at hpl
    repeat' (first
      | refine awp_seqK fun K' hpK => ?_
      | refine awp_block ?_
      | refine awp_condG fun A' B' hpA hpB => ?_
      | refine useK (by with_reducible assumption) ?_
      | refine useP (by with_reducible assumption) ?_
      | refine ED_cons (fun _ => ?_) ?_
      | (refine stable_mk ?_; simp (disch := first | (with_reducible assumption) | (simp; done) | omega | (simp; omega)) [hkt]; done)
      | (refine stable_no ?_; simp (disch := first | (with_reducible assumption) | (simp; done) | omega | (simp; omega)) [hkt]; done)
      | (with_reducible refine And.intro ?_ ?_)
      | (with_reducible intro hc; try (exfalso; omega))
      | (with_reducible refine GDsplit (fun hc => ?_) (fun hc => ?_) <;> try simp [hc])
      | (with_reducible refine GDsplitN (fun hc => ?_) (fun hc => ?_) <;> try simp [hc])
      | (with_reducible refine GDsplitNB (fun hc => ?_) (fun hc => ?_) <;> try simp [hc])
      | (with_reducible refine GDsplitB (fun hc => ?_) (fun hc => ?_) <;> try simp [hc])
      | (with_reducible refine GKsplit (fun hc => ?_) (fun hc => ?_) <;> try simp [hc])
      | (with_reducible refine GKsplitN (fun hc => ?_) (fun hc => ?_) <;> try simp [hc])
      | (with_reducible refine GKsplitNB (fun hc => ?_) (fun hc => ?_) <;> try simp [hc])
      | (with_reducible refine GKsplitB (fun hc => ?_) (fun hc => ?_) <;> try simp [hc])
      | (refine CallK.use (ptakeE hpk (XS_ok (by omega) (by omega) hm1 hm31 hl) e1 (v := 0) (b := false) (by rw [e2]; rfl) (by rw [e2]; rfl)) ?_; rintro r G' _ _ ⟨hp1, rfl⟩)
      | (refine CallK.use (hpl _ hp1) ?_; rintro r G' _ _ ⟨rfl, rfl⟩)
      | (refine CallK.use (awake_c _) ?_; rintro r G' _ _ ⟨rfl, rfl⟩)
      | exact ends_drop (by simp <;> rfl) (by simp) (hpost _ _ ⟨rfl, rfl⟩)
      | simp (disch := first | (with_reducible assumption) | (simp; done) | omega | (simp; omega)) [hkt])

set_option maxHeartbeats 2000000 in
theorem order_01 {q m t : Nat} {s : Option (List Int)} {n : Int} (hl : (LL s).length ≤ 60) (hand : ibits .and .i64 n 31 = some (q : Int)) (hm : clampP q = m) (hm1 : 1 ≤ m) (hm31 : m ≤ 31) (hq : ¬ (q : Int) < 1) (hq2 : (m : Int) = (q : Int)) (ht : t = min (LL s).length m) (htm : t < m) :
    ACalls Try.prog 4 [.int .i64 n, ofS cI s] emptyH fun r G' => G' = emptyH ∧ r = .bool true := by
  have hc : ¬ (60 : Int) < (LL s).length := by omega
  obtain ⟨hA1, hA2⟩ := send_all ⟨[], m, 0, 0, 0, 0⟩ m (by simp) (LL s)
  simp only [List.nil_append, Int.zero_add] at hA1
  obtain ⟨M, hM⟩ : ∃ M, M = (LL s).take m := ⟨_, rfl⟩
  have hMl : M.length = t := by rw [hM, List.length_take, ht]; omega
  have hA3 : (⟨[], m, 0, 0, 0, 0⟩ : PS).send (LL s) = XS M m (LL s).length 0 := by rw [hA1, hM]; rfl
  have hA4 : (((⟨[], m, 0, 0, 0, 0⟩ : PS).sent (LL s) : Nat) : Int) = (t : Int) := by rw [hA2, ht]
  have hok : (⟨[], m, 0, 0, 0, 0⟩ : PS).ok (LL s).length := by simp only [PS.ok, List.length_nil]; omega
  have c1 : ¬ (q : Int) < (t : Int) := by omega
  have c1' : ¬ (LL s).length < t := by omega
  have c2 : (t : Int) < (q : Int) ∧ ¬ t < (LL s).length := by omega
  refine ACalls.hide fun post hpost => ?_
  refine F4_in (by simp) (by simp) fun hbd => ?_
  repeat' (first
    | refine awp_seqK fun K' hpK => ?_
    | refine awp_block ?_
    | refine awp_condG fun A' B' hpA hpB => ?_
    | refine useK (by with_reducible assumption) ?_
    | refine useP (by with_reducible assumption) ?_
    | refine ED_cons (fun _ => ?_) ?_
    | (refine stable_mk ?_; simp (disch := first | (with_reducible assumption) | (simp; done) | omega | (simp; omega)) [hc, hand, hq, c1, c1', c2]; done)
    | (refine stable_no ?_; simp (disch := first | (with_reducible assumption) | (simp; done) | omega | (simp; omega)) [hc, hand, hq, c1, c1', c2]; done)
    | (with_reducible refine And.intro ?_ ?_)
    | (with_reducible intro hc; try (exfalso; omega))
    | (with_reducible refine GDsplit (fun hc => ?_) (fun hc => ?_) <;> try simp [hc])
    | (with_reducible refine GDsplitN (fun hc => ?_) (fun hc => ?_) <;> try simp [hc])
    | (with_reducible refine GDsplitNB (fun hc => ?_) (fun hc => ?_) <;> try simp [hc])
    | (with_reducible refine GDsplitB (fun hc => ?_) (fun hc => ?_) <;> try simp [hc])
    | (with_reducible refine GKsplit (fun hc => ?_) (fun hc => ?_) <;> try simp [hc])
    | (with_reducible refine GKsplitN (fun hc => ?_) (fun hc => ?_) <;> try simp [hc])
    | (with_reducible refine GKsplitNB (fun hc => ?_) (fun hc => ?_) <;> try simp [hc])
    | (with_reducible refine GKsplitB (fun hc => ?_) (fun hc => ?_) <;> try simp [hc])
    | (refine CallK.use (pnewE hm) ?_; rintro r G' _ _ ⟨pb, rfl, hp⟩)
    | (refine CallK.use (psendE hp hok (by omega) hA3 hA4) ?_; rintro r G' _ _ ⟨hp, rfl⟩)
    | simp (disch := first | (with_reducible assumption) | (simp; done) | omega | (simp; omega)) [hc, hand, hq, c1, c1', c2])
  refine awp_loop' (fun w T G' => ∃ k : Nat, k + w = t ∧ PipeH pb G' (XS M m (LL s).length k) ∧ T = ofL [(1, ofS cI s), (5, .ptr pb 0), (6, .int .i64 t), (7, .int .i64 k)]) t ⟨0, by omega, hp, rfl⟩ ?_
  rintro w T G' ⟨k, hk, hpk, rfl⟩ N hN
  by_cases hkt : k < t
  · obtain ⟨e1, e2, e3⟩ := XS_take (M := M) (m := m) (len := (LL s).length) (k := k) (by omega)
    have hkl : k < (LL s).length := by omega
    have e4 : M[k]'(by omega) = (LL s)[k] := by simp only [hM, List.getElem_take]
    rw [e4] at e2
    repeat' (first
      | refine awp_seqK fun K' hpK => ?_
      | refine awp_block ?_
      | refine awp_condG fun A' B' hpA hpB => ?_
      | refine useK (by with_reducible assumption) ?_
      | refine useP (by with_reducible assumption) ?_
      | refine ED_cons (fun _ => ?_) ?_
      | (refine stable_mk ?_; simp (disch := first | (with_reducible assumption) | (simp; done) | omega | (simp; omega)) [hkt, hkl, ofS_idx (f := cI), cI]; done)
      | (refine stable_no ?_; simp (disch := first | (with_reducible assumption) | (simp; done) | omega | (simp; omega)) [hkt, hkl, ofS_idx (f := cI), cI]; done)
      | (with_reducible refine And.intro ?_ ?_)
      | (with_reducible intro hc; try (exfalso; omega))
      | (with_reducible refine GDsplit (fun hc => ?_) (fun hc => ?_) <;> try simp [hc])
      | (with_reducible refine GDsplitN (fun hc => ?_) (fun hc => ?_) <;> try simp [hc])
      | (with_reducible refine GDsplitNB (fun hc => ?_) (fun hc => ?_) <;> try simp [hc])
      | (with_reducible refine GDsplitB (fun hc => ?_) (fun hc => ?_) <;> try simp [hc])
      | (with_reducible refine GKsplit (fun hc => ?_) (fun hc => ?_) <;> try simp [hc])
      | (with_reducible refine GKsplitN (fun hc => ?_) (fun hc => ?_) <;> try simp [hc])
      | (with_reducible refine GKsplitNB (fun hc => ?_) (fun hc => ?_) <;> try simp [hc])
      | (with_reducible refine GKsplitB (fun hc => ?_) (fun hc => ?_) <;> try simp [hc])
      | (refine CallK.use (ptakeE hpk (XS_ok (by omega) (by omega) hm1 hm31 hl) e1 e2 e3) ?_; rintro r G' _ _ ⟨hp1, rfl⟩)
      | simp (disch := first | (with_reducible assumption) | (simp; done) | omega | (simp; omega)) [hkt, hkl, ofS_idx (f := cI), cI])
    exact hN (w - 1) _ _ (by omega) ⟨k + 1, by omega, hp1, by simp⟩
  · have hkm : k = M.length := by omega
    subst hkm
    obtain ⟨e1, e2⟩ := XS_end (M := M) (m := m) (len := (LL s).length)
    have hlen : (XS M m (LL s).length M.length).L.length = 0 := by unfold XS; simp
    have hpl := fun G hp => plen_c (pb := pb) (G := G) (x := XS M m (LL s).length M.length) hp
    simp only [hlen] at hpl
    repeat' (first
      | refine awp_seqK fun K' hpK => ?_
      | refine awp_block ?_
      | refine awp_condG fun A' B' hpA hpB => ?_
      | refine useK (by with_reducible assumption) ?_
      | refine useP (by with_reducible assumption) ?_
      | refine ED_cons (fun _ => ?_) ?_
      | (refine stable_mk ?_; simp (disch := first | (with_reducible assumption) | (simp; done) | omega | (simp; omega)) [hkt]; done)
      | (refine stable_no ?_; simp (disch := first | (with_reducible assumption) | (simp; done) | omega | (simp; omega)) [hkt]; done)
      | (with_reducible refine And.intro ?_ ?_)
      | (with_reducible intro hc; try (exfalso; omega))
      | (with_reducible refine GDsplit (fun hc => ?_) (fun hc => ?_) <;> try simp [hc])
      | (with_reducible refine GDsplitN (fun hc => ?_) (fun hc => ?_) <;> try simp [hc])
      | (with_reducible refine GDsplitNB (fun hc => ?_) (fun hc => ?_) <;> try simp [hc])
      | (with_reducible refine GDsplitB (fun hc => ?_) (fun hc => ?_) <;> try simp [hc])
      | (with_reducible refine GKsplit (fun hc => ?_) (fun hc => ?_) <;> try simp [hc])
      | (with_reducible refine GKsplitN (fun hc => ?_) (fun hc => ?_) <;> try simp [hc])
      | (with_reducible refine GKsplitNB (fun hc => ?_) (fun hc => ?_) <;> try simp [hc])
      | (with_reducible refine GKsplitB (fun hc => ?_) (fun hc => ?_) <;> try simp [hc])
      | (refine CallK.use (ptakeE hpk (XS_ok (by omega) (by omega) hm1 hm31 hl) e1 (v := 0) (b := false) (by rw [e2]; rfl) (by rw [e2]; rfl)) ?_; rintro r G' _ _ ⟨hp1, rfl⟩)
      | (refine CallK.use (hpl _ hp1) ?_; rintro r G' _ _ ⟨rfl, rfl⟩)
      | (refine CallK.use (awake_c _) ?_; rintro r G' _ _ ⟨rfl, rfl⟩)
      | exact ends_drop (by simp <;> rfl) (by simp) (hpost _ _ ⟨rfl, rfl⟩)
      | simp (disch := first | (with_reducible assumption) | (simp; done) | omega | (simp; omega)) [hkt])

set_option maxHeartbeats 2000000 in
theorem order_10 {q m t : Nat} {s : Option (List Int)} {n : Int} (hl : (LL s).length ≤ 60) (hand : ibits .and .i64 n 31 = some (q : Int)) (hm : clampP q = m) (hm1 : 1 ≤ m) (hm31 : m ≤ 31) (hq : (q : Int) < 1) (hq2 : (m : Int) = 1) (ht : t = min (LL s).length m) (htm : ¬ t < m) :
    ACalls Try.prog 4 [.int .i64 n, ofS cI s] emptyH fun r G' => G' = emptyH ∧ r = .bool true := by
  have hc : ¬ (60 : Int) < (LL s).length := by omega
  obtain ⟨hA1, hA2⟩ := send_all ⟨[], m, 0, 0, 0, 0⟩ m (by simp) (LL s)
  simp only [List.nil_append, Int.zero_add] at hA1
  obtain ⟨M, hM⟩ : ∃ M, M = (LL s).take m := ⟨_, rfl⟩
  have hMl : M.length = t := by rw [hM, List.length_take, ht]; omega
  have hA3 : (⟨[], m, 0, 0, 0, 0⟩ : PS).send (LL s) = XS M m (LL s).length 0 := by rw [hA1, hM]; rfl
  have hA4 : (((⟨[], m, 0, 0, 0, 0⟩ : PS).sent (LL s) : Nat) : Int) = (t : Int) := by rw [hA2, ht]
  have hok : (⟨[], m, 0, 0, 0, 0⟩ : PS).ok (LL s).length := by simp only [PS.ok, List.length_nil]; omega
  have c1 : ¬ 1 < (t : Int) := by omega
  have c1' : ¬ (LL s).length < t := by omega
  have c2 : ¬ (t : Int) < 1 := by omega
  refine ACalls.hide fun post hpost => ?_
  refine F4_in (by simp) (by simp) fun hbd => ?_
  repeat' (first
    | refine awp_seqK fun K' hpK => ?_
    | refine awp_block ?_
    | refine awp_condG fun A' B' hpA hpB => ?_
    | refine useK (by with_reducible assumption) ?_
    | refine useP (by with_reducible assumption) ?_
    | refine ED_cons (fun _ => ?_) ?_
    | (refine stable_mk ?_; simp (disch := first | (with_reducible assumption) | (simp; done) | omega | (simp; omega)) [hc, hand, hq, c1, c1', c2]; done)
    | (refine stable_no ?_; simp (disch := first | (with_reducible assumption) | (simp; done) | omega | (simp; omega)) [hc, hand, hq, c1, c1', c2]; done)
    | (with_reducible refine And.intro ?_ ?_)
    | (with_reducible intro hc; try (exfalso; omega))
    | (with_reducible refine GDsplit (fun hc => ?_) (fun hc => ?_) <;> try simp [hc])
    | (with_reducible refine GDsplitN (fun hc => ?_) (fun hc => ?_) <;> try simp [hc])
    | (with_reducible refine GDsplitNB (fun hc => ?_) (fun hc => ?_) <;> try simp [hc])
    | (with_reducible refine GDsplitB (fun hc => ?_) (fun hc => ?_) <;> try simp [hc])
    | (with_reducible refine GKsplit (fun hc => ?_) (fun hc => ?_) <;> try simp [hc])
    | (with_reducible refine GKsplitN (fun hc => ?_) (fun hc => ?_) <;> try simp [hc])
    | (with_reducible refine GKsplitNB (fun hc => ?_) (fun hc => ?_) <;> try simp [hc])
    | (with_reducible refine GKsplitB (fun hc => ?_) (fun hc => ?_) <;> try simp [hc])
    | (refine CallK.use (pnewE hm) ?_; rintro r G' _ _ ⟨pb, rfl, hp⟩)
    | (refine CallK.use (psendE hp hok (by omega) hA3 hA4) ?_; rintro r G' _ _ ⟨hp, rfl⟩)
    | simp (disch := first | (with_reducible assumption) | (simp; done) | omega | (simp; omega)) [hc, hand, hq, c1, c1', c2])
  refine awp_loop' (fun w T G' => ∃ k : Nat, k + w = t ∧ PipeH pb G' (XS M m (LL s).length k) ∧ T = ofL [(1, ofS cI s), (5, .ptr pb 0), (6, .int .i64 t), (7, .int .i64 k)]) t ⟨0, by omega, hp, rfl⟩ ?_
  rintro w T G' ⟨k, hk, hpk, rfl⟩ N hN
  by_cases hkt : k < t
  · obtain ⟨e1, e2, e3⟩ := XS_take (M := M) (m := m) (len := (LL s).length) (k := k) (by omega)
    have hkl : k < (LL s).length := by omega
    have e4 : M[k]'(by omega) = (LL s)[k] := by simp only [hM, List.getElem_take]
    rw [e4] at e2
    repeat' (first
      | refine awp_seqK fun K' hpK => ?_
      | refine awp_block ?_
      | refine awp_condG fun A' B' hpA hpB => ?_
      | refine useK (by with_reducible assumption) ?_
      | refine useP (by with_reducible assumption) ?_
      | refine ED_cons (fun _ => ?_) ?_
      | (refine stable_mk ?_; simp (disch := first | (with_reducible assumption) | (simp; done) | omega | (simp; omega)) [hkt, hkl, ofS_idx (f := cI), cI]; done)
      | (refine stable_no ?_; simp (disch := first | (with_reducible assumption) | (simp; done) | omega | (simp; omega)) [hkt, hkl, ofS_idx (f := cI), cI]; done)
      | (with_reducible refine And.intro ?_ ?_)
      | (with_reducible intro hc; try (exfalso; omega))
      | (with_reducible refine GDsplit (fun hc => ?_) (fun hc => ?_) <;> try simp [hc])
      | (with_reducible refine GDsplitN (fun hc => ?_) (fun hc => ?_) <;> try simp [hc])
      | (with_reducible refine GDsplitNB (fun hc => ?_) (fun hc => ?_) <;> try simp [hc])
      | (with_reducible refine GDsplitB (fun hc => ?_) (fun hc => ?_) <;> try simp [hc])
      | (with_reducible refine GKsplit (fun hc => ?_) (fun hc => ?_) <;> try simp [hc])
      | (with_reducible refine GKsplitN (fun hc => ?_) (fun hc => ?_) <;> try simp [hc])
      | (with_reducible refine GKsplitNB (fun hc => ?_) (fun hc => ?_) <;> try simp [hc])
      | (with_reducible refine GKsplitB (fun hc => ?_) (fun hc => ?_) <;> try simp [hc])
      | (refine CallK.use (ptakeE hpk (XS_ok (by omega) (by omega) hm1 hm31 hl) e1 e2 e3) ?_; rintro r G' _ _ ⟨hp1, rfl⟩)
      | simp (disch := first | (with_reducible assumption) | (simp; done) | omega | (simp; omega)) [hkt, hkl, ofS_idx (f := cI), cI])
    exact hN (w - 1) _ _ (by omega) ⟨k + 1, by omega, hp1, by simp⟩
  · have hkm : k = M.length := by omega
    subst hkm
    obtain ⟨e1, e2⟩ := XS_end (M := M) (m := m) (len := (LL s).length)
    have hlen : (XS M m (LL s).length M.length).L.length = 0 := by unfold XS; simp
    have hpl := fun G hp => plen_c (pb := pb) (G := G) (x := XS M m (LL s).length M.length) hp
    simp only [hlen] at hpl
    repeat' (first
      | refine awp_seqK fun K' hpK => ?_
      | refine awp_block ?_
      | refine awp_condG fun A' B' hpA hpB => ?_
      | refine useK (by with_reducible assumption) ?_
      | refine useP (by with_reducible assumption) ?_
      | refine ED_cons (fun _ => ?_) ?_
      | (refine stable_mk ?_; simp (disch := first | (with_reducible assumption) | (simp; done) | omega | (simp; omega)) [hkt]; done)
      | (refine stable_no ?_; simp (disch := first | (with_reducible assumption) | (simp; done) | omega | (simp; omega)) [hkt]; done)
      | (with_reducible refine And.intro ?_ ?_)
      | (with_reducible intro hc; try (exfalso; omega))
      | (with_reducible refine GDsplit (fun hc => ?_) (fun hc => ?_) <;> try simp [hc])
      | (with_reducible refine GDsplitN (fun hc => ?_) (fun hc => ?_) <;> try simp [hc])
      | (with_reducible refine GDsplitNB (fun hc => ?_) (fun hc => ?_) <;> try simp [hc])
      | (with_reducible refine GDsplitB (fun hc => ?_) (fun hc => ?_) <;> try simp [hc])
      | (with_reducible refine GKsplit (fun hc => ?_) (fun hc => ?_) <;> try simp [hc])
      | (with_reducible refine GKsplitN (fun hc => ?_) (fun hc => ?_) <;> try simp [hc])
      | (with_reducible refine GKsplitNB (fun hc => ?_) (fun hc => ?_) <;> try simp [hc])
      | (with_reducible refine GKsplitB (fun hc => ?_) (fun hc => ?_) <;> try simp [hc])
      | (refine CallK.use (ptakeE hpk (XS_ok (by omega) (by omega) hm1 hm31 hl) e1 (v := 0) (b := false) (by rw [e2]; rfl) (by rw [e2]; rfl)) ?_; rintro r G' _ _ ⟨hp1, rfl⟩)
      | (refine CallK.use (hpl _ hp1) ?_; rintro r G' _ _ ⟨rfl, rfl⟩)
      | (refine CallK.use (awake_c _) ?_; rintro r G' _ _ ⟨rfl, rfl⟩)
      | exact ends_drop (by simp <;> rfl) (by simp) (hpost _ _ ⟨rfl, rfl⟩)
      | simp (disch := first | (with_reducible assumption) | (simp; done) | omega | (simp; omega)) [hkt])

set_option maxHeartbeats 2000000 in
theorem order_11 {q m t : Nat} {s : Option (List Int)} {n : Int} (hl : (LL s).length ≤ 60) (hand : ibits .and .i64 n 31 = some (q : Int)) (hm : clampP q = m) (hm1 : 1 ≤ m) (hm31 : m ≤ 31) (hq : (q : Int) < 1) (hq2 : (m : Int) = 1) (ht : t = min (LL s).length m) (htm : t < m) :
    ACalls Try.prog 4 [.int .i64 n, ofS cI s] emptyH fun r G' => G' = emptyH ∧ r = .bool true := by
  have hc : ¬ (60 : Int) < (LL s).length := by omega
  obtain ⟨hA1, hA2⟩ := send_all ⟨[], m, 0, 0, 0, 0⟩ m (by simp) (LL s)
  simp only [List.nil_append, Int.zero_add] at hA1
  obtain ⟨M, hM⟩ : ∃ M, M = (LL s).take m := ⟨_, rfl⟩
  have hMl : M.length = t := by rw [hM, List.length_take, ht]; omega
  have hA3 : (⟨[], m, 0, 0, 0, 0⟩ : PS).send (LL s) = XS M m (LL s).length 0 := by rw [hA1, hM]; rfl
  have hA4 : (((⟨[], m, 0, 0, 0, 0⟩ : PS).sent (LL s) : Nat) : Int) = (t : Int) := by rw [hA2, ht]
  have hok : (⟨[], m, 0, 0, 0, 0⟩ : PS).ok (LL s).length := by simp only [PS.ok, List.length_nil]; omega
  have c1 : ¬ 1 < (t : Int) := by omega
  have c1' : ¬ (LL s).length < t := by omega
  have c2 : (t : Int) < 1 ∧ ¬ t < (LL s).length := by omega
  refine ACalls.hide fun post hpost => ?_
  refine F4_in (by simp) (by simp) fun hbd => ?_
  repeat' (first
    | refine awp_seqK fun K' hpK => ?_
    | refine awp_block ?_
    | refine awp_condG fun A' B' hpA hpB => ?_
    | refine useK (by with_reducible assumption) ?_
    | refine useP (by with_reducible assumption) ?_
    | refine ED_cons (fun _ => ?_) ?_
    | (refine stable_mk ?_; simp (disch := first | (with_reducible assumption) | (simp; done) | omega | (simp; omega)) [hc, hand, hq, c1, c1', c2]; done)
    | (refine stable_no ?_; simp (disch := first | (with_reducible assumption) | (simp; done) | omega | (simp; omega)) [hc, hand, hq, c1, c1', c2]; done)
    | (with_reducible refine And.intro ?_ ?_)
    | (with_reducible intro hc; try (exfalso; omega))
    | (with_reducible refine GDsplit (fun hc => ?_) (fun hc => ?_) <;> try simp [hc])
    | (with_reducible refine GDsplitN (fun hc => ?_) (fun hc => ?_) <;> try simp [hc])
    | (with_reducible refine GDsplitNB (fun hc => ?_) (fun hc => ?_) <;> try simp [hc])
    | (with_reducible refine GDsplitB (fun hc => ?_) (fun hc => ?_) <;> try simp [hc])
    | (with_reducible refine GKsplit (fun hc => ?_) (fun hc => ?_) <;> try simp [hc])
    | (with_reducible refine GKsplitN (fun hc => ?_) (fun hc => ?_) <;> try simp [hc])
    | (with_reducible refine GKsplitNB (fun hc => ?_) (fun hc => ?_) <;> try simp [hc])
    | (with_reducible refine GKsplitB (fun hc => ?_) (fun hc => ?_) <;> try simp [hc])
    | (refine CallK.use (pnewE hm) ?_; rintro r G' _ _ ⟨pb, rfl, hp⟩)
    | (refine CallK.use (psendE hp hok (by omega) hA3 hA4) ?_; rintro r G' _ _ ⟨hp, rfl⟩)
    | simp (disch := first | (with_reducible assumption) | (simp; done) | omega | (simp; omega)) [hc, hand, hq, c1, c1', c2])
  refine awp_loop' (fun w T G' => ∃ k : Nat, k + w = t ∧ PipeH pb G' (XS M m (LL s).length k) ∧ T = ofL [(1, ofS cI s), (5, .ptr pb 0), (6, .int .i64 t), (7, .int .i64 k)]) t ⟨0, by omega, hp, rfl⟩ ?_
  rintro w T G' ⟨k, hk, hpk, rfl⟩ N hN
  by_cases hkt : k < t
  · exfalso; omega
  · have hkm : k = M.length := by omega
    subst hkm
    obtain ⟨e1, e2⟩ := XS_end (M := M) (m := m) (len := (LL s).length)
    have hlen : (XS M m (LL s).length M.length).L.length = 0 := by unfold XS; simp
    have hpl := fun G hp => plen_c (pb := pb) (G := G) (x := XS M m (LL s).length M.length) hp
    simp only [hlen] at hpl
    repeat' (first
      | refine awp_seqK fun K' hpK => ?_
      | refine awp_block ?_
      | refine awp_condG fun A' B' hpA hpB => ?_
      | refine useK (by with_reducible assumption) ?_
      | refine useP (by with_reducible assumption) ?_
      | refine ED_cons (fun _ => ?_) ?_
      | (refine stable_mk ?_; simp (disch := first | (with_reducible assumption) | (simp; done) | omega | (simp; omega)) [hkt]; done)
      | (refine stable_no ?_; simp (disch := first | (with_reducible assumption) | (simp; done) | omega | (simp; omega)) [hkt]; done)
      | (with_reducible refine And.intro ?_ ?_)
      | (with_reducible intro hc; try (exfalso; omega))
      | (with_reducible refine GDsplit (fun hc => ?_) (fun hc => ?_) <;> try simp [hc])
      | (with_reducible refine GDsplitN (fun hc => ?_) (fun hc => ?_) <;> try simp [hc])
      | (with_reducible refine GDsplitNB (fun hc => ?_) (fun hc => ?_) <;> try simp [hc])
      | (with_reducible refine GDsplitB (fun hc => ?_) (fun hc => ?_) <;> try simp [hc])
      | (with_reducible refine GKsplit (fun hc => ?_) (fun hc => ?_) <;> try simp [hc])
      | (with_reducible refine GKsplitN (fun hc => ?_) (fun hc => ?_) <;> try simp [hc])
      | (with_reducible refine GKsplitNB (fun hc => ?_) (fun hc => ?_) <;> try simp [hc])
      | (with_reducible refine GKsplitB (fun hc => ?_) (fun hc => ?_) <;> try simp [hc])
      | (refine CallK.use (ptakeE hpk (XS_ok (by omega) (by omega) hm1 hm31 hl) e1 (v := 0) (b := false) (by rw [e2]; rfl) (by rw [e2]; rfl)) ?_; rintro r G' _ _ ⟨hp1, rfl⟩)
      | (refine CallK.use (hpl _ hp1) ?_; rintro r G' _ _ ⟨rfl, rfl⟩)
      | (refine CallK.use (awake_c _) ?_; rintro r G' _ _ ⟨rfl, rfl⟩)
      | exact ends_drop (by simp <;> rfl) (by simp) (hpost _ _ ⟨rfl, rfl⟩)
      | simp (disch := first | (with_reducible assumption) | (simp; done) | omega | (simp; omega)) [hkt])


set_option maxHeartbeats 2000000 in
theorem orderL_00 {q m t : Nat} {S0 s : Option (List Int)} {n : Int} (hS : S0.map (fun l => l.take 60) = s) (hc : (60 : Int) < (LL S0).length) (hl : (LL s).length ≤ 60) (hand : ibits .and .i64 n 31 = some (q : Int)) (hm : clampP q = m) (hm1 : 1 ≤ m) (hm31 : m ≤ 31) (hq : ¬ (q : Int) < 1) (hq2 : (m : Int) = (q : Int)) (ht : t = min (LL s).length m) (htm : ¬ t < m) :
    ACalls Try.prog 4 [.int .i64 n, ofS cI S0] emptyH fun r G' => G' = emptyH ∧ r = .bool true := by
  obtain ⟨hA1, hA2⟩ := send_all ⟨[], m, 0, 0, 0, 0⟩ m (by simp) (LL s)
  simp only [List.nil_append, Int.zero_add] at hA1
  obtain ⟨M, hM⟩ : ∃ M, M = (LL s).take m := ⟨_, rfl⟩
  have hMl : M.length = t := by rw [hM, List.length_take, ht]; omega
  have hA3 : (⟨[], m, 0, 0, 0, 0⟩ : PS).send (LL s) = XS M m (LL s).length 0 := by rw [hA1, hM]; rfl
  have hA4 : (((⟨[], m, 0, 0, 0, 0⟩ : PS).sent (LL s) : Nat) : Int) = (t : Int) := by rw [hA2, ht]
  have hok : (⟨[], m, 0, 0, 0, 0⟩ : PS).ok (LL s).length := by simp only [PS.ok, List.length_nil]; omega
  have c1 : ¬ (q : Int) < (t : Int) := by omega
  have c1' : ¬ (LL s).length < t := by omega
  have c2 : ¬ (t : Int) < (q : Int) := by omega
  refine ACalls.hide fun post hpost => ?_
  refine F4_in (by simp) (by simp) fun hbd => ?_
  repeat' (first
    | refine awp_seqK fun K' hpK => ?_
    | refine awp_block ?_
    | refine awp_condG fun A' B' hpA hpB => ?_
    | refine useK (by with_reducible assumption) ?_
    | refine useP (by with_reducible assumption) ?_
    | refine ED_cons (fun _ => ?_) ?_
    | (refine stable_mk ?_; simp (disch := first | (with_reducible assumption) | (simp; done) | omega | (simp; omega)) [hc, aslc_hi (f := cI), hS, hand, hq, c1, c1', c2]; done)
    | (refine stable_no ?_; simp (disch := first | (with_reducible assumption) | (simp; done) | omega | (simp; omega)) [hc, aslc_hi (f := cI), hS, hand, hq, c1, c1', c2]; done)
    | (with_reducible refine And.intro ?_ ?_)
    | (with_reducible intro hc; try (exfalso; omega))
    | (with_reducible refine GDsplit (fun hc => ?_) (fun hc => ?_) <;> try simp [hc])
    | (with_reducible refine GDsplitN (fun hc => ?_) (fun hc => ?_) <;> try simp [hc])
    | (with_reducible refine GDsplitNB (fun hc => ?_) (fun hc => ?_) <;> try simp [hc])
    | (with_reducible refine GDsplitB (fun hc => ?_) (fun hc => ?_) <;> try simp [hc])
    | (with_reducible refine GKsplit (fun hc => ?_) (fun hc => ?_) <;> try simp [hc])
    | (with_reducible refine GKsplitN (fun hc => ?_) (fun hc => ?_) <;> try simp [hc])
    | (with_reducible refine GKsplitNB (fun hc => ?_) (fun hc => ?_) <;> try simp [hc])
    | (with_reducible refine GKsplitB (fun hc => ?_) (fun hc => ?_) <;> try simp [hc])
    | (refine CallK.use (pnewE hm) ?_; rintro r G' _ _ ⟨pb, rfl, hp⟩)
    | (refine CallK.use (psendE hp hok (by omega) hA3 hA4) ?_; rintro r G' _ _ ⟨hp, rfl⟩)
    | simp (disch := first | (with_reducible assumption) | (simp; done) | omega | (simp; omega)) [hc, aslc_hi (f := cI), hS, hand, hq, c1, c1', c2])
  refine awp_loop' (fun w T G' => ∃ k : Nat, k + w = t ∧ PipeH pb G' (XS M m (LL s).length k) ∧ T = ofL [(1, ofS cI s), (5, .ptr pb 0), (6, .int .i64 t), (7, .int .i64 k)]) t ⟨0, by omega, hp, rfl⟩ ?_
  rintro w T G' ⟨k, hk, hpk, rfl⟩ N hN
  by_cases hkt : k < t
  · obtain ⟨e1, e2, e3⟩ := XS_take (M := M) (m := m) (len := (LL s).length) (k := k) (by omega)
    have hkl : k < (LL s).length := by omega
    have e4 : M[k]'(by omega) = (LL s)[k] := by simp only [hM, List.getElem_take]
    rw [e4] at e2
    repeat' (first
      | refine awp_seqK fun K' hpK => ?_
      | refine awp_block ?_
      | refine awp_condG fun A' B' hpA hpB => ?_
      | refine useK (by with_reducible assumption) ?_
      | refine useP (by with_reducible assumption) ?_
      | refine ED_cons (fun _ => ?_) ?_
      | (refine stable_mk ?_; simp (disch := first | (with_reducible assumption) | (simp; done) | omega | (simp; omega)) [hkt, hkl, ofS_idx (f := cI), cI]; done)
      | (refine stable_no ?_; simp (disch := first | (with_reducible assumption) | (simp; done) | omega | (simp; omega)) [hkt, hkl, ofS_idx (f := cI), cI]; done)
      | (with_reducible refine And.intro ?_ ?_)
      | (with_reducible intro hc; try (exfalso; omega))
      | (with_reducible refine GDsplit (fun hc => ?_) (fun hc => ?_) <;> try simp [hc])
      | (with_reducible refine GDsplitN (fun hc => ?_) (fun hc => ?_) <;> try simp [hc])
      | (with_reducible refine GDsplitNB (fun hc => ?_) (fun hc => ?_) <;> try simp [hc])
      | (with_reducible refine GDsplitB (fun hc => ?_) (fun hc => ?_) <;> try simp [hc])
      | (with_reducible refine GKsplit (fun hc => ?_) (fun hc => ?_) <;> try simp [hc])
      | (with_reducible refine GKsplitN (fun hc => ?_) (fun hc => ?_) <;> try simp [hc])
      | (with_reducible refine GKsplitNB (fun hc => ?_) (fun hc => ?_) <;> try simp [hc])
      | (with_reducible refine GKsplitB (fun hc => ?_) (fun hc => ?_) <;> try simp [hc])
      | (refine CallK.use (ptakeE hpk (XS_ok (by omega) (by omega) hm1 hm31 hl) e1 e2 e3) ?_; rintro r G' _ _ ⟨hp1, rfl⟩)
      | simp (disch := first | (with_reducible assumption) | (simp; done) | omega | (simp; omega)) [hkt, hkl, ofS_idx (f := cI), cI])
    exact hN (w - 1) _ _ (by omega) ⟨k + 1, by omega, hp1, by simp⟩
  · have hkm : k = M.length := by omega
    subst hkm
    obtain ⟨e1, e2⟩ := XS_end (M := M) (m := m) (len := (LL s).length)
    have hlen : (XS M m (LL s).length M.length).L.length = 0 := by unfold XS; simp
    have hpl := fun G hp => plen_c (pb := pb) (G := G) (x := XS M m (LL s).length M.length) hp
    simp only [hlen] at hpl
    repeat' (first
      | refine awp_seqK fun K' hpK => ?_
      | refine awp_block ?_
      | refine awp_condG fun A' B' hpA hpB => ?_
      | refine useK (by with_reducible assumption) ?_
      | refine useP (by with_reducible assumption) ?_
      | refine ED_cons (fun _ => ?_) ?_
      | (refine stable_mk ?_; simp (disch := first | (with_reducible assumption) | (simp; done) | omega | (simp; omega)) [hkt]; done)
      | (refine stable_no ?_; simp (disch := first | (with_reducible assumption) | (simp; done) | omega | (simp; omega)) [hkt]; done)
      | (with_reducible refine And.intro ?_ ?_)
      | (with_reducible intro hc; try (exfalso; omega))
      | (with_reducible refine GDsplit (fun hc => ?_) (fun hc => ?_) <;> try simp [hc])
      | (with_reducible refine GDsplitN (fun hc => ?_) (fun hc => ?_) <;> try simp [hc])
      | (with_reducible refine GDsplitNB (fun hc => ?_) (fun hc => ?_) <;> try simp [hc])
      | (with_reducible refine GDsplitB (fun hc => ?_) (fun hc => ?_) <;> try simp [hc])
      | (with_reducible refine GKsplit (fun hc => ?_) (fun hc => ?_) <;> try simp [hc])
      | (with_reducible refine GKsplitN (fun hc => ?_) (fun hc => ?_) <;> try simp [hc])
      | (with_reducible refine GKsplitNB (fun hc => ?_) (fun hc => ?_) <;> try simp [hc])
      | (with_reducible refine GKsplitB (fun hc => ?_) (fun hc => ?_) <;> try simp [hc])
      | (refine CallK.use (ptakeE hpk (XS_ok (by omega) (by omega) hm1 hm31 hl) e1 (v := 0) (b := false) (by rw [e2]; rfl) (by rw [e2]; rfl)) ?_; rintro r G' _ _ ⟨hp1, rfl⟩)
      | (refine CallK.use (hpl _ hp1) ?_; rintro r G' _ _ ⟨rfl, rfl⟩)
      | (refine CallK.use (awake_c _) ?_; rintro r G' _ _ ⟨rfl, rfl⟩)
      | exact ends_drop (by simp <;> rfl) (by simp) (hpost _ _ ⟨rfl, rfl⟩)
      | simp (disch := first | (with_reducible assumption) | (simp; done) | omega | (simp; omega)) [hkt])

set_option maxHeartbeats 2000000 in
theorem orderL_01 {q m t : Nat} {S0 s : Option (List Int)} {n : Int} (hS : S0.map (fun l => l.take 60) = s) (hc : (60 : Int) < (LL S0).length) (hl : (LL s).length ≤ 60) (hand : ibits .and .i64 n 31 = some (q : Int)) (hm : clampP q = m) (hm1 : 1 ≤ m) (hm31 : m ≤ 31) (hq : ¬ (q : Int) < 1) (hq2 : (m : Int) = (q : Int)) (ht : t = min (LL s).length m) (htm : t < m) :
    ACalls Try.prog 4 [.int .i64 n, ofS cI S0] emptyH fun r G' => G' = emptyH ∧ r = .bool true := by
  obtain ⟨hA1, hA2⟩ := send_all ⟨[], m, 0, 0, 0, 0⟩ m (by simp) (LL s)
  simp only [List.nil_append, Int.zero_add] at hA1
  obtain ⟨M, hM⟩ : ∃ M, M = (LL s).take m := ⟨_, rfl⟩
  have hMl : M.length = t := by rw [hM, List.length_take, ht]; omega
  have hA3 : (⟨[], m, 0, 0, 0, 0⟩ : PS).send (LL s) = XS M m (LL s).length 0 := by rw [hA1, hM]; rfl
  have hA4 : (((⟨[], m, 0, 0, 0, 0⟩ : PS).sent (LL s) : Nat) : Int) = (t : Int) := by rw [hA2, ht]
  have hok : (⟨[], m, 0, 0, 0, 0⟩ : PS).ok (LL s).length := by simp only [PS.ok, List.length_nil]; omega
  have c1 : ¬ (q : Int) < (t : Int) := by omega
  have c1' : ¬ (LL s).length < t := by omega
  have c2 : (t : Int) < (q : Int) ∧ ¬ t < (LL s).length := by omega
  refine ACalls.hide fun post hpost => ?_
  refine F4_in (by simp) (by simp) fun hbd => ?_
  repeat' (first
    | refine awp_seqK fun K' hpK => ?_
    | refine awp_block ?_
    | refine awp_condG fun A' B' hpA hpB => ?_
    | refine useK (by with_reducible assumption) ?_
    | refine useP (by with_reducible assumption) ?_
    | refine ED_cons (fun _ => ?_) ?_
    | (refine stable_mk ?_; simp (disch := first | (with_reducible assumption) | (simp; done) | omega | (simp; omega)) [hc, aslc_hi (f := cI), hS, hand, hq, c1, c1', c2]; done)
    | (refine stable_no ?_; simp (disch := first | (with_reducible assumption) | (simp; done) | omega | (simp; omega)) [hc, aslc_hi (f := cI), hS, hand, hq, c1, c1', c2]; done)
    | (with_reducible refine And.intro ?_ ?_)
    | (with_reducible intro hc; try (exfalso; omega))
    | (with_reducible refine GDsplit (fun hc => ?_) (fun hc => ?_) <;> try simp [hc])
    | (with_reducible refine GDsplitN (fun hc => ?_) (fun hc => ?_) <;> try simp [hc])
    | (with_reducible refine GDsplitNB (fun hc => ?_) (fun hc => ?_) <;> try simp [hc])
    | (with_reducible refine GDsplitB (fun hc => ?_) (fun hc => ?_) <;> try simp [hc])
    | (with_reducible refine GKsplit (fun hc => ?_) (fun hc => ?_) <;> try simp [hc])
    | (with_reducible refine GKsplitN (fun hc => ?_) (fun hc => ?_) <;> try simp [hc])
    | (with_reducible refine GKsplitNB (fun hc => ?_) (fun hc => ?_) <;> try simp [hc])
    | (with_reducible refine GKsplitB (fun hc => ?_) (fun hc => ?_) <;> try simp [hc])
    | (refine CallK.use (pnewE hm) ?_; rintro r G' _ _ ⟨pb, rfl, hp⟩)
    | (refine CallK.use (psendE hp hok (by omega) hA3 hA4) ?_; rintro r G' _ _ ⟨hp, rfl⟩)
    | simp (disch := first | (with_reducible assumption) | (simp; done) | omega | (simp; omega)) [hc, aslc_hi (f := cI), hS, hand, hq, c1, c1', c2])
  refine awp_loop' (fun w T G' => ∃ k : Nat, k + w = t ∧ PipeH pb G' (XS M m (LL s).length k) ∧ T = ofL [(1, ofS cI s), (5, .ptr pb 0), (6, .int .i64 t), (7, .int .i64 k)]) t ⟨0, by omega, hp, rfl⟩ ?_
  rintro w T G' ⟨k, hk, hpk, rfl⟩ N hN
  by_cases hkt : k < t
  · obtain ⟨e1, e2, e3⟩ := XS_take (M := M) (m := m) (len := (LL s).length) (k := k) (by omega)
    have hkl : k < (LL s).length := by omega
    have e4 : M[k]'(by omega) = (LL s)[k] := by simp only [hM, List.getElem_take]
    rw [e4] at e2
    repeat' (first
      | refine awp_seqK fun K' hpK => ?_
      | refine awp_block ?_
      | refine awp_condG fun A' B' hpA hpB => ?_
      | refine useK (by with_reducible assumption) ?_
      | refine useP (by with_reducible assumption) ?_
      | refine ED_cons (fun _ => ?_) ?_
      | (refine stable_mk ?_; simp (disch := first | (with_reducible assumption) | (simp; done) | omega | (simp; omega)) [hkt, hkl, ofS_idx (f := cI), cI]; done)
      | (refine stable_no ?_; simp (disch := first | (with_reducible assumption) | (simp; done) | omega | (simp; omega)) [hkt, hkl, ofS_idx (f := cI), cI]; done)
      | (with_reducible refine And.intro ?_ ?_)
      | (with_reducible intro hc; try (exfalso; omega))
      | (with_reducible refine GDsplit (fun hc => ?_) (fun hc => ?_) <;> try simp [hc])
      | (with_reducible refine GDsplitN (fun hc => ?_) (fun hc => ?_) <;> try simp [hc])
      | (with_reducible refine GDsplitNB (fun hc => ?_) (fun hc => ?_) <;> try simp [hc])
      | (with_reducible refine GDsplitB (fun hc => ?_) (fun hc => ?_) <;> try simp [hc])
      | (with_reducible refine GKsplit (fun hc => ?_) (fun hc => ?_) <;> try simp [hc])
      | (with_reducible refine GKsplitN (fun hc => ?_) (fun hc => ?_) <;> try simp [hc])
      | (with_reducible refine GKsplitNB (fun hc => ?_) (fun hc => ?_) <;> try simp [hc])
      | (with_reducible refine GKsplitB (fun hc => ?_) (fun hc => ?_) <;> try simp [hc])
      | (refine CallK.use (ptakeE hpk (XS_ok (by omega) (by omega) hm1 hm31 hl) e1 e2 e3) ?_; rintro r G' _ _ ⟨hp1, rfl⟩)
      | simp (disch := first | (with_reducible assumption) | (simp; done) | omega | (simp; omega)) [hkt, hkl, ofS_idx (f := cI), cI])
    exact hN (w - 1) _ _ (by omega) ⟨k + 1, by omega, hp1, by simp⟩
  · have hkm : k = M.length := by omega
    subst hkm
    obtain ⟨e1, e2⟩ := XS_end (M := M) (m := m) (len := (LL s).length)
    have hlen : (XS M m (LL s).length M.length).L.length = 0 := by unfold XS; simp
    have hpl := fun G hp => plen_c (pb := pb) (G := G) (x := XS M m (LL s).length M.length) hp
    simp only [hlen] at hpl
    repeat' (first
      | refine awp_seqK fun K' hpK => ?_
      | refine awp_block ?_
      | refine awp_condG fun A' B' hpA hpB => ?_
      | refine useK (by with_reducible assumption) ?_
      | refine useP (by with_reducible assumption) ?_
      | refine ED_cons (fun _ => ?_) ?_
      | (refine stable_mk ?_; simp (disch := first | (with_reducible assumption) | (simp; done) | omega | (simp; omega)) [hkt]; done)
      | (refine stable_no ?_; simp (disch := first | (with_reducible assumption) | (simp; done) | omega | (simp; omega)) [hkt]; done)
      | (with_reducible refine And.intro ?_ ?_)
      | (with_reducible intro hc; try (exfalso; omega))
      | (with_reducible refine GDsplit (fun hc => ?_) (fun hc => ?_) <;> try simp [hc])
      | (with_reducible refine GDsplitN (fun hc => ?_) (fun hc => ?_) <;> try simp [hc])
      | (with_reducible refine GDsplitNB (fun hc => ?_) (fun hc => ?_) <;> try simp [hc])
      | (with_reducible refine GDsplitB (fun hc => ?_) (fun hc => ?_) <;> try simp [hc])
      | (with_reducible refine GKsplit (fun hc => ?_) (fun hc => ?_) <;> try simp [hc])
      | (with_reducible refine GKsplitN (fun hc => ?_) (fun hc => ?_) <;> try simp [hc])
      | (with_reducible refine GKsplitNB (fun hc => ?_) (fun hc => ?_) <;> try simp [hc])
      | (with_reducible refine GKsplitB (fun hc => ?_) (fun hc => ?_) <;> try simp [hc])
      | (refine CallK.use (ptakeE hpk (XS_ok (by omega) (by omega) hm1 hm31 hl) e1 (v := 0) (b := false) (by rw [e2]; rfl) (by rw [e2]; rfl)) ?_; rintro r G' _ _ ⟨hp1, rfl⟩)
      | (refine CallK.use (hpl _ hp1) ?_; rintro r G' _ _ ⟨rfl, rfl⟩)
      | (refine CallK.use (awake_c _) ?_; rintro r G' _ _ ⟨rfl, rfl⟩)
      | exact ends_drop (by simp <;> rfl) (by simp) (hpost _ _ ⟨rfl, rfl⟩)
      | simp (disch := first | (with_reducible assumption) | (simp; done) | omega | (simp; omega)) [hkt])

set_option maxHeartbeats 2000000 in
theorem orderL_10 {q m t : Nat} {S0 s : Option (List Int)} {n : Int} (hS : S0.map (fun l => l.take 60) = s) (hc : (60 : Int) < (LL S0).length) (hl : (LL s).length ≤ 60) (hand : ibits .and .i64 n 31 = some (q : Int)) (hm : clampP q = m) (hm1 : 1 ≤ m) (hm31 : m ≤ 31) (hq : (q : Int) < 1) (hq2 : (m : Int) = 1) (ht : t = min (LL s).length m) (htm : ¬ t < m) :
    ACalls Try.prog 4 [.int .i64 n, ofS cI S0] emptyH fun r G' => G' = emptyH ∧ r = .bool true := by
  obtain ⟨hA1, hA2⟩ := send_all ⟨[], m, 0, 0, 0, 0⟩ m (by simp) (LL s)
  simp only [List.nil_append, Int.zero_add] at hA1
  obtain ⟨M, hM⟩ : ∃ M, M = (LL s).take m := ⟨_, rfl⟩
  have hMl : M.length = t := by rw [hM, List.length_take, ht]; omega
  have hA3 : (⟨[], m, 0, 0, 0, 0⟩ : PS).send (LL s) = XS M m (LL s).length 0 := by rw [hA1, hM]; rfl
  have hA4 : (((⟨[], m, 0, 0, 0, 0⟩ : PS).sent (LL s) : Nat) : Int) = (t : Int) := by rw [hA2, ht]
  have hok : (⟨[], m, 0, 0, 0, 0⟩ : PS).ok (LL s).length := by simp only [PS.ok, List.length_nil]; omega
  have c1 : ¬ 1 < (t : Int) := by omega
  have c1' : ¬ (LL s).length < t := by omega
  have c2 : ¬ (t : Int) < 1 := by omega
  refine ACalls.hide fun post hpost => ?_
  refine F4_in (by simp) (by simp) fun hbd => ?_
  repeat' (first
    | refine awp_seqK fun K' hpK => ?_
    | refine awp_block ?_
    | refine awp_condG fun A' B' hpA hpB => ?_
    | refine useK (by with_reducible assumption) ?_
    | refine useP (by with_reducible assumption) ?_
    | refine ED_cons (fun _ => ?_) ?_
    | (refine stable_mk ?_; simp (disch := first | (with_reducible assumption) | (simp; done) | omega | (simp; omega)) [hc, aslc_hi (f := cI), hS, hand, hq, c1, c1', c2]; done)
    | (refine stable_no ?_; simp (disch := first | (with_reducible assumption) | (simp; done) | omega | (simp; omega)) [hc, aslc_hi (f := cI), hS, hand, hq, c1, c1', c2]; done)
    | (with_reducible refine And.intro ?_ ?_)
    | (with_reducible intro hc; try (exfalso; omega))
    | (with_reducible refine GDsplit (fun hc => ?_) (fun hc => ?_) <;> try simp [hc])
    | (with_reducible refine GDsplitN (fun hc => ?_) (fun hc => ?_) <;> try simp [hc])
    | (with_reducible refine GDsplitNB (fun hc => ?_) (fun hc => ?_) <;> try simp [hc])
    | (with_reducible refine GDsplitB (fun hc => ?_) (fun hc => ?_) <;> try simp [hc])
    | (with_reducible refine GKsplit (fun hc => ?_) (fun hc => ?_) <;> try simp [hc])
    | (with_reducible refine GKsplitN (fun hc => ?_) (fun hc => ?_) <;> try simp [hc])
    | (with_reducible refine GKsplitNB (fun hc => ?_) (fun hc => ?_) <;> try simp [hc])
    | (with_reducible refine GKsplitB (fun hc => ?_) (fun hc => ?_) <;> try simp [hc])
    | (refine CallK.use (pnewE hm) ?_; rintro r G' _ _ ⟨pb, rfl, hp⟩)
    | (refine CallK.use (psendE hp hok (by omega) hA3 hA4) ?_; rintro r G' _ _ ⟨hp, rfl⟩)
    | simp (disch := first | (with_reducible assumption) | (simp; done) | omega | (simp; omega)) [hc, aslc_hi (f := cI), hS, hand, hq, c1, c1', c2])
  refine awp_loop' (fun w T G' => ∃ k : Nat, k + w = t ∧ PipeH pb G' (XS M m (LL s).length k) ∧ T = ofL [(1, ofS cI s), (5, .ptr pb 0), (6, .int .i64 t), (7, .int .i64 k)]) t ⟨0, by omega, hp, rfl⟩ ?_
  rintro w T G' ⟨k, hk, hpk, rfl⟩ N hN
  by_cases hkt : k < t
  · obtain ⟨e1, e2, e3⟩ := XS_take (M := M) (m := m) (len := (LL s).length) (k := k) (by omega)
    have hkl : k < (LL s).length := by omega
    have e4 : M[k]'(by omega) = (LL s)[k] := by simp only [hM, List.getElem_take]
    rw [e4] at e2
    repeat' (first
      | refine awp_seqK fun K' hpK => ?_
      | refine awp_block ?_
      | refine awp_condG fun A' B' hpA hpB => ?_
      | refine useK (by with_reducible assumption) ?_
      | refine useP (by with_reducible assumption) ?_
      | refine ED_cons (fun _ => ?_) ?_
      | (refine stable_mk ?_; simp (disch := first | (with_reducible assumption) | (simp; done) | omega | (simp; omega)) [hkt, hkl, ofS_idx (f := cI), cI]; done)
      | (refine stable_no ?_; simp (disch := first | (with_reducible assumption) | (simp; done) | omega | (simp; omega)) [hkt, hkl, ofS_idx (f := cI), cI]; done)
      | (with_reducible refine And.intro ?_ ?_)
      | (with_reducible intro hc; try (exfalso; omega))
      | (with_reducible refine GDsplit (fun hc => ?_) (fun hc => ?_) <;> try simp [hc])
      | (with_reducible refine GDsplitN (fun hc => ?_) (fun hc => ?_) <;> try simp [hc])
      | (with_reducible refine GDsplitNB (fun hc => ?_) (fun hc => ?_) <;> try simp [hc])
      | (with_reducible refine GDsplitB (fun hc => ?_) (fun hc => ?_) <;> try simp [hc])
      | (with_reducible refine GKsplit (fun hc => ?_) (fun hc => ?_) <;> try simp [hc])
      | (with_reducible refine GKsplitN (fun hc => ?_) (fun hc => ?_) <;> try simp [hc])
      | (with_reducible refine GKsplitNB (fun hc => ?_) (fun hc => ?_) <;> try simp [hc])
      | (with_reducible refine GKsplitB (fun hc => ?_) (fun hc => ?_) <;> try simp [hc])
      | (refine CallK.use (ptakeE hpk (XS_ok (by omega) (by omega) hm1 hm31 hl) e1 e2 e3) ?_; rintro r G' _ _ ⟨hp1, rfl⟩)
      | simp (disch := first | (with_reducible assumption) | (simp; done) | omega | (simp; omega)) [hkt, hkl, ofS_idx (f := cI), cI])
    exact hN (w - 1) _ _ (by omega) ⟨k + 1, by omega, hp1, by simp⟩
  · have hkm : k = M.length := by omega
    subst hkm
    obtain ⟨e1, e2⟩ := XS_end (M := M) (m := m) (len := (LL s).length)
    have hlen : (XS M m (LL s).length M.length).L.length = 0 := by unfold XS; simp
    have hpl := fun G hp => plen_c (pb := pb) (G := G) (x := XS M m (LL s).length M.length) hp
    simp only [hlen] at hpl
    repeat' (first
      | refine awp_seqK fun K' hpK => ?_
      | refine awp_block ?_
      | refine awp_condG fun A' B' hpA hpB => ?_
      | refine useK (by with_reducible assumption) ?_
      | refine useP (by with_reducible assumption) ?_
      | refine ED_cons (fun _ => ?_) ?_
      | (refine stable_mk ?_; simp (disch := first | (with_reducible assumption) | (simp; done) | omega | (simp; omega)) [hkt]; done)
      | (refine stable_no ?_; simp (disch := first | (with_reducible assumption) | (simp; done) | omega | (simp; omega)) [hkt]; done)
      | (with_reducible refine And.intro ?_ ?_)
      | (with_reducible intro hc; try (exfalso; omega))
      | (with_reducible refine GDsplit (fun hc => ?_) (fun hc => ?_) <;> try simp [hc])
      | (with_reducible refine GDsplitN (fun hc => ?_) (fun hc => ?_) <;> try simp [hc])
      | (with_reducible refine GDsplitNB (fun hc => ?_) (fun hc => ?_) <;> try simp [hc])
      | (with_reducible refine GDsplitB (fun hc => ?_) (fun hc => ?_) <;> try simp [hc])
      | (with_reducible refine GKsplit (fun hc => ?_) (fun hc => ?_) <;> try simp [hc])
      | (with_reducible refine GKsplitN (fun hc => ?_) (fun hc => ?_) <;> try simp [hc])
      | (with_reducible refine GKsplitNB (fun hc => ?_) (fun hc => ?_) <;> try simp [hc])
      | (with_reducible refine GKsplitB (fun hc => ?_) (fun hc => ?_) <;> try simp [hc])
      | (refine CallK.use (ptakeE hpk (XS_ok (by omega) (by omega) hm1 hm31 hl) e1 (v := 0) (b := false) (by rw [e2]; rfl) (by rw [e2]; rfl)) ?_; rintro r G' _ _ ⟨hp1, rfl⟩)
      | (refine CallK.use (hpl _ hp1) ?_; rintro r G' _ _ ⟨rfl, rfl⟩)
      | (refine CallK.use (awake_c _) ?_; rintro r G' _ _ ⟨rfl, rfl⟩)
      | exact ends_drop (by simp <;> rfl) (by simp) (hpost _ _ ⟨rfl, rfl⟩)
      | simp (disch := first | (with_reducible assumption) | (simp; done) | omega | (simp; omega)) [hkt])

set_option maxHeartbeats 2000000 in
theorem orderL_11 {q m t : Nat} {S0 s : Option (List Int)} {n : Int} (hS : S0.map (fun l => l.take 60) = s) (hc : (60 : Int) < (LL S0).length) (hl : (LL s).length ≤ 60) (hand : ibits .and .i64 n 31 = some (q : Int)) (hm : clampP q = m) (hm1 : 1 ≤ m) (hm31 : m ≤ 31) (hq : (q : Int) < 1) (hq2 : (m : Int) = 1) (ht : t = min (LL s).length m) (htm : t < m) :
    ACalls Try.prog 4 [.int .i64 n, ofS cI S0] emptyH fun r G' => G' = emptyH ∧ r = .bool true := by
  obtain ⟨hA1, hA2⟩ := send_all ⟨[], m, 0, 0, 0, 0⟩ m (by simp) (LL s)
  simp only [List.nil_append, Int.zero_add] at hA1
  obtain ⟨M, hM⟩ : ∃ M, M = (LL s).take m := ⟨_, rfl⟩
  have hMl : M.length = t := by rw [hM, List.length_take, ht]; omega
  have hA3 : (⟨[], m, 0, 0, 0, 0⟩ : PS).send (LL s) = XS M m (LL s).length 0 := by rw [hA1, hM]; rfl
  have hA4 : (((⟨[], m, 0, 0, 0, 0⟩ : PS).sent (LL s) : Nat) : Int) = (t : Int) := by rw [hA2, ht]
  have hok : (⟨[], m, 0, 0, 0, 0⟩ : PS).ok (LL s).length := by simp only [PS.ok, List.length_nil]; omega
  have c1 : ¬ 1 < (t : Int) := by omega
  have c1' : ¬ (LL s).length < t := by omega
  have c2 : (t : Int) < 1 ∧ ¬ t < (LL s).length := by omega
  refine ACalls.hide fun post hpost => ?_
  refine F4_in (by simp) (by simp) fun hbd => ?_
  repeat' (first
    | refine awp_seqK fun K' hpK => ?_
    | refine awp_block ?_
    | refine awp_condG fun A' B' hpA hpB => ?_
    | refine useK (by with_reducible assumption) ?_
    | refine useP (by with_reducible assumption) ?_
    | refine ED_cons (fun _ => ?_) ?_
    | (refine stable_mk ?_; simp (disch := first | (with_reducible assumption) | (simp; done) | omega | (simp; omega)) [hc, aslc_hi (f := cI), hS, hand, hq, c1, c1', c2]; done)
    | (refine stable_no ?_; simp (disch := first | (with_reducible assumption) | (simp; done) | omega | (simp; omega)) [hc, aslc_hi (f := cI), hS, hand, hq, c1, c1', c2]; done)
    | (with_reducible refine And.intro ?_ ?_)
    | (with_reducible intro hc; try (exfalso; omega))
    | (with_reducible refine GDsplit (fun hc => ?_) (fun hc => ?_) <;> try simp [hc])
    | (with_reducible refine GDsplitN (fun hc => ?_) (fun hc => ?_) <;> try simp [hc])
    | (with_reducible refine GDsplitNB (fun hc => ?_) (fun hc => ?_) <;> try simp [hc])
    | (with_reducible refine GDsplitB (fun hc => ?_) (fun hc => ?_) <;> try simp [hc])
    | (with_reducible refine GKsplit (fun hc => ?_) (fun hc => ?_) <;> try simp [hc])
    | (with_reducible refine GKsplitN (fun hc => ?_) (fun hc => ?_) <;> try simp [hc])
    | (with_reducible refine GKsplitNB (fun hc => ?_) (fun hc => ?_) <;> try simp [hc])
    | (with_reducible refine GKsplitB (fun hc => ?_) (fun hc => ?_) <;> try simp [hc])
    | (refine CallK.use (pnewE hm) ?_; rintro r G' _ _ ⟨pb, rfl, hp⟩)
    | (refine CallK.use (psendE hp hok (by omega) hA3 hA4) ?_; rintro r G' _ _ ⟨hp, rfl⟩)
    | simp (disch := first | (with_reducible assumption) | (simp; done) | omega | (simp; omega)) [hc, aslc_hi (f := cI), hS, hand, hq, c1, c1', c2])
  refine awp_loop' (fun w T G' => ∃ k : Nat, k + w = t ∧ PipeH pb G' (XS M m (LL s).length k) ∧ T = ofL [(1, ofS cI s), (5, .ptr pb 0), (6, .int .i64 t), (7, .int .i64 k)]) t ⟨0, by omega, hp, rfl⟩ ?_
  rintro w T G' ⟨k, hk, hpk, rfl⟩ N hN
  by_cases hkt : k < t
  · exfalso; omega
  · have hkm : k = M.length := by omega
    subst hkm
    obtain ⟨e1, e2⟩ := XS_end (M := M) (m := m) (len := (LL s).length)
    have hlen : (XS M m (LL s).length M.length).L.length = 0 := by unfold XS; simp
    have hpl := fun G hp => plen_c (pb := pb) (G := G) (x := XS M m (LL s).length M.length) hp
    simp only [hlen] at hpl
    repeat' (first
      | refine awp_seqK fun K' hpK => ?_
      | refine awp_block ?_
      | refine awp_condG fun A' B' hpA hpB => ?_
      | refine useK (by with_reducible assumption) ?_
      | refine useP (by with_reducible assumption) ?_
      | refine ED_cons (fun _ => ?_) ?_
      | (refine stable_mk ?_; simp (disch := first | (with_reducible assumption) | (simp; done) | omega | (simp; omega)) [hkt]; done)
      | (refine stable_no ?_; simp (disch := first | (with_reducible assumption) | (simp; done) | omega | (simp; omega)) [hkt]; done)
      | (with_reducible refine And.intro ?_ ?_)
      | (with_reducible intro hc; try (exfalso; omega))
      | (with_reducible refine GDsplit (fun hc => ?_) (fun hc => ?_) <;> try simp [hc])
      | (with_reducible refine GDsplitN (fun hc => ?_) (fun hc => ?_) <;> try simp [hc])
      | (with_reducible refine GDsplitNB (fun hc => ?_) (fun hc => ?_) <;> try simp [hc])
      | (with_reducible refine GDsplitB (fun hc => ?_) (fun hc => ?_) <;> try simp [hc])
      | (with_reducible refine GKsplit (fun hc => ?_) (fun hc => ?_) <;> try simp [hc])
      | (with_reducible refine GKsplitN (fun hc => ?_) (fun hc => ?_) <;> try simp [hc])
      | (with_reducible refine GKsplitNB (fun hc => ?_) (fun hc => ?_) <;> try simp [hc])
      | (with_reducible refine GKsplitB (fun hc => ?_) (fun hc => ?_) <;> try simp [hc])
      | (refine CallK.use (ptakeE hpk (XS_ok (by omega) (by omega) hm1 hm31 hl) e1 (v := 0) (b := false) (by rw [e2]; rfl) (by rw [e2]; rfl)) ?_; rintro r G' _ _ ⟨hp1, rfl⟩)
      | (refine CallK.use (hpl _ hp1) ?_; rintro r G' _ _ ⟨rfl, rfl⟩)
      | (refine CallK.use (awake_c _) ?_; rintro r G' _ _ ⟨rfl, rfl⟩)
      | exact ends_drop (by simp <;> rfl) (by simp) (hpost _ _ ⟨rfl, rfl⟩)
      | simp (disch := first | (with_reducible assumption) | (simp; done) | omega | (simp; omega)) [hkt])

theorem pipeOrder_c {s : Option (List Int)} {n : Int} (hl : (LL s).length ≤ 60) : ACalls Try.prog 4 [.int .i64 n, ofS cI s] emptyH fun r G' => G' = emptyH ∧ r = .bool true := by
  obtain ⟨q, hq, hand⟩ := and31 n
  obtain ⟨m, hm⟩ : ∃ m : Nat, clampP q = m := ⟨(clampP q).toNat, by unfold clampP; (repeat' split) <;> omega⟩
  have hm1 : 1 ≤ m ∧ m ≤ 31 ∧ ((q : Int) < 1 → m = 1) ∧ (¬ (q : Int) < 1 → m = q) := by unfold clampP at hm; (repeat' split at hm) <;> omega
  obtain ⟨h1, h2, h3, h4⟩ := hm1
  by_cases hq1 : (q : Int) < 1
  · by_cases ht : min (LL s).length m < m
    · exact order_11 (t := min (LL s).length m) hl hand hm h1 h2 hq1 (by have := h3 hq1; omega) rfl ht
    · exact order_10 (t := min (LL s).length m) hl hand hm h1 h2 hq1 (by have := h3 hq1; omega) rfl ht
  · by_cases ht : min (LL s).length m < m
    · exact order_01 (t := min (LL s).length m) hl hand hm h1 h2 hq1 (by have := h4 hq1; omega) rfl ht
    · exact order_00 (t := min (LL s).length m) hl hand hm h1 h2 hq1 (by have := h4 hq1; omega) rfl ht

theorem pipeOrder_l {S0 s : Option (List Int)} {n : Int} (hS : S0.map (fun l => l.take 60) = s) (hc : (60 : Int) < (LL S0).length) (hl : (LL s).length ≤ 60) : ACalls Try.prog 4 [.int .i64 n, ofS cI S0] emptyH fun r G' => G' = emptyH ∧ r = .bool true := by
  obtain ⟨q, hq, hand⟩ := and31 n
  obtain ⟨m, hm⟩ : ∃ m : Nat, clampP q = m := ⟨(clampP q).toNat, by unfold clampP; (repeat' split) <;> omega⟩
  have hm1 : 1 ≤ m ∧ m ≤ 31 ∧ ((q : Int) < 1 → m = 1) ∧ (¬ (q : Int) < 1 → m = q) := by unfold clampP at hm; (repeat' split at hm) <;> omega
  obtain ⟨h1, h2, h3, h4⟩ := hm1
  by_cases hq1 : (q : Int) < 1
  · by_cases ht : min (LL s).length m < m
    · exact orderL_11 (t := min (LL s).length m) hS hc hl hand hm h1 h2 hq1 (by have := h3 hq1; omega) rfl ht
    · exact orderL_10 (t := min (LL s).length m) hS hc hl hand hm h1 h2 hq1 (by have := h3 hq1; omega) rfl ht
  · by_cases ht : min (LL s).length m < m
    · exact orderL_01 (t := min (LL s).length m) hS hc hl hand hm h1 h2 hq1 (by have := h4 hq1; omega) rfl ht
    · exact orderL_00 (t := min (LL s).length m) hS hc hl hand hm h1 h2 hq1 (by have := h4 hq1; omega) rfl ht

/-- the first 60 -/
def cap60 (s : Option (List Int)) : Option (List Int) := s.map fun l => l.take 60
theorem cap60_len (s : Option (List Int)) : (LL (cap60 s)).length ≤ 60 := by
  cases s with
  | none => simp [cap60, LL]
  | some l => simp [cap60, LL]; omega


theorem pipeOrder_all (s : Option (List Int)) (n : Int) : ACalls Try.prog 4 [.int .i64 n, ofS cI s] emptyH fun r G' => G' = emptyH ∧ r = .bool true := by
  by_cases hc : (60 : Int) < (LL s).length
  · exact pipeOrder_l rfl hc (cap60_len s)
  · exact pipeOrder_c (by omega)
theorem pipeOrder_law (z0 : (TD.int .i64).T) (z1 : (TD.slc (.int .i64)).T) (_ : (TD.int .i64).ok z0) (_ : (TD.slc (.int .i64)).ok z1) :
    ACalls Try.prog 4 [(TD.int .i64).av z0, (TD.slc (.int .i64)).av z1] emptyH fun r G' => G' = emptyH ∧ r = .bool true := pipeOrder_all z1 z0
end Go.Proofs.Ytfllkpdhkeiofaa
