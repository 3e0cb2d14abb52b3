import Derived.Test.YtdpppigniaafnaaAl1
import Derived.Test.YtdpppigniaafnaaD3K
set_option linter.unusedSimpArgs false
set_option linter.unusedVariables false
namespace Go.Proofs.Ytdpppigniaafnaa
open Go Go.Al
set_option maxRecDepth 20000

/-- the bits of a number -/
def numL (n : Nat) (v : Int) : List Int := (List.range n).map fun i => v.fdiv (2 ^ (n - 1 - i)) % 2
theorem numL_len (n : Nat) (v : Int) : (numL n v).length = n := by simp [numL]
theorem numL01 (n : Nat) (v : Int) : Bits01 (numL n v) := by
  intro x hx
  obtain ⟨i, _, rfl⟩ := List.mem_map.1 hx
  have : ∀ y : Int, y % 2 = 0 ∨ y % 2 = 1 := by intro y; omega
  exact this _
theorem numL_get (n : Nat) (v : Int) (i : Nat) (h : i < (numL n v).length) : (numL n v)[i] = v.fdiv (2 ^ (n - 1 - i)) % 2 := by simp [numL]

def U64 (l : List Int) : Prop := ∀ v ∈ l, 0 ≤ v ∧ v ≤ 18446744073709551615

theorem shr_u64_bound {v : Int} {k : Nat} (h0 : 0 ≤ v) (h1 : v ≤ 18446744073709551615) : 0 ≤ v.fdiv (2 ^ k) ∧ v.fdiv (2 ^ k) ≤ 18446744073709551615 := by
  refine ⟨Int.fdiv_nonneg h0 (Int.le_of_lt (Int.pow_pos (by omega))), Int.le_trans ?_ h1⟩
  rw [Int.fdiv_eq_ediv_of_nonneg _ (Int.le_of_lt (Int.pow_pos (by omega)))]
  exact Int.ediv_le_self _ h0

theorem flat_lenI {f : Int → List Int} {sz : Nat} (hf : ∀ x, (f x).length = sz) (l : List Int) : (l.flatMap f).length = l.length * sz := by
  induction l with
  | nil => simp
  | cons x l ih => simp [hf, ih, Nat.succ_mul, Nat.add_comm]

/-- what Bits answers -/
def bitsE (n : Int) (m have_ : Nat) : Int := if 1 ≤ n ∧ n ≤ 64 then (if m ≤ 524288 ∧ n * m ≤ 524288 - have_ then 0 else 4) else 1

theorem obits_c {p : AV} {h : Hp} {l : List Int} {n : Int} {s : Option (List Int)} (ho : OutH p h l) (hl : l.length ≤ 524288) (hU : U64 (LL s)) :
    ACalls Try.prog 11 [p, .int .i64 n, ofS cU s] h fun r h' => OutH p h' (if bitsE n (LL s).length l.length = 0 then l ++ (LL s).flatMap (numL n.toNat) else l) ∧ r = .int .i64 (bitsE n (LL s).length l.length) := by
  have ho0 := ho
  obtain ⟨ob, out, bs, rfl, hg, hp⟩ := ho0
  refine ACalls.hide fun post hpost => ?_
  refine F11_in (by simp) (by simp) fun hbd => ?_
  unfold F11
  refine awp_seqH fun K1 hK1 => ?_
  simp (disch := first | (with_reducible assumption) | (simp; done) | omega | (simp; omega)) [F11_r0]
  refine hK1.out _ _ ?_
  refine awp_seqH fun K2 hK2 => ?_
  refine awp_block ?_
  refine awp_seqH fun K3 hK3 => ?_
  simp (disch := first | (with_reducible assumption) | (simp; done) | omega | (simp; omega)) [F11_r1]
  refine hK3.out _ _ ?_
  refine awp_cond (t := false) (by simp) (fun h => by cases h) (fun _ => ?_)
  refine awp_seqH fun K4 hK4 => ?_
  by_cases hn1 : n < 1
  · simp (disch := first | (with_reducible assumption) | (simp; done) | omega | (simp; omega)) [F11_r3, hn1]
    refine hK4.out _ _ ?_
    refine awp_cond (t := true) (by simp) (fun _ => ?_) (fun h => by cases h)
    refine awp_seqH fun K5 hK5 => ?_
    simp (disch := first | (with_reducible assumption) | (simp; done) | omega | (simp; omega)) [F11_r4]
    refine hK5.out _ _ ?_
    have e : bitsE n (LL s).length l.length = 1 := by unfold bitsE; rw [if_neg (by omega)]
    rw [e] at hpost
    exact ends_one (by simp <;> rfl) (by simp) (hpost _ _ ⟨by simpa using ho, rfl⟩)
  by_cases hn2 : 64 < n
  · simp (disch := first | (with_reducible assumption) | (simp; done) | omega | (simp; omega)) [F11_r3, hn1, hn2]
    refine hK4.out _ _ ?_
    refine awp_cond (t := true) (by simp) (fun _ => ?_) (fun h => by cases h)
    refine awp_seqH fun K5 hK5 => ?_
    simp (disch := first | (with_reducible assumption) | (simp; done) | omega | (simp; omega)) [F11_r4]
    refine hK5.out _ _ ?_
    have e : bitsE n (LL s).length l.length = 1 := by unfold bitsE; rw [if_neg (by omega)]
    rw [e] at hpost
    exact ends_one (by simp <;> rfl) (by simp) (hpost _ _ ⟨by simpa using ho, rfl⟩)
  simp (disch := first | (with_reducible assumption) | (simp; done) | omega | (simp; omega)) [F11_r3, hn1, hn2]
  refine hK4.out _ _ ?_
  refine awp_cond (t := false) (by simp) (fun h => by cases h) (fun _ => ?_)
  obtain ⟨m, rfl⟩ := Int.eq_ofNat_of_zero_le (show 0 ≤ n by omega)
  refine awp_seqH fun K5 hK5 => ?_
  by_cases hs1 : (524288 : Int) < ((LL s).length : Int)
  · simp (disch := first | (with_reducible assumption) | (simp; done) | omega | (simp; omega)) [F11_r5, hs1]
    refine hK5.out _ _ ?_
    refine awp_cond (t := true) (by simp) (fun _ => ?_) (fun h => by cases h)
    refine awp_seqH fun K6 hK6 => ?_
    simp (disch := first | (with_reducible assumption) | (simp; done) | omega | (simp; omega)) [F11_r6]
    refine hK6.out _ _ ?_
    have e : bitsE m (LL s).length l.length = 4 := by unfold bitsE; rw [if_pos (by omega), if_neg (by omega)]
    rw [e] at hpost
    exact ends_one (by simp <;> rfl) (by simp) (hpost _ _ ⟨by simpa using ho, rfl⟩)
  have hmul : (m : Int) * ((LL s).length : Int) ≤ 33554432 := by
    have h1 : m * (LL s).length ≤ 64 * 524288 := Nat.mul_le_mul (by omega) (by omega)
    have h2 : ((m * (LL s).length : Nat) : Int) ≤ 33554432 := by omega
    rwa [Int.natCast_mul] at h2
  have hmul0 : (0 : Int) ≤ (m : Int) * ((LL s).length : Int) := by
    have h2 : (0 : Int) ≤ ((m * (LL s).length : Nat) : Int) := by omega
    rwa [Int.natCast_mul] at h2
  simp (disch := first | (with_reducible assumption) | (simp; done) | omega | (simp; omega)) [F11_r5, hs1]
  refine CallK.use (room_c ho (by omega)) ?_
  rintro r G' hbd2 hpl ⟨rfl, rfl⟩
  simp (disch := first | (with_reducible assumption) | (simp; done) | omega | (simp; omega)) []
  refine hK5.out _ _ ?_
  refine awp_cond (t := !decide ((m : Int) * ((LL s).length : Int) ≤ 524288 - (l.length : Int))) (by simp) (fun hm => ?_) (fun hm => ?_)
  · have hm : ¬ ((m : Int) * ((LL s).length : Int) ≤ 524288 - (l.length : Int)) := by simpa using hm
    refine awp_seqH fun K6 hK6 => ?_
    simp (disch := first | (with_reducible assumption) | (simp; done) | omega | (simp; omega)) [F11_r6]
    refine hK6.out _ _ ?_
    have e : bitsE m (LL s).length l.length = 4 := by unfold bitsE; rw [if_pos (by omega), if_neg (by omega)]
    rw [e] at hpost
    exact ends_one (by simp <;> rfl) (by simp) (hpost _ _ ⟨by simpa using ho, rfl⟩)
  have hm : ((m : Int) * ((LL s).length : Int) ≤ 524288 - (l.length : Int)) := by simpa using hm
  have e : bitsE m (LL s).length l.length = 0 := by unfold bitsE; rw [if_pos (by omega), if_pos (by omega)]
  rw [e] at hpost
  have hmN : l.length + (LL s).length * m ≤ 524288 := by
    have : ((m * (LL s).length : Nat) : Int) ≤ 524288 - (l.length : Int) := by rw [Int.natCast_mul]; exact hm
    rw [Nat.mul_comm]; omega
  clear hm hmul hmul0 e
  simp (disch := first | (with_reducible assumption) | (simp; done) | omega | (simp; omega)) []
  refine hK2.out _ _ ?_
  refine awp_seqH fun K6 hK6 => ?_
  refine awp_seqH fun K7 hK7 => ?_
  simp (disch := first | (with_reducible assumption) | (simp; done) | omega | (simp; omega)) [F11_r7]
  refine hK7.out _ _ ?_
  refine awp_block ?_
  have hpre : ∀ j, ((LL s).take j |>.flatMap (numL m)).length ≤ (LL s).length * m := fun j => by
    rw [flat_lenI (numL_len m)]
    exact Nat.mul_le_mul_right _ (by simp; omega)
  refine awp_loop' (fun n T G' => ∃ j : Nat, j + n = (LL s).length ∧ OutH (.ptr ob 0) G' (l ++ ((LL s).take j).flatMap (numL m)) ∧
    T = ofL [(0, .ptr ob 0), (1, .int .i64 m), (33, ofS cU s), (34, .int .i64 (LL s).length), (35, .int .i64 j)]) (LL s).length ⟨0, by omega, by simpa using ho, rfl⟩ ?_
  rintro n T G' ⟨j, hj, hoj, rfl⟩ N hN
  unfold F11_l1
  refine awp_seqH fun K8 hK8 => ?_
  simp (disch := first | (with_reducible assumption) | (simp; done) | omega | (simp; omega)) [F11_r8]
  refine hK8.out _ _ ?_
  refine awp_seqH fun K8 hK8 => ?_
  refine awp_cond (t := decide (j < (LL s).length)) (by simp) (fun ht => ?_) (fun hf => ?_)
  · have hjl : j < (LL s).length := by simpa using ht
    simp (disch := first | (with_reducible assumption) | (simp; done) | omega | (simp; omega)) []
    refine hK8.out _ _ ?_
    refine awp_seqH fun K9 hK9 => ?_
    refine awp_block ?_
    refine awp_seqH fun K10 hK10 => ?_
    simp (disch := first | (with_reducible assumption) | (simp; done) | omega | (simp; omega)) [F11_r9, ofS_idx (f := cU), cU]
    refine hK10.out _ _ ?_
    have hv := hU _ (List.getElem_mem hjl)
    have hpj := hpre (j + 1)
    rw [take_succ_get _ _ hjl, List.flatMap_append] at hpj
    have hdone : ∀ G', OutH (.ptr ob 0) G' (l ++ ((LL s).take (j + 1)).flatMap (numL m)) → N (ofL [(0, .ptr ob 0), (1, .int .i64 m), (33, ofS cU s), (34, .int .i64 (LL s).length), (35, .int .i64 (j + 1 : Nat))]) G' :=
      fun G' ho' => hN (n - 1) _ _ (by omega) ⟨j + 1, by omega, ho', rfl⟩
    rw [take_succ_get _ _ hjl, List.flatMap_append] at hdone
    generalize hvd : (LL s)[j] = v at *
    generalize hpd : ((LL s).take j).flatMap (numL m) = pre at *
    simp only [List.flatMap_cons, List.flatMap_nil, List.append_nil] at hpj hdone
    simp only [List.length_append, numL_len] at hpj
    refine awp_seqH fun K10 hK10 => ?_
    simp (disch := first | (with_reducible assumption) | (simp; done) | omega | (simp; omega)) [F11_r10]
    refine hK10.out _ _ ?_
    refine awp_block ?_
    refine awp_loop' (fun n T G' => ∃ i : Nat, i + n = m ∧ OutH (.ptr ob 0) G' (l ++ (pre ++ (numL m v).take i)) ∧
      T = ofL [(0, .ptr ob 0), (1, .int .i64 m), (8, .int .u64 v), (9, .int .i64 ((m : Int) - 1 - i)), (33, ofS cU s), (34, .int .i64 (LL s).length), (35, .int .i64 j)]) m ⟨0, by omega, by simpa using hoj, by simp⟩ ?_
    rintro n2 T G2 ⟨i, hi, hoi, rfl⟩ N2 hN2
    unfold F11_l0
    refine awp_seqH fun K11 hK11 => ?_
    refine awp_seqH fun K12 hK12 => ?_
    simp (disch := first | (with_reducible assumption) | (simp; done) | omega | (simp; omega)) [F11_r11]
    refine hK12.out _ _ ?_
    refine awp_cond (t := decide (0 ≤ (m : Int) - 1 - i)) (by simp) (fun ht2 => ?_) (fun hf2 => ?_)
    · have him : i < m := by have : 0 ≤ (m : Int) - 1 - i := by simpa using ht2
                             omega
      simp (disch := first | (with_reducible assumption) | (simp; done) | omega | (simp; omega)) []
      refine hK11.out _ _ ?_
      refine awp_seqH fun K12 hK12 => ?_
      refine awp_block ?_
      have hk : ((m : Int) - 1 - i).toNat = m - 1 - i := by omega
      obtain ⟨b1, b2⟩ := shr_u64_bound (k := m - 1 - i) hv.1 hv.2
      have hb01 : v.fdiv (2 ^ (m - 1 - i)) % 2 = 0 ∨ v.fdiv (2 ^ (m - 1 - i)) % 2 = 1 := by omega
      have hnl : i < (numL m v).length := by rw [numL_len]; exact him
      have hng := numL_get m v i hnl
      generalize hbd : v.fdiv (2 ^ (m - 1 - i)) % 2 = b at *
      simp (disch := first | (with_reducible assumption) | (simp; done) | omega | (simp; omega)) [F11_r13, conv, hk, and1_u64, hbd]
      refine CallK.use (put_c hoi (by simp; omega) hb01) ?_
      intro r3 G3 _ _ ho3
      simp (disch := first | (with_reducible assumption) | (simp; done) | omega | (simp; omega)) []
      refine hK12.out _ _ ?_
      simp (disch := first | (with_reducible assumption) | (simp; done) | omega | (simp; omega)) [F11_r12]
      refine hN2 (n2 - 1) _ _ (by omega) ⟨i + 1, by omega, ?_, ?_⟩
      · rw [take_succ_get _ _ hnl, hng]
        simpa using ho3
      · congr 5
        simp; omega
    · have him : ¬ i < m := by have : ¬ 0 ≤ (m : Int) - 1 - i := by simpa using hf2
                               omega
      simp (disch := first | (with_reducible assumption) | (simp; done) | omega | (simp; omega)) []
      refine hK9.out _ _ ?_
      simp (disch := first | (with_reducible assumption) | (simp; done) | omega | (simp; omega)) [F11_r14]
      have := hdone G2 (by
        have e : (numL m v).take i = numL m v := List.take_of_length_le (by rw [numL_len]; omega)
        rw [e] at hoi; exact hoi)
      simpa using this
  · have hjl : ¬ j < (LL s).length := by simpa using hf
    simp (disch := first | (with_reducible assumption) | (simp; done) | omega | (simp; omega)) []
    refine hK6.out _ _ ?_
    refine awp_seqH fun K9 hK9 => ?_
    simp (disch := first | (with_reducible assumption) | (simp; done) | omega | (simp; omega)) [F11_r15]
    refine hK9.out _ _ ?_
    refine ends_one (by simp <;> rfl) (by simp) (hpost _ _ ⟨?_, rfl⟩)
    rw [List.take_of_length_le (by omega)] at hoj
    simpa using hoj
end Go.Proofs.Ytdpppigniaafnaa
