import Derived.Test.YtdpppigniaafnaaAl1
import Derived.Test.YtdpppigniaafnaaD1K
set_option linter.unusedSimpArgs false
set_option linter.unusedVariables false
namespace Go.Proofs.Ytdpppigniaafnaa
open Go Go.Al
set_option maxRecDepth 20000

theorem val_c {s : Option (List Int)} {G : Hp} (h01 : Bits01 (LL s)) (hl : (LL s).length ≤ 64) : ACalls Try.prog 15 [ofS cI s] G fun r G' => G' = G ∧ r = .int .u64 (valL (LL s)) := by
  refine ACalls.hide fun post hpost => ?_
  refine F15_in (by simp) (by simp) fun hb => ?_
  unfold F15
  refine awp_seqH fun K1 hK1 => ?_
  simp (disch := first | (with_reducible assumption) | (simp; done) | omega | (simp; omega)) [F15_r0]
  refine hK1.out _ _ ?_
  refine awp_seqH fun K2 hK2 => ?_
  simp (disch := first | (with_reducible assumption) | (simp; done) | omega | (simp; omega)) [F15_r1]
  refine hK2.out _ _ ?_
  refine awp_seqH fun K3 hK3 => ?_
  refine awp_seqH fun K4 hK4 => ?_
  simp (disch := first | (with_reducible assumption) | (simp; done) | omega | (simp; omega)) [F15_r2]
  refine hK4.out _ _ ?_
  refine awp_block ?_
  refine awp_loop' (fun n T G' => ∃ k : Nat, k + n = (LL s).length ∧ G' = G ∧ T = ofL [(3, .int .u64 (valL ((LL s).take k))), (6, ofS cI s), (7, .int .i64 (LL s).length), (8, .int .i64 k)]) (LL s).length ⟨0, by omega, rfl, rfl⟩ ?_
  rintro n T G' ⟨k, hk, rfl, rfl⟩ N hN
  unfold F15_l0
  refine awp_seqH fun K5 hK5 => ?_
  simp (disch := first | (with_reducible assumption) | (simp; done) | omega | (simp; omega)) [F15_r3]
  refine hK5.out _ _ ?_
  refine awp_seqH fun K6 hK6 => ?_
  refine awp_cond (t := decide (k < (LL s).length)) (by simp) (fun ht => ?_) (fun hf => ?_)
  · have hkl : k < (LL s).length := by simpa using ht
    have hx := h01 _ (List.getElem_mem hkl)
    have hv := valL_bound _ (h01.take (k + 1))
    have hv2 := valL_lt _ (h01.take (k + 1)) (n := 64) (by simp; omega)
    have hvk := valL_bound _ (h01.take k)
    rw [take_succ_get _ _ hkl, valL_snoc] at hv hv2
    have h64 : (2 : Int) ^ 64 = 18446744073709551616 := by decide
    rw [h64] at hv2
    generalize hvd : valL ((LL s).take k) = v at *
    simp (disch := first | (with_reducible assumption) | (simp; done) | omega | (simp; omega)) []
    refine hK6.out _ _ ?_
    refine awp_seqH fun K7 hK7 => ?_
    refine awp_block ?_
    refine awp_seqH fun K8 hK8 => ?_
    simp (disch := first | (with_reducible assumption) | (simp; done) | omega | (simp; omega)) [F15_r4, ofS_idx (f := cI), cI]
    refine hK8.out _ _ ?_
    generalize hxd : (LL s)[k] = x at *
    simp (disch := first | (with_reducible assumption) | (simp; done) | omega | (simp; omega)) [F15_r5, conv]
    refine hK7.out _ _ ?_
    simp (disch := first | (with_reducible assumption) | (simp; done) | omega | (simp; omega)) [F15_r6]
    refine hN (n - 1) _ _ (by omega) ⟨k + 1, by omega, rfl, ?_⟩
    rw [take_succ_get _ _ hkl, valL_snoc, hvd, hxd]
    simp
  · have hkl : ¬ k < (LL s).length := by simpa using hf
    simp (disch := first | (with_reducible assumption) | (simp; done) | omega | (simp; omega)) []
    refine hK3.out _ _ ?_
    refine awp_seqH fun K7 hK7 => ?_
    simp (disch := first | (with_reducible assumption) | (simp; done) | omega | (simp; omega)) [F15_r7]
    refine hK7.out _ _ ?_
    refine ends_one (by simp <;> rfl) (by simp) (hpost _ _ ⟨rfl, ?_⟩)
    rw [List.take_of_length_le (by omega)]


theorem shr_bit {bs : List Int} (hB : Bytes bs) {i q r : Nat} (hi : i = 8 * q + r) (hr : r < 8) (hq : q < bs.length) : 0 ≤ (bs[q]).fdiv (2 ^ (7 - r)) ∧ (bs[q]).fdiv (2 ^ (7 - r)) ≤ 255 ∧ (bs[q]).fdiv (2 ^ (7 - r)) % 2 = bitAt bs i := by
  have := hB _ (List.getElem_mem hq)
  have e1 : i / 8 = q := by omega
  have e2 : i % 8 = r := by omega
  have e : (bs.getD (i / 8) 0) = bs[q] := by rw [e1]; simp [List.getD, hq]
  refine ⟨?_, ?_, by rw [bitAt, e, e2]⟩
  · exact Int.fdiv_nonneg this.1 (Int.le_of_lt (Int.pow_pos (by omega)))
  · refine Int.le_trans ?_ this.2
    rw [Int.fdiv_eq_ediv_of_nonneg _ (Int.le_of_lt (Int.pow_pos (by omega)))]
    exact Int.ediv_le_self _ this.1

/-- so many bits as may be asked for -/
def askN (n : Int) : Int := if 1 ≤ n ∧ n ≤ 64 then n else -1

theorem askN_or (n : Int) : askN n = -1 ∨ (1 ≤ askN n ∧ askN n ≤ 64) := by
  unfold askN; split
  · right; assumption
  · left; rfl

theorem hasE_zero {e n m : Int} (h : hasE e n m = 0) : e = 0 ∧ 0 ≤ n ∧ n ≤ m := by
  unfold hasE at h
  split at h
  · split at h
    · omega
    · split at h
      · omega
      · omega
  · contradiction

theorem bits_c {p : AV} {h : Hp} {s : Option (List Int)} {a e n : Int} (hi : InH p h s a e) (h0 : 0 ≤ a) (h1 : a ≤ 8 * (LL s).length) (hl : (LL s).length ≤ 1000000) (hB : Bytes (LL s)) :
    ACalls Try.prog 14 [p, .int .i64 n] h fun r h' => InH p h' s (if hasE e (askN n) (8 * (LL s).length - a) = 0 then a + askN n else a) (hasE e (askN n) (8 * (LL s).length - a)) ∧
      r = .int .u64 (if hasE e (askN n) (8 * (LL s).length - a) = 0 then valL (((bitsL (LL s)).drop a.toNat).take (askN n).toNat) else 0) := by
  have hc := has_c (n := askN n) hi h0 h1 hl
  obtain ⟨ib, rfl, rfl⟩ := hi
  refine ACalls.hide fun post hpost => ?_
  refine F14_in (by simp) (by simp) fun hb => ?_
  unfold F14
  refine awp_seqH fun K1 hK1 => ?_
  simp (disch := first | (with_reducible assumption) | (simp; done) | omega | (simp; omega)) [F14_r0]
  refine hK1.out _ _ ?_
  refine awp_seqH fun K2 hK2 => ?_
  refine awp_seqH fun K3 hK3 => ?_
  have main : ∀ T : Tm, T 0 = .ptr ib 0 → T 1 = .int .i64 (askN n) → K2 T (one ib (0, [ofS cB s, .int .i64 a, .int .i64 e])) := by
    intro T e0 e1
    refine hK2.out _ _ ?_
    refine awp_seqH fun K4 hK4 => ?_
    refine awp_seqH fun K5 hK5 => ?_
    simp (disch := first | (with_reducible assumption) | (simp; done) | omega | (simp; omega)) [F14_r3, e0, e1]
    refine CallK.use hc ?_
    rintro r G' hbd hpl ⟨⟨ib', hib, rfl⟩, rfl⟩
    injection hib with hib; subst hib
    simp (disch := first | (with_reducible assumption) | (simp; done) | omega | (simp; omega)) [e0, e1]
    refine hK5.out _ _ ?_
    generalize hq : hasE e (askN n) (8 * ((LL s).length : Int) - a) = q at *
    refine awp_cond (t := !decide (q = 0)) (by simp) (fun hm => ?_) (fun hm => ?_)
    · have hm : ¬ q = 0 := by simpa using hm
      refine awp_seqH fun K6 hK6 => ?_
      simp (disch := first | (with_reducible assumption) | (simp; done) | omega | (simp; omega)) [F14_r4]
      refine hK6.out _ _ ?_
      exact ends_one (by simp <;> rfl) (by simp) (hpost _ _ ⟨⟨ib, rfl, by simp [hm]⟩, by simp [hm]⟩)
    · have hm : q = 0 := by simpa using hm
      subst hm
      obtain ⟨rfl, hm0, hm1⟩ := hasE_zero hq
      have ham := askN_or n
      generalize hmd : askN n = m at *
      obtain ⟨mm, rfl⟩ := Int.eq_ofNat_of_zero_le hm0
      obtain ⟨aa, rfl⟩ := Int.eq_ofNat_of_zero_le h0
      simp (disch := first | (with_reducible assumption) | (simp; done) | omega | (simp; omega)) []
      refine hK4.out _ _ ?_
      refine awp_seqH fun K6 hK6 => ?_
      simp (disch := first | (with_reducible assumption) | (simp; done) | omega | (simp; omega)) [F14_r5]
      refine hK6.out _ _ ?_
      refine awp_seqH fun K6 hK6 => ?_
      refine awp_seqH fun K7 hK7 => ?_
      simp (disch := first | (with_reducible assumption) | (simp; done) | omega | (simp; omega)) [F14_r6]
      refine hK7.out _ _ ?_
      refine awp_block ?_
      have hU : aa + mm ≤ (bitsL (LL s)).length := by rw [bitsL_len]; omega
      refine awp_loop' (fun n T G' => ∃ k : Nat, k + n = mm ∧ G' = one ib (0, [ofS cB s, .int .i64 (aa + k : Nat), .int .i64 0]) ∧ T = ofL [(0, .ptr ib 0), (5, .int .u64 (valL (((bitsL (LL s)).drop aa).take k))), (16, .int .i64 mm), (17, .int .i64 k)]) mm ⟨0, by omega, rfl, rfl⟩ ?_
      rintro n T G' ⟨k, hk, rfl, rfl⟩ N hN
      unfold F14_l0
      refine awp_seqH fun K8 hK8 => ?_
      simp (disch := first | (with_reducible assumption) | (simp; done) | omega | (simp; omega)) [F14_r7]
      refine hK8.out _ _ ?_
      refine awp_seqH fun K8 hK8 => ?_
      refine awp_cond (t := decide (k < mm)) (by simp) (fun ht => ?_) (fun hf => ?_)
      · have hkl : k < mm := by simpa using ht
        simp (disch := first | (with_reducible assumption) | (simp; done) | omega | (simp; omega)) []
        refine hK8.out _ _ ?_
        refine awp_seqH fun K9 hK9 => ?_
        refine awp_block ?_
        refine awp_seqH fun K10 hK10 => ?_
        obtain ⟨j, hj⟩ : ∃ j, j = aa + k := ⟨_, rfl⟩
        obtain ⟨q, hq8⟩ : ∃ q, q = j / 8 := ⟨_, rfl⟩
        obtain ⟨r, hr8⟩ : ∃ r, r = j % 8 := ⟨_, rfl⟩
        have hd8 : q < (LL s).length := by omega
        obtain ⟨b1, b2, b3⟩ := shr_bit hB (i := j) (q := q) (r := r) (by omega) (by omega) hd8
        have hlen : k < ((bitsL (LL s)).drop aa).length := by simp; omega
        have hget : ((bitsL (LL s)).drop aa)[k] = bitAt (LL s) (aa + k) := by simp [bitsL_get]
        have hvk := valL_bound _ (((bitsL01 (LL s)).drop aa).take k)
        have hv2 := valL_lt _ (((bitsL01 (LL s)).drop aa).take k) (n := 63) (by simp; omega)
        have h63 : (2 : Int) ^ 63 = 9223372036854775808 := by decide
        rw [h63] at hv2
        have hb := bitAt01 (LL s) (aa + k)
        generalize hvd : valL (((bitsL (LL s)).drop aa).take k) = v at *
        rw [← hj] at hget hb
        rw [show ((aa : Int) + (k : Int)) = (j : Int) by omega]
        have d1 : (j : Int).tdiv 8 = (q : Int) := by rw [Int.tdiv_eq_ediv_of_nonneg (by omega)]; omega
        have d2 : (j : Int).tmod 8 = (r : Int) := by rw [Int.tmod_eq_emod_of_nonneg (by omega)]; omega
        have d3 : (7 - (r : Int)).toNat = 7 - r := by omega
        have hr : r < 8 := by omega
        generalize hbd : bitAt (LL s) j = b at *
        simp (disch := first | (with_reducible assumption) | (simp; done) | omega | (simp; omega)) [F14_r8, conv, ofS_idx (f := cB), cB, d1, d2, d3, and1_u8, or2_u64, b3]
        refine hK10.out _ _ ?_
        simp (disch := first | (with_reducible assumption) | (simp; done) | omega | (simp; omega)) [F14_r9]
        refine hK9.out _ _ ?_
        simp (disch := first | (with_reducible assumption) | (simp; done) | omega | (simp; omega)) [F14_r10]
        refine hN (n - 1) _ _ (by omega) ⟨k + 1, by omega, by rw [hj]; rfl, ?_⟩
        rw [take_succ_get _ _ hlen, valL_snoc, hvd, hget]
        simp
      · have hkl : ¬ k < mm := by simpa using hf
        simp (disch := first | (with_reducible assumption) | (simp; done) | omega | (simp; omega)) []
        refine hK6.out _ _ ?_
        refine awp_seqH fun K9 hK9 => ?_
        simp (disch := first | (with_reducible assumption) | (simp; done) | omega | (simp; omega)) [F14_r11]
        refine hK9.out _ _ ?_
        have : k = mm := by omega
        subst this
        refine ends_one (by simp <;> rfl) (by simp) (hpost _ _ ⟨⟨ib, rfl, by simp⟩, by simp⟩)
  by_cases hn : n < 1
  · simp (disch := first | (with_reducible assumption) | (simp; done) | omega | (simp; omega)) [F14_r1, hn]
    refine hK3.out _ _ ?_
    refine awp_cond (t := true) (by simp) (fun _ => ?_) (fun h => by cases h)
    simp (disch := first | (with_reducible assumption) | (simp; done) | omega | (simp; omega)) [F14_r2]
    rw [show askN n = -1 by unfold askN; rw [if_neg (by omega)]] at main
    exact main _ (by simp) (by simp)
  · by_cases hn2 : n ≤ 64
    · simp (disch := first | (with_reducible assumption) | (simp; done) | omega | (simp; omega)) [F14_r1, hn]
      refine hK3.out _ _ ?_
      refine awp_cond (t := false) (by simp; omega) (fun h => by cases h) (fun _ => ?_)
      simp (disch := first | (with_reducible assumption) | (simp; done) | omega | (simp; omega)) []
      rw [show askN n = n by unfold askN; rw [if_pos (by omega)]] at main
      exact main _ (by simp) (by simp)
    · simp (disch := first | (with_reducible assumption) | (simp; done) | omega | (simp; omega)) [F14_r1, hn]
      refine hK3.out _ _ ?_
      refine awp_cond (t := true) (by simp; omega) (fun _ => ?_) (fun h => by cases h)
      simp (disch := first | (with_reducible assumption) | (simp; done) | omega | (simp; omega)) [F14_r2]
      rw [show askN n = -1 by unfold askN; rw [if_neg (by omega)]] at main
      exact main _ (by simp) (by simp)
end Go.Proofs.Ytdpppigniaafnaa
