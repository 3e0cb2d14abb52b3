import Derived.Test.YtdpppigniaafnaaAl1
import Derived.Test.YtdpppigniaafnaaD5K
set_option linter.unusedSimpArgs false
set_option linter.unusedVariables false
namespace Go.Proofs.Ytdpppigniaafnaa
open Go Go.Al
set_option maxRecDepth 20000

/-- the row with the last k bits -/
def numK (n k : Nat) (v : Int) : List Int := List.replicate (n - k) 0 ++ (numL n v).drop (n - k)
theorem numK_len (n k : Nat) (v : Int) : (numK n k v).length = n := by simp [numK, numL_len]
theorem numK_get (n k : Nat) (v : Int) (i : Nat) (h : i < (numK n k v).length) : (numK n k v)[i] = if i < n - k then 0 else v.fdiv (2 ^ (n - 1 - i)) % 2 := by
  simp only [numK, List.getElem_append, List.length_replicate]
  by_cases hi : i < n - k
  · simp [hi]
  · simp only [hi, dite_false, if_false, List.getElem_drop, numL_get]
    rw [show n - 1 - (n - k + (i - (n - k))) = n - 1 - i by omega]
theorem numK_step (n k : Nat) (v : Int) (h : k < n) : (numK n k v).set (n - 1 - k) (v.fdiv (2 ^ k) % 2) = numK n (k + 1) v := by
  refine List.ext_getElem (by simp [numK_len]) fun i h1 h2 => ?_
  have h3 : i < n := by simpa [numK_len] using h1
  rw [List.getElem_set]
  simp only [numK_get]
  by_cases hi : n - 1 - k = i
  · rw [if_pos hi, if_neg (by omega), show n - 1 - i = k by omega]
  · rw [if_neg hi]
    by_cases h4 : i < n - (k + 1)
    · rw [if_pos h4, if_pos (by omega)]
    · rw [if_neg h4, if_neg (by omega)]

theorem zeros_map (n : Nat) : zerosA [AV.int .i64 0] n = (List.replicate n (0 : Int)).map (AV.int .i64) := by
  unfold zerosA
  refine List.ext_getElem (by simp) fun i h1 h2 => ?_
  simp [Nat.mod_one]

theorem num_c {n : Nat} {v : Int} {G : Hp} (hn : n ≤ 64) (h0 : 0 ≤ v) (h1 : v ≤ 18446744073709551615) : ACalls Try.prog 16 [.int .i64 n, .int .u64 v] G fun r G' => G' = G ∧ ∃ s, r = ofS cI s ∧ LL s = numL n v := by
  refine ACalls.hide fun post hpost => ?_
  refine F16_in (by simp) (by simp) fun hbd => ?_
  unfold F16
  refine awp_seqH fun K1 hK1 => ?_
  simp (disch := first | (with_reducible assumption) | (simp; done) | omega | (simp; omega)) [F16_r0]
  refine hK1.out _ _ ?_
  refine awp_seqH fun K2 hK2 => ?_
  simp (disch := first | (with_reducible assumption) | (simp; done) | omega | (simp; omega)) [F16_r1]
  refine ⟨by simp [LIM]; omega, by simp [LIM]; omega, ?_⟩
  intro db hdb
  refine ⟨0, ?_⟩
  simp (disch := first | (with_reducible assumption) | (simp; done) | omega | (simp; omega)) []
  refine hK2.out _ _ ?_
  refine awp_seqH fun K3 hK3 => ?_
  refine awp_seqH fun K4 hK4 => ?_
  simp (disch := first | (with_reducible assumption) | (simp; done) | omega | (simp; omega)) [F16_r2]
  refine hK4.out _ _ ?_
  refine awp_block ?_
  refine awp_loop' (fun m T G' => ∃ k : Nat, k + m = n ∧ G' = setH G db (some (0, (numK n k v).map (AV.int .i64))) ∧
    T = ofL [(1, .int .u64 (v.fdiv (2 ^ k))), (5, .ms db 0 n 1), (6, .int .i64 ((n : Int) - 1 - k))]) n ⟨0, by omega, ?_, by simp⟩ ?_
  · have e : numK n 0 v = List.replicate n 0 := by
      simp [numK, numL_len]
    rw [e]
    simp
  rintro m T G' ⟨k, hk, rfl, rfl⟩ N hN
  have hdv := shr_u64_bound (k := k) h0 h1
  have hd0 := hdv.1
  have hd1 := hdv.2
  unfold F16_l0
  refine awp_seqH fun K5 hK5 => ?_
  refine awp_seqH fun K6 hK6 => ?_
  simp (disch := first | (with_reducible assumption) | (simp; done) | omega | (simp; omega)) [F16_r3]
  refine hK6.out _ _ ?_
  refine awp_cond (t := decide (0 ≤ (n : Int) - 1 - k)) (by simp) (fun ht => ?_) (fun hf => ?_)
  · have hkn : k < n := by have : 0 ≤ (n : Int) - 1 - k := by simpa using ht
                           omega
    have hki : ((n : Int) - 1 - k).toNat = n - 1 - k := by omega
    have hnk := numK_len n k v
    have hstep := numK_step n k v hkn
    have hdiv : (v.fdiv (2 ^ k)).tdiv 2 = v.fdiv (2 ^ (k + 1)) := by
      rw [Int.tdiv_eq_ediv_of_nonneg hd0, Int.fdiv_eq_ediv_of_nonneg _ (Int.le_of_lt (Int.pow_pos (by omega))), Int.fdiv_eq_ediv_of_nonneg _ (Int.le_of_lt (Int.pow_pos (by omega))), Int.pow_succ, Int.ediv_ediv_of_nonneg (Int.le_of_lt (Int.pow_pos (by omega)))]
    have hmod : (v.fdiv (2 ^ k)).tmod 2 = v.fdiv (2 ^ k) % 2 := Int.tmod_eq_emod_of_nonneg hd0
    have hsp := splice_set (k := .i64) (numK n k v) (q := n - 1 - k) (v := v.fdiv (2 ^ k) % 2) (by omega)
    have hd2 := shr_u64_bound (k := k + 1) h0 h1
    have hd3 := hd2.1
    have hd4 := hd2.2
    simp (disch := first | (with_reducible assumption) | (simp; done) | omega | (simp; omega)) []
    refine hK5.out _ _ ?_
    refine awp_seqH fun K7 hK7 => ?_
    refine awp_block ?_
    refine awp_seqH fun K8 hK8 => ?_
    simp (disch := first | (with_reducible assumption) | (simp; done) | omega | (simp; omega)) [F16_r5, conv, hki, hmod, hsp, hstep]
    refine hK8.out _ _ ?_
    simp (disch := first | (with_reducible assumption) | (simp; done) | omega | (simp; omega)) [F16_r6, hdiv]
    refine hK7.out _ _ ?_
    simp (disch := first | (with_reducible assumption) | (simp; done) | omega | (simp; omega)) [F16_r4]
    refine hN (m - 1) _ _ (by omega) ⟨k + 1, by omega, by rw [setH_setH], ?_⟩
    congr 3
    simp; omega
  · have hkn : ¬ k < n := by have : ¬ 0 ≤ (n : Int) - 1 - k := by simpa using hf
                             omega
    have : k = n := by omega
    subst this
    simp (disch := first | (with_reducible assumption) | (simp; done) | omega | (simp; omega)) []
    refine hK3.out _ _ ?_
    refine awp_seqH fun K7 hK7 => ?_
    simp (disch := first | (with_reducible assumption) | (simp; done) | omega | (simp; omega)) [F16_r7]
    refine hK7.out _ _ ?_
    refine ends_frz (b := db) (n := k) (sz := 1) (by simp) (setH_same ..) (by simp [numK_len]) ?_ ?_
    · rw [setH_undo hdb]
      refine hpost _ _ ⟨rfl, some (numL k v), ?_, rfl⟩
      simp [ofS, numL_len, numK, cI_map]
    · intro x hx
      obtain ⟨y, _, rfl⟩ := List.mem_map.1 hx
      simp
end Go.Proofs.Ytdpppigniaafnaa
