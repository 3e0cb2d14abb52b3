import Derived.Test.YtfllkpdhkeiofaaAl1
import Derived.Test.YtfllkpdhkeiofaaC1K
import Derived.Test.YtfllkpdhkeiofaaC2K
import Derived.Test.YtfllkpdhkeiofaaC3K
set_option linter.unusedSimpArgs false
set_option linter.unusedVariables false
namespace Go.Proofs.Ytfllkpdhkeiofaa
open Go Go.Al
set_option maxRecDepth 20000

/-- the document's pipe -/
structure RPipe where
  L : Option (List Int)
  most : Int
  sent : Int
  came : Int
  twice : Int
  lost : Int

def RPipe.av (p : RPipe) : AV := .agg [ofS cI p.L, .int .i64 p.most, .int .i64 p.sent, .int .i64 p.came, .int .i64 p.twice, .int .i64 p.lost]

theorem has_c {p : RPipe} {i : Int} {G : Hp} : ACalls Try.prog 26 [p.av, .int .i64 i] G fun r G' => G' = G ∧ r = .bool (decide (0 ≤ i ∧ i < (LL p.L).length)) := by
  refine F26_in (by simp [RPipe.av]) (by simp) fun hb => ?_
  unfold F26
  refine awp_seqH fun K1 hK1 => ?_
  simp (disch := first | (with_reducible assumption) | (simp; done) | omega | (simp; omega)) [F26_r0, RPipe.av]
  refine hK1.out _ _ ?_
  refine awp_seqH fun K2 hK2 => ?_
  by_cases h0 : 0 ≤ i
  · simp (disch := first | (with_reducible assumption) | (simp; done) | omega | (simp; omega)) [F26_r1, h0]
    refine hK2.out _ _ (ends_one (by simp; rfl) (by simp) ⟨rfl, by simp [h0]⟩)
  · simp (disch := first | (with_reducible assumption) | (simp; done) | omega | (simp; omega)) [F26_r1, h0]
    refine hK2.out _ _ (ends_one (by simp; rfl) (by simp) ⟨rfl, by simp [h0]⟩)

/- Cut -/
def cutL (l : List Int) (i : Int) (k : Nat) : List Int := match l with
  | [] => []
  | x :: r => if (k : Int) = i then cutL r i (k + 1) else x :: cutL r i (k + 1)

theorem cutL_len (l : List Int) (i : Int) (k : Nat) : (cutL l i k).length ≤ l.length := by
  induction l generalizing k with
  | nil => simp [cutL]
  | cons x r ih =>
    simp only [cutL]
    split
    · exact Nat.le_trans (ih _) (by simp)
    · simpa using ih (k + 1)

theorem cut_c {s : Option (List Int)} {i : Int} {G : Hp} (hl : (LL s).length ≤ 1000000) : ACalls Try.prog 32 [ofS cI s, .int .i64 i] G fun r G' => G' = G ∧ ∃ s', r = ofS cI s' ∧ LL s' = cutL (LL s) i 0 := by
  refine ACalls.hide fun post hpost => ?_
  refine F32_in (by simp) (by simp) fun hb => ?_
  unfold F32
  refine awp_seqH fun K1 hK1 => ?_
  simp (disch := first | (with_reducible assumption) | (simp; done) | omega | (simp; omega)) [F32_r0]
  refine hK1.out _ _ ?_
  refine awp_seqH fun K2 hK2 => ?_
  simp (disch := first | (with_reducible assumption) | (simp; done) | omega | (simp; omega)) [F32_r1, ofV]
  refine hK2.out _ _ ?_
  refine awp_seqH fun K3 hK3 => ?_
  refine awp_seqH fun K4 hK4 => ?_
  simp (disch := first | (with_reducible assumption) | (simp; done) | omega | (simp; omega)) [F32_r2]
  refine hK4.out _ _ ?_
  refine awp_block ?_
  refine awp_loop' (fun n T G' => ∃ (k : Nat) (out : AV) (acc : List Int), k + n = (LL s).length ∧ Grow cI 1 G G' out acc ∧ acc.length ≤ k ∧ acc ++ cutL ((LL s).drop k) i k = cutL (LL s) i 0 ∧
    T = ofL [(1, .int .i64 i), (5, out), (8, ofS cI s), (9, .int .i64 (LL s).length), (10, .int .i64 k)]) (LL s).length ⟨0, .nils, [], by omega, Grow.nil G 1, by simp, by simp, rfl⟩ ?_
  rintro n T G' ⟨k, out, acc, hk, ha, hak, hac, rfl⟩ N hN
  have hpo := ha.plain
  unfold F32_l0
  refine awp_seqH fun K5 hK5 => ?_
  simp (disch := first | (with_reducible assumption) | (simp; done) | omega | (simp; omega)) [F32_r3]
  refine hK5.out _ _ ?_
  refine awp_seqH fun K6 hK6 => ?_
  refine awp_cond (t := decide (k < (LL s).length)) (by simp) (fun ht => ?_) (fun hf => ?_)
  · have hkl : k < (LL s).length := by simpa using ht
    simp (disch := first | (with_reducible assumption) | (simp; done) | omega | (simp; omega)) []
    refine hK6.out _ _ ?_
    refine awp_seqH fun K7 hK7 => ?_
    refine awp_block ?_
    refine awp_seqH fun K8 hK8 => ?_
    simp (disch := first | (with_reducible assumption) | (simp; done) | omega | (simp; omega)) [F32_r4, ofS_idx (f := cI), cI]
    refine hK8.out _ _ ?_
    refine awp_seqH fun K9 hK9 => ?_
    simp (disch := first | (with_reducible assumption) | (simp; done) | omega | (simp; omega)) [F32_r5]
    refine hK9.out _ _ ?_
    refine awp_cond (t := !decide ((k : Int) = i)) (by simp) (fun ht => ?_) (fun hf => ?_)
    · simp (disch := first | (with_reducible assumption) | (simp; done) | omega | (simp; omega)) [F32_r6]
      refine ⟨hpo, ha.app1 (x := (LL s)[k]) rfl (by simp [cI]) (by simp [LIM]; omega) fun v G2 ha2 => ?_⟩
      have hv := ha2.plain
      simp (disch := first | (with_reducible assumption) | (simp; done) | omega | (simp; omega)) []
      refine hK7.out _ _ ?_
      simp (disch := first | (with_reducible assumption) | (simp; done) | omega | (simp; omega)) [F32_r7]
      have hki : ¬ (k : Int) = i := by simpa using ht
      refine hN (n - 1) _ _ (by omega) ⟨k + 1, v, acc ++ [(LL s)[k]], by omega, ha2, by simp; omega, ?_, by simp⟩
      rw [← hac, List.drop_eq_getElem_cons hkl, cutL, if_neg hki]
      simp
    · simp (disch := first | (with_reducible assumption) | (simp; done) | omega | (simp; omega)) []
      refine hK7.out _ _ ?_
      simp (disch := first | (with_reducible assumption) | (simp; done) | omega | (simp; omega)) [F32_r7]
      have hki : (k : Int) = i := by simpa using hf
      refine hN (n - 1) _ _ (by omega) ⟨k + 1, out, acc, by omega, ha, by omega, ?_, by simp⟩
      rw [← hac, List.drop_eq_getElem_cons hkl, cutL, if_pos hki]
  · simp (disch := first | (with_reducible assumption) | (simp; done) | omega | (simp; omega)) []
    refine hK3.out _ _ ?_
    refine awp_seqH fun K5 hK5 => ?_
    simp (disch := first | (with_reducible assumption) | (simp; done) | omega | (simp; omega)) [F32_r8]
    refine hK5.out _ _ ?_
    have hkl : ¬ k < (LL s).length := by simpa using hf
    refine ha.ends (by simp) cI_plain (by simp) fun s' hs' => hpost _ _ ⟨rfl, s', rfl, ?_⟩
    rw [hs', ← hac, List.drop_of_length_le (by omega)]
    simp [cutL]
end Go.Proofs.Ytfllkpdhkeiofaa
