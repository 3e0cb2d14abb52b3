import Derived.Test.YtdpppigniaafnaaAl1
import Derived.Test.YtdpppigniaafnaaD4K
set_option linter.unusedSimpArgs false
set_option linter.unusedVariables false
namespace Go.Proofs.Ytdpppigniaafnaa
open Go Go.Al
set_option maxRecDepth 20000

/-- a slice of bytes as a part of a row of them -/
def cS (s : Option (List Int)) : List AV := [ofS cB s]
@[simp] theorem cS_len (s : Option (List Int)) : (cS s).length = 1 := by simp only [cS, List.length_cons, List.length_nil]
/-- the bytes that New takes -/
def newB (ps : List (Option (List Int))) : List Int := (ps.flatMap LL).take 65536

theorem take_more {α : Type} (l m : List α) (n : Nat) : (l.take n ++ m.take (n - (l.take n).length)).length ≤ n ∧ l.take n ++ m.take (n - (l.take n).length) = (l ++ m).take n := by
  have e : l.take n ++ m.take (n - (l.take n).length) = (l ++ m).take n := by
    rw [List.take_append]
    by_cases h : l.length ≤ n
    · rw [List.take_of_length_le h]
    · have : (l.take n).length = n := by simp; omega
      rw [this, Nat.sub_self, show n - l.length = 0 by omega]
  exact ⟨by rw [e]; simp; omega, e⟩

theorem new_c {ps : Option (List (Option (List Int)))} (hn : (LL ps).length ≤ 1000000) (hl : ∀ s ∈ LL ps, (LL s).length ≤ 1000000) (hB : ∀ s ∈ LL ps, Bytes (LL s)) :
    ACalls Try.prog 9 [ofS cS ps] emptyH fun r h' => OutH r h' (bitsL (newB (LL ps))) := by
  refine ACalls.hide fun post hpost => ?_
  refine F9_in (by simp) (by simp) fun hbd => ?_
  unfold F9
  refine awp_seqH fun K1 hK1 => ?_
  simp (disch := first | (with_reducible assumption) | (simp; done) | omega | (simp; omega)) [F9_r0]
  refine hK1.out _ _ ?_
  refine awp_seqH fun K2 hK2 => ?_
  simp (disch := first | (with_reducible assumption) | (simp; done) | omega | (simp; omega)) [F9_r1]
  intro ob hob
  refine ⟨0, ?_⟩
  simp (disch := first | (with_reducible assumption) | (simp; done) | omega | (simp; omega)) []
  refine hK2.out _ _ ?_
  refine awp_seqH fun K3 hK3 => ?_
  refine awp_seqH fun K4 hK4 => ?_
  simp (disch := first | (with_reducible assumption) | (simp; done) | omega | (simp; omega)) [F9_r2]
  refine hK4.out _ _ ?_
  refine awp_block ?_
  refine awp_loop' (fun n T G' => ∃ (j : Nat) (out : AV), j + n = (LL ps).length ∧ OutB ob out G' (newB ((LL ps).take j)) 0 ∧
    T = ofL [(3, .ptr ob 0), (8, ofS cS ps), (9, .int .i64 (LL ps).length), (10, .int .i64 j)]) (LL ps).length ⟨0, .nils, by omega, Grow.nil _ _, rfl⟩ ?_
  rintro n T G' ⟨j, out, hj, hg, rfl⟩ N hN
  have hat := hg.at
  have hv := Grow.plain hg
  unfold F9_l0
  refine awp_seqH fun K5 hK5 => ?_
  simp (disch := first | (with_reducible assumption) | (simp; done) | omega | (simp; omega)) [F9_r3]
  refine hK5.out _ _ ?_
  refine awp_seqH fun K5 hK5 => ?_
  refine awp_cond (t := decide (j < (LL ps).length)) (by simp) (fun ht => ?_) (fun hf => ?_)
  · have hjl : j < (LL ps).length := by simpa using ht
    simp (disch := first | (with_reducible assumption) | (simp; done) | omega | (simp; omega)) []
    refine hK5.out _ _ ?_
    refine awp_seqH fun K6 hK6 => ?_
    refine awp_block ?_
    refine awp_seqH fun K7 hK7 => ?_
    simp (disch := first | (with_reducible assumption) | (simp; done) | omega | (simp; omega)) [F9_r4, ofS_idx (f := cS), cS]
    refine hK7.out _ _ ?_
    have hs := hl _ (List.getElem_mem hjl)
    have hsB := hB _ (List.getElem_mem hjl)
    have hnew : newB ((LL ps).take (j + 1)) = newB ((LL ps).take j) ++ (LL (LL ps)[j]).take (65536 - (newB ((LL ps).take j)).length) := by
      unfold newB
      rw [take_succ_get _ _ hjl, List.flatMap_append, (take_more _ _ _).2]
      simp
    have hlen : (newB ((LL ps).take j)).length ≤ 65536 := by unfold newB; simp; omega
    have hdone : ∀ G' out', OutB ob out' G' (newB ((LL ps).take (j + 1))) 0 → N (ofL [(3, .ptr ob 0), (8, ofS cS ps), (9, .int .i64 (LL ps).length), (10, .int .i64 (j + 1 : Nat))]) G' :=
      fun G' out' hg' => hN (n - 1) _ _ (by omega) ⟨j + 1, out', by omega, hg', rfl⟩
    rw [hnew] at hdone
    generalize hbs : newB ((LL ps).take j) = bs at *
    generalize hsd : (LL ps)[j] = s at *
    clear hbs hnew hsd
    have hal := fun {t : TypeId} => Grow.len (P := Try.prog) (t := t) hg
    have fin : ∀ v G2, Grow cB 1 (one ob (0, [out, .int .i64 0])) G2 v (bs ++ (LL s).take (65536 - bs.length)) → K6 (ofL [(3, .ptr ob 0), (8, ofS cS ps), (9, .int .i64 (LL ps).length), (10, .int .i64 j)]) (setH G2 ob (some (0, [v, .int .i64 0]))) := by
      intro v G2 hg2
      refine hK6.out _ _ ?_
      simp (disch := first | (with_reducible assumption) | (simp; done) | omega | (simp; omega)) [F9_r6]
      have hg3 := Grow.set hg2 (one_same ..) (o' := (0, [v, .int .i64 0]))
      rw [setH_one] at hg3
      have := hdone _ v hg3
      simpa using this
    have app : ∀ (k : Nat) (kk : AV → Tm → Hp → Prop) (T : Tm), k ≤ 65536 → (LL s).take k = (LL s).take (65536 - bs.length) →
        (∀ v G2, Grow cB 1 (one ob (0, [out, .int .i64 0])) G2 v (bs ++ (LL s).take (65536 - bs.length)) → kk v T G2) → AppK Try.prog 32 32 out (ofS cB (s.map fun l => l.take k)) G' kk T := by
      intro k kk T hk2 hk3 hkk
      have e : LL (s.map fun l => l.take k) = (LL s).take k := LL_map _ (by simp)
      refine Grow.app (xs := (LL s).take k) hg (by rw [← e]; exact ofS_src (by simp)) (cB_scal _) (by simp [LIM]; omega) fun v G2 hg2 => hkk v G2 (by rw [← hk3]; exact hg2)
    by_cases hc : (65536 : Int) - (bs.length : Int) < ((LL s).length : Int)
    · simp (disch := first | (with_reducible assumption) | (simp; done) | omega | (simp; omega)) [F9_r5, hat, hv, hal, hc, aslc_hi (f := cB)]
      refine app (65536 - bs.length) _ _ (by omega) rfl fun v G2 hg2 => ?_
      have hv2 := hg2.plain
      have hk2 := hg2.known
      have hs2 := hg2.scal
      have hc2 := hg2.cells
      have hat2 := Grow.base hg2 (one_same ..)
      simp (disch := first | (with_reducible assumption) | (simp; done) | omega | (simp; omega)) [hv2, hk2, hs2, hc2, hat2]
      exact fin v G2 hg2
    · simp (disch := first | (with_reducible assumption) | (simp; done) | omega | (simp; omega)) [F9_r5, hat, hv, hal, hc, aslc_hi (f := cB)]
      refine app (LL s).length _ _ (by omega) (by rw [List.take_of_length_le (Nat.le_refl _), List.take_of_length_le (by omega)]) fun v G2 hg2 => ?_
      have hv2 := hg2.plain
      have hk2 := hg2.known
      have hs2 := hg2.scal
      have hc2 := hg2.cells
      have hat2 := Grow.base hg2 (one_same ..)
      simp (disch := first | (with_reducible assumption) | (simp; done) | omega | (simp; omega)) [hv2, hk2, hs2, hc2, hat2]
      exact fin v G2 hg2
  · have hjl : ¬ j < (LL ps).length := by simpa using hf
    rw [List.take_of_length_le (by omega)] at hg
    have hlen : (newB (LL ps)).length ≤ 65536 := by unfold newB; simp; omega
    have hnB : Bytes (newB (LL ps)) := fun x hx => by
      obtain ⟨s, hs, hx⟩ := List.mem_flatMap.1 (List.mem_of_mem_take hx)
      exact hB s hs x hx
    have hal := fun {t : TypeId} => Grow.len (P := Try.prog) (t := t) hg
    simp (disch := first | (with_reducible assumption) | (simp; done) | omega | (simp; omega)) []
    refine hK3.out _ _ ?_
    refine awp_seqH fun K6 hK6 => ?_
    simp (disch := first | (with_reducible assumption) | (simp; done) | omega | (simp; omega)) [F9_r7, hat, hv, hal]
    refine hK6.out _ _ ?_
    refine awp_seqH fun K7 hK7 => ?_
    simp (disch := first | (with_reducible assumption) | (simp; done) | omega | (simp; omega)) [F9_r8]
    refine hK7.out _ _ ?_
    refine ends_one (by simp <;> rfl) (by simp) (hpost _ _ ⟨ob, out, newB (LL ps), rfl, ?_, Packed.full hnB⟩)
    have hg3 := Grow.set hg (one_same ..) (o' := (0, [out, .int .i64 (8 * (newB (LL ps)).length)]))
    rw [setH_one] at hg3
    unfold OutB
    rw [bitsL_len]
    simpa using hg3
end Go.Proofs.Ytdpppigniaafnaa
