import Derived.Test.YtdpppigniaafnaaD8K
import Derived.Test.YtdpppigniaafnaaAl2
set_option linter.unusedSimpArgs false
set_option linter.unusedVariables false
namespace Go.Proofs.Ytdpppigniaafnaa
open Go Go.Al
set_option maxRecDepth 20000
attribute [local irreducible] awp aops aopsD eop pv ACalls CallK AppK AEnds ti

/- Of: the bits of bytes -/
def WL : List Int := [128, 64, 32, 16, 8, 4, 2, 1]
theorem WL_get (j : Nat) (h : j < WL.length) : WL[j] = ((2 ^ (7 - j) : Nat) : Int) := by
  have h : j < 8 := h
  have c : j = 0 ∨ j = 1 ∨ j = 2 ∨ j = 3 ∨ j = 4 ∨ j = 5 ∨ j = 6 ∨ j = 7 := by omega
  rcases c with rfl | rfl | rfl | rfl | rfl | rfl | rfl | rfl <;> rfl
theorem byte_bit {c : Int} (h0 : 0 ≤ c) (j : Nat) : (c.tdiv ((2 ^ (7 - j) : Nat) : Int)).tmod 2 = c.fdiv (2 ^ (7 - j)) % 2 := by
  have hp : (0 : Int) ≤ ((2 ^ (7 - j) : Nat) : Int) := Int.natCast_nonneg _
  rw [Int.tdiv_eq_ediv_of_nonneg h0, Int.tmod_eq_emod_of_nonneg (Int.ediv_nonneg h0 hp), Int.fdiv_eq_ediv_of_nonneg _ (Int.le_of_lt (Int.pow_pos (by omega)))]
  simp
theorem byteBits_get (c : Int) (j : Nat) (h : j < (byteBits c).length) : (byteBits c)[j] = c.fdiv (2 ^ (7 - j)) % 2 := by simp [byteBits]

set_option maxHeartbeats 1000000 in
theorem rof_c {s : Option (List Int)} {G : Hp} (hB : Bytes (LL s)) (hl : (LL s).length ≤ 100000) : ACalls Try.prog 24 [ofS cB s] G fun r G' => G' = G ∧ ∃ s', r = ofS cI s' ∧ LL s' = bitsL (LL s) := by
  refine ACalls.hide fun post hpost => ?_
  refine F24_in (by simp) (by simp) fun hbd => ?_
  repeat' (first
    | refine awp_seqK fun K' hpK => ?_
    | refine awp_block ?_
    | refine awp_condG fun A' B' hpA hpB => ?_
    | refine useK (by with_reducible assumption) ?_
    | refine useP (by with_reducible assumption) ?_
    | refine ED_cons (fun _ => ?_) ?_
    | (refine stable_mk ?_; simp (disch := first | (with_reducible assumption) | (simp; done) | omega | (simp; omega)); done)
    | (refine stable_no ?_; simp (disch := first | (with_reducible assumption) | (simp; done) | omega | (simp; omega)); done)
    | (with_reducible refine And.intro ?_ ?_)
    | (with_reducible intro hc)
    | (with_reducible refine GDsplit (fun hc => ?_) (fun hc => ?_) <;> try simp [hc])
    | (with_reducible refine GDsplitN (fun hc => ?_) (fun hc => ?_) <;> try simp [hc])
    | (with_reducible refine GDsplitNB (fun hc => ?_) (fun hc => ?_) <;> try simp [hc])
    | (with_reducible refine GDsplitB (fun hc => ?_) (fun hc => ?_) <;> try simp [hc])
    | (with_reducible refine GKsplit (fun hc => ?_) (fun hc => ?_) <;> try simp [hc])
    | (with_reducible refine GKsplitN (fun hc => ?_) (fun hc => ?_) <;> try simp [hc])
    | (with_reducible refine GKsplitNB (fun hc => ?_) (fun hc => ?_) <;> try simp [hc])
    | (with_reducible refine GKsplitB (fun hc => ?_) (fun hc => ?_) <;> try simp [hc])
    | simp (disch := first | (with_reducible assumption) | (simp; done) | omega | (simp; omega)))
  refine awp_loop' (fun n T G' => ∃ (k : Nat) (out : AV), k + n = (LL s).length ∧ Grow cI 1 G G' out (bitsL ((LL s).take k)) ∧ T = ofL [(3, out), (9, ofS cB s), (10, .int .i64 (LL s).length), (11, .int .i64 k)]) (LL s).length ⟨0, .nils, by omega, by simpa [bitsL] using Grow.nil G 1, by simp⟩ ?_
  rintro n T G' ⟨k, out, hk, hg, rfl⟩ N hN
  have hpo := hg.plain
  by_cases hkl : k < (LL s).length
  · have hc := hB _ (List.getElem_mem hkl)
    have hst : bitsL ((LL s).take (k + 1)) = bitsL ((LL s).take k) ++ byteBits (LL s)[k] := by rw [take_succ_get _ _ hkl, bitsL_snoc]
    have hbl : (bitsL ((LL s).take k)).length ≤ 8 * 100000 := by rw [bitsL_len]; simp; omega
    generalize hcd : (LL s)[k] = c at *
    obtain ⟨hc0, hc1⟩ := hc
    repeat' (first
      | refine awp_seqK fun K' hpK => ?_
      | refine awp_block ?_
      | refine awp_condG fun A' B' hpA hpB => ?_
      | refine useK (by with_reducible assumption) ?_
      | refine useP (by with_reducible assumption) ?_
      | refine ED_cons (fun _ => ?_) ?_
      | (refine stable_mk ?_; simp (disch := first | (with_reducible assumption) | (simp; done) | omega | (simp; omega)) [hpo, hkl, ofS_idx (f := cB), cB, hcd]; done)
      | (refine stable_no ?_; simp (disch := first | (with_reducible assumption) | (simp; done) | omega | (simp; omega)) [hpo, hkl, ofS_idx (f := cB), cB, hcd]; done)
      | (with_reducible refine And.intro ?_ ?_)
      | (with_reducible intro hc; try (exfalso; omega))
      | (with_reducible refine GDsplit (fun hc => ?_) (fun hc => ?_) <;> try simp [hc])
      | (with_reducible refine GDsplitN (fun hc => ?_) (fun hc => ?_) <;> try simp [hc])
      | (with_reducible refine GDsplitNB (fun hc => ?_) (fun hc => ?_) <;> try simp [hc])
      | (with_reducible refine GDsplitB (fun hc => ?_) (fun hc => ?_) <;> try simp [hc])
      | (with_reducible refine GKsplit (fun hc => ?_) (fun hc => ?_) <;> try simp [hc])
      | (with_reducible refine GKsplitN (fun hc => ?_) (fun hc => ?_) <;> try simp [hc])
      | (with_reducible refine GKsplitNB (fun hc => ?_) (fun hc => ?_) <;> try simp [hc])
      | (with_reducible refine GKsplitB (fun hc => ?_) (fun hc => ?_) <;> try simp [hc])
      | simp (disch := first | (with_reducible assumption) | (simp; done) | omega | (simp; omega)) [hpo, hkl, ofS_idx (f := cB), cB, hcd])
    refine awp_loop' (fun n2 T G2 => ∃ (j : Nat) (out : AV), j + n2 = 8 ∧ Grow cI 1 G G2 out (bitsL ((LL s).take k) ++ (byteBits c).take j) ∧ T = ofL [(3, out), (6, .int .i64 c), (9, ofS cB s), (10, .int .i64 (LL s).length), (11, .int .i64 k), (17, ofS cI (some WL)), (18, .int .i64 8), (19, .int .i64 j)]) 8 ⟨0, out, by omega, by simpa using hg, rfl⟩ ?_
    rintro n2 T G2 ⟨j, out, hj, hg, rfl⟩ N2 hN2
    have hpo := hg.plain
    by_cases hj8 : j < 8
    · have hjb : j < (byteBits c).length := by rw [byteBits_len]; exact hj8
      have hbit := byte_bit hc0 j
      have hgt := byteBits_get c j hjb
      have hb01 : (byteBits c)[j] = 0 ∨ (byteBits c)[j] = 1 := by rw [hgt]; omega
      rw [← hgt] at hbit
      generalize hb : (byteBits c)[j] = b at *
      have hjw : j < WL.length := hj8
      have hw : WL[j] = ((2 ^ (7 - j) : Nat) : Int) := WL_get j hj8
      have hpw : ((2 ^ (7 - j) : Nat) : Int) ≠ 0 := by have := Nat.pow_pos (n := 7 - j) (show 0 < 2 by omega); omega
      have hpw1 : 0 < 2 ^ (7 - j) := Nat.pow_pos (by omega)
      generalize hpp : 2 ^ (7 - j) = pw at *
      have hdv : 0 ≤ c.tdiv (pw : Int) ∧ c.tdiv (pw : Int) ≤ c := by
        rw [Int.tdiv_eq_ediv_of_nonneg hc0]; exact ⟨Int.ediv_nonneg hc0 (by omega), Int.ediv_le_self _ hc0⟩
      obtain ⟨hdv0, hdv1⟩ := hdv
      clear hgt hbd
      repeat' (first
        | refine awp_seqK fun K' hpK => ?_
        | refine awp_block ?_
        | refine awp_condG fun A' B' hpA hpB => ?_
        | refine useK (by with_reducible assumption) ?_
        | refine useP (by with_reducible assumption) ?_
        | refine ED_cons (fun _ => ?_) ?_
        | (refine stable_mk ?_; simp (disch := first | (with_reducible assumption) | (simp; done) | omega | (simp; omega)) [hpo, hj8, ofS_idx (f := cI), cI, hw, hbit, hpw]; done)
        | (refine stable_no ?_; simp (disch := first | (with_reducible assumption) | (simp; done) | omega | (simp; omega)) [hpo, hj8, ofS_idx (f := cI), cI, hw, hbit, hpw]; done)
        | (with_reducible refine And.intro ?_ ?_)
        | (with_reducible intro hc; try (exfalso; omega))
        | (with_reducible refine GDsplit (fun hc => ?_) (fun hc => ?_) <;> try simp [hc])
        | (with_reducible refine GDsplitN (fun hc => ?_) (fun hc => ?_) <;> try simp [hc])
        | (with_reducible refine GDsplitNB (fun hc => ?_) (fun hc => ?_) <;> try simp [hc])
        | (with_reducible refine GDsplitB (fun hc => ?_) (fun hc => ?_) <;> try simp [hc])
        | (with_reducible refine GKsplit (fun hc => ?_) (fun hc => ?_) <;> try simp [hc])
        | (with_reducible refine GKsplitN (fun hc => ?_) (fun hc => ?_) <;> try simp [hc])
        | (with_reducible refine GKsplitNB (fun hc => ?_) (fun hc => ?_) <;> try simp [hc])
        | (with_reducible refine GKsplitB (fun hc => ?_) (fun hc => ?_) <;> try simp [hc])
        | simp (disch := first | (with_reducible assumption) | (simp; done) | omega | (simp; omega)) [hpo, hj8, ofS_idx (f := cI), cI, hw, hbit, hpw])
      refine hg.app1 (x := b) rfl (by simp [cI]) (by simp [LIM]; omega) (fun v G3 hg3 => ?_)
      have hv := hg3.plain
      repeat' (first
        | refine awp_seqK fun K' hpK => ?_
        | refine awp_block ?_
        | refine awp_condG fun A' B' hpA hpB => ?_
        | refine useK (by with_reducible assumption) ?_
        | refine useP (by with_reducible assumption) ?_
        | refine ED_cons (fun _ => ?_) ?_
        | (refine stable_mk ?_; simp (disch := first | (with_reducible assumption) | (simp; done) | omega | (simp; omega)) [hv]; done)
        | (refine stable_no ?_; simp (disch := first | (with_reducible assumption) | (simp; done) | omega | (simp; omega)) [hv]; done)
        | (with_reducible refine And.intro ?_ ?_)
        | (with_reducible intro hc; try (exfalso; omega))
        | (with_reducible refine GDsplit (fun hc => ?_) (fun hc => ?_) <;> try simp [hc])
        | (with_reducible refine GDsplitN (fun hc => ?_) (fun hc => ?_) <;> try simp [hc])
        | (with_reducible refine GDsplitNB (fun hc => ?_) (fun hc => ?_) <;> try simp [hc])
        | (with_reducible refine GDsplitB (fun hc => ?_) (fun hc => ?_) <;> try simp [hc])
        | (with_reducible refine GKsplit (fun hc => ?_) (fun hc => ?_) <;> try simp [hc])
        | (with_reducible refine GKsplitN (fun hc => ?_) (fun hc => ?_) <;> try simp [hc])
        | (with_reducible refine GKsplitNB (fun hc => ?_) (fun hc => ?_) <;> try simp [hc])
        | (with_reducible refine GKsplitB (fun hc => ?_) (fun hc => ?_) <;> try simp [hc])
        | simp (disch := first | (with_reducible assumption) | (simp; done) | omega | (simp; omega)) [hv])
      refine hN2 (n2 - 1) _ _ (by omega) ⟨j + 1, v, by omega, ?_, by simp⟩
      rw [take_succ_get _ _ hjb, hb, ← List.append_assoc]
      exact hg3
    · have : j = 8 := by omega
      subst this
      repeat' (first
        | refine awp_seqK fun K' hpK => ?_
        | refine awp_block ?_
        | refine awp_condG fun A' B' hpA hpB => ?_
        | refine useK (by with_reducible assumption) ?_
        | refine useP (by with_reducible assumption) ?_
        | refine ED_cons (fun _ => ?_) ?_
        | (refine stable_mk ?_; simp (disch := first | (with_reducible assumption) | (simp; done) | omega | (simp; omega)) [hpo]; done)
        | (refine stable_no ?_; simp (disch := first | (with_reducible assumption) | (simp; done) | omega | (simp; omega)) [hpo]; done)
        | (with_reducible refine And.intro ?_ ?_)
        | (with_reducible intro hc; try (exfalso; omega))
        | (with_reducible refine GDsplit (fun hc => ?_) (fun hc => ?_) <;> try simp [hc])
        | (with_reducible refine GDsplitN (fun hc => ?_) (fun hc => ?_) <;> try simp [hc])
        | (with_reducible refine GDsplitNB (fun hc => ?_) (fun hc => ?_) <;> try simp [hc])
        | (with_reducible refine GDsplitB (fun hc => ?_) (fun hc => ?_) <;> try simp [hc])
        | (with_reducible refine GKsplit (fun hc => ?_) (fun hc => ?_) <;> try simp [hc])
        | (with_reducible refine GKsplitN (fun hc => ?_) (fun hc => ?_) <;> try simp [hc])
        | (with_reducible refine GKsplitNB (fun hc => ?_) (fun hc => ?_) <;> try simp [hc])
        | (with_reducible refine GKsplitB (fun hc => ?_) (fun hc => ?_) <;> try simp [hc])
        | simp (disch := first | (with_reducible assumption) | (simp; done) | omega | (simp; omega)) [hpo])
      refine hN (n - 1) _ _ (by omega) ⟨k + 1, out, by omega, ?_, by simp⟩
      rw [hst]
      have e : (byteBits c).take 8 = byteBits c := List.take_of_length_le (by rw [byteBits_len]; omega)
      rw [e] at hg; exact hg
  · have hke : k = (LL s).length := by omega
    subst hke
    repeat' (first
      | refine awp_seqK fun K' hpK => ?_
      | refine awp_block ?_
      | refine awp_condG fun A' B' hpA hpB => ?_
      | refine useK (by with_reducible assumption) ?_
      | refine useP (by with_reducible assumption) ?_
      | refine ED_cons (fun _ => ?_) ?_
      | (refine stable_mk ?_; simp (disch := first | (with_reducible assumption) | (simp; done) | omega | (simp; omega)) [hpo]; done)
      | (refine stable_no ?_; simp (disch := first | (with_reducible assumption) | (simp; done) | omega | (simp; omega)) [hpo]; done)
      | (with_reducible refine And.intro ?_ ?_)
      | (with_reducible intro hc; try (exfalso; omega))
      | (with_reducible refine GDsplit (fun hc => ?_) (fun hc => ?_) <;> try simp [hc])
      | (with_reducible refine GDsplitN (fun hc => ?_) (fun hc => ?_) <;> try simp [hc])
      | (with_reducible refine GDsplitNB (fun hc => ?_) (fun hc => ?_) <;> try simp [hc])
      | (with_reducible refine GDsplitB (fun hc => ?_) (fun hc => ?_) <;> try simp [hc])
      | (with_reducible refine GKsplit (fun hc => ?_) (fun hc => ?_) <;> try simp [hc])
      | (with_reducible refine GKsplitN (fun hc => ?_) (fun hc => ?_) <;> try simp [hc])
      | (with_reducible refine GKsplitNB (fun hc => ?_) (fun hc => ?_) <;> try simp [hc])
      | (with_reducible refine GKsplitB (fun hc => ?_) (fun hc => ?_) <;> try simp [hc])
      | simp (disch := first | (with_reducible assumption) | (simp; done) | omega | (simp; omega)) [hpo])
    rw [List.take_length] at hg
    exact hg.ends (by simp) cI_plain (by simp) fun s' hs' => hpost _ _ ⟨rfl, s', rfl, hs'⟩

/- Done: bits as bytes -/
set_option maxHeartbeats 1000000 in
theorem rdone_c {s : Option (List Int)} {G : Hp} (h01 : Bits01 (LL s)) (hl : (LL s).length ≤ 1000000) : ACalls Try.prog 27 [ofS cI s] G fun r G' => G' = G ∧ ∃ s', r = ofS cB s' ∧ Packed (LL s') (LL s) := by
  refine ACalls.hide fun post hpost => ?_
  refine F27_in (by simp) (by simp) fun hbd => ?_
  repeat' (first
    | refine awp_seqK fun K' hpK => ?_
    | refine awp_block ?_
    | refine awp_condG fun A' B' hpA hpB => ?_
    | refine useK (by with_reducible assumption) ?_
    | refine useP (by with_reducible assumption) ?_
    | refine ED_cons (fun _ => ?_) ?_
    | (refine stable_mk ?_; simp (disch := first | (with_reducible assumption) | (simp; done) | omega | (simp; omega)); done)
    | (refine stable_no ?_; simp (disch := first | (with_reducible assumption) | (simp; done) | omega | (simp; omega)); done)
    | (with_reducible refine And.intro ?_ ?_)
    | (with_reducible intro hc)
    | (with_reducible refine GDsplit (fun hc => ?_) (fun hc => ?_) <;> try simp [hc])
    | (with_reducible refine GDsplitN (fun hc => ?_) (fun hc => ?_) <;> try simp [hc])
    | (with_reducible refine GDsplitNB (fun hc => ?_) (fun hc => ?_) <;> try simp [hc])
    | (with_reducible refine GDsplitB (fun hc => ?_) (fun hc => ?_) <;> try simp [hc])
    | (with_reducible refine GKsplit (fun hc => ?_) (fun hc => ?_) <;> try simp [hc])
    | (with_reducible refine GKsplitN (fun hc => ?_) (fun hc => ?_) <;> try simp [hc])
    | (with_reducible refine GKsplitNB (fun hc => ?_) (fun hc => ?_) <;> try simp [hc])
    | (with_reducible refine GKsplitB (fun hc => ?_) (fun hc => ?_) <;> try simp [hc])
    | simp (disch := first | (with_reducible assumption) | (simp; done) | omega | (simp; omega)))
  refine awp_loop' (fun n T G' => ∃ (k : Nat) (out : AV), k + n = ((LL s).length + 7) / 8 ∧ Grow cB 1 G G' out (packL (LL s) k) ∧ T = ofL [(0, ofS cI s), (3, out), (4, .int .i64 (8 * k : Nat))]) (((LL s).length + 7) / 8) ⟨0, .nils, by omega, Grow.nil G 1, by simp⟩ ?_
  rintro n T G' ⟨k, out, hk, hg, rfl⟩ N hN
  have hpo := hg.plain
  by_cases hkl : 8 * k < (LL s).length
  · have hkl' : (8 * (k : Int)) < ((LL s).length : Int) := by omega
    repeat' (first
      | refine awp_seqK fun K' hpK => ?_
      | refine awp_block ?_
      | refine awp_condG fun A' B' hpA hpB => ?_
      | refine useK (by with_reducible assumption) ?_
      | refine useP (by with_reducible assumption) ?_
      | refine ED_cons (fun _ => ?_) ?_
      | (refine stable_mk ?_; simp (disch := first | (with_reducible assumption) | (simp; done) | omega | (simp; omega)) [hpo, hkl']; done)
      | (refine stable_no ?_; simp (disch := first | (with_reducible assumption) | (simp; done) | omega | (simp; omega)) [hpo, hkl']; done)
      | (with_reducible refine And.intro ?_ ?_)
      | (with_reducible intro hc; try (exfalso; omega))
      | (with_reducible refine GDsplit (fun hc => ?_) (fun hc => ?_) <;> try simp [hc])
      | (with_reducible refine GDsplitN (fun hc => ?_) (fun hc => ?_) <;> try simp [hc])
      | (with_reducible refine GDsplitNB (fun hc => ?_) (fun hc => ?_) <;> try simp [hc])
      | (with_reducible refine GDsplitB (fun hc => ?_) (fun hc => ?_) <;> try simp [hc])
      | (with_reducible refine GKsplit (fun hc => ?_) (fun hc => ?_) <;> try simp [hc])
      | (with_reducible refine GKsplitN (fun hc => ?_) (fun hc => ?_) <;> try simp [hc])
      | (with_reducible refine GKsplitNB (fun hc => ?_) (fun hc => ?_) <;> try simp [hc])
      | (with_reducible refine GKsplitB (fun hc => ?_) (fun hc => ?_) <;> try simp [hc])
      | simp (disch := first | (with_reducible assumption) | (simp; done) | omega | (simp; omega)) [hpo, hkl'])
    refine awp_loop' (fun n2 T G2 => ∃ (j : Nat), j + n2 = 8 ∧ G2 = G' ∧ T = ofL [(0, ofS cI s), (3, out), (4, .int .i64 (8 * k : Nat)), (5, .int .i64 (valL (getN (LL s) (8 * k) j))), (6, .int .i64 j)]) 8 ⟨0, by omega, rfl, by simp [getN, valL]⟩ ?_
    rintro n2 T G2 ⟨j, hj, rfl, rfl⟩ N2 hN2
    by_cases hj8 : j < 8
    · have hv1 := valL_lt _ (getN01 h01 (8 * k) j) (n := 7) (by rw [getN_len]; omega)
      have hv0 := (valL_bound _ (getN01 h01 (8 * k) j)).1
      have hst := getN_succ (LL s) (8 * k) j
      have hvs : valL (getN (LL s) (8 * k) (j + 1)) = 2 * valL (getN (LL s) (8 * k) j) + (LL s).getD (8 * k + j) 0 := by rw [hst, valL_snoc]
      have e7 : (2 : Int) ^ 7 = 128 := by decide
      rw [e7] at hv1
      have hb := h01.getD (8 * k + j)
      generalize valL (getN (LL s) (8 * k) j) = v at *
      clear hst
      by_cases hin : 8 * k + j < (LL s).length
      · have hin' : (8 * (k : Int)) + (j : Int) < ((LL s).length : Int) := by omega
        have hgd : (LL s).getD (8 * k + j) 0 = (LL s)[8 * k + j] := getD_in hin
        have htn : ((8 * (k : Int)) + (j : Int)).toNat = 8 * k + j := by omega
        rw [hgd] at hvs hb
        generalize hx : (LL s)[8 * k + j] = x at *
        repeat' (first
          | refine awp_seqK fun K' hpK => ?_
          | refine awp_block ?_
          | refine awp_condG fun A' B' hpA hpB => ?_
          | refine useK (by with_reducible assumption) ?_
          | refine useP (by with_reducible assumption) ?_
          | refine ED_cons (fun _ => ?_) ?_
          | (refine stable_mk ?_; simp (disch := first | (with_reducible assumption) | (simp; done) | omega | (simp; omega)) [hpo, hj8, hin', ofS_idx (f := cI), cI, htn, hx]; done)
          | (refine stable_no ?_; simp (disch := first | (with_reducible assumption) | (simp; done) | omega | (simp; omega)) [hpo, hj8, hin', ofS_idx (f := cI), cI, htn, hx]; done)
          | (with_reducible refine And.intro ?_ ?_)
          | (with_reducible intro hc; try (exfalso; omega))
          | (with_reducible refine GDsplit (fun hc => ?_) (fun hc => ?_) <;> try simp [hc])
          | (with_reducible refine GDsplitN (fun hc => ?_) (fun hc => ?_) <;> try simp [hc])
          | (with_reducible refine GDsplitNB (fun hc => ?_) (fun hc => ?_) <;> try simp [hc])
          | (with_reducible refine GDsplitB (fun hc => ?_) (fun hc => ?_) <;> try simp [hc])
          | (with_reducible refine GKsplit (fun hc => ?_) (fun hc => ?_) <;> try simp [hc])
          | (with_reducible refine GKsplitN (fun hc => ?_) (fun hc => ?_) <;> try simp [hc])
          | (with_reducible refine GKsplitNB (fun hc => ?_) (fun hc => ?_) <;> try simp [hc])
          | (with_reducible refine GKsplitB (fun hc => ?_) (fun hc => ?_) <;> try simp [hc])
          | simp (disch := first | (with_reducible assumption) | (simp; done) | omega | (simp; omega)) [hpo, hj8, hin', ofS_idx (f := cI), cI, htn, hx])
        refine hN2 (n2 - 1) _ _ (by omega) ⟨j + 1, by omega, rfl, ?_⟩
        rw [hvs]; simp
      · have hin' : ¬ (8 * (k : Int)) + (j : Int) < ((LL s).length : Int) := by omega
        have hgd : (LL s).getD (8 * k + j) 0 = 0 := getD_out (by omega)
        rw [hgd] at hvs
        repeat' (first
          | refine awp_seqK fun K' hpK => ?_
          | refine awp_block ?_
          | refine awp_condG fun A' B' hpA hpB => ?_
          | refine useK (by with_reducible assumption) ?_
          | refine useP (by with_reducible assumption) ?_
          | refine ED_cons (fun _ => ?_) ?_
          | (refine stable_mk ?_; simp (disch := first | (with_reducible assumption) | (simp; done) | omega | (simp; omega)) [hpo, hj8, hin']; done)
          | (refine stable_no ?_; simp (disch := first | (with_reducible assumption) | (simp; done) | omega | (simp; omega)) [hpo, hj8, hin']; done)
          | (with_reducible refine And.intro ?_ ?_)
          | (with_reducible intro hc; try (exfalso; omega))
          | (with_reducible refine GDsplit (fun hc => ?_) (fun hc => ?_) <;> try simp [hc])
          | (with_reducible refine GDsplitN (fun hc => ?_) (fun hc => ?_) <;> try simp [hc])
          | (with_reducible refine GDsplitNB (fun hc => ?_) (fun hc => ?_) <;> try simp [hc])
          | (with_reducible refine GDsplitB (fun hc => ?_) (fun hc => ?_) <;> try simp [hc])
          | (with_reducible refine GKsplit (fun hc => ?_) (fun hc => ?_) <;> try simp [hc])
          | (with_reducible refine GKsplitN (fun hc => ?_) (fun hc => ?_) <;> try simp [hc])
          | (with_reducible refine GKsplitNB (fun hc => ?_) (fun hc => ?_) <;> try simp [hc])
          | (with_reducible refine GKsplitB (fun hc => ?_) (fun hc => ?_) <;> try simp [hc])
          | simp (disch := first | (with_reducible assumption) | (simp; done) | omega | (simp; omega)) [hpo, hj8, hin'])
        refine hN2 (n2 - 1) _ _ (by omega) ⟨j + 1, by omega, rfl, ?_⟩
        rw [hvs]; simp
    · have : j = 8 := by omega
      subst this
      have hb8 := val8_bound h01 (8 * k)
      have hps := packL_succ (LL s) k
      generalize valL (getN (LL s) (8 * k) 8) = v at *
      obtain ⟨hb0, hb1⟩ := hb8
      repeat' (first
        | refine awp_seqK fun K' hpK => ?_
        | refine awp_block ?_
        | refine awp_condG fun A' B' hpA hpB => ?_
        | refine useK (by with_reducible assumption) ?_
        | refine useP (by with_reducible assumption) ?_
        | refine ED_cons (fun _ => ?_) ?_
        | (refine stable_mk ?_; simp (disch := first | (with_reducible assumption) | (simp; done) | omega | (simp; omega)) [hpo]; done)
        | (refine stable_no ?_; simp (disch := first | (with_reducible assumption) | (simp; done) | omega | (simp; omega)) [hpo]; done)
        | (with_reducible refine And.intro ?_ ?_)
        | (with_reducible intro hc; try (exfalso; omega))
        | (with_reducible refine GDsplit (fun hc => ?_) (fun hc => ?_) <;> try simp [hc])
        | (with_reducible refine GDsplitN (fun hc => ?_) (fun hc => ?_) <;> try simp [hc])
        | (with_reducible refine GDsplitNB (fun hc => ?_) (fun hc => ?_) <;> try simp [hc])
        | (with_reducible refine GDsplitB (fun hc => ?_) (fun hc => ?_) <;> try simp [hc])
        | (with_reducible refine GKsplit (fun hc => ?_) (fun hc => ?_) <;> try simp [hc])
        | (with_reducible refine GKsplitN (fun hc => ?_) (fun hc => ?_) <;> try simp [hc])
        | (with_reducible refine GKsplitNB (fun hc => ?_) (fun hc => ?_) <;> try simp [hc])
        | (with_reducible refine GKsplitB (fun hc => ?_) (fun hc => ?_) <;> try simp [hc])
        | simp (disch := first | (with_reducible assumption) | (simp; done) | omega | (simp; omega)) [hpo])
      refine hg.app1 (x := v) rfl (by simp [cB]) (by simp [LIM, packL_len]; omega) (fun w G3 hg3 => ?_)
      have hw := hg3.plain
      repeat' (first
        | refine awp_seqK fun K' hpK => ?_
        | refine awp_block ?_
        | refine awp_condG fun A' B' hpA hpB => ?_
        | refine useK (by with_reducible assumption) ?_
        | refine useP (by with_reducible assumption) ?_
        | refine ED_cons (fun _ => ?_) ?_
        | (refine stable_mk ?_; simp (disch := first | (with_reducible assumption) | (simp; done) | omega | (simp; omega)) [hw]; done)
        | (refine stable_no ?_; simp (disch := first | (with_reducible assumption) | (simp; done) | omega | (simp; omega)) [hw]; done)
        | (with_reducible refine And.intro ?_ ?_)
        | (with_reducible intro hc; try (exfalso; omega))
        | (with_reducible refine GDsplit (fun hc => ?_) (fun hc => ?_) <;> try simp [hc])
        | (with_reducible refine GDsplitN (fun hc => ?_) (fun hc => ?_) <;> try simp [hc])
        | (with_reducible refine GDsplitNB (fun hc => ?_) (fun hc => ?_) <;> try simp [hc])
        | (with_reducible refine GDsplitB (fun hc => ?_) (fun hc => ?_) <;> try simp [hc])
        | (with_reducible refine GKsplit (fun hc => ?_) (fun hc => ?_) <;> try simp [hc])
        | (with_reducible refine GKsplitN (fun hc => ?_) (fun hc => ?_) <;> try simp [hc])
        | (with_reducible refine GKsplitNB (fun hc => ?_) (fun hc => ?_) <;> try simp [hc])
        | (with_reducible refine GKsplitB (fun hc => ?_) (fun hc => ?_) <;> try simp [hc])
        | simp (disch := first | (with_reducible assumption) | (simp; done) | omega | (simp; omega)) [hw])
      refine hN (n - 1) _ _ (by omega) ⟨k + 1, w, by omega, by rw [hps]; exact hg3, ?_⟩
      have e : ((8 * (k + 1) : Nat) : Int) = 8 * (k : Int) + 8 := by omega
      rw [e]
  · have hkl' : ¬ (8 * (k : Int)) < ((LL s).length : Int) := by omega
    repeat' (first
      | refine awp_seqK fun K' hpK => ?_
      | refine awp_block ?_
      | refine awp_condG fun A' B' hpA hpB => ?_
      | refine useK (by with_reducible assumption) ?_
      | refine useP (by with_reducible assumption) ?_
      | refine ED_cons (fun _ => ?_) ?_
      | (refine stable_mk ?_; simp (disch := first | (with_reducible assumption) | (simp; done) | omega | (simp; omega)) [hpo, hkl']; done)
      | (refine stable_no ?_; simp (disch := first | (with_reducible assumption) | (simp; done) | omega | (simp; omega)) [hpo, hkl']; done)
      | (with_reducible refine And.intro ?_ ?_)
      | (with_reducible intro hc; try (exfalso; omega))
      | (with_reducible refine GDsplit (fun hc => ?_) (fun hc => ?_) <;> try simp [hc])
      | (with_reducible refine GDsplitN (fun hc => ?_) (fun hc => ?_) <;> try simp [hc])
      | (with_reducible refine GDsplitNB (fun hc => ?_) (fun hc => ?_) <;> try simp [hc])
      | (with_reducible refine GDsplitB (fun hc => ?_) (fun hc => ?_) <;> try simp [hc])
      | (with_reducible refine GKsplit (fun hc => ?_) (fun hc => ?_) <;> try simp [hc])
      | (with_reducible refine GKsplitN (fun hc => ?_) (fun hc => ?_) <;> try simp [hc])
      | (with_reducible refine GKsplitNB (fun hc => ?_) (fun hc => ?_) <;> try simp [hc])
      | (with_reducible refine GKsplitB (fun hc => ?_) (fun hc => ?_) <;> try simp [hc])
      | simp (disch := first | (with_reducible assumption) | (simp; done) | omega | (simp; omega)) [hpo, hkl'])
    exact hg.ends (by simp) cB_plain (by simp) fun s' hs' => hpost _ _ ⟨rfl, s', rfl, by rw [hs']; exact packed_packL h01 (by omega) (by omega)⟩

/- Behind -/
theorem behind_c {s t : Option (List Int)} {G : Hp} (hl : (LL s).length ≤ 524288) (ht : (LL t).length ≤ 1000000) : ACalls Try.prog 36 [ofS cI s, ofS cI t] G fun r G' => G' = G ∧ ∃ s' b, r = .tup [ofS cI s', .bool b] ∧ LL s' = if (LL t).length ≤ 524288 - (LL s).length then LL s ++ LL t else LL s := by
  refine ACalls.hide fun post hpost => ?_
  refine F36_in (by simp) (by simp) fun hbd => ?_
  repeat' (first
    | refine awp_seqK fun K' hpK => ?_
    | refine awp_block ?_
    | refine awp_condG fun A' B' hpA hpB => ?_
    | refine useK (by with_reducible assumption) ?_
    | refine useP (by with_reducible assumption) ?_
    | refine ED_cons (fun _ => ?_) ?_
    | (refine stable_mk ?_; simp (disch := first | (with_reducible assumption) | (simp; done) | omega | (simp; omega)); done)
    | (refine stable_no ?_; simp (disch := first | (with_reducible assumption) | (simp; done) | omega | (simp; omega)); done)
    | (with_reducible refine And.intro ?_ ?_)
    | (with_reducible intro hc)
    | (with_reducible refine GDsplit (fun hc => ?_) (fun hc => ?_) <;> try simp [hc])
    | (with_reducible refine GDsplitN (fun hc => ?_) (fun hc => ?_) <;> try simp [hc])
    | (with_reducible refine GDsplitNB (fun hc => ?_) (fun hc => ?_) <;> try simp [hc])
    | (with_reducible refine GDsplitB (fun hc => ?_) (fun hc => ?_) <;> try simp [hc])
    | (with_reducible refine GKsplit (fun hc => ?_) (fun hc => ?_) <;> try simp [hc])
    | (with_reducible refine GKsplitN (fun hc => ?_) (fun hc => ?_) <;> try simp [hc])
    | (with_reducible refine GKsplitNB (fun hc => ?_) (fun hc => ?_) <;> try simp [hc])
    | (with_reducible refine GKsplitB (fun hc => ?_) (fun hc => ?_) <;> try simp [hc])
    | simp (disch := first | (with_reducible assumption) | (simp; done) | omega | (simp; omega)))
  · refine ends_many (by simp <;> rfl) (by simp) (hpost _ _ ⟨rfl, s, false, rfl, ?_⟩)
    rw [if_neg (by omega)]
  · intro b hb
    refine ⟨0, ?_⟩
    repeat' (first
      | refine awp_seqK fun K' hpK => ?_
      | refine awp_block ?_
      | refine awp_condG fun A' B' hpA hpB => ?_
      | refine useK (by with_reducible assumption) ?_
      | refine useP (by with_reducible assumption) ?_
      | refine ED_cons (fun _ => ?_) ?_
      | (refine stable_mk ?_; simp (disch := first | (with_reducible assumption) | (simp; done) | omega | (simp; omega)); done)
      | (refine stable_no ?_; simp (disch := first | (with_reducible assumption) | (simp; done) | omega | (simp; omega)); done)
      | (with_reducible refine And.intro ?_ ?_)
      | (with_reducible intro hc; try (exfalso; omega))
      | (with_reducible refine GDsplit (fun hc => ?_) (fun hc => ?_) <;> try simp [hc])
      | (with_reducible refine GDsplitN (fun hc => ?_) (fun hc => ?_) <;> try simp [hc])
      | (with_reducible refine GDsplitNB (fun hc => ?_) (fun hc => ?_) <;> try simp [hc])
      | (with_reducible refine GDsplitB (fun hc => ?_) (fun hc => ?_) <;> try simp [hc])
      | (with_reducible refine GKsplit (fun hc => ?_) (fun hc => ?_) <;> try simp [hc])
      | (with_reducible refine GKsplitN (fun hc => ?_) (fun hc => ?_) <;> try simp [hc])
      | (with_reducible refine GKsplitNB (fun hc => ?_) (fun hc => ?_) <;> try simp [hc])
      | (with_reducible refine GKsplitB (fun hc => ?_) (fun hc => ?_) <;> try simp [hc])
      | simp (disch := first | (with_reducible assumption) | (simp; done) | omega | (simp; omega)))
    refine (Grow.fresh (f := cI) (sz := 1) hb).app (ofS_src (by simp)) (cI_scal _) (by simp [LIM]; omega) (fun v G2 hg => ?_)
    have hv := hg.plain
    repeat' (first
      | refine awp_seqK fun K' hpK => ?_
      | refine awp_block ?_
      | refine awp_condG fun A' B' hpA hpB => ?_
      | refine useK (by with_reducible assumption) ?_
      | refine useP (by with_reducible assumption) ?_
      | refine ED_cons (fun _ => ?_) ?_
      | (refine stable_mk ?_; simp (disch := first | (with_reducible assumption) | (simp; done) | omega | (simp; omega)) [hv]; done)
      | (refine stable_no ?_; simp (disch := first | (with_reducible assumption) | (simp; done) | omega | (simp; omega)) [hv]; done)
      | (with_reducible refine And.intro ?_ ?_)
      | (with_reducible intro hc; try (exfalso; omega))
      | (with_reducible refine GDsplit (fun hc => ?_) (fun hc => ?_) <;> try simp [hc])
      | (with_reducible refine GDsplitN (fun hc => ?_) (fun hc => ?_) <;> try simp [hc])
      | (with_reducible refine GDsplitNB (fun hc => ?_) (fun hc => ?_) <;> try simp [hc])
      | (with_reducible refine GDsplitB (fun hc => ?_) (fun hc => ?_) <;> try simp [hc])
      | (with_reducible refine GKsplit (fun hc => ?_) (fun hc => ?_) <;> try simp [hc])
      | (with_reducible refine GKsplitN (fun hc => ?_) (fun hc => ?_) <;> try simp [hc])
      | (with_reducible refine GKsplitNB (fun hc => ?_) (fun hc => ?_) <;> try simp [hc])
      | (with_reducible refine GKsplitB (fun hc => ?_) (fun hc => ?_) <;> try simp [hc])
      | simp (disch := first | (with_reducible assumption) | (simp; done) | omega | (simp; omega)) [hv])
    refine hg.app (ofS_src (by simp)) (cI_scal _) (by simp [LIM]; omega) (fun w G3 hg3 => ?_)
    have hw := hg3.plain
    repeat' (first
      | refine awp_seqK fun K' hpK => ?_
      | refine awp_block ?_
      | refine awp_condG fun A' B' hpA hpB => ?_
      | refine useK (by with_reducible assumption) ?_
      | refine useP (by with_reducible assumption) ?_
      | refine ED_cons (fun _ => ?_) ?_
      | (refine stable_mk ?_; simp (disch := first | (with_reducible assumption) | (simp; done) | omega | (simp; omega)) [hw]; done)
      | (refine stable_no ?_; simp (disch := first | (with_reducible assumption) | (simp; done) | omega | (simp; omega)) [hw]; done)
      | (with_reducible refine And.intro ?_ ?_)
      | (with_reducible intro hc; try (exfalso; omega))
      | (with_reducible refine GDsplit (fun hc => ?_) (fun hc => ?_) <;> try simp [hc])
      | (with_reducible refine GDsplitN (fun hc => ?_) (fun hc => ?_) <;> try simp [hc])
      | (with_reducible refine GDsplitNB (fun hc => ?_) (fun hc => ?_) <;> try simp [hc])
      | (with_reducible refine GDsplitB (fun hc => ?_) (fun hc => ?_) <;> try simp [hc])
      | (with_reducible refine GKsplit (fun hc => ?_) (fun hc => ?_) <;> try simp [hc])
      | (with_reducible refine GKsplitN (fun hc => ?_) (fun hc => ?_) <;> try simp [hc])
      | (with_reducible refine GKsplitNB (fun hc => ?_) (fun hc => ?_) <;> try simp [hc])
      | (with_reducible refine GKsplitB (fun hc => ?_) (fun hc => ?_) <;> try simp [hc])
      | simp (disch := first | (with_reducible assumption) | (simp; done) | omega | (simp; omega)) [hw])
    obtain ⟨s', hs', hz, hsub⟩ := hg3.frz (by simp)
    refine ends_frn (by simp <;> rfl) (by simp [hw]) hsub (.cons _ _ _ _ hz (.cons _ _ _ _ (.refl _) .nil)) (hpost _ _ ⟨rfl, s', true, rfl, ?_⟩)
    rw [hs', if_pos (by omega)]; simp

/- In.Take -/
def RInH (p : AV) (h : Hp) (l : List Int) (a e : Int) : Prop := ∃ ib s, p = .ptr ib 0 ∧ h = one ib (0, [ofS cI s, .int .i64 a, .int .i64 e]) ∧ LL s = l
def takeE (e n : Int) (ok : Bool) (m : Int) : Int := if e = 0 then (if ok = false ∨ n < 0 then 1 else if m < n then 7 else 0) else e
theorem take_c {p : AV} {h : Hp} {l : List Int} {a e n : Int} {ok : Bool} (hi : RInH p h l a e) (h0 : 0 ≤ a) (h1 : a ≤ l.length) (hl : l.length ≤ 1000000) :
    ACalls Try.prog 25 [p, .int .i64 n, .bool ok] h fun r h' => RInH p h' l (if takeE e n ok (l.length - a) = 0 then a + n else a) (takeE e n ok (l.length - a)) ∧
      ∃ s, r = ofS cI s ∧ LL s = if takeE e n ok (l.length - a) = 0 then (l.drop a.toNat).take n.toNat else [] := by
  obtain ⟨ib, s, rfl, rfl, rfl⟩ := hi
  refine ACalls.hide fun post hpost => ?_
  refine F25_in (by simp) (by simp) fun hbd => ?_
  repeat' (first
    | refine awp_seqK fun K' hpK => ?_
    | refine awp_block ?_
    | refine awp_condG fun A' B' hpA hpB => ?_
    | refine useK (by with_reducible assumption) ?_
    | refine useP (by with_reducible assumption) ?_
    | refine ED_cons (fun _ => ?_) ?_
    | (refine stable_mk ?_; simp (disch := first | (with_reducible assumption) | (simp; done) | omega | (simp; omega)) [aslc_both (f := cI)]; done)
    | (refine stable_no ?_; simp (disch := first | (with_reducible assumption) | (simp; done) | omega | (simp; omega)) [aslc_both (f := cI)]; done)
    | (with_reducible refine And.intro ?_ ?_)
    | (with_reducible intro hc; try (exfalso; omega))
    | (with_reducible refine GDsplit (fun hc => ?_) (fun hc => ?_) <;> try simp [hc])
    | (with_reducible refine GDsplitN (fun hc => ?_) (fun hc => ?_) <;> try simp [hc])
    | (with_reducible refine GDsplitNB (fun hc => ?_) (fun hc => ?_) <;> try simp [hc])
    | (with_reducible refine GDsplitB (fun hc => ?_) (fun hc => ?_) <;> try simp [hc])
    | (with_reducible refine GKsplit (fun hc => ?_) (fun hc => ?_) <;> try simp [hc])
    | (with_reducible refine GKsplitN (fun hc => ?_) (fun hc => ?_) <;> try simp [hc])
    | (with_reducible refine GKsplitNB (fun hc => ?_) (fun hc => ?_) <;> try simp [hc])
    | (with_reducible refine GKsplitB (fun hc => ?_) (fun hc => ?_) <;> try simp [hc])
    | simp (disch := first | (with_reducible assumption) | (simp; done) | omega | (simp; omega)) [aslc_both (f := cI)])
  · refine ends_one (by simp <;> rfl) (by simp) (hpost _ _ ?_)
    have e1 : takeE e n ok ((LL s).length - a) = e := by simp [takeE, hc]
    rw [e1, if_neg hc]; exact ⟨⟨ib, s, rfl, rfl, rfl⟩, none, rfl, by simp [hc]⟩
  · refine ends_one (by simp <;> rfl) (by simp) (hpost _ _ ?_)
    have e1 : takeE e n ok ((LL s).length - a) = 1 := by simp [takeE, *]
    rw [e1]; exact ⟨⟨ib, s, rfl, rfl, rfl⟩, none, rfl, rfl⟩
  · refine ends_one (by simp <;> rfl) (by simp) (hpost _ _ ?_)
    have e1 : takeE e n ok ((LL s).length - a) = 7 := by
      unfold takeE; rw [if_pos (by assumption), if_neg (by simp [*]), if_pos hc]
    rw [e1]; exact ⟨⟨ib, s, rfl, rfl, rfl⟩, none, rfl, rfl⟩
  · refine ends_one (by simp <;> rfl) (by simp) (hpost _ _ ?_)
    have e0 : e = 0 := by assumption
    have e1 : takeE e n ok ((LL s).length - a) = 0 := by
      unfold takeE; rw [if_pos (by assumption), if_neg (by simp [*]), if_neg (by omega)]
    rw [e1, e0]
    refine ⟨⟨ib, s, rfl, by simp, rfl⟩, _, rfl, ?_⟩
    rw [LL_map _ (by simp), List.drop_take, if_pos rfl]
    congr 1; omega
  · refine ends_one (by simp <;> rfl) (by simp) (hpost _ _ ?_)
    have e1 : takeE e n ok ((LL s).length - a) = 1 := by simp [takeE, *]
    rw [e1]; exact ⟨⟨ib, s, rfl, rfl, rfl⟩, none, rfl, rfl⟩
end Go.Proofs.Ytdpppigniaafnaa
