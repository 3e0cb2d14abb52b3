import Derived.Test.YtdpppigniaafnaaD12K
set_option linter.unusedSimpArgs false
set_option linter.unusedVariables false
namespace Go.Proofs.Ytdpppigniaafnaa
open Go Go.Al
set_option maxRecDepth 20000
attribute [local irreducible] awp aops aopsD eop pv ACalls CallK AppK AEnds ti

/- In.Bytes -/
def clampN (n : Int) (len : Nat) : Int := if (len : Int) + 1 < n then len + 1 else if n < -1 then -1 else n
def bytesAt (V : List Int) (a n : Nat) : List Int := (List.range n).map fun j => valL ((V.drop (a + 8 * j)).take 8)
theorem bytesAt_succ (V : List Int) (a n : Nat) : bytesAt V a (n + 1) = bytesAt V a n ++ [valL ((V.drop (a + 8 * n)).take 8)] := by simp [bytesAt, List.range_succ]
theorem bytesAt_len (V : List Int) (a n : Nat) : (bytesAt V a n).length = n := by simp [bytesAt]

set_option maxHeartbeats 1000000 in
theorem ibytes_c {p : AV} {h : Hp} {s : Option (List Int)} {a e n : Int} (hi : InH p h s a e) (h0 : 0 ≤ a) (h1 : a ≤ 8 * (LL s).length) (hl : (LL s).length ≤ 1000000) (hB : Bytes (LL s)) :
    ACalls Try.prog 26 [p, .int .i64 n] h fun r h' => InH p h' s (if hasE e (8 * clampN n (LL s).length) (8 * (LL s).length - a) = 0 then a + 8 * clampN n (LL s).length else a) (hasE e (8 * clampN n (LL s).length) (8 * (LL s).length - a)) ∧
      ∃ s', r = ofS cB s' ∧ LL s' = if hasE e (8 * clampN n (LL s).length) (8 * (LL s).length - a) = 0 then bytesAt (bitsL (LL s)) a.toNat (clampN n (LL s).length).toNat else [] := by
  have hp : p.plain = true := by obtain ⟨ib, rfl, _⟩ := hi; simp
  have hi0 := hi
  obtain ⟨ib, rfl, rfl⟩ := hi0
  obtain ⟨q, hq⟩ : ∃ q, q = clampN n (LL s).length := ⟨_, rfl⟩
  have hqb : -1 ≤ q ∧ q ≤ (LL s).length + 1 := by rw [hq]; unfold clampN; split <;> (try split) <;> omega
  rw [← hq]
  have hc := has_c (n := 8 * q) hi h0 h1 hl
  obtain ⟨Q, hQ⟩ : ∃ Q, Q = hasE e (8 * q) (8 * ((LL s).length : Int) - a) := ⟨_, rfl⟩
  rw [← hQ] at hc ⊢
  refine ACalls.hide fun post hpost => ?_
  refine F26_in (by simp) (by simp) fun hbd => ?_
  refine awp_seqH fun K1 hK1 => ?_
  simp (disch := first | (with_reducible assumption) | (simp; done) | omega | (simp; omega)) [F26_r0]
  refine hK1.out _ _ ?_
  refine awp_seqH fun K2 hK2 => ?_
  have main : ∀ T, T 0 = .ptr ib 0 → T 1 = .int .i64 q → K2 T (one ib (0, [ofS cB s, .int .i64 a, .int .i64 e])) := by
    intro T e0 e1
    refine hK2.out _ _ ?_
    clear hbd
    repeat' (first
      | refine awp_seqK fun K' hpK => ?_
      | refine awp_block ?_
      | refine awp_condG fun A' B' hpA hpB => ?_
      | refine useK (by with_reducible assumption) ?_
      | refine useP (by with_reducible assumption) ?_
      | refine ED_cons (fun _ => ?_) ?_
      | (refine stable_mk ?_; simp (disch := first | (with_reducible assumption) | (simp; done) | omega | (simp; omega)) [e0, e1]; done)
      | (refine stable_no ?_; simp (disch := first | (with_reducible assumption) | (simp; done) | omega | (simp; omega)) [e0, e1]; done)
      | (with_reducible refine And.intro ?_ ?_)
      | (with_reducible intro hc)
      | (with_reducible refine GDsplit (fun hc => ?_) (fun hc => ?_) <;> try simp [hc])
      | (with_reducible refine GDsplitN (fun hc => ?_) (fun hc => ?_) <;> try simp [hc])
      | (with_reducible refine GDsplitNB (fun hc => ?_) (fun hc => ?_) <;> try simp [hc])
      | (with_reducible refine GDsplitB (fun hc => ?_) (fun hc => ?_) <;> try simp [hc])
      | (with_reducible refine GKsplit (fun hc => ?_) (fun hc => ?_) <;> try simp [hc])
      | (with_reducible refine GKsplitN (fun hc => ?_) (fun hc => ?_) <;> try simp [hc])
      | (with_reducible refine GKsplitNB (fun hc => ?_) (fun hc => ?_) <;> try simp [hc])
      | (with_reducible refine GKsplitB (fun hc => ?_) (fun hc => ?_) <;> try simp [hc])
      | simp (disch := first | (with_reducible assumption) | (simp; done) | omega | (simp; omega)) [e0, e1])
    refine CallK.use (hc) ?_; rintro r G' _ _ ⟨hi2, rfl⟩
    by_cases hQ0 : Q = 0
    · rw [if_pos hQ0, if_pos hQ0] at hpost
      rw [hQ0] at hi2 hpost
      have hr : e = 0 ∧ 0 ≤ q ∧ 8 * q ≤ 8 * ((LL s).length : Int) - a := by
        rw [hQ] at hQ0; unfold hasE at hQ0
        split at hQ0
        · split at hQ0
          · omega
          · split at hQ0
            · omega
            · omega
        · contradiction
      obtain ⟨he, hq0, hqm⟩ := hr
      obtain ⟨m, rfl⟩ := Int.eq_ofNat_of_zero_le hq0
      obtain ⟨A, rfl⟩ := Int.eq_ofNat_of_zero_le h0
      clear hc hi hQ hq
      repeat' (first
        | refine awp_seqK fun K' hpK => ?_
        | refine awp_block ?_
        | refine awp_condG fun A' B' hpA hpB => ?_
        | refine useK (by with_reducible assumption) ?_
        | refine useP (by with_reducible assumption) ?_
        | refine ED_cons (fun _ => ?_) ?_
        | (refine stable_mk ?_; simp (disch := first | (with_reducible assumption) | (simp; done) | omega | (simp; omega)) [hQ0, e0, e1]; done)
        | (refine stable_no ?_; simp (disch := first | (with_reducible assumption) | (simp; done) | omega | (simp; omega)) [hQ0, e0, e1]; done)
        | (with_reducible refine And.intro ?_ ?_)
        | (with_reducible intro hc)
        | (with_reducible refine GDsplit (fun hc => ?_) (fun hc => ?_) <;> try simp [hc])
        | (with_reducible refine GDsplitN (fun hc => ?_) (fun hc => ?_) <;> try simp [hc])
        | (with_reducible refine GDsplitNB (fun hc => ?_) (fun hc => ?_) <;> try simp [hc])
        | (with_reducible refine GDsplitB (fun hc => ?_) (fun hc => ?_) <;> try simp [hc])
        | (with_reducible refine GKsplit (fun hc => ?_) (fun hc => ?_) <;> try simp [hc])
        | (with_reducible refine GKsplitN (fun hc => ?_) (fun hc => ?_) <;> try simp [hc])
        | (with_reducible refine GKsplitNB (fun hc => ?_) (fun hc => ?_) <;> try simp [hc])
        | (with_reducible refine GKsplitB (fun hc => ?_) (fun hc => ?_) <;> try simp [hc])
        | simp (disch := first | (with_reducible assumption) | (simp; done) | omega | (simp; omega)) [hQ0, e0, e1])
      refine awp_loop' (fun w T G' => ∃ (j : Nat) (out : AV) (h' : Hp), j + w = m ∧ InH (.ptr ib 0) h' s (A + 8 * (j : Nat)) 0 ∧ Grow cB 1 h' G' out (bytesAt (bitsL (LL s)) A j) ∧ T = ofL [(0, .ptr ib 0), (5, out), (22, .int .i64 m), (23, .int .i64 j)]) m
        ⟨0, .nils, G', by omega, by simpa using hi2, Grow.nil _ _, rfl⟩ ?_
      rintro w T G2 ⟨j, out, h', hj, hin, hg, rfl⟩ N hN
      have hpo := hg.plain
      by_cases hjm : j < m
      · have cb := bits_c (n := 8) hin (by omega) (by omega) hl hB
        have ha : askN 8 = 8 := by unfold askN; rw [if_pos (by omega)]
        have hz : hasE 0 8 (8 * ((LL s).length : Int) - ((A : Int) + 8 * (j : Nat))) = 0 := by unfold hasE; rw [if_pos rfl, if_neg (by omega), if_neg (by omega)]
        rw [ha, hz, if_pos rfl, if_pos rfl, show ((A : Int) + 8 * (j : Nat)).toNat = A + 8 * j by omega, show (8 : Int).toNat = 8 from rfl] at cb
        have hb := bytesAt_succ (bitsL (LL s)) A j
        have hv := valL_bound (((bitsL (LL s)).drop (A + 8 * j)).take 8) (((bitsL01 _).drop _).take _)
        have hv2 := valL_lt (((bitsL (LL s)).drop (A + 8 * j)).take 8) (((bitsL01 _).drop _).take _) (n := 8) (by simp; omega)
        have e8 : (2 : Int) ^ 8 = 256 := by decide
        rw [e8] at hv2
        obtain ⟨v, hvd⟩ : ∃ v, v = valL (((bitsL (LL s)).drop (A + 8 * j)).take 8) := ⟨_, rfl⟩
        rw [← hvd] at cb hb hv hv2
        obtain ⟨hv0, _⟩ := hv
        clear hvd
        repeat' (first
          | refine awp_seqK fun K' hpK => ?_
          | refine awp_block ?_
          | refine awp_condG fun A' B' hpA hpB => ?_
          | refine useK (by with_reducible assumption) ?_
          | refine useP (by with_reducible assumption) ?_
          | refine ED_cons (fun _ => ?_) ?_
          | (refine stable_mk ?_; simp (disch := first | (with_reducible assumption) | (simp; done) | omega | (simp; omega)) [hpo, hjm]; done)
          | (refine stable_no ?_; simp (disch := first | (with_reducible assumption) | (simp; done) | omega | (simp; omega)) [hpo, hjm]; done)
          | (with_reducible refine And.intro ?_ ?_)
          | (with_reducible intro hc)
          | (with_reducible refine GDsplit (fun hc => ?_) (fun hc => ?_) <;> try simp [hc])
          | (with_reducible refine GDsplitN (fun hc => ?_) (fun hc => ?_) <;> try simp [hc])
          | (with_reducible refine GDsplitNB (fun hc => ?_) (fun hc => ?_) <;> try simp [hc])
          | (with_reducible refine GDsplitB (fun hc => ?_) (fun hc => ?_) <;> try simp [hc])
          | (with_reducible refine GKsplit (fun hc => ?_) (fun hc => ?_) <;> try simp [hc])
          | (with_reducible refine GKsplitN (fun hc => ?_) (fun hc => ?_) <;> try simp [hc])
          | (with_reducible refine GKsplitNB (fun hc => ?_) (fun hc => ?_) <;> try simp [hc])
          | (with_reducible refine GKsplitB (fun hc => ?_) (fun hc => ?_) <;> try simp [hc])
          | simp (disch := first | (with_reducible assumption) | (simp; done) | omega | (simp; omega)) [hpo, hjm])
        refine CallK.grow hg cb ?_
        rintro r h2 G3 hg2 _ _ ⟨hin2, rfl⟩
        repeat' (first
          | refine awp_seqK fun K' hpK => ?_
          | refine awp_block ?_
          | refine awp_condG fun A' B' hpA hpB => ?_
          | refine useK (by with_reducible assumption) ?_
          | refine useP (by with_reducible assumption) ?_
          | refine ED_cons (fun _ => ?_) ?_
          | (refine stable_mk ?_; simp (disch := first | (with_reducible assumption) | (simp; done) | omega | (simp; omega)) [hpo]; done)
          | (refine stable_no ?_; simp (disch := first | (with_reducible assumption) | (simp; done) | omega | (simp; omega)) [hpo]; done)
          | (with_reducible refine And.intro ?_ ?_)
          | (with_reducible intro hc)
          | (with_reducible refine GDsplit (fun hc => ?_) (fun hc => ?_) <;> try simp [hc])
          | (with_reducible refine GDsplitN (fun hc => ?_) (fun hc => ?_) <;> try simp [hc])
          | (with_reducible refine GDsplitNB (fun hc => ?_) (fun hc => ?_) <;> try simp [hc])
          | (with_reducible refine GDsplitB (fun hc => ?_) (fun hc => ?_) <;> try simp [hc])
          | (with_reducible refine GKsplit (fun hc => ?_) (fun hc => ?_) <;> try simp [hc])
          | (with_reducible refine GKsplitN (fun hc => ?_) (fun hc => ?_) <;> try simp [hc])
          | (with_reducible refine GKsplitNB (fun hc => ?_) (fun hc => ?_) <;> try simp [hc])
          | (with_reducible refine GKsplitB (fun hc => ?_) (fun hc => ?_) <;> try simp [hc])
          | simp (disch := first | (with_reducible assumption) | (simp; done) | omega | (simp; omega)) [hpo])
        refine hg2.app1 (x := v) rfl (by simp [cB]) (by simp [LIM, bytesAt_len]; omega) (fun u G4 hg4 => ?_)
        have hu := hg4.plain
        repeat' (first
          | refine awp_seqK fun K' hpK => ?_
          | refine awp_block ?_
          | refine awp_condG fun A' B' hpA hpB => ?_
          | refine useK (by with_reducible assumption) ?_
          | refine useP (by with_reducible assumption) ?_
          | refine ED_cons (fun _ => ?_) ?_
          | (refine stable_mk ?_; simp (disch := first | (with_reducible assumption) | (simp; done) | omega | (simp; omega)) [hu]; done)
          | (refine stable_no ?_; simp (disch := first | (with_reducible assumption) | (simp; done) | omega | (simp; omega)) [hu]; done)
          | (with_reducible refine And.intro ?_ ?_)
          | (with_reducible intro hc)
          | (with_reducible refine GDsplit (fun hc => ?_) (fun hc => ?_) <;> try simp [hc])
          | (with_reducible refine GDsplitN (fun hc => ?_) (fun hc => ?_) <;> try simp [hc])
          | (with_reducible refine GDsplitNB (fun hc => ?_) (fun hc => ?_) <;> try simp [hc])
          | (with_reducible refine GDsplitB (fun hc => ?_) (fun hc => ?_) <;> try simp [hc])
          | (with_reducible refine GKsplit (fun hc => ?_) (fun hc => ?_) <;> try simp [hc])
          | (with_reducible refine GKsplitN (fun hc => ?_) (fun hc => ?_) <;> try simp [hc])
          | (with_reducible refine GKsplitNB (fun hc => ?_) (fun hc => ?_) <;> try simp [hc])
          | (with_reducible refine GKsplitB (fun hc => ?_) (fun hc => ?_) <;> try simp [hc])
          | simp (disch := first | (with_reducible assumption) | (simp; done) | omega | (simp; omega)) [hu])
        refine hN (w - 1) _ _ (by omega) ⟨j + 1, u, h2, by omega, ?_, by rw [hb]; exact hg4, by simp⟩
        rw [show (A : Int) + 8 * ((j + 1 : Nat) : Int) = A + 8 * (j : Nat) + 8 by omega]
        exact hin2
      · have : j = m := by omega
        subst this
        repeat' (first
          | refine awp_seqK fun K' hpK => ?_
          | refine awp_block ?_
          | refine awp_condG fun A' B' hpA hpB => ?_
          | refine useK (by with_reducible assumption) ?_
          | refine useP (by with_reducible assumption) ?_
          | refine ED_cons (fun _ => ?_) ?_
          | (refine stable_mk ?_; simp (disch := first | (with_reducible assumption) | (simp; done) | omega | (simp; omega)) [hpo]; done)
          | (refine stable_no ?_; simp (disch := first | (with_reducible assumption) | (simp; done) | omega | (simp; omega)) [hpo]; done)
          | (with_reducible refine And.intro ?_ ?_)
          | (with_reducible intro hc)
          | (with_reducible refine GDsplit (fun hc => ?_) (fun hc => ?_) <;> try simp [hc])
          | (with_reducible refine GDsplitN (fun hc => ?_) (fun hc => ?_) <;> try simp [hc])
          | (with_reducible refine GDsplitNB (fun hc => ?_) (fun hc => ?_) <;> try simp [hc])
          | (with_reducible refine GDsplitB (fun hc => ?_) (fun hc => ?_) <;> try simp [hc])
          | (with_reducible refine GKsplit (fun hc => ?_) (fun hc => ?_) <;> try simp [hc])
          | (with_reducible refine GKsplitN (fun hc => ?_) (fun hc => ?_) <;> try simp [hc])
          | (with_reducible refine GKsplitNB (fun hc => ?_) (fun hc => ?_) <;> try simp [hc])
          | (with_reducible refine GKsplitB (fun hc => ?_) (fun hc => ?_) <;> try simp [hc])
          | simp (disch := first | (with_reducible assumption) | (simp; done) | omega | (simp; omega)) [hpo])
        refine hg.ends (by simp) cB_plain (by simp) fun s' hs' => hpost _ _ ⟨hin, s', rfl, ?_⟩
        rw [hs']; simp
    · rw [if_neg hQ0, if_neg hQ0] at hpost
      repeat' (first
        | refine awp_seqK fun K' hpK => ?_
        | refine awp_block ?_
        | refine awp_condG fun A' B' hpA hpB => ?_
        | refine useK (by with_reducible assumption) ?_
        | refine useP (by with_reducible assumption) ?_
        | refine ED_cons (fun _ => ?_) ?_
        | (refine stable_mk ?_; simp (disch := first | (with_reducible assumption) | (simp; done) | omega | (simp; omega)) [hQ0, e0, e1]; done)
        | (refine stable_no ?_; simp (disch := first | (with_reducible assumption) | (simp; done) | omega | (simp; omega)) [hQ0, e0, e1]; done)
        | (with_reducible refine And.intro ?_ ?_)
        | (with_reducible intro hc)
        | (with_reducible refine GDsplit (fun hc => ?_) (fun hc => ?_) <;> try simp [hc])
        | (with_reducible refine GDsplitN (fun hc => ?_) (fun hc => ?_) <;> try simp [hc])
        | (with_reducible refine GDsplitNB (fun hc => ?_) (fun hc => ?_) <;> try simp [hc])
        | (with_reducible refine GDsplitB (fun hc => ?_) (fun hc => ?_) <;> try simp [hc])
        | (with_reducible refine GKsplit (fun hc => ?_) (fun hc => ?_) <;> try simp [hc])
        | (with_reducible refine GKsplitN (fun hc => ?_) (fun hc => ?_) <;> try simp [hc])
        | (with_reducible refine GKsplitNB (fun hc => ?_) (fun hc => ?_) <;> try simp [hc])
        | (with_reducible refine GKsplitB (fun hc => ?_) (fun hc => ?_) <;> try simp [hc])
        | simp (disch := first | (with_reducible assumption) | (simp; done) | omega | (simp; omega)) [hQ0, e0, e1])
      exact ends_one (by simp <;> rfl) (by simp) (hpost _ _ ⟨hi2, none, rfl, rfl⟩)
  unfold clampN at hq
  by_cases g1 : ((LL s).length : Int) + 1 < n
  · rw [if_pos g1] at hq
    have g2 : ¬ ((LL s).length : Int) + 1 < -1 := by omega
    repeat' (first
      | refine awp_seqK fun K' hpK => ?_
      | refine awp_block ?_
      | refine awp_condG fun A' B' hpA hpB => ?_
      | refine useK (by with_reducible assumption) ?_
      | refine useP (by with_reducible assumption) ?_
      | refine ED_cons (fun _ => ?_) ?_
      | (refine stable_mk ?_; simp (disch := first | (with_reducible assumption) | (simp; done) | omega | (simp; omega)) [g1, g2]; done)
      | (refine stable_no ?_; simp (disch := first | (with_reducible assumption) | (simp; done) | omega | (simp; omega)) [g1, g2]; done)
      | (with_reducible refine And.intro ?_ ?_)
      | (with_reducible intro hc)
      | (with_reducible refine GDsplit (fun hc => ?_) (fun hc => ?_) <;> try simp [hc])
      | (with_reducible refine GDsplitN (fun hc => ?_) (fun hc => ?_) <;> try simp [hc])
      | (with_reducible refine GDsplitNB (fun hc => ?_) (fun hc => ?_) <;> try simp [hc])
      | (with_reducible refine GDsplitB (fun hc => ?_) (fun hc => ?_) <;> try simp [hc])
      | (with_reducible refine GKsplit (fun hc => ?_) (fun hc => ?_) <;> try simp [hc])
      | (with_reducible refine GKsplitN (fun hc => ?_) (fun hc => ?_) <;> try simp [hc])
      | (with_reducible refine GKsplitNB (fun hc => ?_) (fun hc => ?_) <;> try simp [hc])
      | (with_reducible refine GKsplitB (fun hc => ?_) (fun hc => ?_) <;> try simp [hc])
      | simp (disch := first | (with_reducible assumption) | (simp; done) | omega | (simp; omega)) [g1, g2])
    exact main _ (by simp) (by simp [hq])
  · rw [if_neg g1] at hq
    by_cases g2 : n < -1
    · rw [if_pos g2] at hq
      repeat' (first
        | refine awp_seqK fun K' hpK => ?_
        | refine awp_block ?_
        | refine awp_condG fun A' B' hpA hpB => ?_
        | refine useK (by with_reducible assumption) ?_
        | refine useP (by with_reducible assumption) ?_
        | refine ED_cons (fun _ => ?_) ?_
        | (refine stable_mk ?_; simp (disch := first | (with_reducible assumption) | (simp; done) | omega | (simp; omega)) [g1, g2]; done)
        | (refine stable_no ?_; simp (disch := first | (with_reducible assumption) | (simp; done) | omega | (simp; omega)) [g1, g2]; done)
        | (with_reducible refine And.intro ?_ ?_)
        | (with_reducible intro hc)
        | (with_reducible refine GDsplit (fun hc => ?_) (fun hc => ?_) <;> try simp [hc])
        | (with_reducible refine GDsplitN (fun hc => ?_) (fun hc => ?_) <;> try simp [hc])
        | (with_reducible refine GDsplitNB (fun hc => ?_) (fun hc => ?_) <;> try simp [hc])
        | (with_reducible refine GDsplitB (fun hc => ?_) (fun hc => ?_) <;> try simp [hc])
        | (with_reducible refine GKsplit (fun hc => ?_) (fun hc => ?_) <;> try simp [hc])
        | (with_reducible refine GKsplitN (fun hc => ?_) (fun hc => ?_) <;> try simp [hc])
        | (with_reducible refine GKsplitNB (fun hc => ?_) (fun hc => ?_) <;> try simp [hc])
        | (with_reducible refine GKsplitB (fun hc => ?_) (fun hc => ?_) <;> try simp [hc])
        | simp (disch := first | (with_reducible assumption) | (simp; done) | omega | (simp; omega)) [g1, g2])
      exact main _ (by simp) (by simp [hq])
    · rw [if_neg g2] at hq
      repeat' (first
        | refine awp_seqK fun K' hpK => ?_
        | refine awp_block ?_
        | refine awp_condG fun A' B' hpA hpB => ?_
        | refine useK (by with_reducible assumption) ?_
        | refine useP (by with_reducible assumption) ?_
        | refine ED_cons (fun _ => ?_) ?_
        | (refine stable_mk ?_; simp (disch := first | (with_reducible assumption) | (simp; done) | omega | (simp; omega)) [g1, g2]; done)
        | (refine stable_no ?_; simp (disch := first | (with_reducible assumption) | (simp; done) | omega | (simp; omega)) [g1, g2]; done)
        | (with_reducible refine And.intro ?_ ?_)
        | (with_reducible intro hc)
        | (with_reducible refine GDsplit (fun hc => ?_) (fun hc => ?_) <;> try simp [hc])
        | (with_reducible refine GDsplitN (fun hc => ?_) (fun hc => ?_) <;> try simp [hc])
        | (with_reducible refine GDsplitNB (fun hc => ?_) (fun hc => ?_) <;> try simp [hc])
        | (with_reducible refine GDsplitB (fun hc => ?_) (fun hc => ?_) <;> try simp [hc])
        | (with_reducible refine GKsplit (fun hc => ?_) (fun hc => ?_) <;> try simp [hc])
        | (with_reducible refine GKsplitN (fun hc => ?_) (fun hc => ?_) <;> try simp [hc])
        | (with_reducible refine GKsplitNB (fun hc => ?_) (fun hc => ?_) <;> try simp [hc])
        | (with_reducible refine GKsplitB (fun hc => ?_) (fun hc => ?_) <;> try simp [hc])
        | simp (disch := first | (with_reducible assumption) | (simp; done) | omega | (simp; omega)) [g1, g2])
      exact main _ (by simp) (by simp [hq])

/- Rest -/
theorem rest_c {p : AV} {h : Hp} {s : Option (List Int)} {a e : Int} (hi : InH p h s a e) (h0 : 0 ≤ a) (h1 : a ≤ 8 * (LL s).length) (hl : (LL s).length ≤ 1000000) (hB : Bytes (LL s)) :
    ACalls Try.prog 28 [p] h fun r h' => InH p h' s (if e = 0 then a + 8 * ((8 * (LL s).length - a) / 8) else a) e ∧
      ∃ s', r = ofS cB s' ∧ LL s' = if e = 0 then bytesAt (bitsL (LL s)) a.toNat ((8 * (LL s).length - a) / 8).toNat else [] := by
  have hp : p.plain = true := by obtain ⟨ib, rfl, _⟩ := hi; simp
  obtain ⟨L, hL⟩ : ∃ L : Int, L = if e = 0 then 8 * ((LL s).length : Int) - a else 0 := ⟨_, rfl⟩
  have hL0 : 0 ≤ L ∧ L ≤ 8 * ((LL s).length : Int) := by rw [hL]; split <;> omega
  obtain ⟨hLa, hLb⟩ := hL0
  have hd : L.tdiv 8 = L / 8 := Int.tdiv_eq_ediv_of_nonneg hLa
  have hcl : clampN (L / 8) (LL s).length = L / 8 := by unfold clampN; rw [if_neg (by omega), if_neg (by omega)]
  have cl := left_c hi h0 h1 hl
  rw [← hL] at cl
  refine ACalls.hide fun post hpost => ?_
  refine F28_in (by simp [hp]) (by simp) fun hbd => ?_
  repeat' (first
    | refine awp_seqK fun K' hpK => ?_
    | refine awp_block ?_
    | refine awp_condG fun A' B' hpA hpB => ?_
    | refine useK (by with_reducible assumption) ?_
    | refine useP (by with_reducible assumption) ?_
    | refine ED_cons (fun _ => ?_) ?_
    | (refine stable_mk ?_; simp (disch := first | (with_reducible assumption) | (simp; done) | omega | (simp; omega)) [hp]; done)
    | (refine stable_no ?_; simp (disch := first | (with_reducible assumption) | (simp; done) | omega | (simp; omega)) [hp]; done)
    | (with_reducible refine And.intro ?_ ?_)
    | (with_reducible intro hc)
    | (with_reducible refine GDsplit (fun hc => ?_) (fun hc => ?_) <;> try simp [hc])
    | (with_reducible refine GDsplitN (fun hc => ?_) (fun hc => ?_) <;> try simp [hc])
    | (with_reducible refine GDsplitNB (fun hc => ?_) (fun hc => ?_) <;> try simp [hc])
    | (with_reducible refine GDsplitB (fun hc => ?_) (fun hc => ?_) <;> try simp [hc])
    | (with_reducible refine GKsplit (fun hc => ?_) (fun hc => ?_) <;> try simp [hc])
    | (with_reducible refine GKsplitN (fun hc => ?_) (fun hc => ?_) <;> try simp [hc])
    | (with_reducible refine GKsplitNB (fun hc => ?_) (fun hc => ?_) <;> try simp [hc])
    | (with_reducible refine GKsplitB (fun hc => ?_) (fun hc => ?_) <;> try simp [hc])
    | simp (disch := first | (with_reducible assumption) | (simp; done) | omega | (simp; omega)) [hp])
  refine CallK.use (cl) ?_; rintro r G' _ _ ⟨rfl, rfl⟩
  repeat' (first
    | refine awp_seqK fun K' hpK => ?_
    | refine awp_block ?_
    | refine awp_condG fun A' B' hpA hpB => ?_
    | refine useK (by with_reducible assumption) ?_
    | refine useP (by with_reducible assumption) ?_
    | refine ED_cons (fun _ => ?_) ?_
    | (refine stable_mk ?_; simp (disch := first | (with_reducible assumption) | (simp; done) | omega | (simp; omega)) [hp, hd]; done)
    | (refine stable_no ?_; simp (disch := first | (with_reducible assumption) | (simp; done) | omega | (simp; omega)) [hp, hd]; done)
    | (with_reducible refine And.intro ?_ ?_)
    | (with_reducible intro hc)
    | (with_reducible refine GDsplit (fun hc => ?_) (fun hc => ?_) <;> try simp [hc])
    | (with_reducible refine GDsplitN (fun hc => ?_) (fun hc => ?_) <;> try simp [hc])
    | (with_reducible refine GDsplitNB (fun hc => ?_) (fun hc => ?_) <;> try simp [hc])
    | (with_reducible refine GDsplitB (fun hc => ?_) (fun hc => ?_) <;> try simp [hc])
    | (with_reducible refine GKsplit (fun hc => ?_) (fun hc => ?_) <;> try simp [hc])
    | (with_reducible refine GKsplitN (fun hc => ?_) (fun hc => ?_) <;> try simp [hc])
    | (with_reducible refine GKsplitNB (fun hc => ?_) (fun hc => ?_) <;> try simp [hc])
    | (with_reducible refine GKsplitB (fun hc => ?_) (fun hc => ?_) <;> try simp [hc])
    | simp (disch := first | (with_reducible assumption) | (simp; done) | omega | (simp; omega)) [hp, hd])
  have cb := ibytes_c (n := L / 8) hi h0 h1 hl hB
  rw [hcl] at cb
  refine CallK.use (cb) ?_; rintro r G2 _ _ ⟨hi2, s', rfl, hs'⟩
  repeat' (first
    | refine awp_seqK fun K' hpK => ?_
    | refine awp_block ?_
    | refine awp_condG fun A' B' hpA hpB => ?_
    | refine useK (by with_reducible assumption) ?_
    | refine useP (by with_reducible assumption) ?_
    | refine ED_cons (fun _ => ?_) ?_
    | (refine stable_mk ?_; simp (disch := first | (with_reducible assumption) | (simp; done) | omega | (simp; omega)); done)
    | (refine stable_no ?_; simp (disch := first | (with_reducible assumption) | (simp; done) | omega | (simp; omega)); done)
    | (with_reducible refine And.intro ?_ ?_)
    | (with_reducible intro hc)
    | (with_reducible refine GDsplit (fun hc => ?_) (fun hc => ?_) <;> try simp [hc])
    | (with_reducible refine GDsplitN (fun hc => ?_) (fun hc => ?_) <;> try simp [hc])
    | (with_reducible refine GDsplitNB (fun hc => ?_) (fun hc => ?_) <;> try simp [hc])
    | (with_reducible refine GDsplitB (fun hc => ?_) (fun hc => ?_) <;> try simp [hc])
    | (with_reducible refine GKsplit (fun hc => ?_) (fun hc => ?_) <;> try simp [hc])
    | (with_reducible refine GKsplitN (fun hc => ?_) (fun hc => ?_) <;> try simp [hc])
    | (with_reducible refine GKsplitNB (fun hc => ?_) (fun hc => ?_) <;> try simp [hc])
    | (with_reducible refine GKsplitB (fun hc => ?_) (fun hc => ?_) <;> try simp [hc])
    | simp (disch := first | (with_reducible assumption) | (simp; done) | omega | (simp; omega)))
  refine ends_one (by simp <;> rfl) (by simp) (hpost _ _ ?_)
  by_cases he : e = 0
  · rw [if_pos he] at hL
    have hz : hasE e (8 * (L / 8)) (8 * ((LL s).length : Int) - a) = 0 := by unfold hasE; rw [if_pos he, if_neg (by omega), if_neg (by omega)]
    rw [hz] at hi2 hs'
    rw [if_pos he, if_pos he, he, ← hL]
    exact ⟨hi2, s', rfl, hs'⟩
  · have hz : hasE e (8 * (L / 8)) (8 * ((LL s).length : Int) - a) = e := by unfold hasE; rw [if_neg he]
    rw [hz, if_neg he] at hi2 hs'
    rw [if_neg he, if_neg he]
    exact ⟨hi2, s', rfl, hs'⟩

/- Out.Bytes -/
theorem numL8 (c : Int) : numL 8 c = byteBits c := rfl
def flatB (ps : List (Option (List Int))) : List Int := ps.flatMap LL
def obytesE (m len : Nat) : Int := if m ≤ 65536 ∧ 8 * m ≤ 524288 - len then 0 else 4
theorem flatB_succ {ps : List (Option (List Int))} {k : Nat} (h : k < ps.length) : flatB (ps.take (k + 1)) = flatB (ps.take k) ++ LL ps[k] := by
  unfold flatB; rw [take_succ_get _ _ h, List.flatMap_append]; simp
theorem flatB_le {ps : List (Option (List Int))} (k : Nat) : (flatB (ps.take k)).length ≤ (flatB ps).length := by
  have : flatB ps = flatB (ps.take k) ++ flatB (ps.drop k) := by unfold flatB; rw [← List.flatMap_append, List.take_append_drop]
  rw [this]; simp

set_option maxHeartbeats 2000000 in
theorem obytes_c {p : AV} {h : Hp} {l : List Int} {ps : Option (List (Option (List Int)))} (ho : OutH p h l) (hl : l.length ≤ 524288) (hB : Bytes (flatB (LL ps))) (hps : (LL ps).length ≤ 1000000) (hpl : ∀ s ∈ LL ps, (LL s).length ≤ 140737488355328) :
    ACalls Try.prog 23 [p, ofS cS ps] h fun r h' => OutH p h' (if obytesE (flatB (LL ps)).length l.length = 0 then l ++ bitsL (flatB (LL ps)) else l) ∧ r = .int .i64 (obytesE (flatB (LL ps)).length l.length) := by
  have ho0 := ho
  obtain ⟨ob, out, bs, rfl, hg, hp⟩ := ho0
  have hat := hg.at
  refine ACalls.hide fun post hpost => ?_
  refine F23_in (by simp) (by simp) fun hbd => ?_
  repeat' (first
    | refine awp_seqK fun K' hpK => ?_
    | refine awp_block ?_
    | refine awp_condG fun A' B' hpA hpB => ?_
    | refine useK (by with_reducible assumption) ?_
    | refine useP (by with_reducible assumption) ?_
    | refine ED_cons (fun _ => ?_) ?_
    | (refine stable_mk ?_; simp (disch := first | (with_reducible assumption) | (simp; done) | omega | (simp; omega)) [hat]; done)
    | (refine stable_no ?_; simp (disch := first | (with_reducible assumption) | (simp; done) | omega | (simp; omega)) [hat]; done)
    | (with_reducible refine And.intro ?_ ?_)
    | (with_reducible intro hc)
    | (with_reducible refine GDsplit (fun hc => ?_) (fun hc => ?_) <;> try simp [hc])
    | (with_reducible refine GDsplitN (fun hc => ?_) (fun hc => ?_) <;> try simp [hc])
    | (with_reducible refine GDsplitNB (fun hc => ?_) (fun hc => ?_) <;> try simp [hc])
    | (with_reducible refine GDsplitB (fun hc => ?_) (fun hc => ?_) <;> try simp [hc])
    | (with_reducible refine GKsplit (fun hc => ?_) (fun hc => ?_) <;> try simp [hc])
    | (with_reducible refine GKsplitN (fun hc => ?_) (fun hc => ?_) <;> try simp [hc])
    | (with_reducible refine GKsplitNB (fun hc => ?_) (fun hc => ?_) <;> try simp [hc])
    | (with_reducible refine GKsplitB (fun hc => ?_) (fun hc => ?_) <;> try simp [hc])
    | simp (disch := first | (with_reducible assumption) | (simp; done) | omega | (simp; omega)) [hat])
  clear hg hp hat
  refine awp_loop' (fun m T G' => ∃ k : Nat, k + m = (LL ps).length ∧ G' = h ∧ (flatB ((LL ps).take k)).length ≤ 65536 ∧ T = ofL [(0, .ptr ob 0), (1, ofS cS ps), (5, .int .i64 (flatB ((LL ps).take k)).length), (14, ofS cS ps), (15, .int .i64 (LL ps).length), (16, .int .i64 k)]) (LL ps).length ⟨0, by omega, rfl, by simp [flatB], by simp [flatB]⟩ ?_
  rintro m T G' ⟨k, hk, rfl, hfl, rfl⟩ N hN
  by_cases hkl : k < (LL ps).length
  · have hf := flatB_succ hkl
    have hle := flatB_le (ps := LL ps) (k + 1)
    have hmem := hpl _ (List.getElem_mem hkl)
    generalize hs : (LL ps)[k] = s at *
    rw [hf] at hle
    have hn := hN (m - 1)
    simp only [List.length_append] at hle
    by_cases hbig : (65536 - ((flatB ((LL ps).take k)).length : Int)) < ((LL s).length : Int)
    · repeat' (first
        | refine awp_seqK fun K' hpK => ?_
        | refine awp_block ?_
        | refine awp_condG fun A' B' hpA hpB => ?_
        | refine useK (by with_reducible assumption) ?_
        | refine useP (by with_reducible assumption) ?_
        | refine ED_cons (fun _ => ?_) ?_
        | (refine stable_mk ?_; simp (disch := first | (with_reducible assumption) | (simp; done) | omega | (simp; omega)) [hkl, ofS_idx (f := cS), cS, hs, hbig]; done)
        | (refine stable_no ?_; simp (disch := first | (with_reducible assumption) | (simp; done) | omega | (simp; omega)) [hkl, ofS_idx (f := cS), cS, hs, hbig]; done)
        | (with_reducible refine And.intro ?_ ?_)
        | (with_reducible intro hc)
        | (with_reducible refine GDsplit (fun hc => ?_) (fun hc => ?_) <;> try simp [hc])
        | (with_reducible refine GDsplitN (fun hc => ?_) (fun hc => ?_) <;> try simp [hc])
        | (with_reducible refine GDsplitNB (fun hc => ?_) (fun hc => ?_) <;> try simp [hc])
        | (with_reducible refine GDsplitB (fun hc => ?_) (fun hc => ?_) <;> try simp [hc])
        | (with_reducible refine GKsplit (fun hc => ?_) (fun hc => ?_) <;> try simp [hc])
        | (with_reducible refine GKsplitN (fun hc => ?_) (fun hc => ?_) <;> try simp [hc])
        | (with_reducible refine GKsplitNB (fun hc => ?_) (fun hc => ?_) <;> try simp [hc])
        | (with_reducible refine GKsplitB (fun hc => ?_) (fun hc => ?_) <;> try simp [hc])
        | simp (disch := first | (with_reducible assumption) | (simp; done) | omega | (simp; omega)) [hkl, ofS_idx (f := cS), cS, hs, hbig])
      refine ends_one (by simp <;> rfl) (by simp) (hpost _ _ ?_)
      have e : obytesE (flatB (LL ps)).length l.length = 4 := by unfold obytesE; rw [if_neg (by omega)]
      rw [e]; exact ⟨ho, rfl⟩
    · repeat' (first
        | refine awp_seqK fun K' hpK => ?_
        | refine awp_block ?_
        | refine awp_condG fun A' B' hpA hpB => ?_
        | refine useK (by with_reducible assumption) ?_
        | refine useP (by with_reducible assumption) ?_
        | refine ED_cons (fun _ => ?_) ?_
        | (refine stable_mk ?_; simp (disch := first | (with_reducible assumption) | (simp; done) | omega | (simp; omega)) [hkl, ofS_idx (f := cS), cS, hs, hbig]; done)
        | (refine stable_no ?_; simp (disch := first | (with_reducible assumption) | (simp; done) | omega | (simp; omega)) [hkl, ofS_idx (f := cS), cS, hs, hbig]; done)
        | (with_reducible refine And.intro ?_ ?_)
        | (with_reducible intro hc)
        | (with_reducible refine GDsplit (fun hc => ?_) (fun hc => ?_) <;> try simp [hc])
        | (with_reducible refine GDsplitN (fun hc => ?_) (fun hc => ?_) <;> try simp [hc])
        | (with_reducible refine GDsplitNB (fun hc => ?_) (fun hc => ?_) <;> try simp [hc])
        | (with_reducible refine GDsplitB (fun hc => ?_) (fun hc => ?_) <;> try simp [hc])
        | (with_reducible refine GKsplit (fun hc => ?_) (fun hc => ?_) <;> try simp [hc])
        | (with_reducible refine GKsplitN (fun hc => ?_) (fun hc => ?_) <;> try simp [hc])
        | (with_reducible refine GKsplitNB (fun hc => ?_) (fun hc => ?_) <;> try simp [hc])
        | (with_reducible refine GKsplitB (fun hc => ?_) (fun hc => ?_) <;> try simp [hc])
        | simp (disch := first | (with_reducible assumption) | (simp; done) | omega | (simp; omega)) [hkl, ofS_idx (f := cS), cS, hs, hbig])
      refine hN (m - 1) _ _ (by omega) ⟨k + 1, by omega, rfl, by rw [hf]; simp; omega, by rw [hf]; simp⟩
  · have : k = (LL ps).length := by omega
    subst this
    rw [List.take_length] at hfl ⊢
    repeat' (first
      | refine awp_seqK fun K' hpK => ?_
      | refine awp_block ?_
      | refine awp_condG fun A' B' hpA hpB => ?_
      | refine useK (by with_reducible assumption) ?_
      | refine useP (by with_reducible assumption) ?_
      | refine ED_cons (fun _ => ?_) ?_
      | (refine stable_mk ?_; simp (disch := first | (with_reducible assumption) | (simp; done) | omega | (simp; omega)); done)
      | (refine stable_no ?_; simp (disch := first | (with_reducible assumption) | (simp; done) | omega | (simp; omega)); done)
      | (with_reducible refine And.intro ?_ ?_)
      | (with_reducible intro hc)
      | (with_reducible refine GDsplit (fun hc => ?_) (fun hc => ?_) <;> try simp [hc])
      | (with_reducible refine GDsplitN (fun hc => ?_) (fun hc => ?_) <;> try simp [hc])
      | (with_reducible refine GDsplitNB (fun hc => ?_) (fun hc => ?_) <;> try simp [hc])
      | (with_reducible refine GDsplitB (fun hc => ?_) (fun hc => ?_) <;> try simp [hc])
      | (with_reducible refine GKsplit (fun hc => ?_) (fun hc => ?_) <;> try simp [hc])
      | (with_reducible refine GKsplitN (fun hc => ?_) (fun hc => ?_) <;> try simp [hc])
      | (with_reducible refine GKsplitNB (fun hc => ?_) (fun hc => ?_) <;> try simp [hc])
      | (with_reducible refine GKsplitB (fun hc => ?_) (fun hc => ?_) <;> try simp [hc])
      | simp (disch := first | (with_reducible assumption) | (simp; done) | omega | (simp; omega)))
    refine CallK.use (room_c ho (by omega)) ?_; rintro r G2 _ _ ⟨rfl, rfl⟩
    by_cases hr : 8 * ((flatB (LL ps)).length : Int) ≤ 524288 - (l.length : Int)
    · have e : obytesE (flatB (LL ps)).length l.length = 0 := by unfold obytesE; rw [if_pos (by omega)]
      rw [e] at hpost
      repeat' (first
        | refine awp_seqK fun K' hpK => ?_
        | refine awp_block ?_
        | refine awp_condG fun A' B' hpA hpB => ?_
        | refine useK (by with_reducible assumption) ?_
        | refine useP (by with_reducible assumption) ?_
        | refine ED_cons (fun _ => ?_) ?_
        | (refine stable_mk ?_; simp (disch := first | (with_reducible assumption) | (simp; done) | omega | (simp; omega)) [hr]; done)
        | (refine stable_no ?_; simp (disch := first | (with_reducible assumption) | (simp; done) | omega | (simp; omega)) [hr]; done)
        | (with_reducible refine And.intro ?_ ?_)
        | (with_reducible intro hc)
        | (with_reducible refine GDsplit (fun hc => ?_) (fun hc => ?_) <;> try simp [hc])
        | (with_reducible refine GDsplitN (fun hc => ?_) (fun hc => ?_) <;> try simp [hc])
        | (with_reducible refine GDsplitNB (fun hc => ?_) (fun hc => ?_) <;> try simp [hc])
        | (with_reducible refine GDsplitB (fun hc => ?_) (fun hc => ?_) <;> try simp [hc])
        | (with_reducible refine GKsplit (fun hc => ?_) (fun hc => ?_) <;> try simp [hc])
        | (with_reducible refine GKsplitN (fun hc => ?_) (fun hc => ?_) <;> try simp [hc])
        | (with_reducible refine GKsplitNB (fun hc => ?_) (fun hc => ?_) <;> try simp [hc])
        | (with_reducible refine GKsplitB (fun hc => ?_) (fun hc => ?_) <;> try simp [hc])
        | simp (disch := first | (with_reducible assumption) | (simp; done) | omega | (simp; omega)) [hr])
      refine awp_loop' (fun m T G' => ∃ k : Nat, k + m = (LL ps).length ∧ OutH (.ptr ob 0) G' (l ++ bitsL (flatB ((LL ps).take k))) ∧ T = ofL [(0, .ptr ob 0), (35, ofS cS ps), (36, .int .i64 (LL ps).length), (37, .int .i64 k)]) (LL ps).length ⟨0, by omega, by simpa [flatB, bitsL_nil] using ho, by simp⟩ ?_
      rintro m T G' ⟨k, hk, hok, rfl⟩ N1 hN1
      by_cases hkl : k < (LL ps).length
      · have hf := flatB_succ hkl
        have hle := flatB_le (ps := LL ps) (k + 1)
        have hBk : Bytes (flatB ((LL ps).take (k + 1))) := fun x hx => hB x (by
          have : flatB (LL ps) = flatB ((LL ps).take (k + 1)) ++ flatB ((LL ps).drop (k + 1)) := by unfold flatB; rw [← List.flatMap_append, List.take_append_drop]
          rw [this]; exact List.mem_append_left _ hx)
        generalize hs : (LL ps)[k] = s at *
        rw [hf] at hle hBk
        simp only [List.length_append] at hle
        generalize hpre : flatB ((LL ps).take k) = pre at *
        repeat' (first
          | refine awp_seqK fun K' hpK => ?_
          | refine awp_block ?_
          | refine awp_condG fun A' B' hpA hpB => ?_
          | refine useK (by with_reducible assumption) ?_
          | refine useP (by with_reducible assumption) ?_
          | refine ED_cons (fun _ => ?_) ?_
          | (refine stable_mk ?_; simp (disch := first | (with_reducible assumption) | (simp; done) | omega | (simp; omega)) [hkl, ofS_idx (f := cS), cS, hs]; done)
          | (refine stable_no ?_; simp (disch := first | (with_reducible assumption) | (simp; done) | omega | (simp; omega)) [hkl, ofS_idx (f := cS), cS, hs]; done)
          | (with_reducible refine And.intro ?_ ?_)
          | (with_reducible intro hc)
          | (with_reducible refine GDsplit (fun hc => ?_) (fun hc => ?_) <;> try simp [hc])
          | (with_reducible refine GDsplitN (fun hc => ?_) (fun hc => ?_) <;> try simp [hc])
          | (with_reducible refine GDsplitNB (fun hc => ?_) (fun hc => ?_) <;> try simp [hc])
          | (with_reducible refine GDsplitB (fun hc => ?_) (fun hc => ?_) <;> try simp [hc])
          | (with_reducible refine GKsplit (fun hc => ?_) (fun hc => ?_) <;> try simp [hc])
          | (with_reducible refine GKsplitN (fun hc => ?_) (fun hc => ?_) <;> try simp [hc])
          | (with_reducible refine GKsplitNB (fun hc => ?_) (fun hc => ?_) <;> try simp [hc])
          | (with_reducible refine GKsplitB (fun hc => ?_) (fun hc => ?_) <;> try simp [hc])
          | simp (disch := first | (with_reducible assumption) | (simp; done) | omega | (simp; omega)) [hkl, ofS_idx (f := cS), cS, hs])
        refine awp_loop' (fun m T G' => ∃ j : Nat, j + m = (LL s).length ∧ OutH (.ptr ob 0) G' (l ++ bitsL (pre ++ (LL s).take j)) ∧ T = ofL [(0, .ptr ob 0), (35, ofS cS ps), (36, .int .i64 (LL ps).length), (37, .int .i64 k), (41, ofS cB s), (42, .int .i64 (LL s).length), (43, .int .i64 j)]) (LL s).length ⟨0, by omega, by simpa using hok, by simp⟩ ?_
        rintro m2 T G2 ⟨j, hj, hoj, rfl⟩ N2 hN2
        by_cases hjl : j < (LL s).length
        · have hc := hBk _ (List.mem_append_right _ (List.getElem_mem hjl))
          have hst := take_succ_get _ _ hjl
          generalize hcd : (LL s)[j] = c at *
          obtain ⟨hc0, hc1⟩ := hc
          have hlen : (l ++ bitsL (pre ++ (LL s).take j)).length ≤ 524288 - 8 := by simp [bitsL_len]; omega
          have cb := obits_c (n := 8) (s := some [c]) hoj (by omega) (by simp [U64]; omega)
          have e1 : bitsE 8 (LL (some [c])).length (l ++ bitsL (pre ++ (LL s).take j)).length = 0 := by
            unfold bitsE; rw [if_pos (by omega), if_pos]; simp only [LL_some, List.length_cons, List.length_nil]; omega
          rw [e1, if_pos rfl] at cb
          repeat' (first
            | refine awp_seqK fun K' hpK => ?_
            | refine awp_block ?_
            | refine awp_condG fun A' B' hpA hpB => ?_
            | refine useK (by with_reducible assumption) ?_
            | refine useP (by with_reducible assumption) ?_
            | refine ED_cons (fun _ => ?_) ?_
            | (refine stable_mk ?_; simp (disch := first | (with_reducible assumption) | (simp; done) | omega | (simp; omega)) [hjl, ofS_idx (f := cB), cB, hcd]; done)
            | (refine stable_no ?_; simp (disch := first | (with_reducible assumption) | (simp; done) | omega | (simp; omega)) [hjl, ofS_idx (f := cB), cB, hcd]; done)
            | (with_reducible refine And.intro ?_ ?_)
            | (with_reducible intro hc)
            | (with_reducible refine GDsplit (fun hc => ?_) (fun hc => ?_) <;> try simp [hc])
            | (with_reducible refine GDsplitN (fun hc => ?_) (fun hc => ?_) <;> try simp [hc])
            | (with_reducible refine GDsplitNB (fun hc => ?_) (fun hc => ?_) <;> try simp [hc])
            | (with_reducible refine GDsplitB (fun hc => ?_) (fun hc => ?_) <;> try simp [hc])
            | (with_reducible refine GKsplit (fun hc => ?_) (fun hc => ?_) <;> try simp [hc])
            | (with_reducible refine GKsplitN (fun hc => ?_) (fun hc => ?_) <;> try simp [hc])
            | (with_reducible refine GKsplitNB (fun hc => ?_) (fun hc => ?_) <;> try simp [hc])
            | (with_reducible refine GKsplitB (fun hc => ?_) (fun hc => ?_) <;> try simp [hc])
            | simp (disch := first | (with_reducible assumption) | (simp; done) | omega | (simp; omega)) [hjl, ofS_idx (f := cB), cB, hcd])
          refine CallK.use (show ACalls Try.prog 11 [.ptr ob 0, .int .i64 8, .sl 1 [.int .u64 c]] G2 _ from cb) ?_
          rintro r G3 _ _ ⟨ho3, rfl⟩
          repeat' (first
            | refine awp_seqK fun K' hpK => ?_
            | refine awp_block ?_
            | refine awp_condG fun A' B' hpA hpB => ?_
            | refine useK (by with_reducible assumption) ?_
            | refine useP (by with_reducible assumption) ?_
            | refine ED_cons (fun _ => ?_) ?_
            | (refine stable_mk ?_; simp (disch := first | (with_reducible assumption) | (simp; done) | omega | (simp; omega)); done)
            | (refine stable_no ?_; simp (disch := first | (with_reducible assumption) | (simp; done) | omega | (simp; omega)); done)
            | (with_reducible refine And.intro ?_ ?_)
            | (with_reducible intro hc)
            | (with_reducible refine GDsplit (fun hc => ?_) (fun hc => ?_) <;> try simp [hc])
            | (with_reducible refine GDsplitN (fun hc => ?_) (fun hc => ?_) <;> try simp [hc])
            | (with_reducible refine GDsplitNB (fun hc => ?_) (fun hc => ?_) <;> try simp [hc])
            | (with_reducible refine GDsplitB (fun hc => ?_) (fun hc => ?_) <;> try simp [hc])
            | (with_reducible refine GKsplit (fun hc => ?_) (fun hc => ?_) <;> try simp [hc])
            | (with_reducible refine GKsplitN (fun hc => ?_) (fun hc => ?_) <;> try simp [hc])
            | (with_reducible refine GKsplitNB (fun hc => ?_) (fun hc => ?_) <;> try simp [hc])
            | (with_reducible refine GKsplitB (fun hc => ?_) (fun hc => ?_) <;> try simp [hc])
            | simp (disch := first | (with_reducible assumption) | (simp; done) | omega | (simp; omega)))
          refine hN2 (m2 - 1) _ _ (by omega) ⟨j + 1, by omega, ?_, by simp⟩
          rw [hst, ← List.append_assoc, bitsL_snoc, ← List.append_assoc, ← numL8]
          simpa using ho3
        · have : j = (LL s).length := by omega
          subst this
          repeat' (first
            | refine awp_seqK fun K' hpK => ?_
            | refine awp_block ?_
            | refine awp_condG fun A' B' hpA hpB => ?_
            | refine useK (by with_reducible assumption) ?_
            | refine useP (by with_reducible assumption) ?_
            | refine ED_cons (fun _ => ?_) ?_
            | (refine stable_mk ?_; simp (disch := first | (with_reducible assumption) | (simp; done) | omega | (simp; omega)); done)
            | (refine stable_no ?_; simp (disch := first | (with_reducible assumption) | (simp; done) | omega | (simp; omega)); done)
            | (with_reducible refine And.intro ?_ ?_)
            | (with_reducible intro hc)
            | (with_reducible refine GDsplit (fun hc => ?_) (fun hc => ?_) <;> try simp [hc])
            | (with_reducible refine GDsplitN (fun hc => ?_) (fun hc => ?_) <;> try simp [hc])
            | (with_reducible refine GDsplitNB (fun hc => ?_) (fun hc => ?_) <;> try simp [hc])
            | (with_reducible refine GDsplitB (fun hc => ?_) (fun hc => ?_) <;> try simp [hc])
            | (with_reducible refine GKsplit (fun hc => ?_) (fun hc => ?_) <;> try simp [hc])
            | (with_reducible refine GKsplitN (fun hc => ?_) (fun hc => ?_) <;> try simp [hc])
            | (with_reducible refine GKsplitNB (fun hc => ?_) (fun hc => ?_) <;> try simp [hc])
            | (with_reducible refine GKsplitB (fun hc => ?_) (fun hc => ?_) <;> try simp [hc])
            | simp (disch := first | (with_reducible assumption) | (simp; done) | omega | (simp; omega)))
          refine hN1 (m - 1) _ _ (by omega) ⟨k + 1, by omega, ?_, by simp⟩
          rw [hf]
          rw [List.take_length] at hoj
          exact hoj
      · have : k = (LL ps).length := by omega
        subst this
        rw [List.take_length] at hok
        repeat' (first
          | refine awp_seqK fun K' hpK => ?_
          | refine awp_block ?_
          | refine awp_condG fun A' B' hpA hpB => ?_
          | refine useK (by with_reducible assumption) ?_
          | refine useP (by with_reducible assumption) ?_
          | refine ED_cons (fun _ => ?_) ?_
          | (refine stable_mk ?_; simp (disch := first | (with_reducible assumption) | (simp; done) | omega | (simp; omega)); done)
          | (refine stable_no ?_; simp (disch := first | (with_reducible assumption) | (simp; done) | omega | (simp; omega)); done)
          | (with_reducible refine And.intro ?_ ?_)
          | (with_reducible intro hc)
          | (with_reducible refine GDsplit (fun hc => ?_) (fun hc => ?_) <;> try simp [hc])
          | (with_reducible refine GDsplitN (fun hc => ?_) (fun hc => ?_) <;> try simp [hc])
          | (with_reducible refine GDsplitNB (fun hc => ?_) (fun hc => ?_) <;> try simp [hc])
          | (with_reducible refine GDsplitB (fun hc => ?_) (fun hc => ?_) <;> try simp [hc])
          | (with_reducible refine GKsplit (fun hc => ?_) (fun hc => ?_) <;> try simp [hc])
          | (with_reducible refine GKsplitN (fun hc => ?_) (fun hc => ?_) <;> try simp [hc])
          | (with_reducible refine GKsplitNB (fun hc => ?_) (fun hc => ?_) <;> try simp [hc])
          | (with_reducible refine GKsplitB (fun hc => ?_) (fun hc => ?_) <;> try simp [hc])
          | simp (disch := first | (with_reducible assumption) | (simp; done) | omega | (simp; omega)))
        exact ends_one (by simp <;> rfl) (by simp) (hpost _ _ ⟨hok, rfl⟩)
    · have e : obytesE (flatB (LL ps)).length l.length = 4 := by unfold obytesE; rw [if_neg (by omega)]
      rw [e] at hpost
      repeat' (first
        | refine awp_seqK fun K' hpK => ?_
        | refine awp_block ?_
        | refine awp_condG fun A' B' hpA hpB => ?_
        | refine useK (by with_reducible assumption) ?_
        | refine useP (by with_reducible assumption) ?_
        | refine ED_cons (fun _ => ?_) ?_
        | (refine stable_mk ?_; simp (disch := first | (with_reducible assumption) | (simp; done) | omega | (simp; omega)) [hr]; done)
        | (refine stable_no ?_; simp (disch := first | (with_reducible assumption) | (simp; done) | omega | (simp; omega)) [hr]; done)
        | (with_reducible refine And.intro ?_ ?_)
        | (with_reducible intro hc)
        | (with_reducible refine GDsplit (fun hc => ?_) (fun hc => ?_) <;> try simp [hc])
        | (with_reducible refine GDsplitN (fun hc => ?_) (fun hc => ?_) <;> try simp [hc])
        | (with_reducible refine GDsplitNB (fun hc => ?_) (fun hc => ?_) <;> try simp [hc])
        | (with_reducible refine GDsplitB (fun hc => ?_) (fun hc => ?_) <;> try simp [hc])
        | (with_reducible refine GKsplit (fun hc => ?_) (fun hc => ?_) <;> try simp [hc])
        | (with_reducible refine GKsplitN (fun hc => ?_) (fun hc => ?_) <;> try simp [hc])
        | (with_reducible refine GKsplitNB (fun hc => ?_) (fun hc => ?_) <;> try simp [hc])
        | (with_reducible refine GKsplitB (fun hc => ?_) (fun hc => ?_) <;> try simp [hc])
        | simp (disch := first | (with_reducible assumption) | (simp; done) | omega | (simp; omega)) [hr])
      exact ends_one (by simp <;> rfl) (by simp) (hpost _ _ ⟨ho, rfl⟩)
end Go.Proofs.Ytdpppigniaafnaa
