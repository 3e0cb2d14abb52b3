import Derived.Test.YtdpppigniaafnaaD8K
import Derived.Test.YtdpppigniaafnaaAl1
set_option linter.unusedSimpArgs false
set_option linter.unusedVariables false
namespace Go.Proofs.Ytdpppigniaafnaa
open Go Go.Al
set_option maxRecDepth 20000
attribute [local irreducible] awp aops aopsD eop pv ACalls CallK AppK AEnds ti

def rightB (n : Int) : Bool := decide (1 ≤ n ∧ n ≤ 64)
theorem rightB_t {n : Int} (h : rightB n = true) : 1 ≤ n ∧ n ≤ 64 := of_decide_eq_true h
theorem rightB_f {n : Int} (h : rightB n = false) : ¬ (1 ≤ n ∧ n ≤ 64) := of_decide_eq_false h
theorem right_t {n : Int} {G : Hp} (h : 1 ≤ n ∧ n ≤ 64) : ACalls Try.prog 10 [.int .i64 n] G fun r G' => G' = G ∧ r = .bool true := right_c.mono fun r G' ⟨h1, h2⟩ => ⟨h1, by rw [h2, decide_eq_true h]⟩
theorem right_f {n : Int} {G : Hp} (h : ¬ (1 ≤ n ∧ n ≤ 64)) : ACalls Try.prog 10 [.int .i64 n] G fun r G' => G' = G ∧ r = .bool false := right_c.mono fun r G' ⟨h1, h2⟩ => ⟨h1, by rw [h2, decide_eq_false h]⟩
theorem right_b {n : Int} {G : Hp} : ACalls Try.prog 10 [.int .i64 n] G fun r G' => G' = G ∧ r = .bool (rightB n) := right_c

theorem valL_app (l m : List Int) : valL (l ++ m) = valL l * 2 ^ m.length + valL m := by
  generalize hk : m.length = k
  induction k generalizing m with
  | zero =>
    have : m = [] := List.eq_nil_of_length_eq_zero hk
    subst this; simp [valL]
  | succ k ih =>
    have hne : m ≠ [] := by intro h; subst h; simp at hk
    obtain ⟨t, x, rfl⟩ : ∃ t x, m = t ++ [x] := ⟨m.dropLast, m.getLast hne, (List.dropLast_concat_getLast hne).symm⟩
    have hl : t.length = k := by simpa using hk
    rw [← List.append_assoc, valL_snoc, valL_snoc, ih t hl, Int.pow_succ]
    have : valL l * (2 ^ k * 2) = 2 * (valL l * 2 ^ k) := by rw [← Int.mul_assoc, Int.mul_comm]
    rw [this]; omega
theorem or_pow {A B : Int} {m : Nat} (hA : 0 ≤ A) (hB : 0 ≤ B) (hm : B < 2 ^ m) (h : A * 2 ^ m + B ≤ 18446744073709551615) : ibits .or .u64 (A * 2 ^ m) B = some (A * 2 ^ m + B) := by
  obtain ⟨a, rfl⟩ := Int.eq_ofNat_of_zero_le hA
  obtain ⟨b, rfl⟩ := Int.eq_ofNat_of_zero_le hB
  have e : (a : Int) * 2 ^ m = ((2 ^ m * a : Nat) : Int) := by simp [Int.mul_comm]
  have hm' : b < 2 ^ m := by
    have : ((b : Nat) : Int) < ((2 ^ m : Nat) : Int) := by simpa using hm
    omega
  rw [e] at h ⊢
  rw [ibits_or, m64 (2 ^ m * a) (by omega), m64 b (by omega), ← Nat.two_pow_add_eq_or_of_lt hm', u64w (by omega) (by omega)]
  simp
theorem pow_fit {A B : Int} {n m : Nat} (hA : 0 ≤ A) (hn : A < 2 ^ n) (hB : 0 ≤ B) (hm : B < 2 ^ m) (h : n + m ≤ 64) : A * 2 ^ m + B ≤ 18446744073709551615 ∧ 0 ≤ A * 2 ^ m := by
  obtain ⟨a, rfl⟩ := Int.eq_ofNat_of_zero_le hA
  obtain ⟨b, rfl⟩ := Int.eq_ofNat_of_zero_le hB
  have hn' : a < 2 ^ n := by
    have : ((a : Nat) : Int) < ((2 ^ n : Nat) : Int) := by simpa using hn
    omega
  have hm' : b < 2 ^ m := by
    have : ((b : Nat) : Int) < ((2 ^ m : Nat) : Int) := by simpa using hm
    omega
  have h1 : (a + 1) * 2 ^ m ≤ 2 ^ n * 2 ^ m := Nat.mul_le_mul_right _ hn'
  rw [← Nat.pow_add] at h1
  have h2 : 2 ^ (n + m) ≤ 2 ^ 64 := Nat.pow_le_pow_right (by omega) h
  have h3 : a * 2 ^ m + b ≤ 18446744073709551615 := by
    rw [Nat.add_mul] at h1; omega
  have e : (a : Int) * 2 ^ m = ((a * 2 ^ m : Nat) : Int) := by simp
  rw [e]; omega
set_option maxHeartbeats 4000000 in
theorem split_main {post : AV → Hp → Prop} (hpost : ∀ r G', G' = emptyH ∧ r = AV.bool true → post r G') {at_ n m : Int} (hat : -9223372036854775808 ≤ at_ ∧ at_ ≤ 9223372036854775807) (hn : -9223372036854775808 ≤ n ∧ n ≤ 9223372036854775807) (hm : -9223372036854775808 ≤ m ∧ m ≤ 9223372036854775807)
    {T : Tm} {s : Option (List Int)} (hB : Bytes (LL s)) (hl : (LL s).length ≤ 40) (e0 : T 0 = ofS cB s) (e1 : T 1 = .int .i64 at_) (e2 : T 2 = .int .i64 n) (e3 : T 3 = .int .i64 m) :
    awp Try.prog [] ((F4_r3.seq (CC.cond (Operand.tmp 54) (F4_r4.seq CC.ret) CC.skip)).seq (F4_r5.seq (F4_r6.seq (F4_r7.seq (F4_r8.seq (F4_r9.seq (F4_r10.seq (F4_r11.seq CC.ret)))))))) (AEnds Try.prog [ResultVar.tmp 8] post) T emptyH := by
  skip
  by_cases hn2 : 1 ≤ n ∧ n ≤ 64
  · by_cases hm2 : 1 ≤ m ∧ m ≤ 64
    · repeat' (first
        | refine awp_seqK fun K' hpK => ?_
        | refine awp_block ?_
        | refine awp_condG fun A' B' hpA hpB => ?_
        | refine useK (by with_reducible assumption) ?_
        | refine useP (by with_reducible assumption) ?_
        | refine ED_cons (fun _ => ?_) ?_
        | (refine stable_mk ?_; simp (disch := first | (with_reducible assumption) | (simp; done) | omega | (simp; omega)) [e0, e1, e2, e3]; done)
        | (refine stable_no ?_; simp (disch := first | (with_reducible assumption) | (simp; done) | omega | (simp; omega)) [e0, e1, e2, e3]; done)
        | (with_reducible refine And.intro ?_ ?_)
        | (with_reducible intro hc)
        | (with_reducible refine GDsplit (fun hc => ?_) (fun hc => ?_) <;> try simp [hc])
        | (with_reducible refine GDsplitN (fun hc => ?_) (fun hc => ?_) <;> try simp [hc])
        | (with_reducible refine GDsplitNB (fun hc => ?_) (fun hc => ?_) <;> try simp [hc])
        | (with_reducible refine GDsplitB (fun hc => ?_) (fun hc => ?_) <;> try simp [hc])
        | (with_reducible refine GKsplit (fun hc => ?_) (fun hc => ?_) <;> try simp [hc])
        | (with_reducible refine GKsplitN (fun hc => ?_) (fun hc => ?_) <;> try simp [hc])
        | (with_reducible refine GKsplitNB (fun hc => ?_) (fun hc => ?_) <;> try simp [hc])
        | (with_reducible refine GKsplitB (fun hc => ?_) (fun hc => ?_) <;> try simp [hc])
        | (refine CallK.use (right_t hn2) ?_; rintro r G' _ _ ⟨rfl, rfl⟩)
        | (refine CallK.use (right_t hm2) ?_; rintro r G' _ _ ⟨rfl, rfl⟩)
        | (refine CallK.use (awake_c _) ?_; rintro r G' _ _ ⟨rfl, rfl⟩)
        | exact ends_drop (by simp <;> rfl) (by simp) (hpost _ _ ⟨rfl, rfl⟩)
        | simp (disch := first | (with_reducible assumption) | (simp; done) | omega | (simp; omega)) [e0, e1, e2, e3])
      obtain ⟨a, rfl⟩ := Int.eq_ofNat_of_zero_le (show 0 ≤ at_ by omega)
      obtain ⟨n, rfl⟩ := Int.eq_ofNat_of_zero_le (show 0 ≤ n by omega)
      obtain ⟨m, rfl⟩ := Int.eq_ofNat_of_zero_le (show 0 ≤ m by omega)
      clear hpA hpB
      refine CallK.new (of_c (s := s) (by omega)) ?_; rintro x hx hdx _ hpx ⟨s1, hs1, hI1⟩
      repeat' (first
        | refine awp_seqK fun K' hpK => ?_
        | refine awp_block ?_
        | refine awp_condG fun A' B' hpA hpB => ?_
        | refine useK (by with_reducible assumption) ?_
        | refine useP (by with_reducible assumption) ?_
        | refine ED_cons (fun _ => ?_) ?_
        | (refine stable_mk ?_; simp (disch := first | (with_reducible assumption) | (simp; done) | omega | (simp; omega)) [hpx, e0, e1, e2, e3, empty_uni]; done)
        | (refine stable_no ?_; simp (disch := first | (with_reducible assumption) | (simp; done) | omega | (simp; omega)) [hpx, e0, e1, e2, e3, empty_uni]; done)
        | (with_reducible refine And.intro ?_ ?_)
        | (with_reducible intro hc)
        | (with_reducible refine GDsplit (fun hc => ?_) (fun hc => ?_) <;> try simp [hc])
        | (with_reducible refine GDsplitN (fun hc => ?_) (fun hc => ?_) <;> try simp [hc])
        | (with_reducible refine GDsplitNB (fun hc => ?_) (fun hc => ?_) <;> try simp [hc])
        | (with_reducible refine GDsplitB (fun hc => ?_) (fun hc => ?_) <;> try simp [hc])
        | (with_reducible refine GKsplit (fun hc => ?_) (fun hc => ?_) <;> try simp [hc])
        | (with_reducible refine GKsplitN (fun hc => ?_) (fun hc => ?_) <;> try simp [hc])
        | (with_reducible refine GKsplitNB (fun hc => ?_) (fun hc => ?_) <;> try simp [hc])
        | (with_reducible refine GKsplitB (fun hc => ?_) (fun hc => ?_) <;> try simp [hc])
        | simp (disch := first | (with_reducible assumption) | (simp; done) | omega | (simp; omega)) [hpx, e0, e1, e2, e3, empty_uni])
      refine CallK.new (of_c (s := s) (by omega)) ?_; rintro y hy hdis _ hpy ⟨s2, hs2, hI2⟩
      have q1 : hasE 0 (a : Int) (8 * ((LL s1).length : Int) - 0) = 0 := by unfold hasE; rw [if_pos rfl, if_neg (by omega), if_neg (by rw [hs1]; omega)]
      have q2 : hasE 0 (a : Int) (8 * ((LL s2).length : Int) - 0) = 0 := by unfold hasE; rw [if_pos rfl, if_neg (by omega), if_neg (by rw [hs2]; omega)]
      have c1 := skip_c (n := a) hI1 (by omega) (by omega) (by rw [hs1]; omega)
      have c2 := skip_c (n := a) hI2 (by omega) (by omega) (by rw [hs2]; omega)
      rw [q1, if_pos rfl] at c1
      rw [q2, if_pos rfl] at c2
      repeat' (first
        | refine awp_seqK fun K' hpK => ?_
        | refine awp_block ?_
        | refine awp_condG fun A' B' hpA hpB => ?_
        | refine useK (by with_reducible assumption) ?_
        | refine useP (by with_reducible assumption) ?_
        | refine ED_cons (fun _ => ?_) ?_
        | (refine stable_mk ?_; simp (disch := first | (with_reducible assumption) | (simp; done) | omega | (simp; omega)) [hpx, hpy, e0, e1, e2, e3]; done)
        | (refine stable_no ?_; simp (disch := first | (with_reducible assumption) | (simp; done) | omega | (simp; omega)) [hpx, hpy, e0, e1, e2, e3]; done)
        | (with_reducible refine And.intro ?_ ?_)
        | (with_reducible intro hc)
        | (with_reducible refine GDsplit (fun hc => ?_) (fun hc => ?_) <;> try simp [hc])
        | (with_reducible refine GDsplitN (fun hc => ?_) (fun hc => ?_) <;> try simp [hc])
        | (with_reducible refine GDsplitNB (fun hc => ?_) (fun hc => ?_) <;> try simp [hc])
        | (with_reducible refine GDsplitB (fun hc => ?_) (fun hc => ?_) <;> try simp [hc])
        | (with_reducible refine GKsplit (fun hc => ?_) (fun hc => ?_) <;> try simp [hc])
        | (with_reducible refine GKsplitN (fun hc => ?_) (fun hc => ?_) <;> try simp [hc])
        | (with_reducible refine GKsplitNB (fun hc => ?_) (fun hc => ?_) <;> try simp [hc])
        | (with_reducible refine GKsplitB (fun hc => ?_) (fun hc => ?_) <;> try simp [hc])
        | simp (disch := first | (with_reducible assumption) | (simp; done) | omega | (simp; omega)) [hpx, hpy, e0, e1, e2, e3])
      refine CallK.fl (c1) hdis ?_; rintro r h3 hdis _ _ hI1
      repeat' (first
        | refine awp_seqK fun K' hpK => ?_
        | refine awp_block ?_
        | refine awp_condG fun A' B' hpA hpB => ?_
        | refine useK (by with_reducible assumption) ?_
        | refine useP (by with_reducible assumption) ?_
        | refine ED_cons (fun _ => ?_) ?_
        | (refine stable_mk ?_; simp (disch := first | (with_reducible assumption) | (simp; done) | omega | (simp; omega)) [hpx, hpy, e0, e1, e2, e3]; done)
        | (refine stable_no ?_; simp (disch := first | (with_reducible assumption) | (simp; done) | omega | (simp; omega)) [hpx, hpy, e0, e1, e2, e3]; done)
        | (with_reducible refine And.intro ?_ ?_)
        | (with_reducible intro hc)
        | (with_reducible refine GDsplit (fun hc => ?_) (fun hc => ?_) <;> try simp [hc])
        | (with_reducible refine GDsplitN (fun hc => ?_) (fun hc => ?_) <;> try simp [hc])
        | (with_reducible refine GDsplitNB (fun hc => ?_) (fun hc => ?_) <;> try simp [hc])
        | (with_reducible refine GDsplitB (fun hc => ?_) (fun hc => ?_) <;> try simp [hc])
        | (with_reducible refine GKsplit (fun hc => ?_) (fun hc => ?_) <;> try simp [hc])
        | (with_reducible refine GKsplitN (fun hc => ?_) (fun hc => ?_) <;> try simp [hc])
        | (with_reducible refine GKsplitNB (fun hc => ?_) (fun hc => ?_) <;> try simp [hc])
        | (with_reducible refine GKsplitB (fun hc => ?_) (fun hc => ?_) <;> try simp [hc])
        | simp (disch := first | (with_reducible assumption) | (simp; done) | omega | (simp; omega)) [hpx, hpy, e0, e1, e2, e3])
      refine CallK.fr (c2) hdis ?_; rintro r h4 hdis _ _ hI2
      repeat' (first
        | refine awp_seqK fun K' hpK => ?_
        | refine awp_block ?_
        | refine awp_condG fun A' B' hpA hpB => ?_
        | refine useK (by with_reducible assumption) ?_
        | refine useP (by with_reducible assumption) ?_
        | refine ED_cons (fun _ => ?_) ?_
        | (refine stable_mk ?_; simp (disch := first | (with_reducible assumption) | (simp; done) | omega | (simp; omega)) [hpx, hpy, e0, e1, e2, e3]; done)
        | (refine stable_no ?_; simp (disch := first | (with_reducible assumption) | (simp; done) | omega | (simp; omega)) [hpx, hpy, e0, e1, e2, e3]; done)
        | (with_reducible refine And.intro ?_ ?_)
        | (with_reducible intro hc)
        | (with_reducible refine GDsplit (fun hc => ?_) (fun hc => ?_) <;> try simp [hc])
        | (with_reducible refine GDsplitN (fun hc => ?_) (fun hc => ?_) <;> try simp [hc])
        | (with_reducible refine GDsplitNB (fun hc => ?_) (fun hc => ?_) <;> try simp [hc])
        | (with_reducible refine GDsplitB (fun hc => ?_) (fun hc => ?_) <;> try simp [hc])
        | (with_reducible refine GKsplit (fun hc => ?_) (fun hc => ?_) <;> try simp [hc])
        | (with_reducible refine GKsplitN (fun hc => ?_) (fun hc => ?_) <;> try simp [hc])
        | (with_reducible refine GKsplitNB (fun hc => ?_) (fun hc => ?_) <;> try simp [hc])
        | (with_reducible refine GKsplitB (fun hc => ?_) (fun hc => ?_) <;> try simp [hc])
        | simp (disch := first | (with_reducible assumption) | (simp; done) | omega | (simp; omega)) [hpx, hpy, e0, e1, e2, e3])
      have hB1 : Bytes (LL s1) := by rw [hs1]; exact hB
      have hB2 : Bytes (LL s2) := by rw [hs2]; exact hB
      have k0 : ∀ k : Int, 1 ≤ k → k ≤ 64 → askN k = k := fun k h1 h2 => by unfold askN; rw [if_pos ⟨h1, h2⟩]
      have k1 : ∀ (e : Int) (k : Int) (q : Int), e = 0 → 0 ≤ k → k ≤ q → hasE e k q = 0 := fun e k q he h1 h2 => by unfold hasE; rw [if_pos he, if_neg (by omega), if_neg (by omega)]
      have b1 := bits_c (n := ((n : Int) + m)) hI1 (by omega) (by rw [hs1]; omega) (by rw [hs1]; omega) hB1
      rw [k0 _ (by omega) (by omega), k1 0 _ _ rfl (by omega) (by rw [hs1]; omega), if_pos rfl, if_pos rfl] at b1
      obtain ⟨W, hW⟩ : ∃ W, W = valL (((bitsL (LL s1)).drop ((0 : Int) + a).toNat).take ((n : Int) + m).toNat) := ⟨_, rfl⟩
      rw [← hW] at b1
      refine CallK.fl (b1) hdis ?_; rintro r h5 hdis _ _ ⟨hI1, rfl⟩
      repeat' (first
        | refine awp_seqK fun K' hpK => ?_
        | refine awp_block ?_
        | refine awp_condG fun A' B' hpA hpB => ?_
        | refine useK (by with_reducible assumption) ?_
        | refine useP (by with_reducible assumption) ?_
        | refine ED_cons (fun _ => ?_) ?_
        | (refine stable_mk ?_; simp (disch := first | (with_reducible assumption) | (simp; done) | omega | (simp; omega)) [hpx, hpy, e0, e1, e2, e3]; done)
        | (refine stable_no ?_; simp (disch := first | (with_reducible assumption) | (simp; done) | omega | (simp; omega)) [hpx, hpy, e0, e1, e2, e3]; done)
        | (with_reducible refine And.intro ?_ ?_)
        | (with_reducible intro hc)
        | (with_reducible refine GDsplit (fun hc => ?_) (fun hc => ?_) <;> try simp [hc])
        | (with_reducible refine GDsplitN (fun hc => ?_) (fun hc => ?_) <;> try simp [hc])
        | (with_reducible refine GDsplitNB (fun hc => ?_) (fun hc => ?_) <;> try simp [hc])
        | (with_reducible refine GDsplitB (fun hc => ?_) (fun hc => ?_) <;> try simp [hc])
        | (with_reducible refine GKsplit (fun hc => ?_) (fun hc => ?_) <;> try simp [hc])
        | (with_reducible refine GKsplitN (fun hc => ?_) (fun hc => ?_) <;> try simp [hc])
        | (with_reducible refine GKsplitNB (fun hc => ?_) (fun hc => ?_) <;> try simp [hc])
        | (with_reducible refine GKsplitB (fun hc => ?_) (fun hc => ?_) <;> try simp [hc])
        | simp (disch := first | (with_reducible assumption) | (simp; done) | omega | (simp; omega)) [hpx, hpy, e0, e1, e2, e3])
      have b2 := bits_c (n := (n : Int)) hI2 (by omega) (by rw [hs2]; omega) (by rw [hs2]; omega) hB2
      rw [k0 _ (by omega) (by omega), k1 0 _ _ rfl (by omega) (by rw [hs2]; omega), if_pos rfl, if_pos rfl] at b2
      obtain ⟨A, hA⟩ : ∃ A, A = valL (((bitsL (LL s2)).drop ((0 : Int) + a).toNat).take (n : Int).toNat) := ⟨_, rfl⟩
      rw [← hA] at b2
      refine CallK.fr (b2) hdis ?_; rintro r h6 hdis _ _ ⟨hI2, rfl⟩
      repeat' (first
        | refine awp_seqK fun K' hpK => ?_
        | refine awp_block ?_
        | refine awp_condG fun A' B' hpA hpB => ?_
        | refine useK (by with_reducible assumption) ?_
        | refine useP (by with_reducible assumption) ?_
        | refine ED_cons (fun _ => ?_) ?_
        | (refine stable_mk ?_; simp (disch := first | (with_reducible assumption) | (simp; done) | omega | (simp; omega)) [hpx, hpy, e0, e1, e2, e3]; done)
        | (refine stable_no ?_; simp (disch := first | (with_reducible assumption) | (simp; done) | omega | (simp; omega)) [hpx, hpy, e0, e1, e2, e3]; done)
        | (with_reducible refine And.intro ?_ ?_)
        | (with_reducible intro hc)
        | (with_reducible refine GDsplit (fun hc => ?_) (fun hc => ?_) <;> try simp [hc])
        | (with_reducible refine GDsplitN (fun hc => ?_) (fun hc => ?_) <;> try simp [hc])
        | (with_reducible refine GDsplitNB (fun hc => ?_) (fun hc => ?_) <;> try simp [hc])
        | (with_reducible refine GDsplitB (fun hc => ?_) (fun hc => ?_) <;> try simp [hc])
        | (with_reducible refine GKsplit (fun hc => ?_) (fun hc => ?_) <;> try simp [hc])
        | (with_reducible refine GKsplitN (fun hc => ?_) (fun hc => ?_) <;> try simp [hc])
        | (with_reducible refine GKsplitNB (fun hc => ?_) (fun hc => ?_) <;> try simp [hc])
        | (with_reducible refine GKsplitB (fun hc => ?_) (fun hc => ?_) <;> try simp [hc])
        | simp (disch := first | (with_reducible assumption) | (simp; done) | omega | (simp; omega)) [hpx, hpy, e0, e1, e2, e3])
      have b3 := bits_c (n := (m : Int)) hI2 (by omega) (by rw [hs2]; omega) (by rw [hs2]; omega) hB2
      rw [k0 _ (by omega) (by omega), k1 0 _ _ rfl (by omega) (by rw [hs2]; omega), if_pos rfl, if_pos rfl] at b3
      obtain ⟨B, hBB⟩ : ∃ B, B = valL (((bitsL (LL s2)).drop ((0 : Int) + a + n).toNat).take (m : Int).toNat) := ⟨_, rfl⟩
      rw [← hBB] at b3
      refine CallK.fr (b3) hdis ?_; rintro r h7 hdis _ _ ⟨hI2, rfl⟩
      rw [show ((0 : Int) + (a : Int)).toNat = a by omega, show ((n : Int) + (m : Int)).toNat = n + m by omega, hs1] at hW
      rw [show ((0 : Int) + (a : Int)).toNat = a by omega, Int.toNat_natCast, hs2] at hA
      rw [show ((0 : Int) + (a : Int) + (n : Int)).toNat = a + n by omega, Int.toNat_natCast, hs2] at hBB
      obtain ⟨V, hV⟩ : ∃ V, V = bitsL (LL s) := ⟨_, rfl⟩
      rw [← hV] at hW hA hBB
      have hV01 : Bits01 V := hV ▸ bitsL01 _
      have hVl : a + n + m ≤ V.length := by rw [hV, bitsL_len]; omega
      have hsplit : (V.drop a).take (n + m) = (V.drop a).take n ++ (V.drop (a + n)).take m := by rw [List.take_add, List.drop_drop]
      have hx1 := valL_lt ((V.drop a).take n) (hV01.drop a |>.take n) (n := n) (by simp; omega)
      have hx2 := valL_lt ((V.drop (a + n)).take m) (hV01.drop _ |>.take m) (n := m) (by simp; omega)
      have hml : ((V.drop (a + n)).take m).length = m := by simp; omega
      rw [hsplit, valL_app, hml, ← hA, ← hBB] at hW
      rw [← hA] at hx1
      rw [← hBB] at hx2
      have hA0 := (valL_bound ((V.drop a).take n) (hV01.drop a |>.take n)).1
      have hB0 := (valL_bound ((V.drop (a + n)).take m) (hV01.drop _ |>.take m)).1
      rw [← hA] at hA0
      rw [← hBB] at hB0
      obtain ⟨f1, f2⟩ := pow_fit hA0 hx1 hB0 hx2 (by omega)
      have f3 := or_pow hA0 hB0 hx2 f1
      have f4 : IntKind.u64.wrap (A * 2 ^ m) = A * 2 ^ m := u64w f2 (by omega)
      subst hW
      clear hA hBB hsplit hml
      repeat' (first
        | refine awp_seqK fun K' hpK => ?_
        | refine awp_block ?_
        | refine awp_condG fun A' B' hpA hpB => ?_
        | refine useK (by with_reducible assumption) ?_
        | refine useP (by with_reducible assumption) ?_
        | refine ED_cons (fun _ => ?_) ?_
        | (refine stable_mk ?_; simp (disch := first | (with_reducible assumption) | (simp; done) | omega | (simp; omega)) [hpx, hpy, e0, e1, e2, e3, conv, f3, f4]; done)
        | (refine stable_no ?_; simp (disch := first | (with_reducible assumption) | (simp; done) | omega | (simp; omega)) [hpx, hpy, e0, e1, e2, e3, conv, f3, f4]; done)
        | (with_reducible refine And.intro ?_ ?_)
        | (with_reducible intro hc)
        | (with_reducible refine GDsplit (fun hc => ?_) (fun hc => ?_) <;> try simp [hc])
        | (with_reducible refine GDsplitN (fun hc => ?_) (fun hc => ?_) <;> try simp [hc])
        | (with_reducible refine GDsplitNB (fun hc => ?_) (fun hc => ?_) <;> try simp [hc])
        | (with_reducible refine GDsplitB (fun hc => ?_) (fun hc => ?_) <;> try simp [hc])
        | (with_reducible refine GKsplit (fun hc => ?_) (fun hc => ?_) <;> try simp [hc])
        | (with_reducible refine GKsplitN (fun hc => ?_) (fun hc => ?_) <;> try simp [hc])
        | (with_reducible refine GKsplitNB (fun hc => ?_) (fun hc => ?_) <;> try simp [hc])
        | (with_reducible refine GKsplitB (fun hc => ?_) (fun hc => ?_) <;> try simp [hc])
        | simp (disch := first | (with_reducible assumption) | (simp; done) | omega | (simp; omega)) [hpx, hpy, e0, e1, e2, e3, conv, f3, f4])
      refine CallK.fl (inAt_c hI1) hdis ?_; rintro r h8 hdis _ _ ⟨rfl, rfl⟩
      repeat' (first
        | refine awp_seqK fun K' hpK => ?_
        | refine awp_block ?_
        | refine awp_condG fun A' B' hpA hpB => ?_
        | refine useK (by with_reducible assumption) ?_
        | refine useP (by with_reducible assumption) ?_
        | refine ED_cons (fun _ => ?_) ?_
        | (refine stable_mk ?_; simp (disch := first | (with_reducible assumption) | (simp; done) | omega | (simp; omega)) [hpx, hpy]; done)
        | (refine stable_no ?_; simp (disch := first | (with_reducible assumption) | (simp; done) | omega | (simp; omega)) [hpx, hpy]; done)
        | (with_reducible refine And.intro ?_ ?_)
        | (with_reducible intro hc)
        | (with_reducible refine GDsplit (fun hc => ?_) (fun hc => ?_) <;> try simp [hc])
        | (with_reducible refine GDsplitN (fun hc => ?_) (fun hc => ?_) <;> try simp [hc])
        | (with_reducible refine GDsplitNB (fun hc => ?_) (fun hc => ?_) <;> try simp [hc])
        | (with_reducible refine GDsplitB (fun hc => ?_) (fun hc => ?_) <;> try simp [hc])
        | (with_reducible refine GKsplit (fun hc => ?_) (fun hc => ?_) <;> try simp [hc])
        | (with_reducible refine GKsplitN (fun hc => ?_) (fun hc => ?_) <;> try simp [hc])
        | (with_reducible refine GKsplitNB (fun hc => ?_) (fun hc => ?_) <;> try simp [hc])
        | (with_reducible refine GKsplitB (fun hc => ?_) (fun hc => ?_) <;> try simp [hc])
        | simp (disch := first | (with_reducible assumption) | (simp; done) | omega | (simp; omega)) [hpx, hpy])
      refine CallK.fr (inAt_c hI2) hdis ?_; rintro r h9 hdis _ _ ⟨rfl, rfl⟩
      have f5 : (a : Int) + (n + m) = a + n + m := by omega
      repeat' (first
        | refine awp_seqK fun K' hpK => ?_
        | refine awp_block ?_
        | refine awp_condG fun A' B' hpA hpB => ?_
        | refine useK (by with_reducible assumption) ?_
        | refine useP (by with_reducible assumption) ?_
        | refine ED_cons (fun _ => ?_) ?_
        | (refine stable_mk ?_; simp (disch := first | (with_reducible assumption) | (simp; done) | omega | (simp; omega)) [hpx, hpy, f5]; done)
        | (refine stable_no ?_; simp (disch := first | (with_reducible assumption) | (simp; done) | omega | (simp; omega)) [hpx, hpy, f5]; done)
        | (with_reducible refine And.intro ?_ ?_)
        | (with_reducible intro hc)
        | (with_reducible refine GDsplit (fun hc => ?_) (fun hc => ?_) <;> try simp [hc])
        | (with_reducible refine GDsplitN (fun hc => ?_) (fun hc => ?_) <;> try simp [hc])
        | (with_reducible refine GDsplitNB (fun hc => ?_) (fun hc => ?_) <;> try simp [hc])
        | (with_reducible refine GDsplitB (fun hc => ?_) (fun hc => ?_) <;> try simp [hc])
        | (with_reducible refine GKsplit (fun hc => ?_) (fun hc => ?_) <;> try simp [hc])
        | (with_reducible refine GKsplitN (fun hc => ?_) (fun hc => ?_) <;> try simp [hc])
        | (with_reducible refine GKsplitNB (fun hc => ?_) (fun hc => ?_) <;> try simp [hc])
        | (with_reducible refine GKsplitB (fun hc => ?_) (fun hc => ?_) <;> try simp [hc])
        | (refine CallK.use (awake_c _) ?_; rintro r G' _ _ ⟨rfl, rfl⟩)
        | exact ends_drop (by simp <;> rfl) (by simp) (hpost _ _ ⟨rfl, rfl⟩)
        | simp (disch := first | (with_reducible assumption) | (simp; done) | omega | (simp; omega)) [hpx, hpy, f5])
    · repeat' (first
        | refine awp_seqK fun K' hpK => ?_
        | refine awp_block ?_
        | refine awp_condG fun A' B' hpA hpB => ?_
        | refine useK (by with_reducible assumption) ?_
        | refine useP (by with_reducible assumption) ?_
        | refine ED_cons (fun _ => ?_) ?_
        | (refine stable_mk ?_; simp (disch := first | (with_reducible assumption) | (simp; done) | omega | (simp; omega)) [e0, e1, e2, e3]; done)
        | (refine stable_no ?_; simp (disch := first | (with_reducible assumption) | (simp; done) | omega | (simp; omega)) [e0, e1, e2, e3]; done)
        | (with_reducible refine And.intro ?_ ?_)
        | (with_reducible intro hc)
        | (with_reducible refine GDsplit (fun hc => ?_) (fun hc => ?_) <;> try simp [hc])
        | (with_reducible refine GDsplitN (fun hc => ?_) (fun hc => ?_) <;> try simp [hc])
        | (with_reducible refine GDsplitNB (fun hc => ?_) (fun hc => ?_) <;> try simp [hc])
        | (with_reducible refine GDsplitB (fun hc => ?_) (fun hc => ?_) <;> try simp [hc])
        | (with_reducible refine GKsplit (fun hc => ?_) (fun hc => ?_) <;> try simp [hc])
        | (with_reducible refine GKsplitN (fun hc => ?_) (fun hc => ?_) <;> try simp [hc])
        | (with_reducible refine GKsplitNB (fun hc => ?_) (fun hc => ?_) <;> try simp [hc])
        | (with_reducible refine GKsplitB (fun hc => ?_) (fun hc => ?_) <;> try simp [hc])
        | (refine CallK.use (right_t hn2) ?_; rintro r G' _ _ ⟨rfl, rfl⟩)
        | (refine CallK.use (right_f hm2) ?_; rintro r G' _ _ ⟨rfl, rfl⟩)
        | (refine CallK.use (awake_c _) ?_; rintro r G' _ _ ⟨rfl, rfl⟩)
        | exact ends_drop (by simp <;> rfl) (by simp) (hpost _ _ ⟨rfl, rfl⟩)
        | simp (disch := first | (with_reducible assumption) | (simp; done) | omega | (simp; omega)) [e0, e1, e2, e3])
  · repeat' (first
      | refine awp_seqK fun K' hpK => ?_
      | refine awp_block ?_
      | refine awp_condG fun A' B' hpA hpB => ?_
      | refine useK (by with_reducible assumption) ?_
      | refine useP (by with_reducible assumption) ?_
      | refine ED_cons (fun _ => ?_) ?_
      | (refine stable_mk ?_; simp (disch := first | (with_reducible assumption) | (simp; done) | omega | (simp; omega)) [e0, e1, e2, e3]; done)
      | (refine stable_no ?_; simp (disch := first | (with_reducible assumption) | (simp; done) | omega | (simp; omega)) [e0, e1, e2, e3]; done)
      | (with_reducible refine And.intro ?_ ?_)
      | (with_reducible intro hc)
      | (with_reducible refine GDsplit (fun hc => ?_) (fun hc => ?_) <;> try simp [hc])
      | (with_reducible refine GDsplitN (fun hc => ?_) (fun hc => ?_) <;> try simp [hc])
      | (with_reducible refine GDsplitNB (fun hc => ?_) (fun hc => ?_) <;> try simp [hc])
      | (with_reducible refine GDsplitB (fun hc => ?_) (fun hc => ?_) <;> try simp [hc])
      | (with_reducible refine GKsplit (fun hc => ?_) (fun hc => ?_) <;> try simp [hc])
      | (with_reducible refine GKsplitN (fun hc => ?_) (fun hc => ?_) <;> try simp [hc])
      | (with_reducible refine GKsplitNB (fun hc => ?_) (fun hc => ?_) <;> try simp [hc])
      | (with_reducible refine GKsplitB (fun hc => ?_) (fun hc => ?_) <;> try simp [hc])
      | (refine CallK.use (right_f hn2) ?_; rintro r G' _ _ ⟨rfl, rfl⟩)
      | (refine CallK.use (awake_c _) ?_; rintro r G' _ _ ⟨rfl, rfl⟩)
      | exact ends_drop (by simp <;> rfl) (by simp) (hpost _ _ ⟨rfl, rfl⟩)
      | simp (disch := first | (with_reducible assumption) | (simp; done) | omega | (simp; omega)) [e0, e1, e2, e3])
theorem bitsSplit_c {s : Option (List Int)} (hB : Bytes (LL s)) {at_ n m : Int} (hat : -9223372036854775808 ≤ at_ ∧ at_ ≤ 9223372036854775807) (hn : -9223372036854775808 ≤ n ∧ n ≤ 9223372036854775807) (hm : -9223372036854775808 ≤ m ∧ m ≤ 9223372036854775807) :
    ACalls Try.prog 4 [ofS cB s, .int .i64 at_, .int .i64 n, .int .i64 m] emptyH fun r G' => G' = emptyH ∧ r = .bool true := by
  refine ACalls.hide fun post hpost => ?_
  refine F4_in (by simp) (by simp) fun hbd => ?_
  refine awp_seqH fun K1 hK1 => ?_
  simp (disch := first | (with_reducible assumption) | (simp; done) | omega | (simp; omega)) [F4_r0]
  refine hK1.out _ _ ?_
  refine awp_seqH fun K2 hK2 => ?_
  by_cases h40 : (40 : Int) < ((LL s).length : Int)
  · repeat' (first
      | refine awp_seqK fun K' hpK => ?_
      | refine awp_block ?_
      | refine awp_condG fun A' B' hpA hpB => ?_
      | refine useK (by with_reducible assumption) ?_
      | refine useP (by with_reducible assumption) ?_
      | refine ED_cons (fun _ => ?_) ?_
      | (refine stable_mk ?_; simp (disch := first | (with_reducible assumption) | (simp; done) | omega | (simp; omega)) [h40, aslc_hi (f := cB)]; done)
      | (refine stable_no ?_; simp (disch := first | (with_reducible assumption) | (simp; done) | omega | (simp; omega)) [h40, aslc_hi (f := cB)]; done)
      | (with_reducible refine And.intro ?_ ?_)
      | (with_reducible intro hc)
      | (with_reducible refine GDsplit (fun hc => ?_) (fun hc => ?_) <;> try simp [hc])
      | (with_reducible refine GDsplitN (fun hc => ?_) (fun hc => ?_) <;> try simp [hc])
      | (with_reducible refine GDsplitNB (fun hc => ?_) (fun hc => ?_) <;> try simp [hc])
      | (with_reducible refine GDsplitB (fun hc => ?_) (fun hc => ?_) <;> try simp [hc])
      | (with_reducible refine GKsplit (fun hc => ?_) (fun hc => ?_) <;> try simp [hc])
      | (with_reducible refine GKsplitN (fun hc => ?_) (fun hc => ?_) <;> try simp [hc])
      | (with_reducible refine GKsplitNB (fun hc => ?_) (fun hc => ?_) <;> try simp [hc])
      | (with_reducible refine GKsplitB (fun hc => ?_) (fun hc => ?_) <;> try simp [hc])
      | simp (disch := first | (with_reducible assumption) | (simp; done) | omega | (simp; omega)) [h40, aslc_hi (f := cB)])
    refine hK2.out _ _ ?_
    exact split_main hpost hat hn hm (s := s.map fun l => l.take 40) (by simp; intro x hx; exact hB x (List.mem_of_mem_take hx)) (by simp; omega) (by simp) (by simp) (by simp) (by simp)
  · repeat' (first
      | refine awp_seqK fun K' hpK => ?_
      | refine awp_block ?_
      | refine awp_condG fun A' B' hpA hpB => ?_
      | refine useK (by with_reducible assumption) ?_
      | refine useP (by with_reducible assumption) ?_
      | refine ED_cons (fun _ => ?_) ?_
      | (refine stable_mk ?_; simp (disch := first | (with_reducible assumption) | (simp; done) | omega | (simp; omega)) [h40]; done)
      | (refine stable_no ?_; simp (disch := first | (with_reducible assumption) | (simp; done) | omega | (simp; omega)) [h40]; done)
      | (with_reducible refine And.intro ?_ ?_)
      | (with_reducible intro hc)
      | (with_reducible refine GDsplit (fun hc => ?_) (fun hc => ?_) <;> try simp [hc])
      | (with_reducible refine GDsplitN (fun hc => ?_) (fun hc => ?_) <;> try simp [hc])
      | (with_reducible refine GDsplitNB (fun hc => ?_) (fun hc => ?_) <;> try simp [hc])
      | (with_reducible refine GDsplitB (fun hc => ?_) (fun hc => ?_) <;> try simp [hc])
      | (with_reducible refine GKsplit (fun hc => ?_) (fun hc => ?_) <;> try simp [hc])
      | (with_reducible refine GKsplitN (fun hc => ?_) (fun hc => ?_) <;> try simp [hc])
      | (with_reducible refine GKsplitNB (fun hc => ?_) (fun hc => ?_) <;> try simp [hc])
      | (with_reducible refine GKsplitB (fun hc => ?_) (fun hc => ?_) <;> try simp [hc])
      | simp (disch := first | (with_reducible assumption) | (simp; done) | omega | (simp; omega)) [h40])
    refine hK2.out _ _ ?_
    exact split_main hpost hat hn hm hB (by omega) (by simp) (by simp) (by simp) (by simp)
end Go.Proofs.Ytdpppigniaafnaa
