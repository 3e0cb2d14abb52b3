import Derived.Test.YtdpppigniaafnaaD8K
import Derived.Test.YtdpppigniaafnaaAl1
set_option linter.unusedSimpArgs false
set_option linter.unusedVariables false
namespace Go.Proofs.Ytdpppigniaafnaa
open Go Go.Al
set_option maxRecDepth 20000
attribute [local irreducible] awp aops aopsD eop pv ACalls CallK AppK AEnds ti

/- Fill -/
theorem packed_fill {bs l : List Int} (h : Packed bs l) : Packed bs (l ++ List.replicate (8 * bs.length - l.length) 0) := by
  rw [← h.bits]; exact Packed.full h.1
def fillN (n : Nat) : Nat := (8 - n % 8) % 8
theorem fill_c {p : AV} {h : Hp} {l : List Int} (ho : OutH p h l) (hl : l.length ≤ 1000000) : ACalls Try.prog 30 [p] h fun r h' => OutH p h' (l ++ List.replicate (fillN l.length) 0) ∧ r = .int .i64 (fillN l.length : Nat) := by
  obtain ⟨ob, out, bs, rfl, hg, hp⟩ := ho
  have hat := hg.at
  obtain ⟨q, hq⟩ : ∃ q, q = l.length % 8 := ⟨_, rfl⟩
  have d2 : ((l.length : Nat) : Int).tmod 8 = (q : Int) := by rw [Int.tmod_eq_emod_of_nonneg (by omega)]; omega
  have d3 : (8 - (q : Int)).tmod 8 = (fillN l.length : Nat) := by unfold fillN; rw [Int.tmod_eq_emod_of_nonneg (by omega)]; omega
  have d4 : fillN l.length ≤ 7 := by unfold fillN; omega
  have d5 : fillN l.length = 8 * bs.length - l.length := by have := hp.2.2.1; have := hp.2.2.2.1; unfold fillN; omega
  refine ACalls.hide fun post hpost => ?_
  refine F30_in (by simp) (by simp) fun hbd => ?_
  repeat' (first
    | refine awp_seqK fun K' hpK => ?_
    | refine awp_block ?_
    | refine awp_condG fun A' B' hpA hpB => ?_
    | refine useK (by with_reducible assumption) ?_
    | refine useP (by with_reducible assumption) ?_
    | refine ED_cons (fun _ => ?_) ?_
    | (refine stable_mk ?_; simp (disch := first | (with_reducible assumption) | (simp; done) | omega | (simp; omega)) [hat, d2, d3]; done)
    | (refine stable_no ?_; simp (disch := first | (with_reducible assumption) | (simp; done) | omega | (simp; omega)) [hat, d2, d3]; done)
    | (with_reducible refine And.intro ?_ ?_)
    | (with_reducible intro hc)
    | (with_reducible refine GDsplit (fun hc => ?_) (fun hc => ?_) <;> try simp [hc])
    | (with_reducible refine GDsplitN (fun hc => ?_) (fun hc => ?_) <;> try simp [hc])
    | (with_reducible refine GDsplitNB (fun hc => ?_) (fun hc => ?_) <;> try simp [hc])
    | (with_reducible refine GDsplitB (fun hc => ?_) (fun hc => ?_) <;> try simp [hc])
    | (with_reducible refine GKsplit (fun hc => ?_) (fun hc => ?_) <;> try simp [hc])
    | (with_reducible refine GKsplitN (fun hc => ?_) (fun hc => ?_) <;> try simp [hc])
    | (with_reducible refine GKsplitNB (fun hc => ?_) (fun hc => ?_) <;> try simp [hc])
    | (with_reducible refine GKsplitB (fun hc => ?_) (fun hc => ?_) <;> try simp [hc])
    | simp (disch := first | (with_reducible assumption) | (simp; done) | omega | (simp; omega)) [hat, d2, d3])
  all_goals (first | refine ends_one (by simp <;> rfl) (by simp) (hpost _ _ ?_) | refine ends_noneN (hpost _ _ ?_) | refine ends_many (by simp <;> rfl) (by simp) (hpost _ _ ?_) | skip)
  refine ⟨⟨ob, out, bs, rfl, ?_, by rw [d5]; exact packed_fill hp⟩, rfl⟩
  have hg2 := Grow.set hg (one_same ..) (o' := (0, [out, .int .i64 ((l.length : Int) + (fillN l.length : Nat))]))
  rw [setH_one] at hg2
  unfold OutB
  simpa using hg2

/- Set -/
def setE (n at_ : Int) (len : Nat) : Int := if 1 ≤ n ∧ n ≤ 64 then (if at_ < 0 ∨ len < at_ ∨ (len : Int) - at_ < n then 7 else 0) else 1
def setL (l : List Int) (a n : Nat) (v : Int) (k : Nat) : List Int := l.take a ++ (numL n v).take k ++ l.drop (a + k)

theorem clr_all : ∀ v : Fin 256, ∀ s : Fin 8, ibits .andNot .u8 (v.val : Int) ((2 ^ s.val : Nat) : Int) = some (((v.val - v.val / 2 ^ s.val % 2 * 2 ^ s.val : Nat) : Int)) := by decide +kernel
theorem clr_bits : ∀ v : Fin 256, ∀ s : Fin 8, ∀ j : Fin 8, (v.val - v.val / 2 ^ s.val % 2 * 2 ^ s.val) / 2 ^ j.val % 2 = if j = s then 0 else v.val / 2 ^ j.val % 2 := by decide +kernel
theorem set_bit {v b : Int} {s : Nat} (h0 : 0 ≤ v) (h1 : v ≤ 255) (hs : s < 8) (hb : b = 0 ∨ b = 1) :
    ∃ w v', ibits .andNot .u8 v (2 ^ s) = some w ∧ 0 ≤ w ∧ w ≤ 255 ∧ ibits .or .u8 w (b * 2 ^ s) = some v' ∧ 0 ≤ v' ∧ v' ≤ 255 ∧ ∀ j, j < 8 → v'.fdiv (2 ^ j) % 2 = if j = s then b else v.fdiv (2 ^ j) % 2 := by
  obtain ⟨x, rfl⟩ := Int.eq_ofNat_of_zero_le h0
  have hx : x < 256 := by omega
  have hw := clr_all ⟨x, hx⟩ ⟨s, hs⟩
  have hj := clr_bits ⟨x, hx⟩ ⟨s, hs⟩
  have hle : x - x / 2 ^ s % 2 * 2 ^ s ≤ x := Nat.sub_le _ _
  simp only at hw hj hle
  generalize hy : x - x / 2 ^ s % 2 * 2 ^ s = y at hw hj hle
  have e1 : (2 : Int) ^ s = ((2 ^ s : Nat) : Int) := by simp
  have hz : (y : Int).fdiv (2 ^ s) % 2 = 0 := by
    rw [bit_nat, hj ⟨s, hs⟩]; simp
  obtain ⟨v', g1, g2, g3, g4⟩ := or_bit (v := (y : Int)) (by omega) (by omega) hs hb hz
  refine ⟨y, v', by rw [e1]; exact hw, by omega, by omega, g1, g2, g3, fun j h => ?_⟩
  rw [g4 j h]
  by_cases hjs : j = s
  · rw [if_pos hjs, if_pos hjs]
  · rw [if_neg hjs, if_neg hjs, bit_nat, bit_nat, hj ⟨j, h⟩, if_neg (by intro e; exact hjs (Fin.mk.inj e))]

/-- another bit in a place -/
theorem packed_at {bs l : List Int} {b v' : Int} {q i : Nat} (h : Packed bs l) (hi : i < l.length) (hq : q = i / 8) (hb : b = 0 ∨ b = 1) (hqb : q < bs.length)
    (hv0 : 0 ≤ v') (hv1 : v' ≤ 255) (hv : ∀ j, j < 8 → v'.fdiv (2 ^ j) % 2 = if j = 7 - i % 8 then b else (bs[q]).fdiv (2 ^ j) % 2) : Packed (bs.set q v') (l.set i b) := by
  obtain ⟨hB, h01, h2, h3, h4, h5⟩ := h
  have hget : ∀ i, i / 8 = q → bitAt bs i = (bs[q]).fdiv (2 ^ (7 - i % 8)) % 2 := by
    intro i hi
    unfold bitAt
    rw [hi]; simp [List.getD, hqb]
  refine ⟨hB.set hv0 hv1, ?_, by simpa using h2, by simpa using h3, fun k hk => ?_, fun k hk hk2 => ?_⟩
  · intro x hx
    rcases List.mem_or_eq_of_mem_set hx with hx | rfl
    · exact h01 x hx
    · exact hb
  · simp at hk
    rw [bitAt_set hqb]
    by_cases h : k / 8 = q
    · rw [if_pos h, hv _ (by omega), ← hget k h, List.getElem_set]
      by_cases hik : i = k
      · subst hik; rw [if_pos rfl, if_pos rfl]
      · rw [if_neg hik, if_neg (by omega), h4 k hk]
    · rw [if_neg h, List.getElem_set, if_neg (by rintro rfl; omega), h4 k hk]
  · simp at hk hk2
    rw [bitAt_set hqb]
    by_cases h : k / 8 = q
    · rw [if_pos h, hv _ (by omega), if_neg (by omega), ← hget k h, h5 k hk hk2]
    · rw [if_neg h, h5 k hk hk2]

theorem setL_len {l : List Int} {a n : Nat} {v : Int} {k : Nat} (hk : k ≤ n) (h : a + n ≤ l.length) : (setL l a n v k).length = l.length := by
  simp [setL, numL_len]; omega
theorem setL_step {l : List Int} {a n : Nat} {v : Int} {k : Nat} (hk : k < n) (h : a + n ≤ l.length) : (setL l a n v k).set (a + k) (v.fdiv (2 ^ (n - 1 - k)) % 2) = setL l a n v (k + 1) := by
  have hnl : k < (numL n v).length := by rw [numL_len]; exact hk
  unfold setL
  rw [take_succ_get _ _ hnl, numL_get]
  have e1 : (l.take a ++ (numL n v).take k).length = a + k := by simp [numL_len]; omega
  rw [List.set_append_right _ _ (by omega), e1, Nat.sub_self, List.drop_eq_getElem_cons (show a + k < l.length by omega)]
  simp [Nat.add_assoc]

set_option maxHeartbeats 4000000 in
theorem set_c {p : AV} {h : Hp} {l : List Int} {at_ n v : Int} (ho : OutH p h l) (hl : l.length ≤ 524288) (hat0 : -9223372036854775808 ≤ at_ ∧ at_ ≤ 9223372036854775807) (hn0 : -9223372036854775808 ≤ n ∧ n ≤ 9223372036854775807) (hv : 0 ≤ v ∧ v ≤ 18446744073709551615) :
    ACalls Try.prog 31 [p, .int .i64 at_, .int .i64 n, .int .u64 v] h fun r h' => OutH p h' (if setE n at_ l.length = 0 then setL l at_.toNat n.toNat v n.toNat else l) ∧ r = .int .i64 (setE n at_ l.length) := by
  have ho0 := ho
  obtain ⟨ob, out, bs, rfl, hg, hp⟩ := ho0
  have hat := hg.at
  refine ACalls.hide fun post hpost => ?_
  refine F31_in (by simp) (by simp) fun hbd => ?_
  repeat' (first
    | refine awp_seqK fun K' hpK => ?_
    | refine awp_block ?_
    | refine awp_condG fun A' B' hpA hpB => ?_
    | refine useK (by with_reducible assumption) ?_
    | refine useP (by with_reducible assumption) ?_
    | refine ED_cons (fun _ => ?_) ?_
    | (refine stable_mk ?_; simp (disch := first | (with_reducible assumption) | (simp; done) | omega | (simp; omega)) [hat]; done)
    | (refine stable_no ?_; simp (disch := first | (with_reducible assumption) | (simp; done) | omega | (simp; omega)) [hat]; done)
    | (with_reducible refine And.intro ?_ ?_)
    | (with_reducible intro hc)
    | (with_reducible refine GDsplit (fun hc => ?_) (fun hc => ?_) <;> try simp [hc])
    | (with_reducible refine GDsplitN (fun hc => ?_) (fun hc => ?_) <;> try simp [hc])
    | (with_reducible refine GDsplitNB (fun hc => ?_) (fun hc => ?_) <;> try simp [hc])
    | (with_reducible refine GDsplitB (fun hc => ?_) (fun hc => ?_) <;> try simp [hc])
    | (with_reducible refine GKsplit (fun hc => ?_) (fun hc => ?_) <;> try simp [hc])
    | (with_reducible refine GKsplitN (fun hc => ?_) (fun hc => ?_) <;> try simp [hc])
    | (with_reducible refine GKsplitNB (fun hc => ?_) (fun hc => ?_) <;> try simp [hc])
    | (with_reducible refine GKsplitB (fun hc => ?_) (fun hc => ?_) <;> try simp [hc])
    | simp (disch := first | (with_reducible assumption) | (simp; done) | omega | (simp; omega)) [hat])
  all_goals first
    | (refine ends_one (by simp <;> rfl) (by simp) (hpost _ _ ?_)
       have e : setE n at_ l.length = 1 := by (unfold setE; (repeat' split) <;> omega)
       rw [e]; exact ⟨by simpa using ho, rfl⟩)
    | (refine ends_one (by simp <;> rfl) (by simp) (hpost _ _ ?_)
       have e : setE n at_ l.length = 7 := by (unfold setE; (repeat' split) <;> omega)
       rw [e]; exact ⟨by simpa using ho, rfl⟩)
    | skip
  have e : setE n at_ l.length = 0 := by (unfold setE; (repeat' split) <;> omega)
  rw [e] at hpost
  obtain ⟨a, rfl⟩ := Int.eq_ofNat_of_zero_le (show 0 ≤ at_ by omega)
  obtain ⟨n, rfl⟩ := Int.eq_ofNat_of_zero_le (show 0 ≤ n by omega)
  have hn64 : n ≤ 64 := by omega
  have hal : a + n ≤ l.length := by omega
  clear hg hp hat e
  refine awp_loop' (fun m T G' => ∃ k : Nat, k + m = n ∧ OutH (.ptr ob 0) G' (setL l a n v k) ∧
    T = ofL [(0, .ptr ob 0), (1, .int .i64 a), (2, .int .i64 n), (3, .int .u64 v), (43, .int .i64 n), (44, .int .i64 k)]) n ⟨0, by omega, by simpa [setL] using ho, rfl⟩ ?_
  rintro m T G' ⟨k, hk, hok, rfl⟩ N hN
  have hlen := setL_len (v := v) (show k ≤ n by omega) hal
  by_cases hkn : k < n
  · have hst := setL_step (v := v) hkn hal
    obtain ⟨ob2, out2, bs2, hob, hg, hp⟩ := hok
    injection hob with hob _
    subst hob
    have hat := hg.at
    rw [hlen] at hat hg
    obtain ⟨q, hq⟩ : ∃ q, q = (a + k) / 8 := ⟨_, rfl⟩
    obtain ⟨r, hr⟩ : ∃ r, r = (a + k) % 8 := ⟨_, rfl⟩
    have hr8 : r < 8 := by omega
    have hl8 := hp.2.2.1
    rw [hlen] at hl8
    have hqb : q < bs2.length := by omega
    obtain ⟨db, τ, hd0, rfl, hG⟩ := Grow.ms hg (by intro h; subst h; simp at hqb)
    have hatd : G' db = some (τ, bs2.map (AV.int .u8)) := by rw [hG, setH_same, cB_map]
    have hdb : db ≠ ob := by rintro rfl; simp at hd0
    have hdb' : ob ≠ db := Ne.symm hdb
    have d1 : ((a : Int) + (k : Int)).tdiv 8 = (q : Int) := by rw [Int.tdiv_eq_ediv_of_nonneg (by omega)]; omega
    have d2 : ((a : Int) + (k : Int)).tmod 8 = (r : Int) := by rw [Int.tmod_eq_emod_of_nonneg (by omega)]; omega
    have d3 : (7 - (r : Int)).toNat = 7 - r := by omega
    have hki : ((n : Int) - 1 - (k : Int)).toNat = n - 1 - k := by omega
    obtain ⟨b1, b2⟩ := shr_u64_bound (k := n - 1 - k) hv.1 hv.2
    have hb01 : v.fdiv (2 ^ (n - 1 - k)) % 2 = 0 ∨ v.fdiv (2 ^ (n - 1 - k)) % 2 = 1 := by omega
    generalize hbd : v.fdiv (2 ^ (n - 1 - k)) % 2 = b at *
    have hby := hp.1 _ (List.getElem_mem hqb)
    obtain ⟨w, v', s1, s2, s3, s4, s5, s6, s7⟩ := set_bit hby.1 hby.2 (show 7 - r < 8 by omega) hb01
    have hp2 : (0 : Int) < 2 ^ (7 - r) ∧ (2 : Int) ^ (7 - r) ≤ 128 := by
      refine ⟨Int.pow_pos (by omega), ?_⟩
      have := Nat.pow_le_pow_right (n := 2) (by omega) (show 7 - r ≤ 7 by omega)
      have h2 : ((2 ^ (7 - r) : Nat) : Int) ≤ 128 := by exact_mod_cast this
      simpa using h2
    have hw : (0 : Int) ≤ b * 2 ^ (7 - r) ∧ b * 2 ^ (7 - r) ≤ 255 := by
      rcases hb01 with rfl | rfl <;> simp <;> omega
    have hw0 := hw.1
    have hw1 := hw.2
    have hp20 := hp2.1
    have hp21 := hp2.2
    clear hat0 hn0 hp2 hw
    repeat' (first
      | refine awp_seqK fun K' hpK => ?_
      | refine awp_block ?_
      | refine awp_condG fun A' B' hpA hpB => ?_
      | refine useK (by with_reducible assumption) ?_
      | refine useP (by with_reducible assumption) ?_
      | refine ED_cons (fun _ => ?_) ?_
      | (refine stable_mk ?_; simp (disch := first | (with_reducible assumption) | (simp; done) | omega | (simp; omega)) [hat, hatd, conv, hki, and1_u64, hbd, d1, d2, d3, s1, s4, hqb, hkn]; done)
      | (refine stable_no ?_; simp (disch := first | (with_reducible assumption) | (simp; done) | omega | (simp; omega)) [hat, hatd, conv, hki, and1_u64, hbd, d1, d2, d3, s1, s4, hqb, hkn]; done)
      | (with_reducible refine And.intro ?_ ?_)
      | (with_reducible intro hc)
      | (with_reducible refine GDsplit (fun hc => ?_) (fun hc => ?_) <;> try simp [hc])
      | (with_reducible refine GDsplitN (fun hc => ?_) (fun hc => ?_) <;> try simp [hc])
      | (with_reducible refine GDsplitNB (fun hc => ?_) (fun hc => ?_) <;> try simp [hc])
      | (with_reducible refine GDsplitB (fun hc => ?_) (fun hc => ?_) <;> try simp [hc])
      | (with_reducible refine GKsplit (fun hc => ?_) (fun hc => ?_) <;> try simp [hc])
      | (with_reducible refine GKsplitN (fun hc => ?_) (fun hc => ?_) <;> try simp [hc])
      | (with_reducible refine GKsplitNB (fun hc => ?_) (fun hc => ?_) <;> try simp [hc])
      | (with_reducible refine GKsplitB (fun hc => ?_) (fun hc => ?_) <;> try simp [hc])
      | simp (disch := first | (with_reducible assumption) | (simp; done) | omega | (simp; omega)) [hat, hatd, conv, hki, and1_u64, hbd, d1, d2, d3, s1, s4, hqb, hkn])
    refine hN (m - 1) _ _ (by omega) ⟨k + 1, by omega, ⟨ob, .ms db 0 bs2.length 1, bs2.set q v', rfl, ?_, ?_⟩, by simp⟩
    · rw [setL_len (by omega) hal]
      refine .inr ⟨db, τ, hd0, by simp, ?_⟩
      rw [hG, setH_setH, splice_set _ hqb, cB_map]
    · rw [← hst]
      refine packed_at hp (by rw [hlen]; omega) hq hb01 hqb s5 s6 fun j hj => ?_
      rw [s7 j hj, ← hr]
  · have hke : k = n := by omega
    subst hke
    repeat' (first
      | refine awp_seqK fun K' hpK => ?_
      | refine awp_block ?_
      | refine awp_condG fun A' B' hpA hpB => ?_
      | refine useK (by with_reducible assumption) ?_
      | refine useP (by with_reducible assumption) ?_
      | refine ED_cons (fun _ => ?_) ?_
      | (refine stable_mk ?_; simp (disch := first | (with_reducible assumption) | (simp; done) | omega | (simp; omega)) [hkn]; done)
      | (refine stable_no ?_; simp (disch := first | (with_reducible assumption) | (simp; done) | omega | (simp; omega)) [hkn]; done)
      | (with_reducible refine And.intro ?_ ?_)
      | (with_reducible intro hc)
      | (with_reducible refine GDsplit (fun hc => ?_) (fun hc => ?_) <;> try simp [hc])
      | (with_reducible refine GDsplitN (fun hc => ?_) (fun hc => ?_) <;> try simp [hc])
      | (with_reducible refine GDsplitNB (fun hc => ?_) (fun hc => ?_) <;> try simp [hc])
      | (with_reducible refine GDsplitB (fun hc => ?_) (fun hc => ?_) <;> try simp [hc])
      | (with_reducible refine GKsplit (fun hc => ?_) (fun hc => ?_) <;> try simp [hc])
      | (with_reducible refine GKsplitN (fun hc => ?_) (fun hc => ?_) <;> try simp [hc])
      | (with_reducible refine GKsplitNB (fun hc => ?_) (fun hc => ?_) <;> try simp [hc])
      | (with_reducible refine GKsplitB (fun hc => ?_) (fun hc => ?_) <;> try simp [hc])
      | simp (disch := first | (with_reducible assumption) | (simp; done) | omega | (simp; omega)) [hkn])
    refine ends_one (by simp <;> rfl) (by simp) (hpost _ _ ⟨?_, rfl⟩)
    simpa using hok
end Go.Proofs.Ytdpppigniaafnaa
