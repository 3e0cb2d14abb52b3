import Derived.Test.YtdpppigniaafnaaAl1
import Derived.Test.YtdpppigniaafnaaD2K
set_option linter.unusedSimpArgs false
set_option linter.unusedVariables false
namespace Go.Proofs.Ytdpppigniaafnaa
open Go Go.Al
set_option maxRecDepth 20000

/-- what is written: the bytes lie in a block of their own -/
def OutB (ob : Nat) (out : AV) (h : Hp) (bs : List Int) (n : Int) : Prop := Grow cB 1 (one ob (0, [out, .int .i64 n])) h out bs
def OutH (p : AV) (h : Hp) (l : List Int) : Prop := ∃ ob out bs, p = .ptr ob 0 ∧ OutB ob out h bs l.length ∧ Packed bs l

theorem OutB.at {ob : Nat} {out : AV} {h : Hp} {bs : List Int} {n : Int} (k : OutB ob out h bs n) : h ob = some (0, [out, .int .i64 n]) := Grow.base k (one_same ..)

theorem len_c {p : AV} {h : Hp} {l : List Int} (ho : OutH p h l) : ACalls Try.prog 22 [p] h fun r h' => h' = h ∧ r = .int .i64 l.length := by
  obtain ⟨ob, out, bs, rfl, hg, hp⟩ := ho
  have hat := hg.at
  refine ACalls.hide fun post hpost => ?_
  refine F22_in (by simp) (by simp) fun hb => ?_
  unfold F22
  refine awp_seqH fun K1 hK1 => ?_
  simp (disch := first | (with_reducible assumption) | (simp; done) | omega | (simp; omega)) [F22_r0]
  refine hK1.out _ _ ?_
  refine awp_seqH fun K2 hK2 => ?_
  refine awp_seqH fun K3 hK3 => ?_
  simp (disch := first | (with_reducible assumption) | (simp; done) | omega | (simp; omega)) [F22_r1]
  refine hK3.out _ _ ?_
  refine awp_cond (t := false) (by simp) (fun h => by cases h) (fun _ => ?_)
  simp (disch := first | (with_reducible assumption) | (simp; done) | omega | (simp; omega)) []
  refine hK2.out _ _ ?_
  refine awp_seqH fun K4 hK4 => ?_
  simp (disch := first | (with_reducible assumption) | (simp; done) | omega | (simp; omega)) [F22_r3, hat]
  refine hK4.out _ _ ?_
  exact ends_one (by simp <;> rfl) (by simp) (hpost _ _ ⟨rfl, rfl⟩)

theorem done_c {p : AV} {h : Hp} {l : List Int} (ho : OutH p h l) (hl : l.length ≤ 1000000) : ACalls Try.prog 13 [p] h fun r h' => h' = h ∧ ∃ s, r = ofS cB s ∧ Packed (LL s) l := by
  obtain ⟨ob, out, bs, rfl, hg, hp⟩ := ho
  have hat := hg.at
  have hv := Grow.plain hg
  have hlen : bs.length ≤ 1000000 := by have := hp.2.2.2.1; omega
  have hc := clone_c (G := h) hv (Grow.src hg (by simp)) (by
    rcases hg with ⟨rfl, _⟩ | ⟨b, τ, _, rfl, _⟩
    · exact .inl rfl
    · right; simp) hlen
  refine ACalls.hide fun post hpost => ?_
  refine F13_in (by simp) (by simp) fun hb => ?_
  unfold F13
  refine awp_seqH fun K1 hK1 => ?_
  simp (disch := first | (with_reducible assumption) | (simp; done) | omega | (simp; omega)) [F13_r0]
  refine hK1.out _ _ ?_
  refine awp_seqH fun K2 hK2 => ?_
  refine awp_seqH fun K3 hK3 => ?_
  simp (disch := first | (with_reducible assumption) | (simp; done) | omega | (simp; omega)) [F13_r1]
  refine hK3.out _ _ ?_
  refine awp_cond (t := false) (by simp) (fun h => by cases h) (fun _ => ?_)
  simp (disch := first | (with_reducible assumption) | (simp; done) | omega | (simp; omega)) []
  refine hK2.out _ _ ?_
  refine awp_seqH fun K4 hK4 => ?_
  simp (disch := first | (with_reducible assumption) | (simp; done) | omega | (simp; omega)) [F13_r3, hat, hv]
  refine CallK.use hc ?_
  rintro r G' hbd hpl ⟨rfl, s, rfl, hs⟩
  simp (disch := first | (with_reducible assumption) | (simp; done) | omega | (simp; omega)) []
  refine hK4.out _ _ ?_
  exact ends_one (by simp <;> rfl) (by simp) (hpost _ _ ⟨rfl, s, rfl, by rw [hs]; exact hp⟩)

theorem room_c {p : AV} {h : Hp} {l : List Int} {n : Int} (ho : OutH p h l) (hl : l.length ≤ 1000000) : ACalls Try.prog 32 [p, .int .i64 n] h fun r h' => h' = h ∧ r = .bool (decide (n ≤ 524288 - l.length)) := by
  obtain ⟨ob, out, bs, rfl, hg, hp⟩ := ho
  have hat := hg.at
  refine ACalls.hide fun post hpost => ?_
  refine F32_in (by simp) (by simp) fun hb => ?_
  unfold F32
  refine awp_seqH fun K1 hK1 => ?_
  simp (disch := first | (with_reducible assumption) | (simp; done) | omega | (simp; omega)) [F32_r0]
  refine hK1.out _ _ ?_
  refine awp_seqH fun K2 hK2 => ?_
  simp (disch := first | (with_reducible assumption) | (simp; done) | omega | (simp; omega)) [F32_r1, hat]
  refine hK2.out _ _ ?_
  exact ends_one (by simp <;> rfl) (by simp) (hpost _ _ ⟨rfl, rfl⟩)

theorem put_c {p : AV} {h : Hp} {l : List Int} {b : Int} (ho : OutH p h l) (hl : l.length ≤ 1000000) (hb : b = 0 ∨ b = 1) : ACalls Try.prog 33 [p, .int .u8 b] h fun r h' => OutH p h' (l ++ [b]) := by
  obtain ⟨ob, out, bs, rfl, hg, hp⟩ := ho
  have hat := hg.at
  have hv := Grow.plain hg
  obtain ⟨q, hq⟩ : ∃ q, q = l.length / 8 := ⟨_, rfl⟩
  obtain ⟨r, hr⟩ : ∃ r, r = l.length % 8 := ⟨_, rfl⟩
  have hr8 : r < 8 := by omega
  have d1 : ((l.length : Nat) : Int).tdiv 8 = (q : Int) := by rw [Int.tdiv_eq_ediv_of_nonneg (by omega)]; omega
  have d2 : ((l.length : Nat) : Int).tmod 8 = (r : Int) := by rw [Int.tmod_eq_emod_of_nonneg (by omega)]; omega
  have d3 : (7 - (r : Int)).toNat = 7 - r := by omega
  refine ACalls.hide fun post hpost => ?_
  refine F33_in (by simp) (by simp) fun hbd => ?_
  unfold F33
  refine awp_seqH fun K1 hK1 => ?_
  -- behind the first part there is a byte for the bit
  have main : ∀ (T : Tm) (G : Hp) (out : AV) (bs : List Int), T 0 = .ptr ob 0 → T 1 = .int .u8 b → OutB ob out G bs l.length → Bytes bs → bs.length = q + 1 → (∀ i (h : i < l.length), bitAt bs i = l[i]) → (∀ i, l.length ≤ i → i < 8 * bs.length → bitAt bs i = 0) → K1 T G := by
    have h01 := hp.2.1
    clear hat hv hg hp
    intro T G out bs e0 e1 hg hB hlen h4 h5
    refine hK1.out _ _ ?_
    have hat := hg.at
    obtain ⟨db, τ, hd0, rfl, hG⟩ := Grow.ms hg (by intro h; subst h; simp at hlen)
    have hatd : G db = some (τ, bs.map (AV.int .u8)) := by rw [hG, setH_same, cB_map]
    have hdb : db ≠ ob := by rintro rfl; simp at hd0
    have hqb : q < bs.length := by omega
    have hby := hB _ (List.getElem_mem hqb)
    have hzero : (bs[q]).fdiv (2 ^ (7 - r)) % 2 = 0 := by
      have := h5 l.length (by omega) (by omega)
      unfold bitAt at this
      rw [← hq, ← hr] at this
      simpa [List.getD, hqb] using this
    obtain ⟨v', hv1, hv2, hv3, hv4⟩ := or_bit hby.1 hby.2 (show 7 - r < 8 by omega) hb hzero
    have hw : (0 : Int) ≤ b * 2 ^ (7 - r) ∧ b * 2 ^ (7 - r) ≤ 255 := by
      have hp : (2 : Int) ^ (7 - r) ≤ 128 := by
        have := Nat.pow_le_pow_right (n := 2) (by omega) (show 7 - r ≤ 7 by omega)
        have h2 : ((2 ^ (7 - r) : Nat) : Int) ≤ 128 := by exact_mod_cast this
        simpa using h2
      have hp0 : (0 : Int) < 2 ^ (7 - r) := Int.pow_pos (by omega)
      rcases hb with rfl | rfl <;> simp <;> omega
    have hw0 := hw.1
    have hw1 := hw.2
    refine awp_seqH fun K2 hK2 => ?_
    simp (disch := first | (with_reducible assumption) | (simp; done) | omega | (simp; omega)) [F33_r2, e0, e1, hat, hatd, d1, d2, d3, hv1, hqb]
    refine hK2.out _ _ ?_
    have hdb' : ob ≠ db := Ne.symm hdb
    simp (disch := first | (with_reducible assumption) | (simp; done) | omega | (simp; omega)) [F33_r3, hat]
    refine ends_noneN (hpost _ _ ⟨ob, .ms db 0 bs.length 1, bs.set q v', rfl, ?_, ?_⟩)
    · refine .inr ⟨db, τ, by simp [one, setH_ne, hdb, emptyH], by simp, ?_⟩
      rw [hG, setH_setH, setH_comm hdb, setH_one, splice_set _ hqb, cB_map]
      simp
    · exact Packed.put hB h01 hb hqb (by omega) hr8 hlen h4 h5 hv2 hv3 hv4
  refine awp_seqH fun K2 hK2 => ?_
  simp (disch := first | (with_reducible assumption) | (simp; done) | omega | (simp; omega)) [F33_r0, hat, d2]
  refine hK2.out _ _ ?_
  have hp0 := hp
  obtain ⟨hB, h01', hp1, hp2, hp3, hp4⟩ := hp
  refine awp_cond (t := decide ((r : Int) = 0)) (by simp) (fun hr0 => ?_) (fun hr0 => ?_)
  · have hr0 : r = 0 := by simpa using hr0
    obtain ⟨hz1, hz2, hz3⟩ := hp0.zero (by omega)
    simp (disch := first | (with_reducible assumption) | (simp; done) | omega | (simp; omega)) [F33_r1, hat]
    refine ⟨hv, Grow.app1 (x := 0) hg rfl (by simp [cB]) (by simp [LIM]; omega) fun v G2 hg2 => ?_⟩
    have hv2 := hg2.plain
    have hk2 := hg2.known
    have hs2 := hg2.scal
    have hc2 := hg2.cells
    have hat2 := Grow.base hg2 (one_same ..)
    simp (disch := first | (with_reducible assumption) | (simp; done) | omega | (simp; omega)) [hv2, hk2, hs2, hc2, hat2]
    have hg3 := Grow.set hg2 (one_same ..) (o' := (0, [v, .int .i64 l.length]))
    rw [setH_one] at hg3
    refine main _ _ v (bs ++ [0]) (by simp) (by simp) hg3 hz2 (by simp; omega) (fun i hi => ?_) hz3
    rw [bitAt_app (by omega)]; exact hp3 i hi
  · have hr0 : ¬ r = 0 := by simpa using hr0
    simp (disch := first | (with_reducible assumption) | (simp; done) | omega | (simp; omega)) []
    exact main _ _ out bs (by simp) (by simp) hg hB (by omega) hp3 hp4

end Go.Proofs.Ytdpppigniaafnaa
