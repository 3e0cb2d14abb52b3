import Derived.Test.YtdpppigniaafnaaD13K
import Derived.Test.YtdpppigniaafnaaD10K
set_option linter.unusedSimpArgs false
set_option linter.unusedVariables false
namespace Go.Proofs.Ytdpppigniaafnaa
open Go Go.Al
set_option maxRecDepth 20000
attribute [local irreducible] awp aops aopsD eop pv ACalls CallK AppK AEnds ti

/-- a row of noughts -/
def zS (n : Nat) : Option (List Int) := some (List.replicate n 0)
theorem zS_LL (n : Nat) : LL (zS n) = List.replicate n 0 := rfl
theorem zS_B (n : Nat) : Bytes (LL (zS n)) := fun x hx => by rw [zS_LL] at hx; have := List.eq_of_mem_replicate hx; omega
theorem flat_rep {f : Int → List AV} {x : AV} (hf : f 0 = [x]) (n : Nat) : (List.replicate n (0 : Int)).flatMap f = List.replicate n x := by
  induction n with
  | zero => rfl
  | succ n ih => rw [List.replicate_succ, List.flatMap_cons, ih, hf]; rfl
theorem zS_B8 (n : Nat) : AV.sl n (List.replicate n (.int .u8 0)) = ofS cB (zS n) := by
  simp only [ofS, zS, List.length_replicate, flat_rep (f := cB) (x := .int .u8 0) rfl]
theorem zS_U64 (n : Nat) : AV.sl n (List.replicate n (.int .u64 0)) = ofS cU (zS n) := by
  simp only [ofS, zS, List.length_replicate, flat_rep (f := cU) (x := .int .u64 0) rfl]
theorem newB_len (ps : List (Option (List Int))) : (bitsL (newB ps)).length = 8 * min 65536 (flatB ps).length := by
  rw [bitsL_len]; unfold newB flatB; simp

theorem msV_ite {P : Program} {e : TypeId} {n : Nat} : msV P e (some n) = if n ≤ LIM ∧ n * (ti P e).bytes ≤ LIM then some (.sl n (zerosA (ti P e).zs (n * (ti P e).size))) else none := by simp only [msV]
theorem fs1 {a : Option (List Int)} : AV.sl 1 [ofS cB a] = ofS cS (some [a]) := nrfl rfl
theorem fs2 {a b : Option (List Int)} : AV.sl 2 [ofS cB a, ofS cB b] = ofS cS (some [a, b]) := nrfl rfl
theorem fB1 {a : Int} : AV.sl 1 [.int .u8 a] = ofS cB (some [a]) := nrfl rfl
theorem fU1 {a : Int} : AV.sl 1 [.int .u64 a] = ofS cU (some [a]) := nrfl rfl
theorem LIM_v : LIM = 140737488355328 := nrfl rfl

/-- a pointer to a sheet of n bits, beside whatever else -/
def LH (p : AV) (G : Hp) (n : Nat) : Prop := ∃ F h l, G = uni F h ∧ Dis F h ∧ OutH p h l ∧ l.length = n
theorem newn_c {G : Hp} {ps : Option (List (Option (List Int)))} (hn : (LL ps).length ≤ 1000000) (hl : ∀ s ∈ LL ps, (LL s).length ≤ 1000000) (hB : ∀ s ∈ LL ps, Bytes (LL s)) {n : Nat} (he : 8 * min 65536 (flatB (LL ps)).length = n) :
    ACalls Try.prog 9 [ofS cS ps] G fun r h' => ∃ ob, r = .ptr ob 0 ∧ LH (.ptr ob 0) h' n := by
  have := (new_c hn hl hB).frame (dis_empty G)
  rw [uni_empty] at this
  refine this.mono ?_
  rintro r G' ⟨h', hd, rfl, ho⟩
  have ho' := ho
  obtain ⟨ob, out, bs, rfl, hg, hp⟩ := ho'
  exact ⟨ob, rfl, _, _, _, rfl, hd, ho, by rw [newB_len, he]⟩
theorem lenn_c {p : AV} {G : Hp} {n : Nat} (ho : LH p G n) : ACalls Try.prog 22 [p] G fun r G' => G' = G ∧ r = .int .i64 n := by
  obtain ⟨F, h, l, rfl, hd, ho, rfl⟩ := ho
  refine ((len_c ho).frame hd).mono ?_
  rintro r G' ⟨h', _, rfl, rfl, rfl⟩
  exact ⟨rfl, rfl⟩
theorem flat_num (n : Nat) (l : List Int) : (l.flatMap (numL n)).length = n * l.length := by
  induction l with
  | nil => simp
  | cons a l ih => rw [List.flatMap_cons, List.length_append, ih, List.length_cons, Nat.mul_succ, numL_len]; omega
theorem obitsn_c {p : AV} {G : Hp} {m m' : Nat} {n e : Int} {s : Option (List Int)} (ho : LH p G m) (hl : m ≤ 524288) (hU : U64 (LL s)) (he : bitsE n (LL s).length m = e) (hm : m' = if e = 0 then m + n.toNat * (LL s).length else m) :
    ACalls Try.prog 11 [p, .int .i64 n, ofS cU s] G fun r G' => LH p G' m' ∧ r = .int .i64 e := by
  obtain ⟨F, h, l, rfl, hd, ho, rfl⟩ := ho
  refine ((obits_c ho hl hU).frame hd).mono ?_
  rintro r G' ⟨h', hd', rfl, ho', rfl⟩
  rw [he] at ho' ⊢
  refine ⟨⟨F, h', _, rfl, hd', ho', ?_⟩, rfl⟩
  rw [hm]; split <;> simp only [List.length_append, flat_num]
theorem obytesn_c {p : AV} {G : Hp} {m m' : Nat} {e : Int} {ps : Option (List (Option (List Int)))} (ho : LH p G m) (hl : m ≤ 524288) (hB : Bytes (flatB (LL ps))) (hps : (LL ps).length ≤ 1000000) (hpl : ∀ s ∈ LL ps, (LL s).length ≤ 140737488355328)
    (he : obytesE (flatB (LL ps)).length m = e) (hm : m' = if e = 0 then m + 8 * (flatB (LL ps)).length else m) :
    ACalls Try.prog 23 [p, ofS cS ps] G fun r G' => LH p G' m' ∧ r = .int .i64 e := by
  obtain ⟨F, h, l, rfl, hd, ho, rfl⟩ := ho
  refine ((obytes_c ho hl hB hps hpl).frame hd).mono ?_
  rintro r G' ⟨h', hd', rfl, ho', rfl⟩
  rw [he] at ho' ⊢
  refine ⟨⟨F, h', _, rfl, hd', ho', ?_⟩, rfl⟩
  rw [hm]; split <;> simp [bitsL_len]
theorem u1 : U64 (LL (some [1])) := by intro x hx; simp [LL] at hx; omega
theorem u0 (n : Nat) : U64 (LL (zS n)) := fun x hx => by rw [zS_LL] at hx; have := List.eq_of_mem_replicate hx; omega

set_option maxHeartbeats 2000000 in
theorem bitsMost_pos {ov v : Int} {m : Nat} {way : Bool} (hv : v = ov.tmod 20) (h0 : 0 ≤ v) (h1 : v < 20) (hm : 65436 + v = m) : ACalls Try.prog 5 [.int .i64 ov, .bool way] emptyH fun r G' => G' = emptyH ∧ r = .bool true := by
  have hmL : m ≤ 140737488355328 := by omega
  refine ACalls.hide fun post hpost => ?_
  refine F5_in (by simp) (by simp) fun hbd => ?_
  repeat' (first
    | refine awp_seqK fun K' hpK => ?_
    | refine awp_block ?_
    | refine awp_condG fun A' B' hpA hpB => ?_
    | refine useK (by with_reducible assumption) ?_
    | refine useP (by with_reducible assumption) ?_
    | refine ED_cons (fun _ => ?_) ?_
    | (refine stable_mk ?_; simp (disch := first | (with_reducible assumption) | (simp; done) | omega | (simp; omega)) [← hv, hm, LIM_v, msV_ite, hmL, zS_B8, zS_U64, fs1, fs2, fB1, fU1, h0]; done)
    | (refine stable_no ?_; simp (disch := first | (with_reducible assumption) | (simp; done) | omega | (simp; omega)) [← hv, hm, LIM_v, msV_ite, hmL, zS_B8, zS_U64, fs1, fs2, fB1, fU1, h0]; done)
    | (with_reducible refine And.intro ?_ ?_)
    | (with_reducible intro hc)
    | (with_reducible refine GDsplit (fun hc => ?_) (fun hc => ?_) <;> try simp [hc])
    | (with_reducible refine GDsplitN (fun hc => ?_) (fun hc => ?_) <;> try simp [hc])
    | (with_reducible refine GDsplitNB (fun hc => ?_) (fun hc => ?_) <;> try simp [hc])
    | (with_reducible refine GDsplitB (fun hc => ?_) (fun hc => ?_) <;> try simp [hc])
    | (with_reducible refine GKsplit (fun hc => ?_) (fun hc => ?_) <;> try simp [hc])
    | (with_reducible refine GKsplitN (fun hc => ?_) (fun hc => ?_) <;> try simp [hc])
    | (with_reducible refine GKsplitNB (fun hc => ?_) (fun hc => ?_) <;> try simp [hc])
    | (with_reducible refine GKsplitB (fun hc => ?_) (fun hc => ?_) <;> try simp [hc])
    | (refine CallK.use (newn_c (ps := some [zS 100, zS m]) (n := 524288) (by simp [LL]) (by simp [LL, zS]; omega) (by simp [LL]; exact ⟨zS_B _, zS_B _⟩) (by simp [flatB, LL, zS]; omega)) ?_; rintro r G' _ _ ⟨ob, rfl, ho⟩)
    | (refine CallK.use (lenn_c ho) ?_; rintro r G' _ _ ⟨rfl, rfl⟩)
    | (refine CallK.use (obitsn_c (e := 4) (m' := 524288) ho (by omega) u1 rfl rfl) ?_; rintro r G' _ _ ⟨ho, rfl⟩)
    | (refine CallK.use (obytesn_c (ps := some [some [1]]) (e := 4) (m' := 524288) ho (by omega) (by intro x hx; simp [flatB, LL] at hx; omega) (by simp [LL]) (by simp [LL]) rfl rfl) ?_; rintro r G' _ _ ⟨ho, rfl⟩)
    | (refine CallK.use (obytesn_c (ps := none) (e := 0) (m' := 524288) ho (by omega) (by intro x hx; simp [flatB, LL] at hx) (by simp [LL]) (by simp [LL]) rfl rfl) ?_; rintro r G' _ _ ⟨ho, rfl⟩)
    | (refine CallK.use (awake_c _) ?_; rintro r G' _ _ ⟨rfl, rfl⟩)
    | exact ends_drop (by simp <;> rfl) (by simp) (hpost _ _ ⟨rfl, rfl⟩)
    | simp (disch := first | (with_reducible assumption) | (simp; done) | omega | (simp; omega)) [← hv, hm, LIM_v, msV_ite, hmL, zS_B8, zS_U64, fs1, fs2, fB1, fU1, h0])

set_option maxHeartbeats 2000000 in
theorem bitsMost_neg {ov v : Int} {m n q r : Nat} {way : Bool} (hv : v = ov.tmod 20) (h0 : v < 0) (hn : -v = n) (h1 : n < 20) (h2 : 0 < n) (hm : 65436 + v = m) (hq : (65536 : Int) - n = q) (hr : (n : Int) - 1 = r) : ACalls Try.prog 5 [.int .i64 ov, .bool way] emptyH fun r G' => G' = emptyH ∧ r = .bool true := by
  have hmL : m ≤ 140737488355328 := by omega
  have hnL : n ≤ 140737488355328 := by omega
  have hnL8 : n * 8 ≤ 140737488355328 := by omega
  have hqL : q ≤ 140737488355328 := by omega
  have hrL : r ≤ 140737488355328 := by omega
  have h0' : ¬ (0 ≤ v) := by omega
  refine ACalls.hide fun post hpost => ?_
  refine F5_in (by simp) (by simp) fun hbd => ?_
  repeat' (first
    | refine awp_seqK fun K' hpK => ?_
    | refine awp_block ?_
    | refine awp_condG fun A' B' hpA hpB => ?_
    | refine useK (by with_reducible assumption) ?_
    | refine useP (by with_reducible assumption) ?_
    | refine ED_cons (fun _ => ?_) ?_
    | (refine stable_mk ?_; simp (disch := first | (with_reducible assumption) | (simp; done) | omega | (simp; omega)) [← hv, hm, LIM_v, msV_ite, hmL, hnL, hnL8, hqL, hrL, zS_B8, zS_U64, fs1, fs2, fB1, fU1, h0', hn, hq, hr]; done)
    | (refine stable_no ?_; simp (disch := first | (with_reducible assumption) | (simp; done) | omega | (simp; omega)) [← hv, hm, LIM_v, msV_ite, hmL, hnL, hnL8, hqL, hrL, zS_B8, zS_U64, fs1, fs2, fB1, fU1, h0', hn, hq, hr]; done)
    | (with_reducible refine And.intro ?_ ?_)
    | (with_reducible intro hc)
    | (with_reducible refine GDsplit (fun hc => ?_) (fun hc => ?_) <;> try simp [hc])
    | (with_reducible refine GDsplitN (fun hc => ?_) (fun hc => ?_) <;> try simp [hc])
    | (with_reducible refine GDsplitNB (fun hc => ?_) (fun hc => ?_) <;> try simp [hc])
    | (with_reducible refine GDsplitB (fun hc => ?_) (fun hc => ?_) <;> try simp [hc])
    | (with_reducible refine GKsplit (fun hc => ?_) (fun hc => ?_) <;> try simp [hc])
    | (with_reducible refine GKsplitN (fun hc => ?_) (fun hc => ?_) <;> try simp [hc])
    | (with_reducible refine GKsplitNB (fun hc => ?_) (fun hc => ?_) <;> try simp [hc])
    | (with_reducible refine GKsplitB (fun hc => ?_) (fun hc => ?_) <;> try simp [hc])
    | (refine CallK.use (newn_c (ps := some [zS 100, zS m]) (n := 8 * q) (by simp [LL]) (by simp [LL, zS]; omega) (by simp [LL]; exact ⟨zS_B _, zS_B _⟩) (by simp [flatB, LL, zS]; omega)) ?_; rintro r G' _ _ ⟨ob, rfl, ho⟩)
    | (refine CallK.use (obitsn_c (e := 0) (m' := 524288) ho (by omega) (u0 _) (by simp [zS, LL, bitsE]; omega) (by simp [zS, LL]; omega)) ?_; rintro r G' _ _ ⟨ho, rfl⟩)
    | (refine CallK.use (newn_c (ps := some [zS q]) (n := 8 * q) (by simp [LL]) (by simp [LL, zS]; omega) (by simp [LL]; exact zS_B _) (by simp [flatB, LL, zS]; omega)) ?_; rintro r G' _ _ ⟨oc, rfl, ho⟩)
    | (refine CallK.use (obytesn_c (ps := some [zS r, some [1]]) (e := 0) (m' := 524288) ho (by omega) (by intro x hx; simp [flatB, LL, zS] at hx; omega) (by simp [LL]) (by simp [LL, zS]; omega) (by simp [flatB, LL, zS, obytesE]; omega) (by simp [flatB, LL, zS]; omega)) ?_; rintro r G' _ _ ⟨ho, rfl⟩)
    | (refine CallK.use (lenn_c ho) ?_; rintro r G' _ _ ⟨rfl, rfl⟩)
    | (refine CallK.use (obitsn_c (e := 4) (m' := 524288) ho (by omega) u1 rfl rfl) ?_; rintro r G' _ _ ⟨ho, rfl⟩)
    | (refine CallK.use (awake_c _) ?_; rintro r G' _ _ ⟨rfl, rfl⟩)
    | exact ends_drop (by simp <;> rfl) (by simp) (hpost _ _ ⟨rfl, rfl⟩)
    | simp (disch := first | (with_reducible assumption) | (simp; done) | omega | (simp; omega)) [← hv, hm, LIM_v, msV_ite, hmL, hnL, hnL8, hqL, hrL, zS_B8, zS_U64, fs1, fs2, fB1, fU1, h0', hn, hq, hr])

theorem bitsMost_law (z0 : (TD.int .i64).T) (z1 : TD.bool.T) (o0 : (TD.int .i64).ok z0) (_ : TD.bool.ok z1) :
    ACalls Try.prog 5 [(TD.int .i64).av z0, TD.bool.av z1] emptyH fun r G' => G' = emptyH ∧ r = .bool true := by
  have hb := wf_i64 o0
  show ACalls Try.prog 5 [.int .i64 z0, .bool z1] emptyH _
  obtain ⟨v, hv⟩ : ∃ v, v = Int.tmod z0 20 := ⟨_, rfl⟩
  have h1 : -20 < v := by
    rw [hv]; have := Int.lt_tmod_of_pos z0 (show (0 : Int) < 20 by omega); omega
  have h2 : v < 20 := by
    rw [hv]; have := Int.tmod_lt_of_pos z0 (show (0 : Int) < 20 by omega); omega
  by_cases h0 : 0 ≤ v
  · exact bitsMost_pos (m := (65436 + v).toNat) hv h0 h2 (by omega)
  · exact bitsMost_neg (m := (65436 + v).toNat) (n := (-v).toNat) (q := (65536 + v).toNat) (r := (-v - 1).toNat) hv (by omega) (by omega) (by omega) (by omega) (by omega) (by omega) (by omega)
end Go.Proofs.Ytdpppigniaafnaa
