import Derived.Test.YtgideonigiokbaaC1K
import Derived.Test.YtgideonigiokbaaC2K
import Derived.Test.YtgideonigiokbaaC3K
import Derived.Test.YtgideonigiokbaaC4K
import Derived.Test.YtgideonigiokbaaC5K
import Derived.Test.YtgideonigiokbaaSLK
import Derived.Test.YtgideonigiokbaaD1K
set_option linter.unusedSimpArgs false
set_option linter.unusedVariables false
namespace Go.Proofs.Ytgideonigiokbaa
open Go Go.Al
set_option maxRecDepth 20000
attribute [local irreducible] awp aops aopsD eop pv ACalls CallK AppK AEnds ti

/-- the shelf uint32, ostiary/plan.one -/
def cSO (p : Int × On) : List AV := .int .u32 p.1 :: [.int .u32 p.2.id, .int .u32 p.2.ep, .int .u64 p.2.k1, .int .u64 p.2.k2, .int .u32 p.2.k3, .int .u32 p.2.k4, .int .i64 p.2.k5, .int .i64 p.2.k6, .int .i64 p.2.k7, .int .i64 p.2.f1, .int .i64 p.2.f2, .int .i64 p.2.t1, .int .i64 p.2.t2, .str p.2.su, .str p.2.sh, .str p.2.du, .str p.2.dh, .int .i64 p.2.act, .int .i64 p.2.rule, ofS cHo p.2.path, .int .u32 p.2.l0, .int .u32 p.2.l1, .int .u32 p.2.l2, .int .u32 p.2.l3, .int .u32 p.2.l4, .int .u32 p.2.l5, .int .u32 p.2.l6, .int .u32 p.2.l7, .int .u32 p.2.l8, .int .i64 p.2.idle, .int .i64 p.2.hard, .int .i64 p.2.at_, .int .u32 p.2.seq, .bool p.2.said, .int .i64 p.2.when]
@[simp] theorem cSO_len (p : Int × On) : (cSO p).length = 36 := by simp [cSO]
@[simp] theorem cSO_scal (p : Int × On) : (cSO p).all AV.scal = true := by simp [cSO]
def cKO (k : Int) : List AV := [.int .u32 k]
@[simp] theorem cKO_len (k : Int) : (cKO k).length = 1 := by simp [cKO]
def cVO (v : On) : List AV := [.int .u32 v.id, .int .u32 v.ep, .int .u64 v.k1, .int .u64 v.k2, .int .u32 v.k3, .int .u32 v.k4, .int .i64 v.k5, .int .i64 v.k6, .int .i64 v.k7, .int .i64 v.f1, .int .i64 v.f2, .int .i64 v.t1, .int .i64 v.t2, .str v.su, .str v.sh, .str v.du, .str v.dh, .int .i64 v.act, .int .i64 v.rule, ofS cHo v.path, .int .u32 v.l0, .int .u32 v.l1, .int .u32 v.l2, .int .u32 v.l3, .int .u32 v.l4, .int .u32 v.l5, .int .u32 v.l6, .int .u32 v.l7, .int .u32 v.l8, .int .i64 v.idle, .int .i64 v.hard, .int .i64 v.at_, .int .u32 v.seq, .bool v.said, .int .i64 v.when]
@[simp] theorem cVO_len (v : On) : (cVO v).length = 35 := by simp [cVO]
def zVO : On := ⟨0, 0, 0, 0, 0, 0, 0, 0, 0, 0, 0, 0, 0, ByteArray.empty, ByteArray.empty, ByteArray.empty, ByteArray.empty, 0, 0, none, 0, 0, 0, 0, 0, 0, 0, 0, 0, 0, 0, 0, 0, false, 0⟩
def SHBO (sb : Nat) (out : AV) (h : Hp) (L : List (Int × On)) (mx : Int) : Prop := Grow cSO 36 (one sb (0, [out, .int .i64 mx])) h out L
def SHO (sb : Nat) (h : Hp) (L : List (Int × On)) (mx : Int) : Prop := (∃ out, SHBO sb out h L mx) ∧ Srt L
theorem SHBO.at {sb : Nat} {out : AV} {h : Hp} {L : List (Int × On)} {mx : Int} (k : SHBO sb out h L mx) : h sb = some (0, [out, .int .i64 mx]) := Grow.base k (one_same ..)
theorem cSO_k (p : Int × On) : (cSO p).drop 1 = cVO p.2 := by simp [cSO, cVO]

theorem newO_c {n : Int} : ACalls Try.prog 20 [.int .i64 n] emptyH fun r h' => ∃ sb, r = .ptr sb 0 ∧ SHO sb h' [] (maxR0 n) := by
  refine ACalls.hide fun post hpost => ?_
  refine F20_in (by simp) (by simp) fun hbd => ?_
  repeat' (first
    | refine awp_seqK fun K' hpK => ?_
    | refine awp_block ?_
    | refine awp_condG fun A' B' hpA hpB => ?_
    | refine useK (by with_reducible assumption) ?_
    | refine useP (by with_reducible assumption) ?_
    | refine ED_cons (fun _ => ?_) ?_
    | (refine stable_mk ?_; simp (disch := first | (with_reducible assumption) | (simp; done) | omega | (simp; omega)); done)
    | (refine stable_no ?_; simp (disch := first | (with_reducible assumption) | (simp; done) | omega | (simp; omega)); done)
    | (with_reducible refine And.intro ?_ ?_)
    | (with_reducible intro hc)
    | (with_reducible refine GDsplit (fun hc => ?_) (fun hc => ?_) <;> try simp [hc])
    | (with_reducible refine GDsplitN (fun hc => ?_) (fun hc => ?_) <;> try simp [hc])
    | (with_reducible refine GDsplitNB (fun hc => ?_) (fun hc => ?_) <;> try simp [hc])
    | (with_reducible refine GDsplitB (fun hc => ?_) (fun hc => ?_) <;> try simp [hc])
    | (with_reducible refine GKsplit (fun hc => ?_) (fun hc => ?_) <;> try simp [hc])
    | (with_reducible refine GKsplitN (fun hc => ?_) (fun hc => ?_) <;> try simp [hc])
    | (with_reducible refine GKsplitNB (fun hc => ?_) (fun hc => ?_) <;> try simp [hc])
    | (with_reducible refine GKsplitB (fun hc => ?_) (fun hc => ?_) <;> try simp [hc])
    | simp (disch := first | (with_reducible assumption) | (simp; done) | omega | (simp; omega)))
  intro sb hsb
  refine ⟨0, ?_⟩
  repeat' (first
    | refine awp_seqK fun K' hpK => ?_
    | refine awp_block ?_
    | refine awp_condG fun A' B' hpA hpB => ?_
    | refine useK (by with_reducible assumption) ?_
    | refine useP (by with_reducible assumption) ?_
    | refine ED_cons (fun _ => ?_) ?_
    | (refine stable_mk ?_; simp (disch := first | (with_reducible assumption) | (simp; done) | omega | (simp; omega)); done)
    | (refine stable_no ?_; simp (disch := first | (with_reducible assumption) | (simp; done) | omega | (simp; omega)); done)
    | (with_reducible refine And.intro ?_ ?_)
    | (with_reducible intro hc)
    | (with_reducible refine GDsplit (fun hc => ?_) (fun hc => ?_) <;> try simp [hc])
    | (with_reducible refine GDsplitN (fun hc => ?_) (fun hc => ?_) <;> try simp [hc])
    | (with_reducible refine GDsplitNB (fun hc => ?_) (fun hc => ?_) <;> try simp [hc])
    | (with_reducible refine GDsplitB (fun hc => ?_) (fun hc => ?_) <;> try simp [hc])
    | (with_reducible refine GKsplit (fun hc => ?_) (fun hc => ?_) <;> try simp [hc])
    | (with_reducible refine GKsplitN (fun hc => ?_) (fun hc => ?_) <;> try simp [hc])
    | (with_reducible refine GKsplitNB (fun hc => ?_) (fun hc => ?_) <;> try simp [hc])
    | (with_reducible refine GKsplitB (fun hc => ?_) (fun hc => ?_) <;> try simp [hc])
    | simp (disch := first | (with_reducible assumption) | (simp; done) | omega | (simp; omega)))
  refine ends_one (by simp <;> rfl) (by simp) (hpost _ _ ⟨sb, rfl, ⟨.nils, ?_⟩, Srt.nil⟩)
  exact Grow.nil _ _

set_option maxHeartbeats 1000000 in
theorem findO_c {sb : Nat} {h : Hp} {L : List (Int × On)} {mx : Int} {k : Int} (hs : SHO sb h L mx) (hl : L.length ≤ 1000000) : ACalls Try.prog 36 [.ptr sb 0, .int .u32 k] h fun r h' => h' = h ∧ r = .tup [.int .i64 (posL L k), .bool (hasL L k)] := by
  obtain ⟨⟨out, hg⟩, hS⟩ := hs
  have hat := hg.at
  have hpo := Grow.plain hg
  have hal := fun {t : TypeId} => Grow.len (P := Try.prog) (t := t) hg
  refine ACalls.hide fun post hpost => ?_
  refine F36_in (by simp) (by simp) fun hbd => ?_
  repeat' (first
    | refine awp_seqK fun K' hpK => ?_
    | refine awp_block ?_
    | refine awp_condG fun A' B' hpA hpB => ?_
    | refine useK (by with_reducible assumption) ?_
    | refine useP (by with_reducible assumption) ?_
    | refine ED_cons (fun _ => ?_) ?_
    | (refine stable_mk ?_; simp (disch := first | (with_reducible assumption) | (simp; done) | omega | (simp; omega)) [hat, hpo, hal]; done)
    | (refine stable_no ?_; simp (disch := first | (with_reducible assumption) | (simp; done) | omega | (simp; omega)) [hat, hpo, hal]; done)
    | (with_reducible refine And.intro ?_ ?_)
    | (with_reducible intro hc)
    | (with_reducible refine GDsplit (fun hc => ?_) (fun hc => ?_) <;> try simp [hc])
    | (with_reducible refine GDsplitN (fun hc => ?_) (fun hc => ?_) <;> try simp [hc])
    | (with_reducible refine GDsplitNB (fun hc => ?_) (fun hc => ?_) <;> try simp [hc])
    | (with_reducible refine GDsplitB (fun hc => ?_) (fun hc => ?_) <;> try simp [hc])
    | (with_reducible refine GKsplit (fun hc => ?_) (fun hc => ?_) <;> try simp [hc])
    | (with_reducible refine GKsplitN (fun hc => ?_) (fun hc => ?_) <;> try simp [hc])
    | (with_reducible refine GKsplitNB (fun hc => ?_) (fun hc => ?_) <;> try simp [hc])
    | (with_reducible refine GKsplitB (fun hc => ?_) (fun hc => ?_) <;> try simp [hc])
    | simp (disch := first | (with_reducible assumption) | (simp; done) | omega | (simp; omega)) [hat, hpo, hal])
  refine awp_loop' (fun w T G' => ∃ lo hi : Nat, hi - lo = w ∧ lo ≤ posL L k ∧ posL L k ≤ hi ∧ hi ≤ L.length ∧ G' = h ∧ T = ofL [(0, .ptr sb 0), (1, .int .u32 k), (6, .int .i64 lo), (7, .int .i64 hi)]) L.length ⟨0, L.length, by omega, by omega, posL_le L k, by omega, rfl, by simp⟩ ?_
  rintro w T G' ⟨lo, hi, hw, h1, h2, h3, rfl, rfl⟩ N hN
  by_cases hlt : lo < hi
  · obtain ⟨m, hm, hm1, hm2⟩ : ∃ m : Nat, (lo : Int) + ((hi : Int) - lo).tdiv 2 = m ∧ lo ≤ m ∧ m < hi := ⟨lo + (hi - lo) / 2, by rw [Int.tdiv_eq_ediv_of_nonneg (by omega)]; omega, by omega, by omega⟩
    have hmL : m < L.length := by omega
    obtain ⟨b, τ, hb, rfl, hG⟩ := Grow.ms hg (by intro h; subst h; simp at hmL)
    have hatb : G' b = some (τ, L.flatMap cSO) := by rw [hG, setH_same]
    have hd := flat_at0 (f := cSO) (sz := 36) (by simp) hmL
    have hpl := posL_lt hS (k := k) hmL
    by_cases hmp : m < posL L k
    · have hk : (L[m]).1 < k := by have := hpl; rw [KO_int, decide_eq_true hmp] at this; exact of_decide_eq_true this
      repeat' (first
        | refine awp_seqK fun K' hpK => ?_
        | refine awp_block ?_
        | refine awp_condG fun A' B' hpA hpB => ?_
        | refine useK (by with_reducible assumption) ?_
        | refine useP (by with_reducible assumption) ?_
        | refine ED_cons (fun _ => ?_) ?_
        | (refine stable_mk ?_; simp (disch := first | (with_reducible assumption) | (simp; done) | omega | (simp; omega)) [hlt, hm, hat, hatb, hd, cSO, hk]; done)
        | (refine stable_no ?_; simp (disch := first | (with_reducible assumption) | (simp; done) | omega | (simp; omega)) [hlt, hm, hat, hatb, hd, cSO, hk]; done)
        | (with_reducible refine And.intro ?_ ?_)
        | (with_reducible intro hc)
        | (with_reducible refine GDsplit (fun hc => ?_) (fun hc => ?_) <;> try simp [hc])
        | (with_reducible refine GDsplitN (fun hc => ?_) (fun hc => ?_) <;> try simp [hc])
        | (with_reducible refine GDsplitNB (fun hc => ?_) (fun hc => ?_) <;> try simp [hc])
        | (with_reducible refine GDsplitB (fun hc => ?_) (fun hc => ?_) <;> try simp [hc])
        | (with_reducible refine GKsplit (fun hc => ?_) (fun hc => ?_) <;> try simp [hc])
        | (with_reducible refine GKsplitN (fun hc => ?_) (fun hc => ?_) <;> try simp [hc])
        | (with_reducible refine GKsplitNB (fun hc => ?_) (fun hc => ?_) <;> try simp [hc])
        | (with_reducible refine GKsplitB (fun hc => ?_) (fun hc => ?_) <;> try simp [hc])
        | simp (disch := first | (with_reducible assumption) | (simp; done) | omega | (simp; omega)) [hlt, hm, hat, hatb, hd, cSO, hk])
      exact hN (hi - (m + 1)) _ _ (by omega) ⟨m + 1, hi, rfl, by omega, h2, h3, rfl, by simp⟩
    · have hk : ¬ (L[m]).1 < k := by have := hpl; rw [KO_int, decide_eq_false hmp] at this; exact of_decide_eq_false this
      repeat' (first
        | refine awp_seqK fun K' hpK => ?_
        | refine awp_block ?_
        | refine awp_condG fun A' B' hpA hpB => ?_
        | refine useK (by with_reducible assumption) ?_
        | refine useP (by with_reducible assumption) ?_
        | refine ED_cons (fun _ => ?_) ?_
        | (refine stable_mk ?_; simp (disch := first | (with_reducible assumption) | (simp; done) | omega | (simp; omega)) [hlt, hm, hat, hatb, hd, cSO, hk]; done)
        | (refine stable_no ?_; simp (disch := first | (with_reducible assumption) | (simp; done) | omega | (simp; omega)) [hlt, hm, hat, hatb, hd, cSO, hk]; done)
        | (with_reducible refine And.intro ?_ ?_)
        | (with_reducible intro hc)
        | (with_reducible refine GDsplit (fun hc => ?_) (fun hc => ?_) <;> try simp [hc])
        | (with_reducible refine GDsplitN (fun hc => ?_) (fun hc => ?_) <;> try simp [hc])
        | (with_reducible refine GDsplitNB (fun hc => ?_) (fun hc => ?_) <;> try simp [hc])
        | (with_reducible refine GDsplitB (fun hc => ?_) (fun hc => ?_) <;> try simp [hc])
        | (with_reducible refine GKsplit (fun hc => ?_) (fun hc => ?_) <;> try simp [hc])
        | (with_reducible refine GKsplitN (fun hc => ?_) (fun hc => ?_) <;> try simp [hc])
        | (with_reducible refine GKsplitNB (fun hc => ?_) (fun hc => ?_) <;> try simp [hc])
        | (with_reducible refine GKsplitB (fun hc => ?_) (fun hc => ?_) <;> try simp [hc])
        | simp (disch := first | (with_reducible assumption) | (simp; done) | omega | (simp; omega)) [hlt, hm, hat, hatb, hd, cSO, hk])
      exact hN (m - lo) _ _ (by omega) ⟨lo, m, rfl, h1, by omega, by omega, rfl, by simp⟩
  · have hp : lo = posL L k := by omega
    have hhp := hasL_pos hS k
    by_cases hin : lo < L.length
    · obtain ⟨b, τ, hb, rfl, hG⟩ := Grow.ms hg (by intro h; subst h; simp at hin)
      have hatb : G' b = some (τ, L.flatMap cSO) := by rw [hG, setH_same]
      have hd := flat_at0 (f := cSO) (sz := 36) (by simp) hin
      by_cases hk : (L[lo]).1 = k
      · have hh : hasL L k = true := by rw [hhp, decide_eq_true]; subst hp; exact ⟨hin, hk⟩
        repeat' (first
          | refine awp_seqK fun K' hpK => ?_
          | refine awp_block ?_
          | refine awp_condG fun A' B' hpA hpB => ?_
          | refine useK (by with_reducible assumption) ?_
          | refine useP (by with_reducible assumption) ?_
          | refine ED_cons (fun _ => ?_) ?_
          | (refine stable_mk ?_; simp (disch := first | (with_reducible assumption) | (simp; done) | omega | (simp; omega)) [hlt, hat, hatb, hd, cSO, hk, hin]; done)
          | (refine stable_no ?_; simp (disch := first | (with_reducible assumption) | (simp; done) | omega | (simp; omega)) [hlt, hat, hatb, hd, cSO, hk, hin]; done)
          | (with_reducible refine And.intro ?_ ?_)
          | (with_reducible intro hc)
          | (with_reducible refine GDsplit (fun hc => ?_) (fun hc => ?_) <;> try simp [hc])
          | (with_reducible refine GDsplitN (fun hc => ?_) (fun hc => ?_) <;> try simp [hc])
          | (with_reducible refine GDsplitNB (fun hc => ?_) (fun hc => ?_) <;> try simp [hc])
          | (with_reducible refine GDsplitB (fun hc => ?_) (fun hc => ?_) <;> try simp [hc])
          | (with_reducible refine GKsplit (fun hc => ?_) (fun hc => ?_) <;> try simp [hc])
          | (with_reducible refine GKsplitN (fun hc => ?_) (fun hc => ?_) <;> try simp [hc])
          | (with_reducible refine GKsplitNB (fun hc => ?_) (fun hc => ?_) <;> try simp [hc])
          | (with_reducible refine GKsplitB (fun hc => ?_) (fun hc => ?_) <;> try simp [hc])
          | simp (disch := first | (with_reducible assumption) | (simp; done) | omega | (simp; omega)) [hlt, hat, hatb, hd, cSO, hk, hin])
        exact ends_two (by simp <;> exact ⟨rfl, rfl⟩) (by simp) (by simp) (hpost _ _ ⟨rfl, by rw [hh, hp]⟩)
      · have hh : hasL L k = false := by rw [hhp, decide_eq_false]; subst hp; rintro ⟨_, h⟩; exact hk h
        repeat' (first
          | refine awp_seqK fun K' hpK => ?_
          | refine awp_block ?_
          | refine awp_condG fun A' B' hpA hpB => ?_
          | refine useK (by with_reducible assumption) ?_
          | refine useP (by with_reducible assumption) ?_
          | refine ED_cons (fun _ => ?_) ?_
          | (refine stable_mk ?_; simp (disch := first | (with_reducible assumption) | (simp; done) | omega | (simp; omega)) [hlt, hat, hatb, hd, cSO, hk, hin]; done)
          | (refine stable_no ?_; simp (disch := first | (with_reducible assumption) | (simp; done) | omega | (simp; omega)) [hlt, hat, hatb, hd, cSO, hk, hin]; done)
          | (with_reducible refine And.intro ?_ ?_)
          | (with_reducible intro hc)
          | (with_reducible refine GDsplit (fun hc => ?_) (fun hc => ?_) <;> try simp [hc])
          | (with_reducible refine GDsplitN (fun hc => ?_) (fun hc => ?_) <;> try simp [hc])
          | (with_reducible refine GDsplitNB (fun hc => ?_) (fun hc => ?_) <;> try simp [hc])
          | (with_reducible refine GDsplitB (fun hc => ?_) (fun hc => ?_) <;> try simp [hc])
          | (with_reducible refine GKsplit (fun hc => ?_) (fun hc => ?_) <;> try simp [hc])
          | (with_reducible refine GKsplitN (fun hc => ?_) (fun hc => ?_) <;> try simp [hc])
          | (with_reducible refine GKsplitNB (fun hc => ?_) (fun hc => ?_) <;> try simp [hc])
          | (with_reducible refine GKsplitB (fun hc => ?_) (fun hc => ?_) <;> try simp [hc])
          | simp (disch := first | (with_reducible assumption) | (simp; done) | omega | (simp; omega)) [hlt, hat, hatb, hd, cSO, hk, hin])
        exact ends_two (by simp <;> exact ⟨rfl, rfl⟩) (by simp) (by simp) (hpost _ _ ⟨rfl, by rw [hh, hp]⟩)
    · have hh : hasL L k = false := by rw [hhp, decide_eq_false]; subst hp; rintro ⟨h, _⟩; exact hin h
      repeat' (first
        | refine awp_seqK fun K' hpK => ?_
        | refine awp_block ?_
        | refine awp_condG fun A' B' hpA hpB => ?_
        | refine useK (by with_reducible assumption) ?_
        | refine useP (by with_reducible assumption) ?_
        | refine ED_cons (fun _ => ?_) ?_
        | (refine stable_mk ?_; simp (disch := first | (with_reducible assumption) | (simp; done) | omega | (simp; omega)) [hlt, hat, hpo, hal, hin]; done)
        | (refine stable_no ?_; simp (disch := first | (with_reducible assumption) | (simp; done) | omega | (simp; omega)) [hlt, hat, hpo, hal, hin]; done)
        | (with_reducible refine And.intro ?_ ?_)
        | (with_reducible intro hc)
        | (with_reducible refine GDsplit (fun hc => ?_) (fun hc => ?_) <;> try simp [hc])
        | (with_reducible refine GDsplitN (fun hc => ?_) (fun hc => ?_) <;> try simp [hc])
        | (with_reducible refine GDsplitNB (fun hc => ?_) (fun hc => ?_) <;> try simp [hc])
        | (with_reducible refine GDsplitB (fun hc => ?_) (fun hc => ?_) <;> try simp [hc])
        | (with_reducible refine GKsplit (fun hc => ?_) (fun hc => ?_) <;> try simp [hc])
        | (with_reducible refine GKsplitN (fun hc => ?_) (fun hc => ?_) <;> try simp [hc])
        | (with_reducible refine GKsplitNB (fun hc => ?_) (fun hc => ?_) <;> try simp [hc])
        | (with_reducible refine GKsplitB (fun hc => ?_) (fun hc => ?_) <;> try simp [hc])
        | simp (disch := first | (with_reducible assumption) | (simp; done) | omega | (simp; omega)) [hlt, hat, hpo, hal, hin])
      exact ends_two (by simp <;> exact ⟨rfl, rfl⟩) (by simp) (by simp) (hpost _ _ ⟨rfl, by rw [hh, hp]⟩)

theorem lenO_c {sb : Nat} {h : Hp} {L : List (Int × On)} {mx : Int} (hs : SHO sb h L mx) : ACalls Try.prog 23 [.ptr sb 0] h fun r h' => h' = h ∧ r = .int .i64 L.length := by
  obtain ⟨⟨out, hg⟩, hS⟩ := hs
  have hat := hg.at
  have hpo := Grow.plain hg
  have hal := fun {t : TypeId} => Grow.len (P := Try.prog) (t := t) hg
  refine ACalls.hide fun post hpost => ?_
  refine F23_in (by simp) (by simp) fun hbd => ?_
  repeat' (first
    | refine awp_seqK fun K' hpK => ?_
    | refine awp_block ?_
    | refine awp_condG fun A' B' hpA hpB => ?_
    | refine useK (by with_reducible assumption) ?_
    | refine useP (by with_reducible assumption) ?_
    | refine ED_cons (fun _ => ?_) ?_
    | (refine stable_mk ?_; simp (disch := first | (with_reducible assumption) | (simp; done) | omega | (simp; omega)) [hat, hpo, hal]; done)
    | (refine stable_no ?_; simp (disch := first | (with_reducible assumption) | (simp; done) | omega | (simp; omega)) [hat, hpo, hal]; done)
    | (with_reducible refine And.intro ?_ ?_)
    | (with_reducible intro hc)
    | (with_reducible refine GDsplit (fun hc => ?_) (fun hc => ?_) <;> try simp [hc])
    | (with_reducible refine GDsplitN (fun hc => ?_) (fun hc => ?_) <;> try simp [hc])
    | (with_reducible refine GDsplitNB (fun hc => ?_) (fun hc => ?_) <;> try simp [hc])
    | (with_reducible refine GDsplitB (fun hc => ?_) (fun hc => ?_) <;> try simp [hc])
    | (with_reducible refine GKsplit (fun hc => ?_) (fun hc => ?_) <;> try simp [hc])
    | (with_reducible refine GKsplitN (fun hc => ?_) (fun hc => ?_) <;> try simp [hc])
    | (with_reducible refine GKsplitNB (fun hc => ?_) (fun hc => ?_) <;> try simp [hc])
    | (with_reducible refine GKsplitB (fun hc => ?_) (fun hc => ?_) <;> try simp [hc])
    | simp (disch := first | (with_reducible assumption) | (simp; done) | omega | (simp; omega)) [hat, hpo, hal])
  exact ends_one (by simp <;> rfl) (by simp) (hpost _ _ ⟨rfl, rfl⟩)

set_option maxHeartbeats 1000000 in
theorem getO_c {sb : Nat} {h : Hp} {L : List (Int × On)} {mx : Int} {k : Int} (hs : SHO sb h L mx) (hl : L.length ≤ 1000000) : ACalls Try.prog 22 [.ptr sb 0, .int .u32 k] h fun r h' => h' = h ∧ r = .tup [(.agg [.int .u32 ((getL L k).getD zVO).id, .int .u32 ((getL L k).getD zVO).ep, .int .u64 ((getL L k).getD zVO).k1, .int .u64 ((getL L k).getD zVO).k2, .int .u32 ((getL L k).getD zVO).k3, .int .u32 ((getL L k).getD zVO).k4, .int .i64 ((getL L k).getD zVO).k5, .int .i64 ((getL L k).getD zVO).k6, .int .i64 ((getL L k).getD zVO).k7, .int .i64 ((getL L k).getD zVO).f1, .int .i64 ((getL L k).getD zVO).f2, .int .i64 ((getL L k).getD zVO).t1, .int .i64 ((getL L k).getD zVO).t2, .str ((getL L k).getD zVO).su, .str ((getL L k).getD zVO).sh, .str ((getL L k).getD zVO).du, .str ((getL L k).getD zVO).dh, .int .i64 ((getL L k).getD zVO).act, .int .i64 ((getL L k).getD zVO).rule, ofS cHo ((getL L k).getD zVO).path, .int .u32 ((getL L k).getD zVO).l0, .int .u32 ((getL L k).getD zVO).l1, .int .u32 ((getL L k).getD zVO).l2, .int .u32 ((getL L k).getD zVO).l3, .int .u32 ((getL L k).getD zVO).l4, .int .u32 ((getL L k).getD zVO).l5, .int .u32 ((getL L k).getD zVO).l6, .int .u32 ((getL L k).getD zVO).l7, .int .u32 ((getL L k).getD zVO).l8, .int .i64 ((getL L k).getD zVO).idle, .int .i64 ((getL L k).getD zVO).hard, .int .i64 ((getL L k).getD zVO).at_, .int .u32 ((getL L k).getD zVO).seq, .bool ((getL L k).getD zVO).said, .int .i64 ((getL L k).getD zVO).when]), .bool (getL L k).isSome] := by
  have hf := findO_c (k := k) hs hl
  obtain ⟨⟨out, hg⟩, hS⟩ := hs
  have hat := hg.at
  have hpo := Grow.plain hg
  cases hh : hasL L k with
  | true =>
    rw [hh] at hf
    obtain ⟨hin, hk, hge⟩ := getL_pos hS hh
    rw [hge]
    obtain ⟨b, τ, hb, rfl, hG⟩ := Grow.ms hg (by intro h; subst h; simp at hin)
    have hatb : h b = some (τ, L.flatMap cSO) := by rw [hG, setH_same]
    have hd := flat_at1 (f := cSO) (sz := 36) (j := 1) (by simp) hin (by simp)
    refine ACalls.hide fun post hpost => ?_
    refine F22_in (by simp) (by simp) fun hbd => ?_
    repeat' (first
      | refine awp_seqK fun K' hpK => ?_
      | refine awp_block ?_
      | refine awp_condG fun A' B' hpA hpB => ?_
      | refine useK (by with_reducible assumption) ?_
      | refine useP (by with_reducible assumption) ?_
      | refine ED_cons (fun _ => ?_) ?_
      | (refine stable_mk ?_; simp (disch := first | (with_reducible assumption) | (simp; done) | omega | (simp; omega)) [hat, hatb, hd, hin, cSO]; done)
      | (refine stable_no ?_; simp (disch := first | (with_reducible assumption) | (simp; done) | omega | (simp; omega)) [hat, hatb, hd, hin, cSO]; done)
      | (with_reducible refine And.intro ?_ ?_)
      | (with_reducible intro hc)
      | (with_reducible refine GDsplit (fun hc => ?_) (fun hc => ?_) <;> try simp [hc])
      | (with_reducible refine GDsplitN (fun hc => ?_) (fun hc => ?_) <;> try simp [hc])
      | (with_reducible refine GDsplitNB (fun hc => ?_) (fun hc => ?_) <;> try simp [hc])
      | (with_reducible refine GDsplitB (fun hc => ?_) (fun hc => ?_) <;> try simp [hc])
      | (with_reducible refine GKsplit (fun hc => ?_) (fun hc => ?_) <;> try simp [hc])
      | (with_reducible refine GKsplitN (fun hc => ?_) (fun hc => ?_) <;> try simp [hc])
      | (with_reducible refine GKsplitNB (fun hc => ?_) (fun hc => ?_) <;> try simp [hc])
      | (with_reducible refine GKsplitB (fun hc => ?_) (fun hc => ?_) <;> try simp [hc])
      | (refine CallK.use (hf) ?_; rintro r G' _ _ ⟨rfl, rfl⟩)
      | simp (disch := first | (with_reducible assumption) | (simp; done) | omega | (simp; omega)) [hat, hatb, hd, hin, cSO])
    exact ends_two (by simp <;> exact ⟨rfl, rfl⟩) (by simp) (by simp) (hpost _ _ ⟨rfl, by simp⟩)
  | false =>
    rw [hh] at hf
    have hge : getL L k = none := by rw [hasL_get] at hh; simpa using hh
    rw [hge]
    refine ACalls.hide fun post hpost => ?_
    refine F22_in (by simp) (by simp) fun hbd => ?_
    repeat' (first
      | refine awp_seqK fun K' hpK => ?_
      | refine awp_block ?_
      | refine awp_condG fun A' B' hpA hpB => ?_
      | refine useK (by with_reducible assumption) ?_
      | refine useP (by with_reducible assumption) ?_
      | refine ED_cons (fun _ => ?_) ?_
      | (refine stable_mk ?_; simp (disch := first | (with_reducible assumption) | (simp; done) | omega | (simp; omega)); done)
      | (refine stable_no ?_; simp (disch := first | (with_reducible assumption) | (simp; done) | omega | (simp; omega)); done)
      | (with_reducible refine And.intro ?_ ?_)
      | (with_reducible intro hc)
      | (with_reducible refine GDsplit (fun hc => ?_) (fun hc => ?_) <;> try simp [hc])
      | (with_reducible refine GDsplitN (fun hc => ?_) (fun hc => ?_) <;> try simp [hc])
      | (with_reducible refine GDsplitNB (fun hc => ?_) (fun hc => ?_) <;> try simp [hc])
      | (with_reducible refine GDsplitB (fun hc => ?_) (fun hc => ?_) <;> try simp [hc])
      | (with_reducible refine GKsplit (fun hc => ?_) (fun hc => ?_) <;> try simp [hc])
      | (with_reducible refine GKsplitN (fun hc => ?_) (fun hc => ?_) <;> try simp [hc])
      | (with_reducible refine GKsplitNB (fun hc => ?_) (fun hc => ?_) <;> try simp [hc])
      | (with_reducible refine GKsplitB (fun hc => ?_) (fun hc => ?_) <;> try simp [hc])
      | (refine CallK.use (hf) ?_; rintro r G' _ _ ⟨rfl, rfl⟩)
      | simp (disch := first | (with_reducible assumption) | (simp; done) | omega | (simp; omega)))
    exact ends_two (by simp <;> exact ⟨rfl, rfl⟩) (by simp) (by simp) (hpost _ _ ⟨rfl, by simp [zVO, ofS]⟩)

theorem insO_c {out : AV} {G0 G : Hp} {l : List (Int × On)} (hg : Grow cSO 36 G0 G out l) {i : Nat} (x : Int × On) (hi : i ≤ l.length) (hl : l.length ≤ 1000000) :
    ACalls Try.prog 38 [out, .int .i64 i, .sl 1 (cSO x)] G fun r G' => Grow cSO 36 G0 G' r (l.take i ++ x :: l.drop i) :=
  insG (ρ := ren95) slK95 ins38_f ovl38_f (by simp) (by simp) (by omega) hg x hi (by simp [LIM]; omega) (by simp [LIM]; omega)
def setRO (L : List (Int × On)) (mx : Int) (k : Int) : Bool := hasL L k || decide ((L.length : Int) < mx)
set_option maxHeartbeats 1000000 in
theorem setO_c {sb : Nat} {h : Hp} {L : List (Int × On)} {mx : Int} {k : Int} {v : On} (hs : SHO sb h L mx) (hl : L.length ≤ 1000000) : ACalls Try.prog 25 [.ptr sb 0, .int .u32 k, (.agg [.int .u32 v.id, .int .u32 v.ep, .int .u64 v.k1, .int .u64 v.k2, .int .u32 v.k3, .int .u32 v.k4, .int .i64 v.k5, .int .i64 v.k6, .int .i64 v.k7, .int .i64 v.f1, .int .i64 v.f2, .int .i64 v.t1, .int .i64 v.t2, .str v.su, .str v.sh, .str v.du, .str v.dh, .int .i64 v.act, .int .i64 v.rule, ofS cHo v.path, .int .u32 v.l0, .int .u32 v.l1, .int .u32 v.l2, .int .u32 v.l3, .int .u32 v.l4, .int .u32 v.l5, .int .u32 v.l6, .int .u32 v.l7, .int .u32 v.l8, .int .i64 v.idle, .int .i64 v.hard, .int .i64 v.at_, .int .u32 v.seq, .bool v.said, .int .i64 v.when])] h fun r h' => SHO sb h' (if setRO L mx k then setL L k v else L) mx ∧ r = .int .i64 (if setRO L mx k then 0 else 4) := by
  have hf := findO_c (k := k) hs hl
  have hs0 := hs
  obtain ⟨⟨out, hg⟩, hS⟩ := hs
  have hat := hg.at
  have hpo := Grow.plain hg
  have hal := fun {t : TypeId} => Grow.len (P := Try.prog) (t := t) hg
  have hpl := posL_le L k
  have hSs := hS.set k v
  cases hh : hasL L k with
  | true =>
    rw [hh] at hf
    have e : setRO L mx k = true := by unfold setRO; rw [hh]; rfl
    rw [e]
    obtain ⟨hin, hk, hge⟩ := getL_pos hS hh
    have hset := setL_has (v := v) hS hh
    rw [hset] at hSs
    obtain ⟨b, τ, hb, rfl, hG⟩ := Grow.ms hg (by intro h; subst h; simp at hin)
    have hatb : h b = some (τ, L.flatMap cSO) := by rw [hG, setH_same]
    have hlen : (L.flatMap cSO).length = L.length * 36 := flat_len (by simp) L
    have hle : posL L k * 36 + 36 ≤ L.length * 36 := by omega
    have hsp : splice (L.flatMap cSO) (posL L k * 36 + 1) [.int .u32 v.id, .int .u32 v.ep, .int .u64 v.k1, .int .u64 v.k2, .int .u32 v.k3, .int .u32 v.k4, .int .i64 v.k5, .int .i64 v.k6, .int .i64 v.k7, .int .i64 v.f1, .int .i64 v.f2, .int .i64 v.t1, .int .i64 v.t2, .str v.su, .str v.sh, .str v.du, .str v.dh, .int .i64 v.act, .int .i64 v.rule, ofS cHo v.path, .int .u32 v.l0, .int .u32 v.l1, .int .u32 v.l2, .int .u32 v.l3, .int .u32 v.l4, .int .u32 v.l5, .int .u32 v.l6, .int .u32 v.l7, .int .u32 v.l8, .int .i64 v.idle, .int .i64 v.hard, .int .i64 v.at_, .int .u32 v.seq, .bool v.said, .int .i64 v.when] = (L.set (posL L k) (k, v)).flatMap cSO := flat_splice (by simp) hin (by simp) (by simp [cSO, hk])
    have hfit : posL L k * 36 + 1 + ([.int .u32 v.id, .int .u32 v.ep, .int .u64 v.k1, .int .u64 v.k2, .int .u32 v.k3, .int .u32 v.k4, .int .i64 v.k5, .int .i64 v.k6, .int .i64 v.k7, .int .i64 v.f1, .int .i64 v.f2, .int .i64 v.t1, .int .i64 v.t2, .str v.su, .str v.sh, .str v.du, .str v.dh, .int .i64 v.act, .int .i64 v.rule, ofS cHo v.path, .int .u32 v.l0, .int .u32 v.l1, .int .u32 v.l2, .int .u32 v.l3, .int .u32 v.l4, .int .u32 v.l5, .int .u32 v.l6, .int .u32 v.l7, .int .u32 v.l8, .int .i64 v.idle, .int .i64 v.hard, .int .i64 v.at_, .int .u32 v.seq, .bool v.said, .int .i64 v.when] : List AV).length ≤ (L.flatMap cSO).length := by rw [hlen]; simp; omega
    subst hG
    refine ACalls.hide fun post hpost => ?_
    refine F25_in (by simp) (by simp) fun hbd => ?_
    repeat' (first
      | refine awp_seqK fun K' hpK => ?_
      | refine awp_block ?_
      | refine awp_condG fun A' B' hpA hpB => ?_
      | refine useK (by with_reducible assumption) ?_
      | refine useP (by with_reducible assumption) ?_
      | refine ED_cons (fun _ => ?_) ?_
      | (refine stable_mk ?_; simp (disch := first | (with_reducible assumption) | (simp; done) | omega | (simp; omega)) [hat, hatb, hin, hlen, hle, hsp, setH_setH]; done)
      | (refine stable_no ?_; simp (disch := first | (with_reducible assumption) | (simp; done) | omega | (simp; omega)) [hat, hatb, hin, hlen, hle, hsp, setH_setH]; done)
      | (with_reducible refine And.intro ?_ ?_)
      | (with_reducible intro hc; try (exfalso; omega))
      | (with_reducible refine GDsplit (fun hc => ?_) (fun hc => ?_) <;> try simp [hc])
      | (with_reducible refine GDsplitN (fun hc => ?_) (fun hc => ?_) <;> try simp [hc])
      | (with_reducible refine GDsplitNB (fun hc => ?_) (fun hc => ?_) <;> try simp [hc])
      | (with_reducible refine GDsplitB (fun hc => ?_) (fun hc => ?_) <;> try simp [hc])
      | (with_reducible refine GKsplit (fun hc => ?_) (fun hc => ?_) <;> try simp [hc])
      | (with_reducible refine GKsplitN (fun hc => ?_) (fun hc => ?_) <;> try simp [hc])
      | (with_reducible refine GKsplitNB (fun hc => ?_) (fun hc => ?_) <;> try simp [hc])
      | (with_reducible refine GKsplitB (fun hc => ?_) (fun hc => ?_) <;> try simp [hc])
      | (refine CallK.use (hf) ?_; rintro r G' _ _ ⟨rfl, rfl⟩)
      | simp (disch := first | (with_reducible assumption) | (simp; done) | omega | (simp; omega)) [hat, hatb, hin, hlen, hle, hsp, setH_setH])
    refine ends_one (by simp <;> rfl) (by simp) (hpost _ _ ⟨⟨⟨.ms b 0 L.length 36, .inr ⟨b, τ, hb, by simp [hset], by simp only [if_true, hset, ← hsp]; simp [splice]⟩⟩, by simpa [hset] using hSs⟩, by simp⟩)
  | false =>
    rw [hh] at hf
    by_cases hr : (L.length : Int) < mx
    · have e : setRO L mx k = true := by unfold setRO; rw [hh, decide_eq_true hr]; rfl
      rw [e]
      have hset := setL_new (v := v) hS hh
      have hins := insO_c hg (k, v) hpl hl
      rw [← hset] at hins
      simp only [cSO] at hins
      refine ACalls.hide fun post hpost => ?_
      refine F25_in (by simp) (by simp) fun hbd => ?_
      repeat' (first
        | refine awp_seqK fun K' hpK => ?_
        | refine awp_block ?_
        | refine awp_condG fun A' B' hpA hpB => ?_
        | refine useK (by with_reducible assumption) ?_
        | refine useP (by with_reducible assumption) ?_
        | refine ED_cons (fun _ => ?_) ?_
        | (refine stable_mk ?_; simp (disch := first | (with_reducible assumption) | (simp; done) | omega | (simp; omega)) [hat, hpo, hal, hr]; done)
        | (refine stable_no ?_; simp (disch := first | (with_reducible assumption) | (simp; done) | omega | (simp; omega)) [hat, hpo, hal, hr]; done)
        | (with_reducible refine And.intro ?_ ?_)
        | (with_reducible intro hc; try (exfalso; omega))
        | (with_reducible refine GDsplit (fun hc => ?_) (fun hc => ?_) <;> try simp [hc])
        | (with_reducible refine GDsplitN (fun hc => ?_) (fun hc => ?_) <;> try simp [hc])
        | (with_reducible refine GDsplitNB (fun hc => ?_) (fun hc => ?_) <;> try simp [hc])
        | (with_reducible refine GDsplitB (fun hc => ?_) (fun hc => ?_) <;> try simp [hc])
        | (with_reducible refine GKsplit (fun hc => ?_) (fun hc => ?_) <;> try simp [hc])
        | (with_reducible refine GKsplitN (fun hc => ?_) (fun hc => ?_) <;> try simp [hc])
        | (with_reducible refine GKsplitNB (fun hc => ?_) (fun hc => ?_) <;> try simp [hc])
        | (with_reducible refine GKsplitB (fun hc => ?_) (fun hc => ?_) <;> try simp [hc])
        | (refine CallK.use (hf) ?_; rintro r G' _ _ ⟨rfl, rfl⟩)
        | simp (disch := first | (with_reducible assumption) | (simp; done) | omega | (simp; omega)) [hat, hpo, hal, hr])
      refine CallK.use hins ?_
      rintro r2 G2 _ _ hg2
      have hat2 := Grow.base hg2 (one_same ..)
      have hv2 := Grow.plain hg2
      have hk2 := Grow.known hg2
      have hs2 := Grow.scal hg2
      have hc2 := Grow.cells hg2
      obtain ⟨h', hs', hg3⟩ := Grow.cut (Grow.set hg2 (one_same ..) (o' := (0, [r2, .int .i64 mx]))) (b := sb) (o := (0, [r2, .int .i64 mx])) (o' := (0, [r2, .int .i64 mx])) (setH_same ..)
      rw [setH_setH] at hs'
      repeat' (first
        | refine awp_seqK fun K' hpK => ?_
        | refine awp_block ?_
        | refine awp_condG fun A' B' hpA hpB => ?_
        | refine useK (by with_reducible assumption) ?_
        | refine useP (by with_reducible assumption) ?_
        | refine ED_cons (fun _ => ?_) ?_
        | (refine stable_mk ?_; simp (disch := first | (with_reducible assumption) | (simp; done) | omega | (simp; omega)) [hv2, hk2, hs2, hc2, hat2]; done)
        | (refine stable_no ?_; simp (disch := first | (with_reducible assumption) | (simp; done) | omega | (simp; omega)) [hv2, hk2, hs2, hc2, hat2]; done)
        | (with_reducible refine And.intro ?_ ?_)
        | (with_reducible intro hc)
        | (with_reducible refine GDsplit (fun hc => ?_) (fun hc => ?_) <;> try simp [hc])
        | (with_reducible refine GDsplitN (fun hc => ?_) (fun hc => ?_) <;> try simp [hc])
        | (with_reducible refine GDsplitNB (fun hc => ?_) (fun hc => ?_) <;> try simp [hc])
        | (with_reducible refine GDsplitB (fun hc => ?_) (fun hc => ?_) <;> try simp [hc])
        | (with_reducible refine GKsplit (fun hc => ?_) (fun hc => ?_) <;> try simp [hc])
        | (with_reducible refine GKsplitN (fun hc => ?_) (fun hc => ?_) <;> try simp [hc])
        | (with_reducible refine GKsplitNB (fun hc => ?_) (fun hc => ?_) <;> try simp [hc])
        | (with_reducible refine GKsplitB (fun hc => ?_) (fun hc => ?_) <;> try simp [hc])
        | simp (disch := first | (with_reducible assumption) | (simp; done) | omega | (simp; omega)) [hv2, hk2, hs2, hc2, hat2])
      exact ends_one_sub (by simp <;> rfl) (by simp) hs' (hpost _ _ ⟨⟨⟨r2, hg3⟩, hSs⟩, rfl⟩)
    · have e : setRO L mx k = false := by unfold setRO; rw [hh, decide_eq_false hr]; rfl
      rw [e]
      refine ACalls.hide fun post hpost => ?_
      refine F25_in (by simp) (by simp) fun hbd => ?_
      repeat' (first
        | refine awp_seqK fun K' hpK => ?_
        | refine awp_block ?_
        | refine awp_condG fun A' B' hpA hpB => ?_
        | refine useK (by with_reducible assumption) ?_
        | refine useP (by with_reducible assumption) ?_
        | refine ED_cons (fun _ => ?_) ?_
        | (refine stable_mk ?_; simp (disch := first | (with_reducible assumption) | (simp; done) | omega | (simp; omega)) [hat, hpo, hal, hr]; done)
        | (refine stable_no ?_; simp (disch := first | (with_reducible assumption) | (simp; done) | omega | (simp; omega)) [hat, hpo, hal, hr]; done)
        | (with_reducible refine And.intro ?_ ?_)
        | (with_reducible intro hc; try (exfalso; omega))
        | (with_reducible refine GDsplit (fun hc => ?_) (fun hc => ?_) <;> try simp [hc])
        | (with_reducible refine GDsplitN (fun hc => ?_) (fun hc => ?_) <;> try simp [hc])
        | (with_reducible refine GDsplitNB (fun hc => ?_) (fun hc => ?_) <;> try simp [hc])
        | (with_reducible refine GDsplitB (fun hc => ?_) (fun hc => ?_) <;> try simp [hc])
        | (with_reducible refine GKsplit (fun hc => ?_) (fun hc => ?_) <;> try simp [hc])
        | (with_reducible refine GKsplitN (fun hc => ?_) (fun hc => ?_) <;> try simp [hc])
        | (with_reducible refine GKsplitNB (fun hc => ?_) (fun hc => ?_) <;> try simp [hc])
        | (with_reducible refine GKsplitB (fun hc => ?_) (fun hc => ?_) <;> try simp [hc])
        | (refine CallK.use (hf) ?_; rintro r G' _ _ ⟨rfl, rfl⟩)
        | simp (disch := first | (with_reducible assumption) | (simp; done) | omega | (simp; omega)) [hat, hpo, hal, hr])
      exact ends_one (by simp <;> rfl) (by simp) (hpost _ _ ⟨hs0, rfl⟩)

theorem newO_E {n m : Int} (hm : maxR0 n = m) : ACalls Try.prog 20 [.int .i64 n] emptyH fun r h' => ∃ sb, r = .ptr sb 0 ∧ SHO sb h' [] m := by subst hm; exact newO_c
theorem setO_E {sb : Nat} {h : Hp} {L M : List (Int × On)} {mx e : Int} {k : Int} {v : On} (hs : SHO sb h L mx) (hl : L.length ≤ 1000000) (hM : (if setRO L mx k then setL L k v else L) = M) (he : (if setRO L mx k then 0 else 4) = e) : ACalls Try.prog 25 [.ptr sb 0, .int .u32 k, (.agg [.int .u32 v.id, .int .u32 v.ep, .int .u64 v.k1, .int .u64 v.k2, .int .u32 v.k3, .int .u32 v.k4, .int .i64 v.k5, .int .i64 v.k6, .int .i64 v.k7, .int .i64 v.f1, .int .i64 v.f2, .int .i64 v.t1, .int .i64 v.t2, .str v.su, .str v.sh, .str v.du, .str v.dh, .int .i64 v.act, .int .i64 v.rule, ofS cHo v.path, .int .u32 v.l0, .int .u32 v.l1, .int .u32 v.l2, .int .u32 v.l3, .int .u32 v.l4, .int .u32 v.l5, .int .u32 v.l6, .int .u32 v.l7, .int .u32 v.l8, .int .i64 v.idle, .int .i64 v.hard, .int .i64 v.at_, .int .u32 v.seq, .bool v.said, .int .i64 v.when])] h fun r h' => SHO sb h' M mx ∧ r = .int .i64 e := by subst hM; subst he; exact setO_c hs hl

theorem sdelO_c {out : AV} {G0 G : Hp} {l : List (Int × On)} (hg : Grow cSO 36 G0 G out l) {i j : Nat} (hij : i ≤ j) (hj : j ≤ l.length) (hlt : 0 < l.length) :
    ACalls Try.prog 39 [out, .int .i64 i, .int .i64 j] G fun r G' => Grow cSO 36 G0 G' r (l.take i ++ l.drop j) :=
  delG (ρ := ren95) slT95 del39_f (by simp) (by simp) (by omega) hg hij hj hlt
def delsLO (L : List (Int × On)) : List Int → List (Int × On)
  | [] => L
  | k :: r => delsLO (delL L k) r
def delsNO (L : List (Int × On)) : List Int → Nat
  | [] => 0
  | k :: r => (if hasL L k then 1 else 0) + delsNO (delL L k) r
theorem delsLO_app (L : List (Int × On)) (l m : List Int) : delsLO L (l ++ m) = delsLO (delsLO L l) m := by
  induction l generalizing L with
  | nil => rfl
  | cons k l ih => exact ih _
theorem delsNO_app (L : List (Int × On)) (l m : List Int) : delsNO L (l ++ m) = delsNO L l + delsNO (delsLO L l) m := by
  induction l generalizing L with
  | nil => simp [delsNO, delsLO]
  | cons k l ih => simp only [List.cons_append, delsNO, delsLO, ih]; omega
theorem delsNO_le (L : List (Int × On)) (l : List Int) : delsNO L l ≤ l.length := by
  induction l generalizing L with
  | nil => simp [delsNO]
  | cons k l ih => simp only [delsNO, List.length_cons]; have := ih (delL L k); split <;> omega
theorem delsLO_len (L : List (Int × On)) (l : List Int) : (delsLO L l).length ≤ L.length := by
  induction l generalizing L with
  | nil => exact Nat.le_refl _
  | cons k l ih => exact Nat.le_trans (ih _) (delL_len_le L k)
set_option maxHeartbeats 1000000 in
theorem delO_c {sb : Nat} {h : Hp} {L : List (Int × On)} {mx : Int} {s : Option (List Int)} (hs : SHO sb h L mx) (hl : L.length ≤ 1000000) (hsl : (LL s).length ≤ 1000000) : ACalls Try.prog 29 [.ptr sb 0, ofS cKO s] h fun r h' => SHO sb h' (delsLO L (LL s)) mx ∧ r = .int .i64 (delsNO L (LL s)) := by
  refine ACalls.hide fun post hpost => ?_
  refine F29_in (by simp) (by simp) fun hbd => ?_
  repeat' (first
    | refine awp_seqK fun K' hpK => ?_
    | refine awp_block ?_
    | refine awp_condG fun A' B' hpA hpB => ?_
    | refine useK (by with_reducible assumption) ?_
    | refine useP (by with_reducible assumption) ?_
    | refine ED_cons (fun _ => ?_) ?_
    | (refine stable_mk ?_; simp (disch := first | (with_reducible assumption) | (simp; done) | omega | (simp; omega)); done)
    | (refine stable_no ?_; simp (disch := first | (with_reducible assumption) | (simp; done) | omega | (simp; omega)); done)
    | (with_reducible refine And.intro ?_ ?_)
    | (with_reducible intro hc)
    | (with_reducible refine GDsplit (fun hc => ?_) (fun hc => ?_) <;> try simp [hc])
    | (with_reducible refine GDsplitN (fun hc => ?_) (fun hc => ?_) <;> try simp [hc])
    | (with_reducible refine GDsplitNB (fun hc => ?_) (fun hc => ?_) <;> try simp [hc])
    | (with_reducible refine GDsplitB (fun hc => ?_) (fun hc => ?_) <;> try simp [hc])
    | (with_reducible refine GKsplit (fun hc => ?_) (fun hc => ?_) <;> try simp [hc])
    | (with_reducible refine GKsplitN (fun hc => ?_) (fun hc => ?_) <;> try simp [hc])
    | (with_reducible refine GKsplitNB (fun hc => ?_) (fun hc => ?_) <;> try simp [hc])
    | (with_reducible refine GKsplitB (fun hc => ?_) (fun hc => ?_) <;> try simp [hc])
    | simp (disch := first | (with_reducible assumption) | (simp; done) | omega | (simp; omega)))
  refine awp_loop' (fun w T G' => ∃ k : Nat, k + w = (LL s).length ∧ SHO sb G' (delsLO L ((LL s).take k)) mx ∧ T = ofL [(0, .ptr sb 0), (5, .int .i64 (delsNO L ((LL s).take k))), (10, ofS cKO s), (11, .int .i64 (LL s).length), (12, .int .i64 k)]) (LL s).length ⟨0, by omega, hs, by simp [delsNO]⟩ ?_
  rintro w T G' ⟨k, hk, hsk, rfl⟩ N hN
  have hsl2 := delsNO_le L ((LL s).take k)
  rw [List.length_take] at hsl2
  by_cases hkl : k < (LL s).length
  · have htk := take_succ_get (LL s) k hkl
    have e1 : delsLO L ((LL s).take (k + 1)) = delL (delsLO L ((LL s).take k)) (LL s)[k] := by rw [htk, delsLO_app]; rfl
    have e2 : delsNO L ((LL s).take (k + 1)) = delsNO L ((LL s).take k) + (if hasL (delsLO L ((LL s).take k)) (LL s)[k] then 1 else 0) := by rw [htk, delsNO_app]; simp [delsNO]
    have hML : (delsLO L ((LL s).take k)).length ≤ 1000000 := Nat.le_trans (delsLO_len _ _) hl
    generalize delsLO L ((LL s).take k) = M at *
    have hf := findO_c (k := (LL s)[k]) hsk hML
    have hsk0 := hsk
    obtain ⟨⟨out, hg⟩, hS⟩ := hsk
    have hat := hg.at
    have hpo := Grow.plain hg
    have hpl := posL_le M (LL s)[k]
    cases hh : hasL M (LL s)[k] with
    | false =>
      rw [hh] at hf e2
      repeat' (first
        | refine awp_seqK fun K' hpK => ?_
        | refine awp_block ?_
        | refine awp_condG fun A' B' hpA hpB => ?_
        | refine useK (by with_reducible assumption) ?_
        | refine useP (by with_reducible assumption) ?_
        | refine ED_cons (fun _ => ?_) ?_
        | (refine stable_mk ?_; simp (disch := first | (with_reducible assumption) | (simp; done) | omega | (simp; omega)) [hkl, ofS_idx (f := cKO), cKO]; done)
        | (refine stable_no ?_; simp (disch := first | (with_reducible assumption) | (simp; done) | omega | (simp; omega)) [hkl, ofS_idx (f := cKO), cKO]; done)
        | (with_reducible refine And.intro ?_ ?_)
        | (with_reducible intro hc)
        | (with_reducible refine GDsplit (fun hc => ?_) (fun hc => ?_) <;> try simp [hc])
        | (with_reducible refine GDsplitN (fun hc => ?_) (fun hc => ?_) <;> try simp [hc])
        | (with_reducible refine GDsplitNB (fun hc => ?_) (fun hc => ?_) <;> try simp [hc])
        | (with_reducible refine GDsplitB (fun hc => ?_) (fun hc => ?_) <;> try simp [hc])
        | (with_reducible refine GKsplit (fun hc => ?_) (fun hc => ?_) <;> try simp [hc])
        | (with_reducible refine GKsplitN (fun hc => ?_) (fun hc => ?_) <;> try simp [hc])
        | (with_reducible refine GKsplitNB (fun hc => ?_) (fun hc => ?_) <;> try simp [hc])
        | (with_reducible refine GKsplitB (fun hc => ?_) (fun hc => ?_) <;> try simp [hc])
        | (refine CallK.use (hf) ?_; rintro r G' _ _ ⟨rfl, rfl⟩)
        | simp (disch := first | (with_reducible assumption) | (simp; done) | omega | (simp; omega)) [hkl, ofS_idx (f := cKO), cKO])
      exact hN (w - 1) _ _ (by omega) ⟨k + 1, by omega, by rw [e1, delL_none hh]; exact hsk0, by rw [e2]; simp⟩
    | true =>
      rw [hh] at hf e2
      obtain ⟨hin, _, _⟩ := getL_pos hS hh
      have hdl := delL_has hS hh
      have hSd := hS.del (LL s)[k]
      have hk1 : ((posL M (LL s)[k] : Int) + 1) = ((posL M (LL s)[k] + 1 : Nat) : Int) := by omega
      repeat' (first
        | refine awp_seqK fun K' hpK => ?_
        | refine awp_block ?_
        | refine awp_condG fun A' B' hpA hpB => ?_
        | refine useK (by with_reducible assumption) ?_
        | refine useP (by with_reducible assumption) ?_
        | refine ED_cons (fun _ => ?_) ?_
        | (refine stable_mk ?_; simp (disch := first | (with_reducible assumption) | (simp; done) | omega | (simp; omega)) [hkl, ofS_idx (f := cKO), cKO, hat, hpo]; done)
        | (refine stable_no ?_; simp (disch := first | (with_reducible assumption) | (simp; done) | omega | (simp; omega)) [hkl, ofS_idx (f := cKO), cKO, hat, hpo]; done)
        | (with_reducible refine And.intro ?_ ?_)
        | (with_reducible intro hc)
        | (with_reducible refine GDsplit (fun hc => ?_) (fun hc => ?_) <;> try simp [hc])
        | (with_reducible refine GDsplitN (fun hc => ?_) (fun hc => ?_) <;> try simp [hc])
        | (with_reducible refine GDsplitNB (fun hc => ?_) (fun hc => ?_) <;> try simp [hc])
        | (with_reducible refine GDsplitB (fun hc => ?_) (fun hc => ?_) <;> try simp [hc])
        | (with_reducible refine GKsplit (fun hc => ?_) (fun hc => ?_) <;> try simp [hc])
        | (with_reducible refine GKsplitN (fun hc => ?_) (fun hc => ?_) <;> try simp [hc])
        | (with_reducible refine GKsplitNB (fun hc => ?_) (fun hc => ?_) <;> try simp [hc])
        | (with_reducible refine GKsplitB (fun hc => ?_) (fun hc => ?_) <;> try simp [hc])
        | (refine CallK.use (hf) ?_; rintro r G' _ _ ⟨rfl, rfl⟩)
        | simp (disch := first | (with_reducible assumption) | (simp; done) | omega | (simp; omega)) [hkl, ofS_idx (f := cKO), cKO, hat, hpo])
      rw [hk1]
      refine CallK.use (sdelO_c hg (show posL M (LL s)[k] ≤ posL M (LL s)[k] + 1 by omega) (by omega) (by omega)) ?_; rintro r2 G2 _ _ hg2
      rw [← hdl] at hg2
      have hat2 := Grow.base hg2 (one_same ..)
      have hv2 := Grow.plain hg2
      have hk2 := Grow.known hg2
      have hs2 := Grow.scal hg2
      have hc2 := Grow.cells hg2
      have hg3 := Grow.set hg2 (one_same ..) (o' := (0, [r2, .int .i64 mx]))
      rw [setH_one] at hg3
      repeat' (first
        | refine awp_seqK fun K' hpK => ?_
        | refine awp_block ?_
        | refine awp_condG fun A' B' hpA hpB => ?_
        | refine useK (by with_reducible assumption) ?_
        | refine useP (by with_reducible assumption) ?_
        | refine ED_cons (fun _ => ?_) ?_
        | (refine stable_mk ?_; simp (disch := first | (with_reducible assumption) | (simp; done) | omega | (simp; omega)) [hv2, hk2, hs2, hc2, hat2]; done)
        | (refine stable_no ?_; simp (disch := first | (with_reducible assumption) | (simp; done) | omega | (simp; omega)) [hv2, hk2, hs2, hc2, hat2]; done)
        | (with_reducible refine And.intro ?_ ?_)
        | (with_reducible intro hc)
        | (with_reducible refine GDsplit (fun hc => ?_) (fun hc => ?_) <;> try simp [hc])
        | (with_reducible refine GDsplitN (fun hc => ?_) (fun hc => ?_) <;> try simp [hc])
        | (with_reducible refine GDsplitNB (fun hc => ?_) (fun hc => ?_) <;> try simp [hc])
        | (with_reducible refine GDsplitB (fun hc => ?_) (fun hc => ?_) <;> try simp [hc])
        | (with_reducible refine GKsplit (fun hc => ?_) (fun hc => ?_) <;> try simp [hc])
        | (with_reducible refine GKsplitN (fun hc => ?_) (fun hc => ?_) <;> try simp [hc])
        | (with_reducible refine GKsplitNB (fun hc => ?_) (fun hc => ?_) <;> try simp [hc])
        | (with_reducible refine GKsplitB (fun hc => ?_) (fun hc => ?_) <;> try simp [hc])
        | simp (disch := first | (with_reducible assumption) | (simp; done) | omega | (simp; omega)) [hv2, hk2, hs2, hc2, hat2])
      exact hN (w - 1) _ _ (by omega) ⟨k + 1, by omega, by rw [e1]; exact ⟨⟨r2, hg3⟩, hSd⟩, by rw [e2]; simp⟩
  · have hke : k = (LL s).length := by omega
    rw [hke, List.take_length] at hsk
    rw [hke, List.take_length]
    repeat' (first
      | refine awp_seqK fun K' hpK => ?_
      | refine awp_block ?_
      | refine awp_condG fun A' B' hpA hpB => ?_
      | refine useK (by with_reducible assumption) ?_
      | refine useP (by with_reducible assumption) ?_
      | refine ED_cons (fun _ => ?_) ?_
      | (refine stable_mk ?_; simp (disch := first | (with_reducible assumption) | (simp; done) | omega | (simp; omega)) [hkl]; done)
      | (refine stable_no ?_; simp (disch := first | (with_reducible assumption) | (simp; done) | omega | (simp; omega)) [hkl]; done)
      | (with_reducible refine And.intro ?_ ?_)
      | (with_reducible intro hc)
      | (with_reducible refine GDsplit (fun hc => ?_) (fun hc => ?_) <;> try simp [hc])
      | (with_reducible refine GDsplitN (fun hc => ?_) (fun hc => ?_) <;> try simp [hc])
      | (with_reducible refine GDsplitNB (fun hc => ?_) (fun hc => ?_) <;> try simp [hc])
      | (with_reducible refine GDsplitB (fun hc => ?_) (fun hc => ?_) <;> try simp [hc])
      | (with_reducible refine GKsplit (fun hc => ?_) (fun hc => ?_) <;> try simp [hc])
      | (with_reducible refine GKsplitN (fun hc => ?_) (fun hc => ?_) <;> try simp [hc])
      | (with_reducible refine GKsplitNB (fun hc => ?_) (fun hc => ?_) <;> try simp [hc])
      | (with_reducible refine GKsplitB (fun hc => ?_) (fun hc => ?_) <;> try simp [hc])
      | simp (disch := first | (with_reducible assumption) | (simp; done) | omega | (simp; omega)) [hkl])
    exact ends_one (by simp <;> rfl) (by simp) (hpost _ _ ⟨hsk, rfl⟩)

set_option maxHeartbeats 1000000 in
theorem keysOG {sb : Nat} {h : Hp} {L : List (Int × On)} {mx : Int} (hs : SHO sb h L mx) (hl : L.length ≤ 1000000) : ACalls Try.prog 26 [.ptr sb 0] h fun r h' => Grow cKO 1 h h' r (L.map Prod.fst) := by
  have hle := lenO_c hs
  obtain ⟨⟨out, hg⟩, hS⟩ := hs
  have hat := hg.at
  have hpo := Grow.plain hg
  refine ACalls.hide fun post hpost => ?_
  refine F26_in (by simp) (by simp) fun hbd => ?_
  repeat' (first
    | refine awp_seqK fun K' hpK => ?_
    | refine awp_block ?_
    | refine awp_condG fun A' B' hpA hpB => ?_
    | refine useK (by with_reducible assumption) ?_
    | refine useP (by with_reducible assumption) ?_
    | refine ED_cons (fun _ => ?_) ?_
    | (refine stable_mk ?_; simp (disch := first | (with_reducible assumption) | (simp; done) | omega | (simp; omega)); done)
    | (refine stable_no ?_; simp (disch := first | (with_reducible assumption) | (simp; done) | omega | (simp; omega)); done)
    | (with_reducible refine And.intro ?_ ?_)
    | (with_reducible intro hc)
    | (with_reducible refine GDsplit (fun hc => ?_) (fun hc => ?_) <;> try simp [hc])
    | (with_reducible refine GDsplitN (fun hc => ?_) (fun hc => ?_) <;> try simp [hc])
    | (with_reducible refine GDsplitNB (fun hc => ?_) (fun hc => ?_) <;> try simp [hc])
    | (with_reducible refine GDsplitB (fun hc => ?_) (fun hc => ?_) <;> try simp [hc])
    | (with_reducible refine GKsplit (fun hc => ?_) (fun hc => ?_) <;> try simp [hc])
    | (with_reducible refine GKsplitN (fun hc => ?_) (fun hc => ?_) <;> try simp [hc])
    | (with_reducible refine GKsplitNB (fun hc => ?_) (fun hc => ?_) <;> try simp [hc])
    | (with_reducible refine GKsplitB (fun hc => ?_) (fun hc => ?_) <;> try simp [hc])
    | (refine CallK.use (hle) ?_; rintro r G' _ _ ⟨rfl, rfl⟩)
    | simp (disch := first | (with_reducible assumption) | (simp; done) | omega | (simp; omega)))
  refine awp_loop' (fun w T G1 => ∃ (k : Nat) (o : AV), k + w = L.length ∧ Grow cKO 1 G' G1 o ((L.map Prod.fst).take k) ∧ T = ofL [(0, .ptr sb 0), (3, o), (6, .int .i64 L.length), (7, .int .i64 k)]) L.length ⟨0, .nils, by omega, Grow.nil _ _, by simp⟩ ?_
  rintro w T G1 ⟨k, o, hk, hgo, rfl⟩ N hN
  have hoo := hgo.plain
  by_cases hkl : k < L.length
  · obtain ⟨b, τ, hb, rfl, hG⟩ := Grow.ms hg (by intro h; subst h; simp at hkl)
    have hatb : G' b = some (τ, L.flatMap cSO) := by rw [hG, setH_same]
    have hat' := hgo.base hat
    have hatb' := hgo.base hatb
    have hd0 := flat_at0 (f := cSO) (sz := 36) (by simp) hkl
    have hd1 := flat_at1 (f := cSO) (sz := 36) (j := 1) (by simp) hkl (by simp)
    have htk : (L.map Prod.fst).take (k + 1) = (L.map Prod.fst).take k ++ [(L[k]).1] := by rw [take_succ_get _ _ (by simpa using hkl)]; simp
    repeat' (first
      | refine awp_seqK fun K' hpK => ?_
      | refine awp_block ?_
      | refine awp_condG fun A' B' hpA hpB => ?_
      | refine useK (by with_reducible assumption) ?_
      | refine useP (by with_reducible assumption) ?_
      | refine ED_cons (fun _ => ?_) ?_
      | (refine stable_mk ?_; simp (disch := first | (with_reducible assumption) | (simp; done) | omega | (simp; omega)) [hkl, hat', hatb', hd0, hd1, cSO, hoo]; done)
      | (refine stable_no ?_; simp (disch := first | (with_reducible assumption) | (simp; done) | omega | (simp; omega)) [hkl, hat', hatb', hd0, hd1, cSO, hoo]; done)
      | (with_reducible refine And.intro ?_ ?_)
      | (with_reducible intro hc)
      | (with_reducible refine GDsplit (fun hc => ?_) (fun hc => ?_) <;> try simp [hc])
      | (with_reducible refine GDsplitN (fun hc => ?_) (fun hc => ?_) <;> try simp [hc])
      | (with_reducible refine GDsplitNB (fun hc => ?_) (fun hc => ?_) <;> try simp [hc])
      | (with_reducible refine GDsplitB (fun hc => ?_) (fun hc => ?_) <;> try simp [hc])
      | (with_reducible refine GKsplit (fun hc => ?_) (fun hc => ?_) <;> try simp [hc])
      | (with_reducible refine GKsplitN (fun hc => ?_) (fun hc => ?_) <;> try simp [hc])
      | (with_reducible refine GKsplitNB (fun hc => ?_) (fun hc => ?_) <;> try simp [hc])
      | (with_reducible refine GKsplitB (fun hc => ?_) (fun hc => ?_) <;> try simp [hc])
      | simp (disch := first | (with_reducible assumption) | (simp; done) | omega | (simp; omega)) [hkl, hat', hatb', hd0, hd1, cSO, hoo])
    refine hgo.app1 (x := (L[k]).1) (by simp [cKO]) (by simp [cKO]) (by simp [LIM]; omega) (fun v2 G2 hg2 => ?_)
    have hv2 := hg2.plain
    rw [← htk] at hg2
    repeat' (first
      | refine awp_seqK fun K' hpK => ?_
      | refine awp_block ?_
      | refine awp_condG fun A' B' hpA hpB => ?_
      | refine useK (by with_reducible assumption) ?_
      | refine useP (by with_reducible assumption) ?_
      | refine ED_cons (fun _ => ?_) ?_
      | (refine stable_mk ?_; simp (disch := first | (with_reducible assumption) | (simp; done) | omega | (simp; omega)) [hv2]; done)
      | (refine stable_no ?_; simp (disch := first | (with_reducible assumption) | (simp; done) | omega | (simp; omega)) [hv2]; done)
      | (with_reducible refine And.intro ?_ ?_)
      | (with_reducible intro hc)
      | (with_reducible refine GDsplit (fun hc => ?_) (fun hc => ?_) <;> try simp [hc])
      | (with_reducible refine GDsplitN (fun hc => ?_) (fun hc => ?_) <;> try simp [hc])
      | (with_reducible refine GDsplitNB (fun hc => ?_) (fun hc => ?_) <;> try simp [hc])
      | (with_reducible refine GDsplitB (fun hc => ?_) (fun hc => ?_) <;> try simp [hc])
      | (with_reducible refine GKsplit (fun hc => ?_) (fun hc => ?_) <;> try simp [hc])
      | (with_reducible refine GKsplitN (fun hc => ?_) (fun hc => ?_) <;> try simp [hc])
      | (with_reducible refine GKsplitNB (fun hc => ?_) (fun hc => ?_) <;> try simp [hc])
      | (with_reducible refine GKsplitB (fun hc => ?_) (fun hc => ?_) <;> try simp [hc])
      | simp (disch := first | (with_reducible assumption) | (simp; done) | omega | (simp; omega)) [hv2])
    exact hN (w - 1) _ _ (by omega) ⟨k + 1, v2, by omega, hg2, by simp⟩
  · have hke : k = L.length := by omega
    rw [hke, List.take_of_length_le (by simp)] at hgo
    repeat' (first
      | refine awp_seqK fun K' hpK => ?_
      | refine awp_block ?_
      | refine awp_condG fun A' B' hpA hpB => ?_
      | refine useK (by with_reducible assumption) ?_
      | refine useP (by with_reducible assumption) ?_
      | refine ED_cons (fun _ => ?_) ?_
      | (refine stable_mk ?_; simp (disch := first | (with_reducible assumption) | (simp; done) | omega | (simp; omega)) [hkl, hoo]; done)
      | (refine stable_no ?_; simp (disch := first | (with_reducible assumption) | (simp; done) | omega | (simp; omega)) [hkl, hoo]; done)
      | (with_reducible refine And.intro ?_ ?_)
      | (with_reducible intro hc)
      | (with_reducible refine GDsplit (fun hc => ?_) (fun hc => ?_) <;> try simp [hc])
      | (with_reducible refine GDsplitN (fun hc => ?_) (fun hc => ?_) <;> try simp [hc])
      | (with_reducible refine GDsplitNB (fun hc => ?_) (fun hc => ?_) <;> try simp [hc])
      | (with_reducible refine GDsplitB (fun hc => ?_) (fun hc => ?_) <;> try simp [hc])
      | (with_reducible refine GKsplit (fun hc => ?_) (fun hc => ?_) <;> try simp [hc])
      | (with_reducible refine GKsplitN (fun hc => ?_) (fun hc => ?_) <;> try simp [hc])
      | (with_reducible refine GKsplitNB (fun hc => ?_) (fun hc => ?_) <;> try simp [hc])
      | (with_reducible refine GKsplitB (fun hc => ?_) (fun hc => ?_) <;> try simp [hc])
      | simp (disch := first | (with_reducible assumption) | (simp; done) | omega | (simp; omega)) [hkl, hoo])
    exact ends_one (by simp <;> rfl) hoo (hpost _ _ hgo)
theorem keysO_c {sb : Nat} {h : Hp} {L : List (Int × On)} {mx : Int} (hs : SHO sb h L mx) (hl : L.length ≤ 1000000) : ACalls Try.prog 26 [.ptr sb 0] h fun r h' => h' = h ∧ ∃ s : Option (List Int), r = ofS cKO s ∧ LL s = L.map Prod.fst :=
  (keysOG hs hl).grow (by simp)
end Go.Proofs.Ytgideonigiokbaa
