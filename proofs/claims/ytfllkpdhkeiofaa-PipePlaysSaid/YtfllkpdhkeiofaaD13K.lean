import Derived.Test.YtfllkpdhkeiofaaD12aK
import Derived.Test.YtfllkpdhkeiofaaD12bK
import Derived.Test.YtfllkpdhkeiofaaD12cK
import Derived.Test.YtfllkpdhkeiofaaD12dK
import Derived.Test.YtfllkpdhkeiofaaD12eK
import Derived.Test.YtfllkpdhkeiofaaD12fK
import Derived.Test.YtfllkpdhkeiofaaD12gK
set_option linter.unusedSimpArgs false
set_option linter.unusedVariables false
namespace Go.Proofs.Ytfllkpdhkeiofaa
open Go Go.Al
set_option maxRecDepth 20000
attribute [local irreducible] awp aops aopsD eop pv ACalls CallK AppK AEnds ti

theorem step_c {pb : Nat} {G : Hp} {x : PS} {p : RPipe} {kd at_ also : Int} {sl : Option (List Int)} {k : Nat} (hp : PipeH pb G x) (hr : RP p x) (hbd0 : x.bd k) (hk : k ≤ 60) (hsl : (LL sl).length ≤ 140737488355328) :
    ACalls Try.prog 17 [.ptr pb 0, p.av, .agg [.int .i64 kd, .int .i64 at_, .int .i64 also, ofS cI sl]] G fun r G' => ∃ x' p', r = .tup [p'.av, .bool true] ∧ PipeH pb G' x' ∧ RP p' x' ∧ x'.bd (k + 1) := by
  by_cases n0 : kd = 0
  · exact step_kd0 n0 hp hr hbd0 hk hsl
  by_cases n1 : kd = 1
  · exact step_kd1 n1 hp hr hbd0 hk hsl
  by_cases n2 : kd = 2
  · exact step_kd2 n2 hp hr hbd0 hk hsl
  by_cases n3 : kd = 3
  · exact step_kd3 n3 hp hr hbd0 hk hsl
  by_cases n4 : kd = 4
  · exact step_kd4 n4 hp hr hbd0 hk hsl
  by_cases n5 : kd = 5
  · exact step_kd5 n5 hp hr hbd0 hk hsl
  exact step_kdo n0 n1 n2 n3 n4 n5 hp hr hbd0 hk hsl

set_option maxHeartbeats 4000000 in
theorem pipePlays_c {n : Int} {l : Option (List Cl)} (hll : (LL l).length ≤ 140737488355328) (hls : ∀ x ∈ LL l, (LL x.2.2.2.1).length ≤ 140737488355328) : ACalls Try.prog 5 [.int .i64 n, ofS cC l] emptyH fun r G' => G' = emptyH ∧ r = .bool true := by
  obtain ⟨q, hq⟩ : ∃ q, q = n.tmod 20 := ⟨_, rfl⟩
  have hq1 : -20 < q := by rw [hq]; have := Int.lt_tmod_of_pos n (show (0 : Int) < 20 by omega); omega
  have hq2 : q < 20 := by rw [hq]; have := Int.tmod_lt_of_pos n (show (0 : Int) < 20 by omega); omega
  have hm : 1 ≤ clampP q ∧ clampP q ≤ 4096 := by unfold clampP; (repeat' split) <;> omega
  have hrn := fun G => rnew_c (n := q) G
  simp only [RPipe.av] at hrn
  refine ACalls.hide fun post hpost => ?_
  refine F5_in (by simp) (by simp) fun hbd => ?_
  repeat' (first
    | refine awp_seqK fun K' hpK => ?_
    | refine awp_block ?_
    | refine awp_condG fun A' B' hpA hpB => ?_
    | refine useK (by with_reducible assumption) ?_
    | refine useP (by with_reducible assumption) ?_
    | refine ED_cons (fun _ => ?_) ?_
    | (refine stable_mk ?_; simp (disch := first | (with_reducible assumption) | (simp; done) | omega | (simp; omega)) [← hq]; done)
    | (refine stable_no ?_; simp (disch := first | (with_reducible assumption) | (simp; done) | omega | (simp; omega)) [← hq]; done)
    | (with_reducible refine And.intro ?_ ?_)
    | (with_reducible intro hc)
    | (with_reducible refine GDsplit (fun hc => ?_) (fun hc => ?_) <;> try simp [hc])
    | (with_reducible refine GDsplitN (fun hc => ?_) (fun hc => ?_) <;> try simp [hc])
    | (with_reducible refine GDsplitNB (fun hc => ?_) (fun hc => ?_) <;> try simp [hc])
    | (with_reducible refine GDsplitB (fun hc => ?_) (fun hc => ?_) <;> try simp [hc])
    | (with_reducible refine GKsplit (fun hc => ?_) (fun hc => ?_) <;> try simp [hc])
    | (with_reducible refine GKsplitN (fun hc => ?_) (fun hc => ?_) <;> try simp [hc])
    | (with_reducible refine GKsplitNB (fun hc => ?_) (fun hc => ?_) <;> try simp [hc])
    | (with_reducible refine GKsplitB (fun hc => ?_) (fun hc => ?_) <;> try simp [hc])
    | (refine CallK.use (pnewE (m := clampP q) rfl) ?_; rintro r G' _ _ ⟨pb, rfl, hp⟩)
    | (refine CallK.use (hrn _) ?_; rintro r G' _ _ ⟨rfl, p, rfl, hr⟩)
    | simp (disch := first | (with_reducible assumption) | (simp; done) | omega | (simp; omega)) [← hq])
  refine awp_loop' (fun w T G' => ∃ (k : Nat) (p : RPipe) (x : PS), k + w = (LL l).length ∧ PipeH pb G' x ∧ k ≤ 50 ∧ x.bd k ∧ RP p x ∧ T = ofL [(5, .ptr pb 0), (6, .box [ofS cI p.L, .int .i64 p.most, .int .i64 p.sent, .int .i64 p.came, .int .i64 p.twice, .int .i64 p.lost]), (7, .bool true), (20, ofS cC l), (21, .int .i64 (LL l).length), (22, .int .i64 k)]) (LL l).length
    ⟨0, p, _, by omega, hp, by omega, by simp [PS.bd]; omega, hr, rfl⟩ ?_
  rintro w T G' ⟨k, p, x, hk, hpx, hk50, hbd, hr, rfl⟩ N hN
  by_cases hkl : k < (LL l).length
  · by_cases h50 : (50 : Int) ≤ k
    · repeat' (first
        | refine awp_seqK fun K' hpK => ?_
        | refine awp_block ?_
        | refine awp_condG fun A' B' hpA hpB => ?_
        | refine useK (by with_reducible assumption) ?_
        | refine useP (by with_reducible assumption) ?_
        | refine ED_cons (fun _ => ?_) ?_
        | (refine stable_mk ?_; simp (disch := first | (with_reducible assumption) | (simp; done) | omega | (simp; omega)) [hkl, h50, ofS_idx (f := cC), cC]; done)
        | (refine stable_no ?_; simp (disch := first | (with_reducible assumption) | (simp; done) | omega | (simp; omega)) [hkl, h50, ofS_idx (f := cC), cC]; done)
        | (with_reducible refine And.intro ?_ ?_)
        | (with_reducible intro hc)
        | (with_reducible refine GDsplit (fun hc => ?_) (fun hc => ?_) <;> try simp [hc])
        | (with_reducible refine GDsplitN (fun hc => ?_) (fun hc => ?_) <;> try simp [hc])
        | (with_reducible refine GDsplitNB (fun hc => ?_) (fun hc => ?_) <;> try simp [hc])
        | (with_reducible refine GDsplitB (fun hc => ?_) (fun hc => ?_) <;> try simp [hc])
        | (with_reducible refine GKsplit (fun hc => ?_) (fun hc => ?_) <;> try simp [hc])
        | (with_reducible refine GKsplitN (fun hc => ?_) (fun hc => ?_) <;> try simp [hc])
        | (with_reducible refine GKsplitNB (fun hc => ?_) (fun hc => ?_) <;> try simp [hc])
        | (with_reducible refine GKsplitB (fun hc => ?_) (fun hc => ?_) <;> try simp [hc])
        | (refine CallK.use (awake_c _) ?_; rintro r G' _ _ ⟨rfl, rfl⟩)
        | exact ends_drop (by simp <;> rfl) (by simp) (hpost _ _ ⟨rfl, rfl⟩)
        | simp (disch := first | (with_reducible assumption) | (simp; done) | omega | (simp; omega)) [hkl, h50, ofS_idx (f := cC), cC])
    · obtain ⟨y, hy⟩ : ∃ y, y = (LL l)[k] := ⟨_, rfl⟩
      have hyl : (LL y.2.2.2.1).length ≤ 140737488355328 := by rw [hy]; exact hls _ (List.getElem_mem _)
      obtain ⟨kd, at_, also, sl, u⟩ := y
      have hst := step_c (kd := kd) (at_ := at_) (also := also) hpx hr hbd (by omega) hyl
      simp only [RPipe.av] at hst
      repeat' (first
        | refine awp_seqK fun K' hpK => ?_
        | refine awp_block ?_
        | refine awp_condG fun A' B' hpA hpB => ?_
        | refine useK (by with_reducible assumption) ?_
        | refine useP (by with_reducible assumption) ?_
        | refine ED_cons (fun _ => ?_) ?_
        | (refine stable_mk ?_; simp (disch := first | (with_reducible assumption) | (simp; done) | omega | (simp; omega)) [hkl, h50, ofS_idx (f := cC), cC, ← hy]; done)
        | (refine stable_no ?_; simp (disch := first | (with_reducible assumption) | (simp; done) | omega | (simp; omega)) [hkl, h50, ofS_idx (f := cC), cC, ← hy]; done)
        | (with_reducible refine And.intro ?_ ?_)
        | (with_reducible intro hc)
        | (with_reducible refine GDsplit (fun hc => ?_) (fun hc => ?_) <;> try simp [hc])
        | (with_reducible refine GDsplitN (fun hc => ?_) (fun hc => ?_) <;> try simp [hc])
        | (with_reducible refine GDsplitNB (fun hc => ?_) (fun hc => ?_) <;> try simp [hc])
        | (with_reducible refine GDsplitB (fun hc => ?_) (fun hc => ?_) <;> try simp [hc])
        | (with_reducible refine GKsplit (fun hc => ?_) (fun hc => ?_) <;> try simp [hc])
        | (with_reducible refine GKsplitN (fun hc => ?_) (fun hc => ?_) <;> try simp [hc])
        | (with_reducible refine GKsplitNB (fun hc => ?_) (fun hc => ?_) <;> try simp [hc])
        | (with_reducible refine GKsplitB (fun hc => ?_) (fun hc => ?_) <;> try simp [hc])
        | (refine CallK.use (hst) ?_; rintro r G' _ _ ⟨x', p', rfl, hp1, hr1, hbd1⟩)
        | simp (disch := first | (with_reducible assumption) | (simp; done) | omega | (simp; omega)) [hkl, h50, ofS_idx (f := cC), cC, ← hy])
      have hcn := fun G hp => pcounts_c (pb := pb) (G := G) (x := x') hp
      have hln := fun G hp => plen_c (pb := pb) (G := G) (x := x') hp
      have hal := fun G hp => pall_c (pb := pb) (G := G) (x := x') hp (by have := hbd1.1; omega)
      obtain ⟨e1, e2, e3, e4, e5, e6⟩ := hr1
      repeat' (first
        | refine awp_seqK fun K' hpK => ?_
        | refine awp_block ?_
        | refine awp_condG fun A' B' hpA hpB => ?_
        | refine useK (by with_reducible assumption) ?_
        | refine useP (by with_reducible assumption) ?_
        | refine ED_cons (fun _ => ?_) ?_
        | (refine stable_mk ?_; simp (disch := first | (with_reducible assumption) | (simp; done) | omega | (simp; omega)) [e1, e3, e4, e5, e6]; done)
        | (refine stable_no ?_; simp (disch := first | (with_reducible assumption) | (simp; done) | omega | (simp; omega)) [e1, e3, e4, e5, e6]; done)
        | (with_reducible refine And.intro ?_ ?_)
        | (with_reducible intro hc)
        | (with_reducible refine GDsplit (fun hc => ?_) (fun hc => ?_) <;> try simp [hc])
        | (with_reducible refine GDsplitN (fun hc => ?_) (fun hc => ?_) <;> try simp [hc])
        | (with_reducible refine GDsplitNB (fun hc => ?_) (fun hc => ?_) <;> try simp [hc])
        | (with_reducible refine GDsplitB (fun hc => ?_) (fun hc => ?_) <;> try simp [hc])
        | (with_reducible refine GKsplit (fun hc => ?_) (fun hc => ?_) <;> try simp [hc])
        | (with_reducible refine GKsplitN (fun hc => ?_) (fun hc => ?_) <;> try simp [hc])
        | (with_reducible refine GKsplitNB (fun hc => ?_) (fun hc => ?_) <;> try simp [hc])
        | (with_reducible refine GKsplitB (fun hc => ?_) (fun hc => ?_) <;> try simp [hc])
        | (refine CallK.use (hcn _ hp1) ?_; rintro r G' _ _ ⟨rfl, rfl⟩)
        | (refine CallK.use (hln _ hp1) ?_; rintro r G' _ _ ⟨rfl, rfl⟩)
        | (refine CallK.use (hal _ hp1) ?_; rintro r G' _ _ ⟨rfl, s, rfl, hs⟩)
        | (refine CallK.use (same_t (b := p'.L) (hs.trans e1.symm) (by rw [hs]; have := hbd1.1; omega)) ?_; rintro r G' _ _ ⟨rfl, rfl⟩)
        | simp (disch := first | (with_reducible assumption) | (simp; done) | omega | (simp; omega)) [e1, e3, e4, e5, e6])
      exact hN (w - 1) _ _ (by omega) ⟨k + 1, p', x', by omega, hp1, by omega, hbd1, ⟨e1, e2, e3, e4, e5, e6⟩, by simp [e3, e4, e5, e6]⟩
  · repeat' (first
      | refine awp_seqK fun K' hpK => ?_
      | refine awp_block ?_
      | refine awp_condG fun A' B' hpA hpB => ?_
      | refine useK (by with_reducible assumption) ?_
      | refine useP (by with_reducible assumption) ?_
      | refine ED_cons (fun _ => ?_) ?_
      | (refine stable_mk ?_; simp (disch := first | (with_reducible assumption) | (simp; done) | omega | (simp; omega)) [hkl]; done)
      | (refine stable_no ?_; simp (disch := first | (with_reducible assumption) | (simp; done) | omega | (simp; omega)) [hkl]; done)
      | (with_reducible refine And.intro ?_ ?_)
      | (with_reducible intro hc)
      | (with_reducible refine GDsplit (fun hc => ?_) (fun hc => ?_) <;> try simp [hc])
      | (with_reducible refine GDsplitN (fun hc => ?_) (fun hc => ?_) <;> try simp [hc])
      | (with_reducible refine GDsplitNB (fun hc => ?_) (fun hc => ?_) <;> try simp [hc])
      | (with_reducible refine GDsplitB (fun hc => ?_) (fun hc => ?_) <;> try simp [hc])
      | (with_reducible refine GKsplit (fun hc => ?_) (fun hc => ?_) <;> try simp [hc])
      | (with_reducible refine GKsplitN (fun hc => ?_) (fun hc => ?_) <;> try simp [hc])
      | (with_reducible refine GKsplitNB (fun hc => ?_) (fun hc => ?_) <;> try simp [hc])
      | (with_reducible refine GKsplitB (fun hc => ?_) (fun hc => ?_) <;> try simp [hc])
      | (refine CallK.use (awake_c _) ?_; rintro r G' _ _ ⟨rfl, rfl⟩)
      | exact ends_drop (by simp <;> rfl) (by simp) (hpost _ _ ⟨rfl, rfl⟩)
      | simp (disch := first | (with_reducible assumption) | (simp; done) | omega | (simp; omega)) [hkl])

theorem pipePlays_law (z0 : (TD.int .i64).T) (z1 : (TD.slc (.two (.int .i64) (.two (.int .i64) (.two (.int .i64) (.two (.slc (.int .i64)) .unit))))).T) (_ : (TD.int .i64).ok z0) (o1 : (TD.slc (.two (.int .i64) (.two (.int .i64) (.two (.int .i64) (.two (.slc (.int .i64)) .unit))))).ok z1) :
    ACalls Try.prog 5 [(TD.int .i64).av z0, (TD.slc (.two (.int .i64) (.two (.int .i64) (.two (.int .i64) (.two (.slc (.int .i64)) .unit))))).av z1] emptyH fun r G' => G' = emptyH ∧ r = .bool true :=
  pipePlays_c (n := z0) (l := z1) o1.1 fun x hx => (o1.2 x hx).2.2.2.1.1
end Go.Proofs.Ytfllkpdhkeiofaa
