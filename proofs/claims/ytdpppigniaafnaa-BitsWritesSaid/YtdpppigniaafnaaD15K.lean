import Derived.Test.YtdpppigniaafnaaD14K
set_option linter.unusedSimpArgs false
set_option linter.unusedVariables false
namespace Go.Proofs.Ytdpppigniaafnaa
open Go Go.Al
set_option maxRecDepth 20000
attribute [local irreducible] awp aops aopsD eop pv ACalls CallK AppK AEnds ti

theorem bitsReads_c {s : Option (List Int)} {l : Option (List AskL)} (hB : Bytes (LL s)) (hll : (LL l).length ≤ 140737488355328) (hN0 : ∀ x ∈ LL l, -9223372036854775808 ≤ x.2.1 ∧ x.2.1 ≤ 9223372036854775807) :
    ACalls Try.prog 6 [ofS cB s, ofS cA l] emptyH fun r G' => G' = emptyH ∧ r = .bool true := by
  refine ACalls.hide fun post hpost => ?_
  refine F6_in (by simp) (by simp) fun hbd => ?_
  refine awp_seqH fun K1 hK1 => ?_
  simp (disch := first | (with_reducible assumption) | (simp; done) | omega | (simp; omega)) [F6_r0]
  refine hK1.out _ _ ?_
  refine awp_seqH fun K2 hK2 => ?_
  by_cases h60 : (60 : Int) < ((LL s).length : Int)
  · repeat' (first
      | refine awp_seqK fun K' hpK => ?_
      | refine awp_block ?_
      | refine awp_condG fun A' B' hpA hpB => ?_
      | refine useK (by with_reducible assumption) ?_
      | refine useP (by with_reducible assumption) ?_
      | refine ED_cons (fun _ => ?_) ?_
      | (refine stable_mk ?_; simp (disch := first | (with_reducible assumption) | (simp; done) | omega | (simp; omega)) [h60, aslc_hi (f := cB)]; done)
      | (refine stable_no ?_; simp (disch := first | (with_reducible assumption) | (simp; done) | omega | (simp; omega)) [h60, aslc_hi (f := cB)]; done)
      | (with_reducible refine And.intro ?_ ?_)
      | (with_reducible intro hc)
      | (with_reducible refine GDsplit (fun hc => ?_) (fun hc => ?_) <;> try simp [hc])
      | (with_reducible refine GDsplitN (fun hc => ?_) (fun hc => ?_) <;> try simp [hc])
      | (with_reducible refine GDsplitNB (fun hc => ?_) (fun hc => ?_) <;> try simp [hc])
      | (with_reducible refine GDsplitB (fun hc => ?_) (fun hc => ?_) <;> try simp [hc])
      | (with_reducible refine GKsplit (fun hc => ?_) (fun hc => ?_) <;> try simp [hc])
      | (with_reducible refine GKsplitN (fun hc => ?_) (fun hc => ?_) <;> try simp [hc])
      | (with_reducible refine GKsplitNB (fun hc => ?_) (fun hc => ?_) <;> try simp [hc])
      | (with_reducible refine GKsplitB (fun hc => ?_) (fun hc => ?_) <;> try simp [hc])
      | simp (disch := first | (with_reducible assumption) | (simp; done) | omega | (simp; omega)) [h60, aslc_hi (f := cB)])
    refine hK2.out _ _ ?_
    exact reads_main hpost (s := s.map fun l => l.take 60) (by simp; intro x hx; exact hB x (List.mem_of_mem_take hx)) (by simp; omega) hll hN0 (by simp) (by simp)
  · repeat' (first
      | refine awp_seqK fun K' hpK => ?_
      | refine awp_block ?_
      | refine awp_condG fun A' B' hpA hpB => ?_
      | refine useK (by with_reducible assumption) ?_
      | refine useP (by with_reducible assumption) ?_
      | refine ED_cons (fun _ => ?_) ?_
      | (refine stable_mk ?_; simp (disch := first | (with_reducible assumption) | (simp; done) | omega | (simp; omega)) [h60]; done)
      | (refine stable_no ?_; simp (disch := first | (with_reducible assumption) | (simp; done) | omega | (simp; omega)) [h60]; done)
      | (with_reducible refine And.intro ?_ ?_)
      | (with_reducible intro hc)
      | (with_reducible refine GDsplit (fun hc => ?_) (fun hc => ?_) <;> try simp [hc])
      | (with_reducible refine GDsplitN (fun hc => ?_) (fun hc => ?_) <;> try simp [hc])
      | (with_reducible refine GDsplitNB (fun hc => ?_) (fun hc => ?_) <;> try simp [hc])
      | (with_reducible refine GDsplitB (fun hc => ?_) (fun hc => ?_) <;> try simp [hc])
      | (with_reducible refine GKsplit (fun hc => ?_) (fun hc => ?_) <;> try simp [hc])
      | (with_reducible refine GKsplitN (fun hc => ?_) (fun hc => ?_) <;> try simp [hc])
      | (with_reducible refine GKsplitNB (fun hc => ?_) (fun hc => ?_) <;> try simp [hc])
      | (with_reducible refine GKsplitB (fun hc => ?_) (fun hc => ?_) <;> try simp [hc])
      | simp (disch := first | (with_reducible assumption) | (simp; done) | omega | (simp; omega)) [h60])
    refine hK2.out _ _ ?_
    exact reads_main hpost hB (by omega) hll hN0 (by simp) (by simp)

theorem bitsReads_law (z0 : (TD.slc (.int .u8)).T) (z1 : (TD.slc (.two (.int .i64) (.two (.int .i64) .unit))).T) (o0 : (TD.slc (.int .u8)).ok z0) (o1 : (TD.slc (.two (.int .i64) (.two (.int .i64) .unit))).ok z1) :
    ACalls Try.prog 6 [(TD.slc (.int .u8)).av z0, (TD.slc (.two (.int .i64) (.two (.int .i64) .unit))).av z1] emptyH fun r G' => G' = emptyH ∧ r = .bool true :=
  bitsReads_c (s := z0) (l := z1) (fun x hx => wf_u8 (o0.2 x hx)) o1.1 fun x hx => wf_i64 (o1.2 x hx).2.1

theorem bitsSplit_law (z0 : (TD.slc (.int .u8)).T) (z1 : (TD.int .i64).T) (z2 : (TD.int .i64).T) (z3 : (TD.int .i64).T) (o0 : (TD.slc (.int .u8)).ok z0) (o1 : (TD.int .i64).ok z1) (o2 : (TD.int .i64).ok z2) (o3 : (TD.int .i64).ok z3) :
    ACalls Try.prog 4 [(TD.slc (.int .u8)).av z0, (TD.int .i64).av z1, (TD.int .i64).av z2, (TD.int .i64).av z3] emptyH fun r G' => G' = emptyH ∧ r = .bool true :=
  bitsSplit_c (s := z0) (fun x hx => wf_u8 (o0.2 x hx)) (wf_i64 o1) (wf_i64 o2) (wf_i64 o3)
end Go.Proofs.Ytdpppigniaafnaa
