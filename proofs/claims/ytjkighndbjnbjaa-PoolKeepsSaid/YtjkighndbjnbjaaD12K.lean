import Derived.Test.YtjkighndbjnbjaaD11K
set_option linter.unusedSimpArgs false
set_option linter.unusedVariables false
namespace Go.Proofs.Ytjkighndbjnbjaa
open Go Go.Al
set_option maxRecDepth 20000
attribute [local irreducible] awp aops aopsD eop pv ACalls CallK AppK AEnds ti

abbrev CT := Int × Int × Int × Int × Int × Unit
def cC (x : CT) : List AV := [.int .i64 x.1, .int .u64 x.2.1, .int .u32 x.2.2.1, .int .i64 x.2.2.2.1, .int .i64 x.2.2.2.2.1]
@[simp] theorem cC_len (x : CT) : (cC x).length = 5 := by simp [cC]
theorem stepJ {q : PP} {pb rb : Nat} {hp hr : Hp} {L : List (Int × Ls)} {a b c d e now : Int} (hq : q.ok) (hdis : Dis hp hr) (hP : PH q pb hp L) (hJ : J q L) (hR : RH q rb hr) (h0 : 0 ≤ c) (h1 : c ≤ 4294967295) (hn0 : 0 ≤ now) (hn1 : now ≤ 1000000) :
    ACalls Try.prog 10 [.ptr pb 0, .ptr rb 0, .agg [.int .i64 a, .int .u64 b, .int .u32 c, .int .i64 d, .int .i64 e], .int .i64 now] (uni hp hr) fun r G' => ∃ hp' hr' b L', G' = uni hp' hr' ∧ Dis hp' hr' ∧ r = .bool b ∧ PH q pb hp' L' ∧ RH q rb hr' ∧ J q L' := by
  have := step_c (x := ⟨a, b, c, d, e⟩) hq hdis hP hJ.o hJ.s hR h0 h1 hn0 hn1
  refine this.mono ?_
  rintro r G' ⟨hp', hr', b, u, k1, k2, k3, k4, k5⟩
  exact ⟨hp', hr', b, _, k1, k2, k3, k4, k5, hJ.step _ _ _⟩
theorem J.len {q : PP} (hq : q.ok) {L : List (Int × Ls)} (h : J q L) : L.length ≤ 64 := Nat.le_trans (h.o.len h.s) hq.2.1

set_option maxHeartbeats 4000000 in
theorem poolOffers_c {base n ticks m : Int} {l : Option (List CT)} (hb : 0 ≤ base) (hb2 : base ≤ 4294967295) (hn1 : -9223372036854775808 ≤ n) (hn2 : n ≤ 9223372036854775807) (hll : (LL l).length ≤ 140737488355328) (hls : ∀ x ∈ LL l, 0 ≤ x.2.2.1 ∧ x.2.2.1 ≤ 4294967295) : ACalls Try.prog 4 [.int .u32 base, .int .i64 n, .int .i64 ticks, ofS cC l, .int .u64 m] emptyH fun r G' => G' = emptyH ∧ r = .bool true := by
  cases hok : okN base n ticks with
  | false =>
    refine ACalls.hide fun post hpost => ?_
    refine F4_in (by simp) (by simp) fun hbd => ?_
    repeat' (first
      | refine awp_seqK fun K' hpK => ?_
      | refine awp_block ?_
      | refine awp_condG fun A' B' hpA hpB => ?_
      | refine useK (by with_reducible assumption) ?_
      | refine useP (by with_reducible assumption) ?_
      | refine ED_cons (fun _ => ?_) ?_
      | (refine stable_mk ?_; simp (disch := first | (with_reducible assumption) | (simp; done) | omega | (simp; omega)); done)
      | (refine stable_no ?_; simp (disch := first | (with_reducible assumption) | (simp; done) | omega | (simp; omega)); done)
      | (with_reducible refine And.intro ?_ ?_)
      | (with_reducible intro hc)
      | (with_reducible refine GDsplit (fun hc => ?_) (fun hc => ?_) <;> try simp [hc])
      | (with_reducible refine GDsplitN (fun hc => ?_) (fun hc => ?_) <;> try simp [hc])
      | (with_reducible refine GDsplitNB (fun hc => ?_) (fun hc => ?_) <;> try simp [hc])
      | (with_reducible refine GDsplitB (fun hc => ?_) (fun hc => ?_) <;> try simp [hc])
      | (with_reducible refine GKsplit (fun hc => ?_) (fun hc => ?_) <;> try simp [hc])
      | (with_reducible refine GKsplitN (fun hc => ?_) (fun hc => ?_) <;> try simp [hc])
      | (with_reducible refine GKsplitNB (fun hc => ?_) (fun hc => ?_) <;> try simp [hc])
      | (with_reducible refine GKsplitB (fun hc => ?_) (fun hc => ?_) <;> try simp [hc])
      | (refine CallK.use (new_no hb hb2 hn1 hn2 hok) ?_; rintro r G' _ _ ⟨rfl, rfl⟩)
      | (refine CallK.use (rnew_no hb hb2 hok _) ?_; rintro r G' _ _ ⟨rfl, rfl⟩)
      | (refine CallK.use (awake_c _) ?_; rintro r G' _ _ ⟨rfl, rfl⟩)
      | simp (disch := first | (with_reducible assumption) | (simp; done) | omega | (simp; omega)))
    exact ends_drop (by simp <;> rfl) (by simp) (hpost _ _ ⟨rfl, rfl⟩)
  | true =>
    have hok' := of_decide_eq_true hok
    obtain ⟨N', rfl⟩ : ∃ N' : Nat, n = (N' : Int) := ⟨n.toNat, by omega⟩
    have hq : PP.ok ⟨base, N', ticks⟩ := ⟨by simp; omega, by simp; omega, hb, by simp; omega, hok'.2.2.2.1, hok'.2.2.2.2⟩
    refine ACalls.hide fun post hpost => ?_
    refine F4_in (by simp) (by simp) fun hbd => ?_
    repeat' (first
      | refine awp_seqK fun K' hpK => ?_
      | refine awp_block ?_
      | refine awp_condG fun A' B' hpA hpB => ?_
      | refine useK (by with_reducible assumption) ?_
      | refine useP (by with_reducible assumption) ?_
      | refine ED_cons (fun _ => ?_) ?_
      | (refine stable_mk ?_; simp (disch := first | (with_reducible assumption) | (simp; done) | omega | (simp; omega)); done)
      | (refine stable_no ?_; simp (disch := first | (with_reducible assumption) | (simp; done) | omega | (simp; omega)); done)
      | (with_reducible refine And.intro ?_ ?_)
      | (with_reducible intro hc)
      | (with_reducible refine GDsplit (fun hc => ?_) (fun hc => ?_) <;> try simp [hc])
      | (with_reducible refine GDsplitN (fun hc => ?_) (fun hc => ?_) <;> try simp [hc])
      | (with_reducible refine GDsplitNB (fun hc => ?_) (fun hc => ?_) <;> try simp [hc])
      | (with_reducible refine GDsplitB (fun hc => ?_) (fun hc => ?_) <;> try simp [hc])
      | (with_reducible refine GKsplit (fun hc => ?_) (fun hc => ?_) <;> try simp [hc])
      | (with_reducible refine GKsplitN (fun hc => ?_) (fun hc => ?_) <;> try simp [hc])
      | (with_reducible refine GKsplitNB (fun hc => ?_) (fun hc => ?_) <;> try simp [hc])
      | (with_reducible refine GKsplitB (fun hc => ?_) (fun hc => ?_) <;> try simp [hc])
      | (refine CallK.use (new_ok hb hb2 hok) ?_; rintro r G' _ _ ⟨pb, rfl, hP⟩)
      | simp (disch := first | (with_reducible assumption) | (simp; done) | omega | (simp; omega)))
    refine CallK.new (rnew_c hq) ?_
    rintro r hr hdis _ _ ⟨rb, rfl, hR⟩
    repeat' (first
      | refine awp_seqK fun K' hpK => ?_
      | refine awp_block ?_
      | refine awp_condG fun A' B' hpA hpB => ?_
      | refine useK (by with_reducible assumption) ?_
      | refine useP (by with_reducible assumption) ?_
      | refine ED_cons (fun _ => ?_) ?_
      | (refine stable_mk ?_; simp (disch := first | (with_reducible assumption) | (simp; done) | omega | (simp; omega)); done)
      | (refine stable_no ?_; simp (disch := first | (with_reducible assumption) | (simp; done) | omega | (simp; omega)); done)
      | (with_reducible refine And.intro ?_ ?_)
      | (with_reducible intro hc)
      | (with_reducible refine GDsplit (fun hc => ?_) (fun hc => ?_) <;> try simp [hc])
      | (with_reducible refine GDsplitN (fun hc => ?_) (fun hc => ?_) <;> try simp [hc])
      | (with_reducible refine GDsplitNB (fun hc => ?_) (fun hc => ?_) <;> try simp [hc])
      | (with_reducible refine GDsplitB (fun hc => ?_) (fun hc => ?_) <;> try simp [hc])
      | (with_reducible refine GKsplit (fun hc => ?_) (fun hc => ?_) <;> try simp [hc])
      | (with_reducible refine GKsplitN (fun hc => ?_) (fun hc => ?_) <;> try simp [hc])
      | (with_reducible refine GKsplitNB (fun hc => ?_) (fun hc => ?_) <;> try simp [hc])
      | (with_reducible refine GKsplitB (fun hc => ?_) (fun hc => ?_) <;> try simp [hc])
      | simp (disch := first | (with_reducible assumption) | (simp; done) | omega | (simp; omega)))
    refine awp_loop' (fun w T G' => ∃ (k : Nat) (now : Int) (L : List (Int × Ls)) (hp hr : Hp), k + w = (LL l).length ∧ 0 ≤ now ∧ now ≤ 31 * k ∧ now ≤ 1240 ∧ G' = uni hp hr ∧ Dis hp hr ∧ PH ⟨base, N', ticks⟩ pb hp L ∧ RH ⟨base, N', ticks⟩ rb hr ∧ J ⟨base, N', ticks⟩ L ∧ T = ofL [(2, .int .i64 ticks), (4, .int .u64 m), (11, .ptr pb 0), (13, .ptr rb 0), (15, .int .i64 now), (53, ofS cC l), (54, .int .i64 (LL l).length), (55, .int .i64 k)]) (LL l).length
      ⟨0, 0, [], _, _, by omega, by omega, by omega, by omega, rfl, hdis, hP, hR, J.nil _, by simp⟩ ?_
    clear hdis hP hR
    rintro w T G' ⟨k, now, L, hp, hr, hk, t0, t1, t2, rfl, hdis, hP, hR, hJ, rfl⟩ N hN
    by_cases hkl : k < (LL l).length
    · obtain ⟨y, hy⟩ : ∃ y, y = (LL l)[k] := ⟨_, rfl⟩
      have hyl := hls y (by rw [hy]; exact List.getElem_mem _)
      obtain ⟨a, b, c, d, e, u⟩ := y
      by_cases h40 : (k : Int) < 40
      · obtain ⟨s, hs, hs2⟩ := and31 e
        have hst := stepJ (a := a) (b := b) (c := c) (d := d) (e := e) (now := now + s) hq hdis hP hJ hR hyl.1 hyl.2 (by omega) (by omega)
        repeat' (first
          | refine awp_seqK fun K' hpK => ?_
          | refine awp_block ?_
          | refine awp_condG fun A' B' hpA hpB => ?_
          | refine useK (by with_reducible assumption) ?_
          | refine useP (by with_reducible assumption) ?_
          | refine ED_cons (fun _ => ?_) ?_
          | (refine stable_mk ?_; simp (disch := first | (with_reducible assumption) | (simp; done) | omega | (simp; omega)) [hkl, h40, ofS_idx (f := cC), cC, ← hy, hs2]; done)
          | (refine stable_no ?_; simp (disch := first | (with_reducible assumption) | (simp; done) | omega | (simp; omega)) [hkl, h40, ofS_idx (f := cC), cC, ← hy, hs2]; done)
          | (with_reducible refine And.intro ?_ ?_)
          | (with_reducible intro hc)
          | (with_reducible refine GDsplit (fun hc => ?_) (fun hc => ?_) <;> try simp [hc])
          | (with_reducible refine GDsplitN (fun hc => ?_) (fun hc => ?_) <;> try simp [hc])
          | (with_reducible refine GDsplitNB (fun hc => ?_) (fun hc => ?_) <;> try simp [hc])
          | (with_reducible refine GDsplitB (fun hc => ?_) (fun hc => ?_) <;> try simp [hc])
          | (with_reducible refine GKsplit (fun hc => ?_) (fun hc => ?_) <;> try simp [hc])
          | (with_reducible refine GKsplitN (fun hc => ?_) (fun hc => ?_) <;> try simp [hc])
          | (with_reducible refine GKsplitNB (fun hc => ?_) (fun hc => ?_) <;> try simp [hc])
          | (with_reducible refine GKsplitB (fun hc => ?_) (fun hc => ?_) <;> try simp [hc])
          | (refine CallK.use (hst) ?_; rintro r G' _ _ ⟨hp', hr', b', L', rfl, hdis', rfl, hP', hR', hJ'⟩)
          | simp (disch := first | (with_reducible assumption) | (simp; done) | omega | (simp; omega)) [hkl, h40, ofS_idx (f := cC), cC, ← hy, hs2])
        exact hN (w - 1) _ _ (by omega) ⟨k + 1, now + s, L', hp', hr', by omega, by omega, by omega, by omega, rfl, hdis', hP', hR', hJ', by simp⟩
      · repeat' (first
          | refine awp_seqK fun K' hpK => ?_
          | refine awp_block ?_
          | refine awp_condG fun A' B' hpA hpB => ?_
          | refine useK (by with_reducible assumption) ?_
          | refine useP (by with_reducible assumption) ?_
          | refine ED_cons (fun _ => ?_) ?_
          | (refine stable_mk ?_; simp (disch := first | (with_reducible assumption) | (simp; done) | omega | (simp; omega)) [hkl, h40, ofS_idx (f := cC), cC, ← hy]; done)
          | (refine stable_no ?_; simp (disch := first | (with_reducible assumption) | (simp; done) | omega | (simp; omega)) [hkl, h40, ofS_idx (f := cC), cC, ← hy]; done)
          | (with_reducible refine And.intro ?_ ?_)
          | (with_reducible intro hc)
          | (with_reducible refine GDsplit (fun hc => ?_) (fun hc => ?_) <;> try simp [hc])
          | (with_reducible refine GDsplitN (fun hc => ?_) (fun hc => ?_) <;> try simp [hc])
          | (with_reducible refine GDsplitNB (fun hc => ?_) (fun hc => ?_) <;> try simp [hc])
          | (with_reducible refine GDsplitB (fun hc => ?_) (fun hc => ?_) <;> try simp [hc])
          | (with_reducible refine GKsplit (fun hc => ?_) (fun hc => ?_) <;> try simp [hc])
          | (with_reducible refine GKsplitN (fun hc => ?_) (fun hc => ?_) <;> try simp [hc])
          | (with_reducible refine GKsplitNB (fun hc => ?_) (fun hc => ?_) <;> try simp [hc])
          | (with_reducible refine GKsplitB (fun hc => ?_) (fun hc => ?_) <;> try simp [hc])
          | simp (disch := first | (with_reducible assumption) | (simp; done) | omega | (simp; omega)) [hkl, h40, ofS_idx (f := cC), cC, ← hy])
        exact hN (w - 1) _ _ (by omega) ⟨k + 1, now, L, hp, hr, by omega, by omega, by omega, by omega, rfl, hdis, hP, hR, hJ, by simp⟩
    · have ho := offer_c (m := m) (now := now) hq hP (hJ.len hq)
      obtain ⟨a, e, hae⟩ : ∃ a e, offerP ⟨base, N', ticks⟩ L m now = (a, e) := ⟨_, _, rfl⟩
      rw [hae] at ho
      rcases offer_ok hJ hae with rfl | ⟨rfl, o1, o2⟩
      · repeat' (first
          | refine awp_seqK fun K' hpK => ?_
          | refine awp_block ?_
          | refine awp_condG fun A' B' hpA hpB => ?_
          | refine useK (by with_reducible assumption) ?_
          | refine useP (by with_reducible assumption) ?_
          | refine ED_cons (fun _ => ?_) ?_
          | (refine stable_mk ?_; simp (disch := first | (with_reducible assumption) | (simp; done) | omega | (simp; omega)) [hkl]; done)
          | (refine stable_no ?_; simp (disch := first | (with_reducible assumption) | (simp; done) | omega | (simp; omega)) [hkl]; done)
          | (with_reducible refine And.intro ?_ ?_)
          | (with_reducible intro hc)
          | (with_reducible refine GDsplit (fun hc => ?_) (fun hc => ?_) <;> try simp [hc])
          | (with_reducible refine GDsplitN (fun hc => ?_) (fun hc => ?_) <;> try simp [hc])
          | (with_reducible refine GDsplitNB (fun hc => ?_) (fun hc => ?_) <;> try simp [hc])
          | (with_reducible refine GDsplitB (fun hc => ?_) (fun hc => ?_) <;> try simp [hc])
          | (with_reducible refine GKsplit (fun hc => ?_) (fun hc => ?_) <;> try simp [hc])
          | (with_reducible refine GKsplitN (fun hc => ?_) (fun hc => ?_) <;> try simp [hc])
          | (with_reducible refine GKsplitNB (fun hc => ?_) (fun hc => ?_) <;> try simp [hc])
          | (with_reducible refine GKsplitB (fun hc => ?_) (fun hc => ?_) <;> try simp [hc])
          | (refine CallK.fl (ho) hdis ?_; rintro r h' hdis _ _ ⟨rfl, rfl⟩)
          | (refine CallK.use (awake_c _) ?_; rintro r G' _ _ ⟨rfl, rfl⟩)
          | simp (disch := first | (with_reducible assumption) | (simp; done) | omega | (simp; omega)) [hkl])
        exact ends_drop (by simp <;> rfl) (by simp) (hpost _ _ ⟨rfl, rfl⟩)
      · have ha := hasP_iff.1 o1
        have hq' := hq
        obtain ⟨q1, q2, q3, q4, q5, q6⟩ := hq'
        simp only at ha q1 q2 q3 q4 q5 q6
        have hg := grant_c (m := m) (ip := a) (now := now) hq hP hJ.o (by omega) (by omega) (by omega) (by omega)
        have hJ' := hJ.grant m a now
        rw [grant_ok o1 o2] at hg hJ'
        have hf := fun G hP' => find_c (q := ⟨base, N', ticks⟩) (pb := pb) (G := G) (m := m) hP' (hJ'.len hq)
        rw [find_new hJ] at hf
        repeat' (first
          | refine awp_seqK fun K' hpK => ?_
          | refine awp_block ?_
          | refine awp_condG fun A' B' hpA hpB => ?_
          | refine useK (by with_reducible assumption) ?_
          | refine useP (by with_reducible assumption) ?_
          | refine ED_cons (fun _ => ?_) ?_
          | (refine stable_mk ?_; simp (disch := first | (with_reducible assumption) | (simp; done) | omega | (simp; omega)) [hkl]; done)
          | (refine stable_no ?_; simp (disch := first | (with_reducible assumption) | (simp; done) | omega | (simp; omega)) [hkl]; done)
          | (with_reducible refine And.intro ?_ ?_)
          | (with_reducible intro hc)
          | (with_reducible refine GDsplit (fun hc => ?_) (fun hc => ?_) <;> try simp [hc])
          | (with_reducible refine GDsplitN (fun hc => ?_) (fun hc => ?_) <;> try simp [hc])
          | (with_reducible refine GDsplitNB (fun hc => ?_) (fun hc => ?_) <;> try simp [hc])
          | (with_reducible refine GDsplitB (fun hc => ?_) (fun hc => ?_) <;> try simp [hc])
          | (with_reducible refine GKsplit (fun hc => ?_) (fun hc => ?_) <;> try simp [hc])
          | (with_reducible refine GKsplitN (fun hc => ?_) (fun hc => ?_) <;> try simp [hc])
          | (with_reducible refine GKsplitNB (fun hc => ?_) (fun hc => ?_) <;> try simp [hc])
          | (with_reducible refine GKsplitB (fun hc => ?_) (fun hc => ?_) <;> try simp [hc])
          | (refine CallK.fl (ho) hdis ?_; rintro r h' hdis _ _ ⟨rfl, rfl⟩)
          | (refine CallK.fl (hg) hdis ?_; rintro r h' hdis _ _ ⟨hP', rfl⟩)
          | (refine CallK.fl (hf _ hP') hdis ?_; rintro r h' hdis _ _ ⟨rfl, rfl⟩)
          | (refine CallK.use (awake_c _) ?_; rintro r G' _ _ ⟨rfl, rfl⟩)
          | simp (disch := first | (with_reducible assumption) | (simp; done) | omega | (simp; omega)) [hkl])
        exact ends_drop (by simp <;> rfl) (by simp) (hpost _ _ ⟨rfl, rfl⟩)
theorem poolOffers_law (z0 : (TD.int .u32).T) (z1 : (TD.int .i64).T) (z2 : (TD.int .i64).T) (z3 : (TD.slc (.two (.int .i64) (.two (.int .u64) (.two (.int .u32) (.two (.int .i64) (.two (.int .i64) .unit)))))).T) (z4 : (TD.int .u64).T) (o0 : (TD.int .u32).ok z0) (o1 : (TD.int .i64).ok z1) (_ : (TD.int .i64).ok z2) (o3 : (TD.slc (.two (.int .i64) (.two (.int .u64) (.two (.int .u32) (.two (.int .i64) (.two (.int .i64) .unit)))))).ok z3) (_ : (TD.int .u64).ok z4) :
    ACalls Try.prog 4 [(TD.int .u32).av z0, (TD.int .i64).av z1, (TD.int .i64).av z2, (TD.slc (.two (.int .i64) (.two (.int .u64) (.two (.int .u32) (.two (.int .i64) (.two (.int .i64) .unit)))))).av z3, (TD.int .u64).av z4] emptyH fun r G' => G' = emptyH ∧ r = .bool true :=
  poolOffers_c (base := z0) (n := z1) (ticks := z2) (l := z3) (m := z4) (wf_u32 o0).1 (wf_u32 o0).2 (wf_i64 o1).1 (wf_i64 o1).2 o3.1 fun x hx => wf_u32 (o3.2 x hx).2.2.1
end Go.Proofs.Ytjkighndbjnbjaa
