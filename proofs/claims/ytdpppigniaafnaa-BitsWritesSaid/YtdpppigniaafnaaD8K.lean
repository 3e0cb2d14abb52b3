import Derived.Test.YtdpppigniaafnaaAl1
import Derived.Test.YtdpppigniaafnaaD7K
set_option linter.unusedSimpArgs false
set_option linter.unusedVariables false
namespace Go.Proofs.Ytdpppigniaafnaa
open Go Go.Al
set_option maxRecDepth 20000

/-- is the number at i written? -/
def okB (N L : List Int) (i : Nat) : Prop := i < L.length ∧ i < 30 ∧ 1 ≤ N.getD i 0 ∧ N.getD i 0 ≤ 64
instance (N L : List Int) (i : Nat) : Decidable (okB N L i) := by unfold okB; infer_instance
def wr (N L : List Int) : Nat → List Int
  | 0 => []
  | j + 1 => wr N L j ++ (if okB N L j then numL (N.getD j 0).toNat (L.getD j 0) else [])
theorem wr01 (N L : List Int) (j : Nat) : Bits01 (wr N L j) := by
  induction j with
  | zero => simp [wr, Bits01]
  | succ j ih =>
    refine ih.append ?_
    split
    · exact numL01 _ _
    · simp [Bits01]
theorem wr_len (N L : List Int) (j : Nat) : (wr N L j).length ≤ 64 * min j 30 := by
  induction j with
  | zero => simp [wr]
  | succ j ih =>
    simp only [wr, List.length_append]
    split
    · rename_i h
      obtain ⟨_, h2, h3, h4⟩ := h
      rw [numL_len]; omega
    · simp; omega
theorem wr_pre (N L : List Int) {j k : Nat} (h : j ≤ k) : ∃ t, wr N L k = wr N L j ++ t := by
  induction k with
  | zero => have : j = 0 := by omega
            subst this; exact ⟨[], by simp⟩
  | succ k ih =>
    by_cases hj : j = k + 1
    · subst hj; exact ⟨[], by simp⟩
    · obtain ⟨t, ht⟩ := ih (by omega)
      exact ⟨t ++ _, by rw [wr, ht, List.append_assoc]⟩

theorem back2 {N L : List Int} {sn sl : Option (List Int)} (hN : LL sn = N) (hL : LL sl = L) (hU : U64 (LL sl)) (hnl : (LL sn).length ≤ 140737488355328) (hll : (LL sl).length ≤ 140737488355328) {o : AV} {G2 : Hp} (hpo : o.plain = true) (hoj : OutH o G2 (wr (LL sn) (LL sl) (LL sn).length))
    {post : AV → Hp → Prop} (hpost : post (.bool true) emptyH) {T : Tm} (e0 : T 0 = ofS cI sn) (e1 : T 1 = ofS cU sl) (e5 : T 5 = o) :
    awp Try.prog [] (.seq F3_r8 (.seq (.seq F3_r9 (.block 2 (.loop F3_l1))) (.seq F3_r15 .ret))) (AEnds Try.prog [.tmp 4] post) T G2 := by
  skip
  have hw0 := wr_len (LL sn) (LL sl) (LL sn).length
  repeat' (first
    | refine awp_seqK fun K' hpK => ?_
    | refine awp_block ?_
    | refine awp_condG fun A' B' hpA hpB => ?_
    | refine useK (by with_reducible assumption) ?_
    | refine useP (by with_reducible assumption) ?_
    | refine ED_cons (fun _ => ?_) ?_
    | (refine stable_mk ?_; simp (disch := first | (with_reducible assumption) | (simp; done) | omega | (simp; omega)) [hpo, e0, e1, e5]; done)
    | (refine stable_no ?_; simp (disch := first | (with_reducible assumption) | (simp; done) | omega | (simp; omega)) [hpo, e0, e1, e5]; done)
    | (with_reducible refine And.intro ?_ ?_)
    | (with_reducible intro hc)
    | (with_reducible refine GDsplit (fun hc => ?_) (fun hc => ?_) <;> try simp [hc])
    | (with_reducible refine GDsplitN (fun hc => ?_) (fun hc => ?_) <;> try simp [hc])
    | (with_reducible refine GDsplitNB (fun hc => ?_) (fun hc => ?_) <;> try simp [hc])
    | (with_reducible refine GDsplitB (fun hc => ?_) (fun hc => ?_) <;> try simp [hc])
    | (with_reducible refine GKsplit (fun hc => ?_) (fun hc => ?_) <;> try simp [hc])
    | (with_reducible refine GKsplitN (fun hc => ?_) (fun hc => ?_) <;> try simp [hc])
    | (with_reducible refine GKsplitNB (fun hc => ?_) (fun hc => ?_) <;> try simp [hc])
    | (with_reducible refine GKsplitB (fun hc => ?_) (fun hc => ?_) <;> try simp [hc])
    | simp (disch := first | (with_reducible assumption) | (simp; done) | omega | (simp; omega)) [hpo, e0, e1, e5])
  refine CallK.use (done_c hoj (by omega)) ?_; rintro r G2 _ _ ⟨rfl, s, rfl, hpk⟩
  have hsl : (LL s).length ≤ 1000000 := by have := hpk.2.2.2.1; omega
  repeat' (first
    | refine awp_seqK fun K' hpK => ?_
    | refine awp_block ?_
    | refine awp_condG fun A' B' hpA hpB => ?_
    | refine useK (by with_reducible assumption) ?_
    | refine useP (by with_reducible assumption) ?_
    | refine ED_cons (fun _ => ?_) ?_
    | (refine stable_mk ?_; simp (disch := first | (with_reducible assumption) | (simp; done) | omega | (simp; omega)) [hpo, e0, e1, e5]; done)
    | (refine stable_no ?_; simp (disch := first | (with_reducible assumption) | (simp; done) | omega | (simp; omega)) [hpo, e0, e1, e5]; done)
    | (with_reducible refine And.intro ?_ ?_)
    | (with_reducible intro hc)
    | (with_reducible refine GDsplit (fun hc => ?_) (fun hc => ?_) <;> try simp [hc])
    | (with_reducible refine GDsplitN (fun hc => ?_) (fun hc => ?_) <;> try simp [hc])
    | (with_reducible refine GDsplitNB (fun hc => ?_) (fun hc => ?_) <;> try simp [hc])
    | (with_reducible refine GDsplitB (fun hc => ?_) (fun hc => ?_) <;> try simp [hc])
    | (with_reducible refine GKsplit (fun hc => ?_) (fun hc => ?_) <;> try simp [hc])
    | (with_reducible refine GKsplitN (fun hc => ?_) (fun hc => ?_) <;> try simp [hc])
    | (with_reducible refine GKsplitNB (fun hc => ?_) (fun hc => ?_) <;> try simp [hc])
    | (with_reducible refine GKsplitB (fun hc => ?_) (fun hc => ?_) <;> try simp [hc])
    | simp (disch := first | (with_reducible assumption) | (simp; done) | omega | (simp; omega)) [hpo, e0, e1, e5])
  refine CallK.new (of_c (s := s) hsl) ?_; rintro i hi hdis _ hpi ⟨s', hs', hI⟩
  rw [← hs'] at hpk hsl
  clear hs'
  have hbits := hpk.bits
  have hBy := hpk.1
  have hz := hpk.2.2.1
  have hz2 := hpk.2.2.2.1
  repeat' (first
    | refine awp_seqK fun K' hpK => ?_
    | refine awp_block ?_
    | refine awp_condG fun A' B' hpA hpB => ?_
    | refine useK (by with_reducible assumption) ?_
    | refine useP (by with_reducible assumption) ?_
    | refine ED_cons (fun _ => ?_) ?_
    | (refine stable_mk ?_; simp (disch := first | (with_reducible assumption) | (simp; done) | omega | (simp; omega)) [hpi, e0, e1, e5]; done)
    | (refine stable_no ?_; simp (disch := first | (with_reducible assumption) | (simp; done) | omega | (simp; omega)) [hpi, e0, e1, e5]; done)
    | (with_reducible refine And.intro ?_ ?_)
    | (with_reducible intro hc)
    | (with_reducible refine GDsplit (fun hc => ?_) (fun hc => ?_) <;> try simp [hc])
    | (with_reducible refine GDsplitN (fun hc => ?_) (fun hc => ?_) <;> try simp [hc])
    | (with_reducible refine GDsplitNB (fun hc => ?_) (fun hc => ?_) <;> try simp [hc])
    | (with_reducible refine GDsplitB (fun hc => ?_) (fun hc => ?_) <;> try simp [hc])
    | (with_reducible refine GKsplit (fun hc => ?_) (fun hc => ?_) <;> try simp [hc])
    | (with_reducible refine GKsplitN (fun hc => ?_) (fun hc => ?_) <;> try simp [hc])
    | (with_reducible refine GKsplitNB (fun hc => ?_) (fun hc => ?_) <;> try simp [hc])
    | (with_reducible refine GKsplitB (fun hc => ?_) (fun hc => ?_) <;> try simp [hc])
    | simp (disch := first | (with_reducible assumption) | (simp; done) | omega | (simp; omega)) [hpi, e0, e1, e5])
  refine awp_loop' (fun n T G' => ∃ (j : Nat) (hI : Hp), j + n = (LL sn).length ∧ G' = uni G2 hI ∧ Dis G2 hI ∧ InH i hI s' (wr (LL sn) (LL sl) j).length 0 ∧
    T = ofL [(1, ofS cU sl), (8, i), (46, ofS cI sn), (47, .int .i64 (LL sn).length), (48, .int .i64 j)]) (LL sn).length ⟨0, hi, by omega, rfl, hdis, by simpa [wr] using hI, rfl⟩ ?_
  clear hI hdis
  rintro n T G' ⟨j, hI, hj, rfl, hdis, hin, rfl⟩ N hN
  by_cases hjl : j < (LL sn).length
  · have hgn : (LL sn).getD j 0 = (LL sn)[j] := by simp [List.getD, hjl]
    obtain ⟨t, ht⟩ := wr_pre (LL sn) (LL sl) (j := j + 1) (k := (LL sn).length) (by omega)
    have skip : ¬ okB (LL sn) (LL sl) j → wr (LL sn) (LL sl) (j + 1) = wr (LL sn) (LL sl) j := fun h => by rw [wr, if_neg h, List.append_nil]
    have fin : ∀ hI' T, Dis G2 hI' → InH i hI' s' (wr (LL sn) (LL sl) (j + 1)).length 0 → T = ofL [(1, ofS cU sl), (8, i), (46, ofS cI sn), (47, .int .i64 (LL sn).length), (48, .int .i64 (j + 1 : Nat))] → N T (uni G2 hI') := by
      intro hI' T hd' hin' hT
      exact hN (n - 1) _ _ (by omega) ⟨j + 1, hI', by omega, rfl, hd', hin', hT⟩
    generalize hnd : (LL sn)[j] = nn at *
    repeat' (first
      | refine awp_seqK fun K' hpK => ?_
      | refine awp_block ?_
      | refine awp_condG fun A' B' hpA hpB => ?_
      | refine useK (by with_reducible assumption) ?_
      | refine useP (by with_reducible assumption) ?_
      | refine ED_cons (fun _ => ?_) ?_
      | (refine stable_mk ?_; simp (disch := first | (with_reducible assumption) | (simp; done) | omega | (simp; omega)) [hpi, ofS_idx (f := cI), cI, hjl, hnd]; done)
      | (refine stable_no ?_; simp (disch := first | (with_reducible assumption) | (simp; done) | omega | (simp; omega)) [hpi, ofS_idx (f := cI), cI, hjl, hnd]; done)
      | (with_reducible refine And.intro ?_ ?_)
      | (with_reducible intro hc)
      | (with_reducible refine GDsplit (fun hc => ?_) (fun hc => ?_) <;> try simp [hc])
      | (with_reducible refine GDsplitN (fun hc => ?_) (fun hc => ?_) <;> try simp [hc])
      | (with_reducible refine GDsplitNB (fun hc => ?_) (fun hc => ?_) <;> try simp [hc])
      | (with_reducible refine GDsplitB (fun hc => ?_) (fun hc => ?_) <;> try simp [hc])
      | (with_reducible refine GKsplit (fun hc => ?_) (fun hc => ?_) <;> try simp [hc])
      | (with_reducible refine GKsplitN (fun hc => ?_) (fun hc => ?_) <;> try simp [hc])
      | (with_reducible refine GKsplitNB (fun hc => ?_) (fun hc => ?_) <;> try simp [hc])
      | (with_reducible refine GKsplitB (fun hc => ?_) (fun hc => ?_) <;> try simp [hc])
      | simp (disch := first | (with_reducible assumption) | (simp; done) | omega | (simp; omega)) [hpi, ofS_idx (f := cI), cI, hjl, hnd])
    · refine CallK.use (right_c) ?_; rintro r G3 _ _ ⟨rfl, rfl⟩
      repeat' (first
        | refine awp_seqK fun K' hpK => ?_
        | refine awp_block ?_
        | refine awp_condG fun A' B' hpA hpB => ?_
        | refine useK (by with_reducible assumption) ?_
        | refine useP (by with_reducible assumption) ?_
        | refine ED_cons (fun _ => ?_) ?_
        | (refine stable_mk ?_; simp (disch := first | (with_reducible assumption) | (simp; done) | omega | (simp; omega)) [hpi, ofS_idx (f := cU), cU]; done)
        | (refine stable_no ?_; simp (disch := first | (with_reducible assumption) | (simp; done) | omega | (simp; omega)) [hpi, ofS_idx (f := cU), cU]; done)
        | (with_reducible refine And.intro ?_ ?_)
        | (with_reducible intro hc)
        | (with_reducible refine GDsplit (fun hc => ?_) (fun hc => ?_) <;> try simp [hc])
        | (with_reducible refine GDsplitN (fun hc => ?_) (fun hc => ?_) <;> try simp [hc])
        | (with_reducible refine GDsplitNB (fun hc => ?_) (fun hc => ?_) <;> try simp [hc])
        | (with_reducible refine GDsplitB (fun hc => ?_) (fun hc => ?_) <;> try simp [hc])
        | (with_reducible refine GKsplit (fun hc => ?_) (fun hc => ?_) <;> try simp [hc])
        | (with_reducible refine GKsplitN (fun hc => ?_) (fun hc => ?_) <;> try simp [hc])
        | (with_reducible refine GKsplitNB (fun hc => ?_) (fun hc => ?_) <;> try simp [hc])
        | (with_reducible refine GKsplitB (fun hc => ?_) (fun hc => ?_) <;> try simp [hc])
        | simp (disch := first | (with_reducible assumption) | (simp; done) | omega | (simp; omega)) [hpi, ofS_idx (f := cU), cU])
      · have hc : 1 ≤ nn ∧ nn ≤ 64 := by simpa using hc
        have hjs : j < (LL sl).length := by omega
        have hgl : (LL sl).getD j 0 = (LL sl)[j] := by simp [List.getD, hjs]
        have hv := hU _ (List.getElem_mem hjs)
        have hok : okB (LL sn) (LL sl) j := ⟨hjs, by omega, by rw [hgn]; exact hc.1, by rw [hgn]; exact hc.2⟩
        have hw : wr (LL sn) (LL sl) (j + 1) = wr (LL sn) (LL sl) j ++ numL nn.toNat (LL sl)[j] := by rw [wr, if_pos hok, hgn, hgl]
        generalize hvd : (LL sl)[j] = v at *
        have hlen : (wr (LL sn) (LL sl) (LL sn).length).length = (wr (LL sn) (LL sl) j).length + nn.toNat + t.length := by
          rw [ht, hw]; simp [numL_len]; omega
        have ha : askN nn = nn := by unfold askN; rw [if_pos hc]
        have hq : hasE 0 (askN nn) (8 * ((LL s').length : Int) - ((wr (LL sn) (LL sl) j).length : Int)) = 0 := by
          rw [ha]; unfold hasE; rw [if_pos rfl, if_neg (by omega), if_neg (by omega)]
        have cb := bits_c (n := nn) hin (by omega) (by omega) hsl hBy
        have hval : ((bitsL (LL s')).drop ((wr (LL sn) (LL sl) j).length : Int).toNat).take (askN nn).toNat = numL nn.toNat v := by
          rw [hbits, ht, hw, ha]
          simp only [List.append_assoc, Int.toNat_natCast, List.drop_left]
          exact List.take_left' (numL_len _ _)
        rw [hq, hval] at cb
        refine CallK.fr (cb) hdis ?_; rintro r h3 hdis _ _ ⟨hin3, rfl⟩
        obtain ⟨m, rfl⟩ := Int.eq_ofNat_of_zero_le (show 0 ≤ nn by omega)
        repeat' (first
          | refine awp_seqK fun K' hpK => ?_
          | refine awp_block ?_
          | refine awp_condG fun A' B' hpA hpB => ?_
          | refine useK (by with_reducible assumption) ?_
          | refine useP (by with_reducible assumption) ?_
          | refine ED_cons (fun _ => ?_) ?_
          | (refine stable_mk ?_; simp (disch := first | (with_reducible assumption) | (simp; done) | omega | (simp; omega)) [hpi, hvd, ofS_idx (f := cU), cU]; done)
          | (refine stable_no ?_; simp (disch := first | (with_reducible assumption) | (simp; done) | omega | (simp; omega)) [hpi, hvd, ofS_idx (f := cU), cU]; done)
          | (with_reducible refine And.intro ?_ ?_)
          | (with_reducible intro hc)
          | (with_reducible refine GDsplit (fun hc => ?_) (fun hc => ?_) <;> try simp [hc])
          | (with_reducible refine GDsplitN (fun hc => ?_) (fun hc => ?_) <;> try simp [hc])
          | (with_reducible refine GDsplitNB (fun hc => ?_) (fun hc => ?_) <;> try simp [hc])
          | (with_reducible refine GDsplitB (fun hc => ?_) (fun hc => ?_) <;> try simp [hc])
          | (with_reducible refine GKsplit (fun hc => ?_) (fun hc => ?_) <;> try simp [hc])
          | (with_reducible refine GKsplitN (fun hc => ?_) (fun hc => ?_) <;> try simp [hc])
          | (with_reducible refine GKsplitNB (fun hc => ?_) (fun hc => ?_) <;> try simp [hc])
          | (with_reducible refine GKsplitB (fun hc => ?_) (fun hc => ?_) <;> try simp [hc])
          | simp (disch := first | (with_reducible assumption) | (simp; done) | omega | (simp; omega)) [hpi, hvd, ofS_idx (f := cU), cU])
        refine CallK.use (num_c (n := m) (by omega) hv.1 hv.2) ?_; rintro r G4 _ _ ⟨rfl, s4, rfl, hs4⟩
        repeat' (first
          | refine awp_seqK fun K' hpK => ?_
          | refine awp_block ?_
          | refine awp_condG fun A' B' hpA hpB => ?_
          | refine useK (by with_reducible assumption) ?_
          | refine useP (by with_reducible assumption) ?_
          | refine ED_cons (fun _ => ?_) ?_
          | (refine stable_mk ?_; simp (disch := first | (with_reducible assumption) | (simp; done) | omega | (simp; omega)) [hpi]; done)
          | (refine stable_no ?_; simp (disch := first | (with_reducible assumption) | (simp; done) | omega | (simp; omega)) [hpi]; done)
          | (with_reducible refine And.intro ?_ ?_)
          | (with_reducible intro hc)
          | (with_reducible refine GDsplit (fun hc => ?_) (fun hc => ?_) <;> try simp [hc])
          | (with_reducible refine GDsplitN (fun hc => ?_) (fun hc => ?_) <;> try simp [hc])
          | (with_reducible refine GDsplitNB (fun hc => ?_) (fun hc => ?_) <;> try simp [hc])
          | (with_reducible refine GDsplitB (fun hc => ?_) (fun hc => ?_) <;> try simp [hc])
          | (with_reducible refine GKsplit (fun hc => ?_) (fun hc => ?_) <;> try simp [hc])
          | (with_reducible refine GKsplitN (fun hc => ?_) (fun hc => ?_) <;> try simp [hc])
          | (with_reducible refine GKsplitNB (fun hc => ?_) (fun hc => ?_) <;> try simp [hc])
          | (with_reducible refine GKsplitB (fun hc => ?_) (fun hc => ?_) <;> try simp [hc])
          | simp (disch := first | (with_reducible assumption) | (simp; done) | omega | (simp; omega)) [hpi])
        refine CallK.use (val_c (s := s4) (by rw [hs4]; exact numL01 _ _) (by rw [hs4, numL_len]; omega)) ?_; rintro r G5 _ _ ⟨rfl, rfl⟩
        rw [hs4]
        repeat' (first
          | refine awp_seqK fun K' hpK => ?_
          | refine awp_block ?_
          | refine awp_condG fun A' B' hpA hpB => ?_
          | refine useK (by with_reducible assumption) ?_
          | refine useP (by with_reducible assumption) ?_
          | refine ED_cons (fun _ => ?_) ?_
          | (refine stable_mk ?_; simp (disch := first | (with_reducible assumption) | (simp; done) | omega | (simp; omega)) [hpi]; done)
          | (refine stable_no ?_; simp (disch := first | (with_reducible assumption) | (simp; done) | omega | (simp; omega)) [hpi]; done)
          | (with_reducible refine And.intro ?_ ?_)
          | (with_reducible intro hc)
          | (with_reducible refine GDsplit (fun hc => ?_) (fun hc => ?_) <;> try simp [hc])
          | (with_reducible refine GDsplitN (fun hc => ?_) (fun hc => ?_) <;> try simp [hc])
          | (with_reducible refine GDsplitNB (fun hc => ?_) (fun hc => ?_) <;> try simp [hc])
          | (with_reducible refine GDsplitB (fun hc => ?_) (fun hc => ?_) <;> try simp [hc])
          | (with_reducible refine GKsplit (fun hc => ?_) (fun hc => ?_) <;> try simp [hc])
          | (with_reducible refine GKsplitN (fun hc => ?_) (fun hc => ?_) <;> try simp [hc])
          | (with_reducible refine GKsplitNB (fun hc => ?_) (fun hc => ?_) <;> try simp [hc])
          | (with_reducible refine GKsplitB (fun hc => ?_) (fun hc => ?_) <;> try simp [hc])
          | simp (disch := first | (with_reducible assumption) | (simp; done) | omega | (simp; omega)) [hpi])
        refine fin _ _ hdis ?_ (by simp)
        rw [hw]
        simp only [if_true, ha] at hin3
        simpa [numL_len] using hin3
      · have hc : ¬ (1 ≤ nn ∧ nn ≤ 64) := by simpa using hc
        refine fin _ _ hdis ?_ (by simp)
        rw [skip (fun h => hc ⟨by have := h.2.2.1; rw [hgn] at this; exact this, by have := h.2.2.2; rw [hgn] at this; exact this⟩)]; exact hin
    · exact fin _ _ hdis (by rw [skip (fun h => hc (by have := h.2.1; omega))]; exact hin) (by simp)
    · exact fin _ _ hdis (by rw [skip (fun h => hc (by have := h.1; omega))]; exact hin) (by simp)
  · have hje : j = (LL sn).length := by omega
    subst hje
    repeat' (first
      | refine awp_seqK fun K' hpK => ?_
      | refine awp_block ?_
      | refine awp_condG fun A' B' hpA hpB => ?_
      | refine useK (by with_reducible assumption) ?_
      | refine useP (by with_reducible assumption) ?_
      | refine ED_cons (fun _ => ?_) ?_
      | (refine stable_mk ?_; simp (disch := first | (with_reducible assumption) | (simp; done) | omega | (simp; omega)) [hpi, hjl]; done)
      | (refine stable_no ?_; simp (disch := first | (with_reducible assumption) | (simp; done) | omega | (simp; omega)) [hpi, hjl]; done)
      | (with_reducible refine And.intro ?_ ?_)
      | (with_reducible intro hc)
      | (with_reducible refine GDsplit (fun hc => ?_) (fun hc => ?_) <;> try simp [hc])
      | (with_reducible refine GDsplitN (fun hc => ?_) (fun hc => ?_) <;> try simp [hc])
      | (with_reducible refine GDsplitNB (fun hc => ?_) (fun hc => ?_) <;> try simp [hc])
      | (with_reducible refine GDsplitB (fun hc => ?_) (fun hc => ?_) <;> try simp [hc])
      | (with_reducible refine GKsplit (fun hc => ?_) (fun hc => ?_) <;> try simp [hc])
      | (with_reducible refine GKsplitN (fun hc => ?_) (fun hc => ?_) <;> try simp [hc])
      | (with_reducible refine GKsplitNB (fun hc => ?_) (fun hc => ?_) <;> try simp [hc])
      | (with_reducible refine GKsplitB (fun hc => ?_) (fun hc => ?_) <;> try simp [hc])
      | simp (disch := first | (with_reducible assumption) | (simp; done) | omega | (simp; omega)) [hpi, hjl])
    refine CallK.fr (err_c hin) hdis ?_; rintro r h3 hdis _ _ ⟨rfl, rfl⟩
    repeat' (first
      | refine awp_seqK fun K' hpK => ?_
      | refine awp_block ?_
      | refine awp_condG fun A' B' hpA hpB => ?_
      | refine useK (by with_reducible assumption) ?_
      | refine useP (by with_reducible assumption) ?_
      | refine ED_cons (fun _ => ?_) ?_
      | (refine stable_mk ?_; simp (disch := first | (with_reducible assumption) | (simp; done) | omega | (simp; omega)) [hpi]; done)
      | (refine stable_no ?_; simp (disch := first | (with_reducible assumption) | (simp; done) | omega | (simp; omega)) [hpi]; done)
      | (with_reducible refine And.intro ?_ ?_)
      | (with_reducible intro hc)
      | (with_reducible refine GDsplit (fun hc => ?_) (fun hc => ?_) <;> try simp [hc])
      | (with_reducible refine GDsplitN (fun hc => ?_) (fun hc => ?_) <;> try simp [hc])
      | (with_reducible refine GDsplitNB (fun hc => ?_) (fun hc => ?_) <;> try simp [hc])
      | (with_reducible refine GDsplitB (fun hc => ?_) (fun hc => ?_) <;> try simp [hc])
      | (with_reducible refine GKsplit (fun hc => ?_) (fun hc => ?_) <;> try simp [hc])
      | (with_reducible refine GKsplitN (fun hc => ?_) (fun hc => ?_) <;> try simp [hc])
      | (with_reducible refine GKsplitNB (fun hc => ?_) (fun hc => ?_) <;> try simp [hc])
      | (with_reducible refine GKsplitB (fun hc => ?_) (fun hc => ?_) <;> try simp [hc])
      | simp (disch := first | (with_reducible assumption) | (simp; done) | omega | (simp; omega)) [hpi])
    refine CallK.fr (left_c hin (by omega) (by omega) hsl) hdis ?_; rintro r h4 hdis _ _ ⟨rfl, rfl⟩
    have hlt : 8 * ((LL s').length : Int) - ((wr (LL sn) (LL sl) (LL sn).length).length : Int) < 8 := by omega
    repeat' (first
      | refine awp_seqK fun K' hpK => ?_
      | refine awp_block ?_
      | refine awp_condG fun A' B' hpA hpB => ?_
      | refine useK (by with_reducible assumption) ?_
      | refine useP (by with_reducible assumption) ?_
      | refine ED_cons (fun _ => ?_) ?_
      | (refine stable_mk ?_; simp (disch := first | (with_reducible assumption) | (simp; done) | omega | (simp; omega)) [hpi, hlt]; done)
      | (refine stable_no ?_; simp (disch := first | (with_reducible assumption) | (simp; done) | omega | (simp; omega)) [hpi, hlt]; done)
      | (with_reducible refine And.intro ?_ ?_)
      | (with_reducible intro hc)
      | (with_reducible refine GDsplit (fun hc => ?_) (fun hc => ?_) <;> try simp [hc])
      | (with_reducible refine GDsplitN (fun hc => ?_) (fun hc => ?_) <;> try simp [hc])
      | (with_reducible refine GDsplitNB (fun hc => ?_) (fun hc => ?_) <;> try simp [hc])
      | (with_reducible refine GDsplitB (fun hc => ?_) (fun hc => ?_) <;> try simp [hc])
      | (with_reducible refine GKsplit (fun hc => ?_) (fun hc => ?_) <;> try simp [hc])
      | (with_reducible refine GKsplitN (fun hc => ?_) (fun hc => ?_) <;> try simp [hc])
      | (with_reducible refine GKsplitNB (fun hc => ?_) (fun hc => ?_) <;> try simp [hc])
      | (with_reducible refine GKsplitB (fun hc => ?_) (fun hc => ?_) <;> try simp [hc])
      | simp (disch := first | (with_reducible assumption) | (simp; done) | omega | (simp; omega)) [hpi, hlt])
    refine CallK.use (awake_c _) ?_; rintro r h5 _ _ ⟨rfl, rfl⟩
    repeat' (first
      | refine awp_seqK fun K' hpK => ?_
      | refine awp_block ?_
      | refine awp_condG fun A' B' hpA hpB => ?_
      | refine useK (by with_reducible assumption) ?_
      | refine useP (by with_reducible assumption) ?_
      | refine ED_cons (fun _ => ?_) ?_
      | (refine stable_mk ?_; simp (disch := first | (with_reducible assumption) | (simp; done) | omega | (simp; omega)) [hpi]; done)
      | (refine stable_no ?_; simp (disch := first | (with_reducible assumption) | (simp; done) | omega | (simp; omega)) [hpi]; done)
      | (with_reducible refine And.intro ?_ ?_)
      | (with_reducible intro hc)
      | (with_reducible refine GDsplit (fun hc => ?_) (fun hc => ?_) <;> try simp [hc])
      | (with_reducible refine GDsplitN (fun hc => ?_) (fun hc => ?_) <;> try simp [hc])
      | (with_reducible refine GDsplitNB (fun hc => ?_) (fun hc => ?_) <;> try simp [hc])
      | (with_reducible refine GDsplitB (fun hc => ?_) (fun hc => ?_) <;> try simp [hc])
      | (with_reducible refine GKsplit (fun hc => ?_) (fun hc => ?_) <;> try simp [hc])
      | (with_reducible refine GKsplitN (fun hc => ?_) (fun hc => ?_) <;> try simp [hc])
      | (with_reducible refine GKsplitNB (fun hc => ?_) (fun hc => ?_) <;> try simp [hc])
      | (with_reducible refine GKsplitB (fun hc => ?_) (fun hc => ?_) <;> try simp [hc])
      | simp (disch := first | (with_reducible assumption) | (simp; done) | omega | (simp; omega)) [hpi])
    exact ends_drop (by simp <;> rfl) (by simp) hpost
theorem bitsBack_c {sn : Option (List Int)} {sl : Option (List Int)} (hU : U64 (LL sl)) : ACalls Try.prog 3 [ofS cI sn, ofS cU sl] emptyH fun r G' => G' = emptyH ∧ r = .bool true := by
  refine ACalls.hide fun post hpost => ?_
  refine F3_in (by simp) (by simp) fun hbd => ?_
  have hnl : (LL sn).length ≤ LIM := by
    have := hbd.1
    cases sn with
    | none => simp
    | some l => simp only [ofS, BD] at this; simpa using this.1
  have hll : (LL sl).length ≤ LIM := by
    have := hbd.2.1
    cases sl with
    | none => simp
    | some l => simp only [ofS, BD] at this; simpa using this.1
  simp only [LIM] at hnl hll
  unfold F3
  refine awp_seqH fun K1 hK1 => ?_
  simp (disch := first | (with_reducible assumption) | (simp; done) | omega | (simp; omega)) [F3_r0]
  refine hK1.out _ _ ?_
  refine awp_seqH fun K2 hK2 => ?_
  simp (disch := first | (with_reducible assumption) | (simp; done) | omega | (simp; omega)) [F3_r1, ofV]
  refine CallK.use (new_c (ps := none) (by simp) (by simp) (by simp)) ?_
  intro o h1 _ hpo ho
  have e0 : bitsL (newB (LL (none : Option (List (Option (List Int)))))) = [] := by simp [newB, bitsL]
  rw [e0] at ho
  simp (disch := first | (with_reducible assumption) | (simp; done) | omega | (simp; omega)) [hpo]
  refine hK2.out _ _ ?_
  refine awp_seqH fun K3 hK3 => ?_
  refine awp_seqH fun K4 hK4 => ?_
  simp (disch := first | (with_reducible assumption) | (simp; done) | omega | (simp; omega)) [F3_r2, hpo]
  refine hK4.out _ _ ?_
  refine awp_block ?_
  refine awp_loop' (fun n T G' => ∃ j : Nat, j + n = (LL sn).length ∧ OutH o G' (wr (LL sn) (LL sl) j) ∧
    T = ofL [(0, ofS cI sn), (1, ofS cU sl), (5, o), (12, ofS cI sn), (13, .int .i64 (LL sn).length), (14, .int .i64 j)]) (LL sn).length ⟨0, by omega, by simpa [wr] using ho, rfl⟩ ?_
  · rintro n T G' ⟨j, hj, hoj, rfl⟩ N hN
    have hwl := wr_len (LL sn) (LL sl) j
    unfold F3_l0
    refine awp_seqH fun K5 hK5 => ?_
    simp (disch := first | (with_reducible assumption) | (simp; done) | omega | (simp; omega)) [F3_r3, hpo]
    refine hK5.out _ _ ?_
    refine awp_seqH fun K5 hK5 => ?_
    refine awp_cond (t := decide (j < (LL sn).length)) (by simp) (fun ht => ?_) (fun hf => ?_)
    · have hjl : j < (LL sn).length := by simpa using ht
      have hgn : (LL sn).getD j 0 = (LL sn)[j] := by simp [List.getD, hjl]
      simp (disch := first | (with_reducible assumption) | (simp; done) | omega | (simp; omega)) [hpo]
      refine hK5.out _ _ ?_
      refine awp_seqH fun K6 hK6 => ?_
      refine awp_block ?_
      refine awp_seqH fun K7 hK7 => ?_
      simp (disch := first | (with_reducible assumption) | (simp; done) | omega | (simp; omega)) [F3_r4, ofS_idx (f := cI), cI, hpo]
      refine hK7.out _ _ ?_
      refine awp_seqH fun K8 hK8 => ?_
      generalize hnd : (LL sn)[j] = nn at *
      have fin : ∀ G', OutH o G' (wr (LL sn) (LL sl) (j + 1)) → ∀ T, T 0 = ofS cI sn → T 1 = ofS cU sl → T 5 = o → T 12 = ofS cI sn → T 13 = .int .i64 (LL sn).length → T 14 = .int .i64 j → K6 T G' := by
        intro G' ho' T e0 e1 e5 e12 e13 e14
        refine hK6.out _ _ ?_
        simp (disch := first | (with_reducible assumption) | (simp; done) | omega | (simp; omega)) [F3_r7, e0, e1, e5, e12, e13, e14, hpo]
        exact hN (n - 1) _ _ (by omega) ⟨j + 1, by omega, ho', by simp⟩
      have skip : ¬ okB (LL sn) (LL sl) j → wr (LL sn) (LL sl) (j + 1) = wr (LL sn) (LL sl) j := fun h => by rw [wr, if_neg h, List.append_nil]
      by_cases c1 : (j : Int) < ((LL sl).length : Int)
      · by_cases c2 : (j : Int) < 30
        · simp (disch := first | (with_reducible assumption) | (simp; done) | omega | (simp; omega)) [F3_r5, c1, c2, hpo]
          refine CallK.use right_c ?_
          rintro r G2 _ _ ⟨rfl, hr⟩
          by_cases c3 : 1 ≤ nn ∧ nn ≤ 64
          · rw [decide_eq_true c3] at hr
            subst hr
            have hjs : j < (LL sl).length := by omega
            have hgl : (LL sl).getD j 0 = (LL sl)[j] := by simp [List.getD, hjs]
            have hv := hU _ (List.getElem_mem hjs)
            simp (disch := first | (with_reducible assumption) | (simp; done) | omega | (simp; omega)) [hpo, ofS_idx (f := cU), cU]
            have hok : okB (LL sn) (LL sl) j := ⟨hjs, by omega, by rw [hgn]; exact c3.1, by rw [hgn]; exact c3.2⟩
            have hw : wr (LL sn) (LL sl) (j + 1) = wr (LL sn) (LL sl) j ++ numL nn.toNat (LL sl)[j] := by rw [wr, if_pos hok, hgn, hgl]
            have hU1 : U64 (LL (some [(LL sl)[j]])) := by simpa [U64] using hv
            have cc := obits_c (n := nn) (s := some [(LL sl)[j]]) hoj (by omega) hU1
            have e1 : bitsE nn (LL (some [(LL sl)[j]])).length (wr (LL sn) (LL sl) j).length = 0 := by
              unfold bitsE
              rw [if_pos c3, if_pos]
              simp; omega
            rw [e1] at cc
            refine CallK.use (show ACalls Try.prog 11 [o, .int .i64 nn, .sl 1 [.int .u64 (LL sl)[j]]] G2 _ from cc) ?_
            rintro r G3 _ _ ⟨ho3, rfl⟩
            simp (disch := first | (with_reducible assumption) | (simp; done) | omega | (simp; omega)) [hpo]
            refine hK8.out _ _ ?_
            refine awp_cond (t := false) (by simp) (fun h => by cases h) (fun _ => ?_)
            simp (disch := first | (with_reducible assumption) | (simp; done) | omega | (simp; omega)) []
            refine fin _ (by rw [hw]; simpa using ho3) _ (by simp) (by simp) (by simp) (by simp) (by simp) (by simp)
          · rw [decide_eq_false c3] at hr
            subst hr
            simp (disch := first | (with_reducible assumption) | (simp; done) | omega | (simp; omega)) [hpo]
            refine hK8.out _ _ ?_
            refine awp_cond (t := false) (by simp) (fun h => by cases h) (fun _ => ?_)
            simp (disch := first | (with_reducible assumption) | (simp; done) | omega | (simp; omega)) []
            refine fin _ (by rw [skip (fun h => c3 ⟨by have := h.2.2.1; rw [hgn] at this; exact this, by have := h.2.2.2; rw [hgn] at this; exact this⟩)]; exact hoj) _ (by simp) (by simp) (by simp) (by simp) (by simp) (by simp)
        · simp (disch := first | (with_reducible assumption) | (simp; done) | omega | (simp; omega)) [F3_r5, c1, c2, hpo]
          refine hK8.out _ _ ?_
          refine awp_cond (t := false) (by simp) (fun h => by cases h) (fun _ => ?_)
          simp (disch := first | (with_reducible assumption) | (simp; done) | omega | (simp; omega)) []
          refine fin _ (by rw [skip (fun h => c2 (by have := h.2.1; omega))]; exact hoj) _ (by simp) (by simp) (by simp) (by simp) (by simp) (by simp)
      · simp (disch := first | (with_reducible assumption) | (simp; done) | omega | (simp; omega)) [F3_r5, c1, hpo]
        refine hK8.out _ _ ?_
        refine awp_cond (t := false) (by simp) (fun h => by cases h) (fun _ => ?_)
        simp (disch := first | (with_reducible assumption) | (simp; done) | omega | (simp; omega)) []
        refine fin _ (by rw [skip (fun h => c1 (by have := h.1; omega))]; exact hoj) _ (by simp) (by simp) (by simp) (by simp) (by simp) (by simp)
    · have hjl : ¬ j < (LL sn).length := by simpa using hf
      have hje : j = (LL sn).length := by omega
      subst hje
      simp (disch := first | (with_reducible assumption) | (simp; done) | omega | (simp; omega)) [hpo]
      refine hK3.out _ _ ?_
      exact back2 rfl rfl hU hnl hll hpo hoj (hpost _ _ ⟨rfl, rfl⟩) (by simp) (by simp) (by simp)
end Go.Proofs.Ytdpppigniaafnaa
