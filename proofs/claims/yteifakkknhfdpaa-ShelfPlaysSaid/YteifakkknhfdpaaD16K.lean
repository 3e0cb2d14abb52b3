import Derived.Test.YteifakkknhfdpaaD15K
import Derived.Test.YteifakkknhfdpaaAl2
set_option linter.unusedSimpArgs false
set_option linter.unusedVariables false
namespace Go.Proofs.Yteifakkknhfdpaa
open Go Go.Al
set_option maxRecDepth 20000
attribute [local irreducible] awp aops aopsD eop pv ACalls CallK AppK AEnds ti

abbrev ClT : Type := Int × Int × Int × Int × ByteArray × ByteArray × Unit
def toCl (x : ClT) : Cl := ⟨x.1, x.2.1, x.2.2.1, x.2.2.2.1, x.2.2.2.2.1, x.2.2.2.2.2.1⟩
def cT (x : ClT) : List AV := cCl (toCl x)
@[simp] theorem cT_len (x : ClT) : (cT x).length = 6 := by simp [cT]
theorem toCl_eq (x : ClT) : cCl (toCl x) = [.int .i64 x.1, .int .i64 x.2.1, .int .i64 x.2.2.1, .int .i64 x.2.2.2.1, .str x.2.2.2.2.1, .str x.2.2.2.2.2.1] := rfl

theorem same_tP {a b : Option (List Int)} {G : Hp} (h : LL a = LL b) (hl : (LL a).length ≤ 1000000) : ACalls Try.prog 13 [ofS cVP a, ofS cVP b] G fun r G' => G' = G ∧ r = .bool true := same_t h hl
theorem tset {X : List AV} {j : Nat} {v : AV} (h : j < X.length) : List.take j X ++ v :: List.drop (j + 1) X = X.set j v := by
  rw [List.set_eq_take_append_cons_drop, if_pos h]
theorem flatP_map (L : List (ByteArray × Int)) : (L.map Prod.fst).flatMap cKP = L.map fun x => AV.str x.1 := by
  induction L with
  | nil => rfl
  | cons x r ih => simp only [List.map_cons, List.flatMap_cons, ih]; rfl
theorem cutP_fst {L : List (ByteArray × Int)} {j : Nat} (h : j < L.length) : ((L.map Prod.fst).flatMap cKP).drop j = AV.str (L[j]).1 :: ((L.map Prod.fst).flatMap cKP).drop (j + 1) := by
  rw [flatP_map, List.drop_eq_getElem_cons (by simpa using h)]; simp
theorem flatP_len (L : List (ByteArray × Int)) : ((L.map Prod.fst).flatMap cKP).length = L.length := by rw [flatP_map, List.length_map]

set_option maxHeartbeats 16000000 in
theorem shelfPlays_c {m0 : Int} {l : Option (List ClT)} (hll : (LL l).length ≤ 140737488355328) (hst : ∀ x ∈ LL l, x.2.2.2.2.1.size ≤ LIM ∧ x.2.2.2.2.2.1.size ≤ LIM) : ACalls Try.prog 7 [.int .i64 m0, ofS cT l] emptyH fun r G' => G' = emptyH ∧ r = .bool true := by
  obtain ⟨q, hq⟩ : ∃ q, q = m0.tmod 12 := ⟨_, rfl⟩
  have hq1 : -12 < q := by rw [hq]; have := Int.lt_tmod_of_pos m0 (show (0 : Int) < 12 by omega); omega
  have hq2 : q < 12 := by rw [hq]; have := Int.tmod_lt_of_pos m0 (show (0 : Int) < 12 by omega); omega
  refine ACalls.hide fun post hpost => ?_
  refine F7_in (by simp) (by simp) fun hbd => ?_
  refine awp_seqH fun K1 hK1 => ?_
  simp (disch := first | (with_reducible assumption) | (simp; done) | omega | (simp; omega)) [F7_r0]
  refine hK1.out _ _ ?_
  refine awp_seqH fun K2 hK2 => ?_
  simp (disch := first | (with_reducible assumption) | (simp; done) | omega | (simp; omega)) [F7_r1, ← hq]
  refine hK2.out _ _ ?_
  refine awp_seqH fun K3 hK3 => ?_
  simp (disch := first | (with_reducible assumption) | (simp; done) | omega | (simp; omega)) [F7_r2, ← hq]
  refine CallK.use newP_c ?_
  rintro r G1 _ _ ⟨sb, rfl, hr⟩
  simp (disch := first | (with_reducible assumption) | (simp; done) | omega | (simp; omega)) []
  refine hK3.out _ _ ?_
  refine awp_seqH fun K4 hK4 => ?_
  have main : ∀ (mx : Int) (T : Tm), 0 ≤ mx → mx ≤ 11 → SHP sb G1 [] mx → T 0 = .int .i64 mx → T 1 = ofS cT l → T 5 = .ptr sb 0 → K4 T G1 := by
    intro mx T hm0 hm1 hr e0 e1 e5
    refine hK4.out _ _ ?_
    repeat' (first
      | refine awp_seqK fun K' hpK => ?_
      | refine awp_block ?_
      | refine awp_condG fun A' B' hpA hpB => ?_
      | refine useK (by with_reducible assumption) ?_
      | refine useP (by with_reducible assumption) ?_
      | refine ED_cons (fun _ => ?_) ?_
      | (refine stable_mk ?_; simp (disch := first | (with_reducible assumption) | (simp; done) | omega | (simp; omega)) [e0, e1, e5]; done)
      | (refine stable_no ?_; simp (disch := first | (with_reducible assumption) | (simp; done) | omega | (simp; omega)) [e0, e1, e5]; done)
      | (with_reducible refine And.intro ?_ ?_)
      | (with_reducible intro hc; try (exfalso; omega))
      | (with_reducible refine GDsplit (fun hc => ?_) (fun hc => ?_) <;> try simp [hc])
      | (with_reducible refine GDsplitN (fun hc => ?_) (fun hc => ?_) <;> try simp [hc])
      | (with_reducible refine GDsplitNB (fun hc => ?_) (fun hc => ?_) <;> try simp [hc])
      | (with_reducible refine GDsplitB (fun hc => ?_) (fun hc => ?_) <;> try simp [hc])
      | (with_reducible refine GKsplit (fun hc => ?_) (fun hc => ?_) <;> try simp [hc])
      | (with_reducible refine GKsplitN (fun hc => ?_) (fun hc => ?_) <;> try simp [hc])
      | (with_reducible refine GKsplitNB (fun hc => ?_) (fun hc => ?_) <;> try simp [hc])
      | (with_reducible refine GKsplitB (fun hc => ?_) (fun hc => ?_) <;> try simp [hc])
      | simp (disch := first | (with_reducible assumption) | (simp; done) | omega | (simp; omega)) [e0, e1, e5])
    refine awp_loop' (fun w T G' => ∃ (k : Nat) (F h : Hp) (s : Option (List (ByteArray × Int))), k + w = (LL l).length ∧ G' = uni F h ∧ Dis F h ∧ SHP sb h (LL s) mx ∧ (LL s).length ≤ k ∧ k ≤ 40 ∧ T = ofL [(0, .int .i64 mx), (5, .ptr sb 0), (6, ofS cSP s), (7, .bool true), (22, ofS cT l), (23, .int .i64 (LL l).length), (24, .int .i64 k)]) (LL l).length ⟨0, emptyH, G1, none, by omega, (empty_uni _).symm, (fun b => .inl rfl), hr, by simp, by omega, by simp [ofS]⟩ ?_
    rintro w T G' ⟨k, F, h, s, hk, rfl, hdis, hs, hsl, hk40, rfl⟩ N hN
    by_cases hkl : k < (LL l).length
    · obtain ⟨y, hy⟩ : ∃ y, y = (LL l)[k] := ⟨_, rfl⟩
      have hys := hst y (by rw [hy]; exact List.getElem_mem _)
      by_cases h40 : (40 : Int) ≤ k
      · repeat' (first
          | refine awp_seqK fun K' hpK => ?_
          | refine awp_block ?_
          | refine awp_condG fun A' B' hpA hpB => ?_
          | refine useK (by with_reducible assumption) ?_
          | refine useP (by with_reducible assumption) ?_
          | refine ED_cons (fun _ => ?_) ?_
          | (refine stable_mk ?_; simp (disch := first | (with_reducible assumption) | (simp; done) | omega | (simp; omega)) [hkl, h40, ofS_idx (f := cT), cT, toCl_eq, ← hy]; done)
          | (refine stable_no ?_; simp (disch := first | (with_reducible assumption) | (simp; done) | omega | (simp; omega)) [hkl, h40, ofS_idx (f := cT), cT, toCl_eq, ← hy]; done)
          | (with_reducible refine And.intro ?_ ?_)
          | (with_reducible intro hc; try (exfalso; omega))
          | (with_reducible refine GDsplit (fun hc => ?_) (fun hc => ?_) <;> try simp [hc])
          | (with_reducible refine GDsplitN (fun hc => ?_) (fun hc => ?_) <;> try simp [hc])
          | (with_reducible refine GDsplitNB (fun hc => ?_) (fun hc => ?_) <;> try simp [hc])
          | (with_reducible refine GDsplitB (fun hc => ?_) (fun hc => ?_) <;> try simp [hc])
          | (with_reducible refine GKsplit (fun hc => ?_) (fun hc => ?_) <;> try simp [hc])
          | (with_reducible refine GKsplitN (fun hc => ?_) (fun hc => ?_) <;> try simp [hc])
          | (with_reducible refine GKsplitNB (fun hc => ?_) (fun hc => ?_) <;> try simp [hc])
          | (with_reducible refine GKsplitB (fun hc => ?_) (fun hc => ?_) <;> try simp [hc])
          | (refine CallK.fr (lenP_c hs) hdis ?_; rintro r h' hdis _ _ ⟨rfl, rfl⟩)
          | (refine CallK.use (awake_c _) ?_; rintro r G' _ _ ⟨rfl, rfl⟩)
          | simp (disch := first | (with_reducible assumption) | (simp; done) | omega | (simp; omega)) [hkl, h40, ofS_idx (f := cT), cT, toCl_eq, ← hy])
        exact ends_drop (by simp <;> rfl) (by simp) (hpost _ _ ⟨rfl, rfl⟩)
      · have kc := fun (ks : ByteArray) => kput_c (s := s) (kd := y.1) (i := y.2.1) (v := y.2.2.1) (w0 := y.2.2.2.1) (k := ks) (l := y.2.2.2.2.2.1) hs rfl (by omega) hm0 (by omega)
        have dc := dropC (v := y.2.2.1) hs (by omega)
        by_cases n4 : y.1 = 4
        · have stp : ∀ ks : ByteArray, True := fun _ => trivial
          by_cases h6 : 6 < y.2.2.2.2.1.size
          · have h6' : 6 ≤ y.2.2.2.2.1.size := by omega
            repeat' (first
              | refine awp_seqK fun K' hpK => ?_
              | refine awp_block ?_
              | refine awp_condG fun A' B' hpA hpB => ?_
              | refine useK (by with_reducible assumption) ?_
              | refine useP (by with_reducible assumption) ?_
              | refine ED_cons (fun _ => ?_) ?_
              | (refine stable_mk ?_; simp (disch := first | (with_reducible assumption) | (simp; done) | omega | (simp; omega)) [hkl, h40, ofS_idx (f := cT), cT, toCl_eq, ← hy, h6, h6', n4]; done)
              | (refine stable_no ?_; simp (disch := first | (with_reducible assumption) | (simp; done) | omega | (simp; omega)) [hkl, h40, ofS_idx (f := cT), cT, toCl_eq, ← hy, h6, h6', n4]; done)
              | (with_reducible refine And.intro ?_ ?_)
              | (with_reducible intro hc; try (exfalso; omega))
              | (with_reducible refine GDsplit (fun hc => ?_) (fun hc => ?_) <;> try simp [hc])
              | (with_reducible refine GDsplitN (fun hc => ?_) (fun hc => ?_) <;> try simp [hc])
              | (with_reducible refine GDsplitNB (fun hc => ?_) (fun hc => ?_) <;> try simp [hc])
              | (with_reducible refine GDsplitB (fun hc => ?_) (fun hc => ?_) <;> try simp [hc])
              | (with_reducible refine GKsplit (fun hc => ?_) (fun hc => ?_) <;> try simp [hc])
              | (with_reducible refine GKsplitN (fun hc => ?_) (fun hc => ?_) <;> try simp [hc])
              | (with_reducible refine GKsplitNB (fun hc => ?_) (fun hc => ?_) <;> try simp [hc])
              | (with_reducible refine GKsplitB (fun hc => ?_) (fun hc => ?_) <;> try simp [hc])
              | simp (disch := first | (with_reducible assumption) | (simp; done) | omega | (simp; omega)) [hkl, h40, ofS_idx (f := cT), cT, toCl_eq, ← hy, h6, h6', n4])
            refine awp_loop' (fun w2 T2 G2 => ∃ (j : Nat) (v10 v11 : AV) (Gm : Hp), j + w2 = (LL s).length ∧ Grow cSP 2 (uni F h) Gm v10 (((LL s).take j).filter fun x => decide (x.2 < y.2.2.1)) ∧ Grow cSP 2 Gm G2 v11 (((LL s).take j).filter fun x => !decide (x.2 < y.2.2.1)) ∧ T2 = ofL [(0, .int .i64 mx), (5, .ptr sb 0), (9, .box [.int .i64 4, .int .i64 y.2.1, .int .i64 y.2.2.1, .int .i64 y.2.2.2.1, .str (y.2.2.2.2.1.extract 0 6), .str y.2.2.2.2.2.1]), (10, v10), (11, v11), (22, ofS cT l), (23, .int .i64 (LL l).length), (24, .int .i64 k), (46, ofS cSP s), (47, .int .i64 (LL s).length), (48, .int .i64 j)]) (LL s).length ⟨0, .nils, .nils, _, by omega, Grow.nil _ _, Grow.nil _ _, by simp⟩ ?_
            rintro w2 T2 G2 ⟨j, v10, v11, Gm, hj, hg10, hg11, rfl⟩ N2 hN2
            have p10 := hg10.plain
            have p11 := hg11.plain
            by_cases hjl : j < (LL s).length
            · repeat' (first
                | refine awp_seqK fun K' hpK => ?_
                | refine awp_block ?_
                | refine awp_condG fun A' B' hpA hpB => ?_
                | refine useK (by with_reducible assumption) ?_
                | refine useP (by with_reducible assumption) ?_
                | refine ED_cons (fun _ => ?_) ?_
                | (refine stable_mk ?_; simp (disch := first | (with_reducible assumption) | (simp; done) | omega | (simp; omega)) [hjl, p10, p11]; done)
                | (refine stable_no ?_; simp (disch := first | (with_reducible assumption) | (simp; done) | omega | (simp; omega)) [hjl, p10, p11]; done)
                | (with_reducible refine And.intro ?_ ?_)
                | (with_reducible intro hc; try (exfalso; omega))
                | (with_reducible refine GDsplit (fun hc => ?_) (fun hc => ?_) <;> try simp [hc])
                | (with_reducible refine GDsplitN (fun hc => ?_) (fun hc => ?_) <;> try simp [hc])
                | (with_reducible refine GDsplitNB (fun hc => ?_) (fun hc => ?_) <;> try simp [hc])
                | (with_reducible refine GDsplitB (fun hc => ?_) (fun hc => ?_) <;> try simp [hc])
                | (with_reducible refine GKsplit (fun hc => ?_) (fun hc => ?_) <;> try simp [hc])
                | (with_reducible refine GKsplitN (fun hc => ?_) (fun hc => ?_) <;> try simp [hc])
                | (with_reducible refine GKsplitNB (fun hc => ?_) (fun hc => ?_) <;> try simp [hc])
                | (with_reducible refine GKsplitB (fun hc => ?_) (fun hc => ?_) <;> try simp [hc])
                | simp (disch := first | (with_reducible assumption) | (simp; done) | omega | (simp; omega)) [hjl, p10, p11])
              refine awp_fz0 ?_
              obtain ⟨x, hx⟩ : ∃ x, x = (LL s)[j] := ⟨_, rfl⟩
              have htk := take_succ_get (LL s) j hjl
              rw [← hx] at htk
              have hln0 : ((LL s).take j).length ≤ 1000 := by rw [List.length_take]; omega
              by_cases hxv : x.2 < y.2.2.1
              · have e1 : (((LL s).take (j + 1)).filter fun x => decide (x.2 < y.2.2.1)) = (((LL s).take j).filter fun x => decide (x.2 < y.2.2.1)) ++ [x] := by rw [htk, List.filter_append]; simp [hxv]
                have e2 : (((LL s).take (j + 1)).filter fun x => !decide (x.2 < y.2.2.1)) = ((LL s).take j).filter fun x => !decide (x.2 < y.2.2.1) := by rw [htk, List.filter_append]; simp [hxv]
                have hln1 : (((LL s).take j).filter fun x => decide (x.2 < y.2.2.1)).length ≤ 1000 := Nat.le_trans (List.length_filter_le _ _) hln0
                repeat' (first
                  | refine awp_seqK fun K' hpK => ?_
                  | refine awp_block ?_
                  | refine awp_condG fun A' B' hpA hpB => ?_
                  | refine useK (by with_reducible assumption) ?_
                  | refine useP (by with_reducible assumption) ?_
                  | refine ED_cons (fun _ => ?_) ?_
                  | (refine stable_mk ?_; simp (disch := first | (with_reducible assumption) | (simp; done) | omega | (simp; omega)) [hjl, p10, p11, ofS_idx (f := cSP), cSP, ← hx, hxv]; done)
                  | (refine stable_no ?_; simp (disch := first | (with_reducible assumption) | (simp; done) | omega | (simp; omega)) [hjl, p10, p11, ofS_idx (f := cSP), cSP, ← hx, hxv]; done)
                  | (with_reducible refine And.intro ?_ ?_)
                  | (with_reducible intro hc; try (exfalso; omega))
                  | (with_reducible refine GDsplit (fun hc => ?_) (fun hc => ?_) <;> try simp [hc])
                  | (with_reducible refine GDsplitN (fun hc => ?_) (fun hc => ?_) <;> try simp [hc])
                  | (with_reducible refine GDsplitNB (fun hc => ?_) (fun hc => ?_) <;> try simp [hc])
                  | (with_reducible refine GDsplitB (fun hc => ?_) (fun hc => ?_) <;> try simp [hc])
                  | (with_reducible refine GKsplit (fun hc => ?_) (fun hc => ?_) <;> try simp [hc])
                  | (with_reducible refine GKsplitN (fun hc => ?_) (fun hc => ?_) <;> try simp [hc])
                  | (with_reducible refine GKsplitNB (fun hc => ?_) (fun hc => ?_) <;> try simp [hc])
                  | (with_reducible refine GKsplitB (fun hc => ?_) (fun hc => ?_) <;> try simp [hc])
                  | simp (disch := first | (with_reducible assumption) | (simp; done) | omega | (simp; omega)) [hjl, p10, p11, ofS_idx (f := cSP), cSP, ← hx, hxv])
                obtain ⟨Gn, hg11', hg10'⟩ := hg10.swap hg11
                refine hg10'.app1 (x := x) (by simp [cSP]) (by simp [cSP]) (by simp [LIM]; omega) (fun v2 G3 hg3 => ?_)
                have hv2 := hg3.plain
                obtain ⟨Gq, ga, gb⟩ := hg11'.swap hg3
                repeat' (first
                  | refine awp_seqK fun K' hpK => ?_
                  | refine awp_block ?_
                  | refine awp_condG fun A' B' hpA hpB => ?_
                  | refine useK (by with_reducible assumption) ?_
                  | refine useP (by with_reducible assumption) ?_
                  | refine ED_cons (fun _ => ?_) ?_
                  | (refine stable_mk ?_; simp (disch := first | (with_reducible assumption) | (simp; done) | omega | (simp; omega)) [hv2, p11]; done)
                  | (refine stable_no ?_; simp (disch := first | (with_reducible assumption) | (simp; done) | omega | (simp; omega)) [hv2, p11]; done)
                  | (with_reducible refine And.intro ?_ ?_)
                  | (with_reducible intro hc; try (exfalso; omega))
                  | (with_reducible refine GDsplit (fun hc => ?_) (fun hc => ?_) <;> try simp [hc])
                  | (with_reducible refine GDsplitN (fun hc => ?_) (fun hc => ?_) <;> try simp [hc])
                  | (with_reducible refine GDsplitNB (fun hc => ?_) (fun hc => ?_) <;> try simp [hc])
                  | (with_reducible refine GDsplitB (fun hc => ?_) (fun hc => ?_) <;> try simp [hc])
                  | (with_reducible refine GKsplit (fun hc => ?_) (fun hc => ?_) <;> try simp [hc])
                  | (with_reducible refine GKsplitN (fun hc => ?_) (fun hc => ?_) <;> try simp [hc])
                  | (with_reducible refine GKsplitNB (fun hc => ?_) (fun hc => ?_) <;> try simp [hc])
                  | (with_reducible refine GKsplitB (fun hc => ?_) (fun hc => ?_) <;> try simp [hc])
                  | simp (disch := first | (with_reducible assumption) | (simp; done) | omega | (simp; omega)) [hv2, p11])
                exact hN2 (w2 - 1) _ _ (by omega) ⟨j + 1, v2, v11, Gq, by omega, by rw [e1]; exact ga, by rw [e2]; exact gb, by simp⟩
              · have e1 : (((LL s).take (j + 1)).filter fun x => decide (x.2 < y.2.2.1)) = (((LL s).take j).filter fun x => decide (x.2 < y.2.2.1)) := by rw [htk, List.filter_append]; simp [hxv]
                have e2 : (((LL s).take (j + 1)).filter fun x => !decide (x.2 < y.2.2.1)) = (((LL s).take j).filter fun x => !decide (x.2 < y.2.2.1)) ++ [x] := by rw [htk, List.filter_append]; simp [hxv]
                have hln1 : (((LL s).take j).filter fun x => !decide (x.2 < y.2.2.1)).length ≤ 1000 := Nat.le_trans (List.length_filter_le _ _) hln0
                repeat' (first
                  | refine awp_seqK fun K' hpK => ?_
                  | refine awp_block ?_
                  | refine awp_condG fun A' B' hpA hpB => ?_
                  | refine useK (by with_reducible assumption) ?_
                  | refine useP (by with_reducible assumption) ?_
                  | refine ED_cons (fun _ => ?_) ?_
                  | (refine stable_mk ?_; simp (disch := first | (with_reducible assumption) | (simp; done) | omega | (simp; omega)) [hjl, p10, p11, ofS_idx (f := cSP), cSP, ← hx, hxv]; done)
                  | (refine stable_no ?_; simp (disch := first | (with_reducible assumption) | (simp; done) | omega | (simp; omega)) [hjl, p10, p11, ofS_idx (f := cSP), cSP, ← hx, hxv]; done)
                  | (with_reducible refine And.intro ?_ ?_)
                  | (with_reducible intro hc; try (exfalso; omega))
                  | (with_reducible refine GDsplit (fun hc => ?_) (fun hc => ?_) <;> try simp [hc])
                  | (with_reducible refine GDsplitN (fun hc => ?_) (fun hc => ?_) <;> try simp [hc])
                  | (with_reducible refine GDsplitNB (fun hc => ?_) (fun hc => ?_) <;> try simp [hc])
                  | (with_reducible refine GDsplitB (fun hc => ?_) (fun hc => ?_) <;> try simp [hc])
                  | (with_reducible refine GKsplit (fun hc => ?_) (fun hc => ?_) <;> try simp [hc])
                  | (with_reducible refine GKsplitN (fun hc => ?_) (fun hc => ?_) <;> try simp [hc])
                  | (with_reducible refine GKsplitNB (fun hc => ?_) (fun hc => ?_) <;> try simp [hc])
                  | (with_reducible refine GKsplitB (fun hc => ?_) (fun hc => ?_) <;> try simp [hc])
                  | simp (disch := first | (with_reducible assumption) | (simp; done) | omega | (simp; omega)) [hjl, p10, p11, ofS_idx (f := cSP), cSP, ← hx, hxv])
                refine hg11.app1 (x := x) (by simp [cSP]) (by simp [cSP]) (by simp [LIM]; omega) (fun v2 G3 hg3 => ?_)
                have hv2 := hg3.plain
                repeat' (first
                  | refine awp_seqK fun K' hpK => ?_
                  | refine awp_block ?_
                  | refine awp_condG fun A' B' hpA hpB => ?_
                  | refine useK (by with_reducible assumption) ?_
                  | refine useP (by with_reducible assumption) ?_
                  | refine ED_cons (fun _ => ?_) ?_
                  | (refine stable_mk ?_; simp (disch := first | (with_reducible assumption) | (simp; done) | omega | (simp; omega)) [hv2, p10]; done)
                  | (refine stable_no ?_; simp (disch := first | (with_reducible assumption) | (simp; done) | omega | (simp; omega)) [hv2, p10]; done)
                  | (with_reducible refine And.intro ?_ ?_)
                  | (with_reducible intro hc; try (exfalso; omega))
                  | (with_reducible refine GDsplit (fun hc => ?_) (fun hc => ?_) <;> try simp [hc])
                  | (with_reducible refine GDsplitN (fun hc => ?_) (fun hc => ?_) <;> try simp [hc])
                  | (with_reducible refine GDsplitNB (fun hc => ?_) (fun hc => ?_) <;> try simp [hc])
                  | (with_reducible refine GDsplitB (fun hc => ?_) (fun hc => ?_) <;> try simp [hc])
                  | (with_reducible refine GKsplit (fun hc => ?_) (fun hc => ?_) <;> try simp [hc])
                  | (with_reducible refine GKsplitN (fun hc => ?_) (fun hc => ?_) <;> try simp [hc])
                  | (with_reducible refine GKsplitNB (fun hc => ?_) (fun hc => ?_) <;> try simp [hc])
                  | (with_reducible refine GKsplitB (fun hc => ?_) (fun hc => ?_) <;> try simp [hc])
                  | simp (disch := first | (with_reducible assumption) | (simp; done) | omega | (simp; omega)) [hv2, p10])
                exact hN2 (w2 - 1) _ _ (by omega) ⟨j + 1, v10, v2, Gm, by omega, by rw [e1]; exact hg10, by rw [e2]; exact hg3, by simp⟩
            · rw [List.take_of_length_le (by omega)] at hg10 hg11
              repeat' (first
                | refine awp_seqK fun K' hpK => ?_
                | refine awp_block ?_
                | refine awp_condG fun A' B' hpA hpB => ?_
                | refine useK (by with_reducible assumption) ?_
                | refine useP (by with_reducible assumption) ?_
                | refine ED_cons (fun _ => ?_) ?_
                | (refine stable_mk ?_; simp (disch := first | (with_reducible assumption) | (simp; done) | omega | (simp; omega)) [hjl, p10, p11]; done)
                | (refine stable_no ?_; simp (disch := first | (with_reducible assumption) | (simp; done) | omega | (simp; omega)) [hjl, p10, p11]; done)
                | (with_reducible refine And.intro ?_ ?_)
                | (with_reducible intro hc; try (exfalso; omega))
                | (with_reducible refine GDsplit (fun hc => ?_) (fun hc => ?_) <;> try simp [hc])
                | (with_reducible refine GDsplitN (fun hc => ?_) (fun hc => ?_) <;> try simp [hc])
                | (with_reducible refine GDsplitNB (fun hc => ?_) (fun hc => ?_) <;> try simp [hc])
                | (with_reducible refine GDsplitB (fun hc => ?_) (fun hc => ?_) <;> try simp [hc])
                | (with_reducible refine GKsplit (fun hc => ?_) (fun hc => ?_) <;> try simp [hc])
                | (with_reducible refine GKsplitN (fun hc => ?_) (fun hc => ?_) <;> try simp [hc])
                | (with_reducible refine GKsplitNB (fun hc => ?_) (fun hc => ?_) <;> try simp [hc])
                | (with_reducible refine GKsplitB (fun hc => ?_) (fun hc => ?_) <;> try simp [hc])
                | simp (disch := first | (with_reducible assumption) | (simp; done) | omega | (simp; omega)) [hjl, p10, p11])
              obtain ⟨s', h11, z11, sub11⟩ := hg11.frz (by simp)
              obtain ⟨s10, h10, z10, sub10⟩ := hg10.frz (by simp)
              refine awp_frz 11 (by simp) p11 sub11 z11 ?_
              refine awp_frz 10 (by simp) p10 sub10 z10 ?_
              refine awp_fz0 ?_
              repeat' (first
                | refine awp_seqK fun K' hpK => ?_
                | refine awp_block ?_
                | refine awp_condG fun A' B' hpA hpB => ?_
                | refine useK (by with_reducible assumption) ?_
                | refine useP (by with_reducible assumption) ?_
                | refine ED_cons (fun _ => ?_) ?_
                | (refine stable_mk ?_; simp (disch := first | (with_reducible assumption) | (simp; done) | omega | (simp; omega)); done)
                | (refine stable_no ?_; simp (disch := first | (with_reducible assumption) | (simp; done) | omega | (simp; omega)); done)
                | (with_reducible refine And.intro ?_ ?_)
                | (with_reducible intro hc; try (exfalso; omega))
                | (with_reducible refine GDsplit (fun hc => ?_) (fun hc => ?_) <;> try simp [hc])
                | (with_reducible refine GDsplitN (fun hc => ?_) (fun hc => ?_) <;> try simp [hc])
                | (with_reducible refine GDsplitNB (fun hc => ?_) (fun hc => ?_) <;> try simp [hc])
                | (with_reducible refine GDsplitB (fun hc => ?_) (fun hc => ?_) <;> try simp [hc])
                | (with_reducible refine GKsplit (fun hc => ?_) (fun hc => ?_) <;> try simp [hc])
                | (with_reducible refine GKsplitN (fun hc => ?_) (fun hc => ?_) <;> try simp [hc])
                | (with_reducible refine GKsplitNB (fun hc => ?_) (fun hc => ?_) <;> try simp [hc])
                | (with_reducible refine GKsplitB (fun hc => ?_) (fun hc => ?_) <;> try simp [hc])
                | (refine CallK.fr (dc) hdis ?_; rintro r h' hdis _ _ ⟨hs', vs, rfl, hvs⟩)
                | simp (disch := first | (with_reducible assumption) | (simp; done) | omega | (simp; omega)))
              have hl10 : (LL s10).length ≤ 1000 := by rw [h10]; exact Nat.le_trans (List.length_filter_le _ _) (by omega)
              refine CallK.use (kvals_c (s := s10) (by omega)) ?_
              rintro r Gz _ _ ⟨rfl, t, rfl, ht⟩
              repeat' (first
                | refine awp_seqK fun K' hpK => ?_
                | refine awp_block ?_
                | refine awp_condG fun A' B' hpA hpB => ?_
                | refine useK (by with_reducible assumption) ?_
                | refine useP (by with_reducible assumption) ?_
                | refine ED_cons (fun _ => ?_) ?_
                | (refine stable_mk ?_; simp (disch := first | (with_reducible assumption) | (simp; done) | omega | (simp; omega)); done)
                | (refine stable_no ?_; simp (disch := first | (with_reducible assumption) | (simp; done) | omega | (simp; omega)); done)
                | (with_reducible refine And.intro ?_ ?_)
                | (with_reducible intro hc; try (exfalso; omega))
                | (with_reducible refine GDsplit (fun hc => ?_) (fun hc => ?_) <;> try simp [hc])
                | (with_reducible refine GDsplitN (fun hc => ?_) (fun hc => ?_) <;> try simp [hc])
                | (with_reducible refine GDsplitNB (fun hc => ?_) (fun hc => ?_) <;> try simp [hc])
                | (with_reducible refine GDsplitB (fun hc => ?_) (fun hc => ?_) <;> try simp [hc])
                | (with_reducible refine GKsplit (fun hc => ?_) (fun hc => ?_) <;> try simp [hc])
                | (with_reducible refine GKsplitN (fun hc => ?_) (fun hc => ?_) <;> try simp [hc])
                | (with_reducible refine GKsplitNB (fun hc => ?_) (fun hc => ?_) <;> try simp [hc])
                | (with_reducible refine GKsplitB (fun hc => ?_) (fun hc => ?_) <;> try simp [hc])
                | (refine CallK.use (same_tP (a := vs) (b := t) (by rw [hvs, ht, h10]) (by rw [hvs, List.length_map]; exact Nat.le_trans (List.length_filter_le _ _) (by omega))) ?_; rintro r G' _ _ ⟨rfl, rfl⟩)
                | simp (disch := first | (with_reducible assumption) | (simp; done) | omega | (simp; omega)))
              rw [← h11] at hs'
              have hl' : (LL s').length ≤ (LL s).length + 1 := by rw [h11]; exact Nat.le_trans (List.length_filter_le _ _) (by omega)
              refine CallK.fr (keysPG hs' (by omega)) hdis ?_
              rintro got h3 hdis _ _ hg
              have hgp := Grow.plain hg
              rcases hg with ⟨rfl, hl0, rfl⟩ | ⟨b, τ, hb, rfl, rfl⟩
              · have hs0 : LL s' = [] := List.map_eq_nil_iff.1 hl0
                repeat' (first
                  | refine awp_seqK fun K' hpK => ?_
                  | refine awp_block ?_
                  | refine awp_condG fun A' B' hpA hpB => ?_
                  | refine useK (by with_reducible assumption) ?_
                  | refine useP (by with_reducible assumption) ?_
                  | refine ED_cons (fun _ => ?_) ?_
                  | (refine stable_mk ?_; simp (disch := first | (with_reducible assumption) | (simp; done) | omega | (simp; omega)) [hs0]; done)
                  | (refine stable_no ?_; simp (disch := first | (with_reducible assumption) | (simp; done) | omega | (simp; omega)) [hs0]; done)
                  | (with_reducible refine And.intro ?_ ?_)
                  | (with_reducible intro hc; try (exfalso; omega))
                  | (with_reducible refine GDsplit (fun hc => ?_) (fun hc => ?_) <;> try simp [hc])
                  | (with_reducible refine GDsplitN (fun hc => ?_) (fun hc => ?_) <;> try simp [hc])
                  | (with_reducible refine GDsplitNB (fun hc => ?_) (fun hc => ?_) <;> try simp [hc])
                  | (with_reducible refine GDsplitB (fun hc => ?_) (fun hc => ?_) <;> try simp [hc])
                  | (with_reducible refine GKsplit (fun hc => ?_) (fun hc => ?_) <;> try simp [hc])
                  | (with_reducible refine GKsplitN (fun hc => ?_) (fun hc => ?_) <;> try simp [hc])
                  | (with_reducible refine GKsplitNB (fun hc => ?_) (fun hc => ?_) <;> try simp [hc])
                  | (with_reducible refine GKsplitB (fun hc => ?_) (fun hc => ?_) <;> try simp [hc])
                  | (refine CallK.fr (lenP_c hs') hdis ?_; rintro r h' hdis _ _ ⟨rfl, rfl⟩)
                  | simp (disch := first | (with_reducible assumption) | (simp; done) | omega | (simp; omega)) [hs0])
                refine CallK.fr (valsP_c hs' (by omega)) hdis ?_
                rintro r h4 hdis _ _ ⟨rfl, t1, rfl, ht1⟩
                repeat' (first
                  | refine awp_seqK fun K' hpK => ?_
                  | refine awp_block ?_
                  | refine awp_condG fun A' B' hpA hpB => ?_
                  | refine useK (by with_reducible assumption) ?_
                  | refine useP (by with_reducible assumption) ?_
                  | refine ED_cons (fun _ => ?_) ?_
                  | (refine stable_mk ?_; simp (disch := first | (with_reducible assumption) | (simp; done) | omega | (simp; omega)) [hs0]; done)
                  | (refine stable_no ?_; simp (disch := first | (with_reducible assumption) | (simp; done) | omega | (simp; omega)) [hs0]; done)
                  | (with_reducible refine And.intro ?_ ?_)
                  | (with_reducible intro hc; try (exfalso; omega))
                  | (with_reducible refine GDsplit (fun hc => ?_) (fun hc => ?_) <;> try simp [hc])
                  | (with_reducible refine GDsplitN (fun hc => ?_) (fun hc => ?_) <;> try simp [hc])
                  | (with_reducible refine GDsplitNB (fun hc => ?_) (fun hc => ?_) <;> try simp [hc])
                  | (with_reducible refine GDsplitB (fun hc => ?_) (fun hc => ?_) <;> try simp [hc])
                  | (with_reducible refine GKsplit (fun hc => ?_) (fun hc => ?_) <;> try simp [hc])
                  | (with_reducible refine GKsplitN (fun hc => ?_) (fun hc => ?_) <;> try simp [hc])
                  | (with_reducible refine GKsplitNB (fun hc => ?_) (fun hc => ?_) <;> try simp [hc])
                  | (with_reducible refine GKsplitB (fun hc => ?_) (fun hc => ?_) <;> try simp [hc])
                  | simp (disch := first | (with_reducible assumption) | (simp; done) | omega | (simp; omega)) [hs0])
                refine CallK.use (kvals_c (s := s') (by omega)) ?_
                rintro r Gz _ _ ⟨rfl, t2, rfl, ht2⟩
                repeat' (first
                  | refine awp_seqK fun K' hpK => ?_
                  | refine awp_block ?_
                  | refine awp_condG fun A' B' hpA hpB => ?_
                  | refine useK (by with_reducible assumption) ?_
                  | refine useP (by with_reducible assumption) ?_
                  | refine ED_cons (fun _ => ?_) ?_
                  | (refine stable_mk ?_; simp (disch := first | (with_reducible assumption) | (simp; done) | omega | (simp; omega)) [hs0]; done)
                  | (refine stable_no ?_; simp (disch := first | (with_reducible assumption) | (simp; done) | omega | (simp; omega)) [hs0]; done)
                  | (with_reducible refine And.intro ?_ ?_)
                  | (with_reducible intro hc; try (exfalso; omega))
                  | (with_reducible refine GDsplit (fun hc => ?_) (fun hc => ?_) <;> try simp [hc])
                  | (with_reducible refine GDsplitN (fun hc => ?_) (fun hc => ?_) <;> try simp [hc])
                  | (with_reducible refine GDsplitNB (fun hc => ?_) (fun hc => ?_) <;> try simp [hc])
                  | (with_reducible refine GDsplitB (fun hc => ?_) (fun hc => ?_) <;> try simp [hc])
                  | (with_reducible refine GKsplit (fun hc => ?_) (fun hc => ?_) <;> try simp [hc])
                  | (with_reducible refine GKsplitN (fun hc => ?_) (fun hc => ?_) <;> try simp [hc])
                  | (with_reducible refine GKsplitNB (fun hc => ?_) (fun hc => ?_) <;> try simp [hc])
                  | (with_reducible refine GKsplitB (fun hc => ?_) (fun hc => ?_) <;> try simp [hc])
                  | (refine CallK.use (same_tP (a := t1) (b := t2) (by rw [ht1, ht2]) (by rw [ht1, List.length_map]; omega)) ?_; rintro r G' _ _ ⟨rfl, rfl⟩)
                  | simp (disch := first | (with_reducible assumption) | (simp; done) | omega | (simp; omega)) [hs0])
                refine awp_unroll 1 (unr_step fun M hM => ?_)
                repeat' (first
                  | refine awp_seqK fun K' hpK => ?_
                  | refine awp_block ?_
                  | refine awp_condG fun A' B' hpA hpB => ?_
                  | refine useK (by with_reducible assumption) ?_
                  | refine useP (by with_reducible assumption) ?_
                  | refine ED_cons (fun _ => ?_) ?_
                  | (refine stable_mk ?_; simp (disch := first | (with_reducible assumption) | (simp; done) | omega | (simp; omega)) [hs0]; done)
                  | (refine stable_no ?_; simp (disch := first | (with_reducible assumption) | (simp; done) | omega | (simp; omega)) [hs0]; done)
                  | (with_reducible refine And.intro ?_ ?_)
                  | (with_reducible intro hc; try (exfalso; omega))
                  | (with_reducible refine GDsplit (fun hc => ?_) (fun hc => ?_) <;> try simp [hc])
                  | (with_reducible refine GDsplitN (fun hc => ?_) (fun hc => ?_) <;> try simp [hc])
                  | (with_reducible refine GDsplitNB (fun hc => ?_) (fun hc => ?_) <;> try simp [hc])
                  | (with_reducible refine GDsplitB (fun hc => ?_) (fun hc => ?_) <;> try simp [hc])
                  | (with_reducible refine GKsplit (fun hc => ?_) (fun hc => ?_) <;> try simp [hc])
                  | (with_reducible refine GKsplitN (fun hc => ?_) (fun hc => ?_) <;> try simp [hc])
                  | (with_reducible refine GKsplitNB (fun hc => ?_) (fun hc => ?_) <;> try simp [hc])
                  | (with_reducible refine GKsplitB (fun hc => ?_) (fun hc => ?_) <;> try simp [hc])
                  | simp (disch := first | (with_reducible assumption) | (simp; done) | omega | (simp; omega)) [hs0])
                exact hN (w - 1) _ _ (by omega) ⟨k + 1, F, _, s', by omega, rfl, hdis, hs', by omega, by omega, by simp⟩
              · have hFb : F b = none := by
                  rcases hdis b with h | h
                  · exact h
                  · rw [setH_same] at h; cases h
                rw [uni_swap hFb, uni_swapF hb]
                have hdis1 : Dis (setH F b (some (τ, ((LL s').map Prod.fst).flatMap cKP))) h' := by
                  refine dis_set ?_ hb
                  intro i
                  rcases hdis i with h | h
                  · exact .inl h
                  · by_cases hi : i = b
                    · subst hi; exact .inr hb
                    · rw [setH_ne _ _ hi] at h; exact .inr h
                have hlen : ((LL s').map Prod.fst).length = (LL s').length := List.length_map ..
                repeat' (first
                  | refine awp_seqK fun K' hpK => ?_
                  | refine awp_block ?_
                  | refine awp_condG fun A' B' hpA hpB => ?_
                  | refine useK (by with_reducible assumption) ?_
                  | refine useP (by with_reducible assumption) ?_
                  | refine ED_cons (fun _ => ?_) ?_
                  | (refine stable_mk ?_; simp (disch := first | (with_reducible assumption) | (simp; done) | omega | (simp; omega)) [hlen]; done)
                  | (refine stable_no ?_; simp (disch := first | (with_reducible assumption) | (simp; done) | omega | (simp; omega)) [hlen]; done)
                  | (with_reducible refine And.intro ?_ ?_)
                  | (with_reducible intro hc; try (exfalso; omega))
                  | (with_reducible refine GDsplit (fun hc => ?_) (fun hc => ?_) <;> try simp [hc])
                  | (with_reducible refine GDsplitN (fun hc => ?_) (fun hc => ?_) <;> try simp [hc])
                  | (with_reducible refine GDsplitNB (fun hc => ?_) (fun hc => ?_) <;> try simp [hc])
                  | (with_reducible refine GDsplitB (fun hc => ?_) (fun hc => ?_) <;> try simp [hc])
                  | (with_reducible refine GKsplit (fun hc => ?_) (fun hc => ?_) <;> try simp [hc])
                  | (with_reducible refine GKsplitN (fun hc => ?_) (fun hc => ?_) <;> try simp [hc])
                  | (with_reducible refine GKsplitNB (fun hc => ?_) (fun hc => ?_) <;> try simp [hc])
                  | (with_reducible refine GKsplitB (fun hc => ?_) (fun hc => ?_) <;> try simp [hc])
                  | (refine CallK.fr (lenP_c hs') hdis1 ?_; rintro r h' hdis1 _ _ ⟨rfl, rfl⟩)
                  | simp (disch := first | (with_reducible assumption) | (simp; done) | omega | (simp; omega)) [hlen])
                refine CallK.fr (valsP_c hs' (by omega)) hdis1 ?_
                rintro r h4 hdis1 _ _ ⟨rfl, t1, rfl, ht1⟩
                repeat' (first
                  | refine awp_seqK fun K' hpK => ?_
                  | refine awp_block ?_
                  | refine awp_condG fun A' B' hpA hpB => ?_
                  | refine useK (by with_reducible assumption) ?_
                  | refine useP (by with_reducible assumption) ?_
                  | refine ED_cons (fun _ => ?_) ?_
                  | (refine stable_mk ?_; simp (disch := first | (with_reducible assumption) | (simp; done) | omega | (simp; omega)) [hlen]; done)
                  | (refine stable_no ?_; simp (disch := first | (with_reducible assumption) | (simp; done) | omega | (simp; omega)) [hlen]; done)
                  | (with_reducible refine And.intro ?_ ?_)
                  | (with_reducible intro hc; try (exfalso; omega))
                  | (with_reducible refine GDsplit (fun hc => ?_) (fun hc => ?_) <;> try simp [hc])
                  | (with_reducible refine GDsplitN (fun hc => ?_) (fun hc => ?_) <;> try simp [hc])
                  | (with_reducible refine GDsplitNB (fun hc => ?_) (fun hc => ?_) <;> try simp [hc])
                  | (with_reducible refine GDsplitB (fun hc => ?_) (fun hc => ?_) <;> try simp [hc])
                  | (with_reducible refine GKsplit (fun hc => ?_) (fun hc => ?_) <;> try simp [hc])
                  | (with_reducible refine GKsplitN (fun hc => ?_) (fun hc => ?_) <;> try simp [hc])
                  | (with_reducible refine GKsplitNB (fun hc => ?_) (fun hc => ?_) <;> try simp [hc])
                  | (with_reducible refine GKsplitB (fun hc => ?_) (fun hc => ?_) <;> try simp [hc])
                  | simp (disch := first | (with_reducible assumption) | (simp; done) | omega | (simp; omega)) [hlen])
                refine CallK.use (kvals_c (s := s') (by omega)) ?_
                rintro r Gz _ _ ⟨rfl, t2, rfl, ht2⟩
                repeat' (first
                  | refine awp_seqK fun K' hpK => ?_
                  | refine awp_block ?_
                  | refine awp_condG fun A' B' hpA hpB => ?_
                  | refine useK (by with_reducible assumption) ?_
                  | refine useP (by with_reducible assumption) ?_
                  | refine ED_cons (fun _ => ?_) ?_
                  | (refine stable_mk ?_; simp (disch := first | (with_reducible assumption) | (simp; done) | omega | (simp; omega)) [hlen]; done)
                  | (refine stable_no ?_; simp (disch := first | (with_reducible assumption) | (simp; done) | omega | (simp; omega)) [hlen]; done)
                  | (with_reducible refine And.intro ?_ ?_)
                  | (with_reducible intro hc; try (exfalso; omega))
                  | (with_reducible refine GDsplit (fun hc => ?_) (fun hc => ?_) <;> try simp [hc])
                  | (with_reducible refine GDsplitN (fun hc => ?_) (fun hc => ?_) <;> try simp [hc])
                  | (with_reducible refine GDsplitNB (fun hc => ?_) (fun hc => ?_) <;> try simp [hc])
                  | (with_reducible refine GDsplitB (fun hc => ?_) (fun hc => ?_) <;> try simp [hc])
                  | (with_reducible refine GKsplit (fun hc => ?_) (fun hc => ?_) <;> try simp [hc])
                  | (with_reducible refine GKsplitN (fun hc => ?_) (fun hc => ?_) <;> try simp [hc])
                  | (with_reducible refine GKsplitNB (fun hc => ?_) (fun hc => ?_) <;> try simp [hc])
                  | (with_reducible refine GKsplitB (fun hc => ?_) (fun hc => ?_) <;> try simp [hc])
                  | (refine CallK.use (same_tP (a := t1) (b := t2) (by rw [ht1, ht2]) (by rw [ht1, List.length_map]; omega)) ?_; rintro r G' _ _ ⟨rfl, rfl⟩)
                  | simp (disch := first | (with_reducible assumption) | (simp; done) | omega | (simp; omega)) [hlen])
                have dropset : ∀ (cs : List AV) (j : Nat) (v : AV), j < cs.length → (List.take j cs ++ v :: List.drop (j + 1) cs).drop (j + 1) = cs.drop (j + 1) := by
                  intro cs j v hj; rw [tset hj, List.drop_set_of_lt (by omega)]
                refine awp_loop' (fun v T G' => ∃ (j : Nat) (F2 : Hp) (cs : List AV), j + v = (LL s').length ∧ G' = uni F2 h4 ∧ Dis F2 h4 ∧ F2 b = some (τ, cs) ∧ cs.length = (LL s').length ∧ cs.drop j = (((LL s').map Prod.fst).flatMap cKP).drop j ∧ T = ofL [(0, .int .i64 mx), (5, .ptr sb 0), (6, ofS cSP s'), (7, .bool true), (14, .ms b 0 (LL s').length 1), (22, ofS cT l), (23, .int .i64 (LL l).length), (24, .int .i64 k), (107, .int .i64 (LL s').length), (108, .int .i64 j)]) (LL s').length ⟨0, _, _, by omega, rfl, hdis1, setH_same .., flatP_len _, rfl, by simp [hlen]⟩ ?_
                rintro v T G' ⟨j, F2, cs, hj, rfl, hdis2, hF2, hcs, hcd, rfl⟩ M hM
                have hG2 : uni F2 h4 b = some (τ, cs) := uni_left hF2
                by_cases hjl : j < (LL s').length
                · obtain ⟨x, hx⟩ : ∃ x, x = (LL s')[j] := ⟨_, rfl⟩
                  have hjc : j < cs.length := by omega
                  rw [cutP_fst hjl, ← hx] at hcd
                  have hfit : j + [AV.str ⟨#[122, 122]⟩].length ≤ cs.length := by simp; omega
                  have h2L : 2 ≤ LIM := by simp [LIM]
                  repeat' (first
                    | refine awp_seqK fun K' hpK => ?_
                    | refine awp_block ?_
                    | refine awp_condG fun A' B' hpA hpB => ?_
                    | refine useK (by with_reducible assumption) ?_
                    | refine useP (by with_reducible assumption) ?_
                    | refine ED_cons (fun _ => ?_) ?_
                    | (refine stable_mk ?_; simp (disch := first | (with_reducible assumption) | (simp; done) | omega | (simp; omega)) [hjl, hG2, hcd, hfit, hjc, h2L, ofS_idx (f := cSP), cSP, ← hx]; done)
                    | (refine stable_no ?_; simp (disch := first | (with_reducible assumption) | (simp; done) | omega | (simp; omega)) [hjl, hG2, hcd, hfit, hjc, h2L, ofS_idx (f := cSP), cSP, ← hx]; done)
                    | (with_reducible refine And.intro ?_ ?_)
                    | (with_reducible intro hc; try (exfalso; omega))
                    | (with_reducible refine GDsplit (fun hc => ?_) (fun hc => ?_) <;> try simp [hc])
                    | (with_reducible refine GDsplitN (fun hc => ?_) (fun hc => ?_) <;> try simp [hc])
                    | (with_reducible refine GDsplitNB (fun hc => ?_) (fun hc => ?_) <;> try simp [hc])
                    | (with_reducible refine GDsplitB (fun hc => ?_) (fun hc => ?_) <;> try simp [hc])
                    | (with_reducible refine GKsplit (fun hc => ?_) (fun hc => ?_) <;> try simp [hc])
                    | (with_reducible refine GKsplitN (fun hc => ?_) (fun hc => ?_) <;> try simp [hc])
                    | (with_reducible refine GKsplitNB (fun hc => ?_) (fun hc => ?_) <;> try simp [hc])
                    | (with_reducible refine GKsplitB (fun hc => ?_) (fun hc => ?_) <;> try simp [hc])
                    | simp (disch := first | (with_reducible assumption) | (simp; done) | omega | (simp; omega)) [hjl, hG2, hcd, hfit, hjc, h2L, ofS_idx (f := cSP), cSP, ← hx])
                  rw [uni_swapF hb]
                  refine hM (v - 1) _ _ (by omega) ⟨j + 1, _, _, by omega, rfl, dis_set hdis2 hb, setH_same .., ?_, ?_, by simp⟩
                  · simp; omega
                  · have hcd2 : cs.drop (j + 1) = (((LL s').map Prod.fst).flatMap cKP).drop (j + 1) := by
                      have := congrArg List.tail hcd
                      simpa using this
                    rw [← hcd2]
                    exact dropset _ _ _ hjc
                · repeat' (first
                    | refine awp_seqK fun K' hpK => ?_
                    | refine awp_block ?_
                    | refine awp_condG fun A' B' hpA hpB => ?_
                    | refine useK (by with_reducible assumption) ?_
                    | refine useP (by with_reducible assumption) ?_
                    | refine ED_cons (fun _ => ?_) ?_
                    | (refine stable_mk ?_; simp (disch := first | (with_reducible assumption) | (simp; done) | omega | (simp; omega)) [hjl]; done)
                    | (refine stable_no ?_; simp (disch := first | (with_reducible assumption) | (simp; done) | omega | (simp; omega)) [hjl]; done)
                    | (with_reducible refine And.intro ?_ ?_)
                    | (with_reducible intro hc; try (exfalso; omega))
                    | (with_reducible refine GDsplit (fun hc => ?_) (fun hc => ?_) <;> try simp [hc])
                    | (with_reducible refine GDsplitN (fun hc => ?_) (fun hc => ?_) <;> try simp [hc])
                    | (with_reducible refine GDsplitNB (fun hc => ?_) (fun hc => ?_) <;> try simp [hc])
                    | (with_reducible refine GDsplitB (fun hc => ?_) (fun hc => ?_) <;> try simp [hc])
                    | (with_reducible refine GKsplit (fun hc => ?_) (fun hc => ?_) <;> try simp [hc])
                    | (with_reducible refine GKsplitN (fun hc => ?_) (fun hc => ?_) <;> try simp [hc])
                    | (with_reducible refine GKsplitNB (fun hc => ?_) (fun hc => ?_) <;> try simp [hc])
                    | (with_reducible refine GKsplitB (fun hc => ?_) (fun hc => ?_) <;> try simp [hc])
                    | simp (disch := first | (with_reducible assumption) | (simp; done) | omega | (simp; omega)) [hjl])
                  exact hN (w - 1) _ _ (by omega) ⟨k + 1, F2, h4, s', by omega, rfl, hdis2, hs', by omega, by omega, by simp⟩
          · repeat' (first
              | refine awp_seqK fun K' hpK => ?_
              | refine awp_block ?_
              | refine awp_condG fun A' B' hpA hpB => ?_
              | refine useK (by with_reducible assumption) ?_
              | refine useP (by with_reducible assumption) ?_
              | refine ED_cons (fun _ => ?_) ?_
              | (refine stable_mk ?_; simp (disch := first | (with_reducible assumption) | (simp; done) | omega | (simp; omega)) [hkl, h40, ofS_idx (f := cT), cT, toCl_eq, ← hy, h6, n4]; done)
              | (refine stable_no ?_; simp (disch := first | (with_reducible assumption) | (simp; done) | omega | (simp; omega)) [hkl, h40, ofS_idx (f := cT), cT, toCl_eq, ← hy, h6, n4]; done)
              | (with_reducible refine And.intro ?_ ?_)
              | (with_reducible intro hc; try (exfalso; omega))
              | (with_reducible refine GDsplit (fun hc => ?_) (fun hc => ?_) <;> try simp [hc])
              | (with_reducible refine GDsplitN (fun hc => ?_) (fun hc => ?_) <;> try simp [hc])
              | (with_reducible refine GDsplitNB (fun hc => ?_) (fun hc => ?_) <;> try simp [hc])
              | (with_reducible refine GDsplitB (fun hc => ?_) (fun hc => ?_) <;> try simp [hc])
              | (with_reducible refine GKsplit (fun hc => ?_) (fun hc => ?_) <;> try simp [hc])
              | (with_reducible refine GKsplitN (fun hc => ?_) (fun hc => ?_) <;> try simp [hc])
              | (with_reducible refine GKsplitNB (fun hc => ?_) (fun hc => ?_) <;> try simp [hc])
              | (with_reducible refine GKsplitB (fun hc => ?_) (fun hc => ?_) <;> try simp [hc])
              | simp (disch := first | (with_reducible assumption) | (simp; done) | omega | (simp; omega)) [hkl, h40, ofS_idx (f := cT), cT, toCl_eq, ← hy, h6, n4])
            refine awp_loop' (fun w2 T2 G2 => ∃ (j : Nat) (v10 v11 : AV) (Gm : Hp), j + w2 = (LL s).length ∧ Grow cSP 2 (uni F h) Gm v10 (((LL s).take j).filter fun x => decide (x.2 < y.2.2.1)) ∧ Grow cSP 2 Gm G2 v11 (((LL s).take j).filter fun x => !decide (x.2 < y.2.2.1)) ∧ T2 = ofL [(0, .int .i64 mx), (5, .ptr sb 0), (9, .box [.int .i64 4, .int .i64 y.2.1, .int .i64 y.2.2.1, .int .i64 y.2.2.2.1, .str y.2.2.2.2.1, .str y.2.2.2.2.2.1]), (10, v10), (11, v11), (22, ofS cT l), (23, .int .i64 (LL l).length), (24, .int .i64 k), (46, ofS cSP s), (47, .int .i64 (LL s).length), (48, .int .i64 j)]) (LL s).length ⟨0, .nils, .nils, _, by omega, Grow.nil _ _, Grow.nil _ _, by simp⟩ ?_
            rintro w2 T2 G2 ⟨j, v10, v11, Gm, hj, hg10, hg11, rfl⟩ N2 hN2
            have p10 := hg10.plain
            have p11 := hg11.plain
            by_cases hjl : j < (LL s).length
            · repeat' (first
                | refine awp_seqK fun K' hpK => ?_
                | refine awp_block ?_
                | refine awp_condG fun A' B' hpA hpB => ?_
                | refine useK (by with_reducible assumption) ?_
                | refine useP (by with_reducible assumption) ?_
                | refine ED_cons (fun _ => ?_) ?_
                | (refine stable_mk ?_; simp (disch := first | (with_reducible assumption) | (simp; done) | omega | (simp; omega)) [hjl, p10, p11]; done)
                | (refine stable_no ?_; simp (disch := first | (with_reducible assumption) | (simp; done) | omega | (simp; omega)) [hjl, p10, p11]; done)
                | (with_reducible refine And.intro ?_ ?_)
                | (with_reducible intro hc; try (exfalso; omega))
                | (with_reducible refine GDsplit (fun hc => ?_) (fun hc => ?_) <;> try simp [hc])
                | (with_reducible refine GDsplitN (fun hc => ?_) (fun hc => ?_) <;> try simp [hc])
                | (with_reducible refine GDsplitNB (fun hc => ?_) (fun hc => ?_) <;> try simp [hc])
                | (with_reducible refine GDsplitB (fun hc => ?_) (fun hc => ?_) <;> try simp [hc])
                | (with_reducible refine GKsplit (fun hc => ?_) (fun hc => ?_) <;> try simp [hc])
                | (with_reducible refine GKsplitN (fun hc => ?_) (fun hc => ?_) <;> try simp [hc])
                | (with_reducible refine GKsplitNB (fun hc => ?_) (fun hc => ?_) <;> try simp [hc])
                | (with_reducible refine GKsplitB (fun hc => ?_) (fun hc => ?_) <;> try simp [hc])
                | simp (disch := first | (with_reducible assumption) | (simp; done) | omega | (simp; omega)) [hjl, p10, p11])
              refine awp_fz0 ?_
              obtain ⟨x, hx⟩ : ∃ x, x = (LL s)[j] := ⟨_, rfl⟩
              have htk := take_succ_get (LL s) j hjl
              rw [← hx] at htk
              have hln0 : ((LL s).take j).length ≤ 1000 := by rw [List.length_take]; omega
              by_cases hxv : x.2 < y.2.2.1
              · have e1 : (((LL s).take (j + 1)).filter fun x => decide (x.2 < y.2.2.1)) = (((LL s).take j).filter fun x => decide (x.2 < y.2.2.1)) ++ [x] := by rw [htk, List.filter_append]; simp [hxv]
                have e2 : (((LL s).take (j + 1)).filter fun x => !decide (x.2 < y.2.2.1)) = ((LL s).take j).filter fun x => !decide (x.2 < y.2.2.1) := by rw [htk, List.filter_append]; simp [hxv]
                have hln1 : (((LL s).take j).filter fun x => decide (x.2 < y.2.2.1)).length ≤ 1000 := Nat.le_trans (List.length_filter_le _ _) hln0
                repeat' (first
                  | refine awp_seqK fun K' hpK => ?_
                  | refine awp_block ?_
                  | refine awp_condG fun A' B' hpA hpB => ?_
                  | refine useK (by with_reducible assumption) ?_
                  | refine useP (by with_reducible assumption) ?_
                  | refine ED_cons (fun _ => ?_) ?_
                  | (refine stable_mk ?_; simp (disch := first | (with_reducible assumption) | (simp; done) | omega | (simp; omega)) [hjl, p10, p11, ofS_idx (f := cSP), cSP, ← hx, hxv]; done)
                  | (refine stable_no ?_; simp (disch := first | (with_reducible assumption) | (simp; done) | omega | (simp; omega)) [hjl, p10, p11, ofS_idx (f := cSP), cSP, ← hx, hxv]; done)
                  | (with_reducible refine And.intro ?_ ?_)
                  | (with_reducible intro hc; try (exfalso; omega))
                  | (with_reducible refine GDsplit (fun hc => ?_) (fun hc => ?_) <;> try simp [hc])
                  | (with_reducible refine GDsplitN (fun hc => ?_) (fun hc => ?_) <;> try simp [hc])
                  | (with_reducible refine GDsplitNB (fun hc => ?_) (fun hc => ?_) <;> try simp [hc])
                  | (with_reducible refine GDsplitB (fun hc => ?_) (fun hc => ?_) <;> try simp [hc])
                  | (with_reducible refine GKsplit (fun hc => ?_) (fun hc => ?_) <;> try simp [hc])
                  | (with_reducible refine GKsplitN (fun hc => ?_) (fun hc => ?_) <;> try simp [hc])
                  | (with_reducible refine GKsplitNB (fun hc => ?_) (fun hc => ?_) <;> try simp [hc])
                  | (with_reducible refine GKsplitB (fun hc => ?_) (fun hc => ?_) <;> try simp [hc])
                  | simp (disch := first | (with_reducible assumption) | (simp; done) | omega | (simp; omega)) [hjl, p10, p11, ofS_idx (f := cSP), cSP, ← hx, hxv])
                obtain ⟨Gn, hg11', hg10'⟩ := hg10.swap hg11
                refine hg10'.app1 (x := x) (by simp [cSP]) (by simp [cSP]) (by simp [LIM]; omega) (fun v2 G3 hg3 => ?_)
                have hv2 := hg3.plain
                obtain ⟨Gq, ga, gb⟩ := hg11'.swap hg3
                repeat' (first
                  | refine awp_seqK fun K' hpK => ?_
                  | refine awp_block ?_
                  | refine awp_condG fun A' B' hpA hpB => ?_
                  | refine useK (by with_reducible assumption) ?_
                  | refine useP (by with_reducible assumption) ?_
                  | refine ED_cons (fun _ => ?_) ?_
                  | (refine stable_mk ?_; simp (disch := first | (with_reducible assumption) | (simp; done) | omega | (simp; omega)) [hv2, p11]; done)
                  | (refine stable_no ?_; simp (disch := first | (with_reducible assumption) | (simp; done) | omega | (simp; omega)) [hv2, p11]; done)
                  | (with_reducible refine And.intro ?_ ?_)
                  | (with_reducible intro hc; try (exfalso; omega))
                  | (with_reducible refine GDsplit (fun hc => ?_) (fun hc => ?_) <;> try simp [hc])
                  | (with_reducible refine GDsplitN (fun hc => ?_) (fun hc => ?_) <;> try simp [hc])
                  | (with_reducible refine GDsplitNB (fun hc => ?_) (fun hc => ?_) <;> try simp [hc])
                  | (with_reducible refine GDsplitB (fun hc => ?_) (fun hc => ?_) <;> try simp [hc])
                  | (with_reducible refine GKsplit (fun hc => ?_) (fun hc => ?_) <;> try simp [hc])
                  | (with_reducible refine GKsplitN (fun hc => ?_) (fun hc => ?_) <;> try simp [hc])
                  | (with_reducible refine GKsplitNB (fun hc => ?_) (fun hc => ?_) <;> try simp [hc])
                  | (with_reducible refine GKsplitB (fun hc => ?_) (fun hc => ?_) <;> try simp [hc])
                  | simp (disch := first | (with_reducible assumption) | (simp; done) | omega | (simp; omega)) [hv2, p11])
                exact hN2 (w2 - 1) _ _ (by omega) ⟨j + 1, v2, v11, Gq, by omega, by rw [e1]; exact ga, by rw [e2]; exact gb, by simp⟩
              · have e1 : (((LL s).take (j + 1)).filter fun x => decide (x.2 < y.2.2.1)) = (((LL s).take j).filter fun x => decide (x.2 < y.2.2.1)) := by rw [htk, List.filter_append]; simp [hxv]
                have e2 : (((LL s).take (j + 1)).filter fun x => !decide (x.2 < y.2.2.1)) = (((LL s).take j).filter fun x => !decide (x.2 < y.2.2.1)) ++ [x] := by rw [htk, List.filter_append]; simp [hxv]
                have hln1 : (((LL s).take j).filter fun x => !decide (x.2 < y.2.2.1)).length ≤ 1000 := Nat.le_trans (List.length_filter_le _ _) hln0
                repeat' (first
                  | refine awp_seqK fun K' hpK => ?_
                  | refine awp_block ?_
                  | refine awp_condG fun A' B' hpA hpB => ?_
                  | refine useK (by with_reducible assumption) ?_
                  | refine useP (by with_reducible assumption) ?_
                  | refine ED_cons (fun _ => ?_) ?_
                  | (refine stable_mk ?_; simp (disch := first | (with_reducible assumption) | (simp; done) | omega | (simp; omega)) [hjl, p10, p11, ofS_idx (f := cSP), cSP, ← hx, hxv]; done)
                  | (refine stable_no ?_; simp (disch := first | (with_reducible assumption) | (simp; done) | omega | (simp; omega)) [hjl, p10, p11, ofS_idx (f := cSP), cSP, ← hx, hxv]; done)
                  | (with_reducible refine And.intro ?_ ?_)
                  | (with_reducible intro hc; try (exfalso; omega))
                  | (with_reducible refine GDsplit (fun hc => ?_) (fun hc => ?_) <;> try simp [hc])
                  | (with_reducible refine GDsplitN (fun hc => ?_) (fun hc => ?_) <;> try simp [hc])
                  | (with_reducible refine GDsplitNB (fun hc => ?_) (fun hc => ?_) <;> try simp [hc])
                  | (with_reducible refine GDsplitB (fun hc => ?_) (fun hc => ?_) <;> try simp [hc])
                  | (with_reducible refine GKsplit (fun hc => ?_) (fun hc => ?_) <;> try simp [hc])
                  | (with_reducible refine GKsplitN (fun hc => ?_) (fun hc => ?_) <;> try simp [hc])
                  | (with_reducible refine GKsplitNB (fun hc => ?_) (fun hc => ?_) <;> try simp [hc])
                  | (with_reducible refine GKsplitB (fun hc => ?_) (fun hc => ?_) <;> try simp [hc])
                  | simp (disch := first | (with_reducible assumption) | (simp; done) | omega | (simp; omega)) [hjl, p10, p11, ofS_idx (f := cSP), cSP, ← hx, hxv])
                refine hg11.app1 (x := x) (by simp [cSP]) (by simp [cSP]) (by simp [LIM]; omega) (fun v2 G3 hg3 => ?_)
                have hv2 := hg3.plain
                repeat' (first
                  | refine awp_seqK fun K' hpK => ?_
                  | refine awp_block ?_
                  | refine awp_condG fun A' B' hpA hpB => ?_
                  | refine useK (by with_reducible assumption) ?_
                  | refine useP (by with_reducible assumption) ?_
                  | refine ED_cons (fun _ => ?_) ?_
                  | (refine stable_mk ?_; simp (disch := first | (with_reducible assumption) | (simp; done) | omega | (simp; omega)) [hv2, p10]; done)
                  | (refine stable_no ?_; simp (disch := first | (with_reducible assumption) | (simp; done) | omega | (simp; omega)) [hv2, p10]; done)
                  | (with_reducible refine And.intro ?_ ?_)
                  | (with_reducible intro hc; try (exfalso; omega))
                  | (with_reducible refine GDsplit (fun hc => ?_) (fun hc => ?_) <;> try simp [hc])
                  | (with_reducible refine GDsplitN (fun hc => ?_) (fun hc => ?_) <;> try simp [hc])
                  | (with_reducible refine GDsplitNB (fun hc => ?_) (fun hc => ?_) <;> try simp [hc])
                  | (with_reducible refine GDsplitB (fun hc => ?_) (fun hc => ?_) <;> try simp [hc])
                  | (with_reducible refine GKsplit (fun hc => ?_) (fun hc => ?_) <;> try simp [hc])
                  | (with_reducible refine GKsplitN (fun hc => ?_) (fun hc => ?_) <;> try simp [hc])
                  | (with_reducible refine GKsplitNB (fun hc => ?_) (fun hc => ?_) <;> try simp [hc])
                  | (with_reducible refine GKsplitB (fun hc => ?_) (fun hc => ?_) <;> try simp [hc])
                  | simp (disch := first | (with_reducible assumption) | (simp; done) | omega | (simp; omega)) [hv2, p10])
                exact hN2 (w2 - 1) _ _ (by omega) ⟨j + 1, v10, v2, Gm, by omega, by rw [e1]; exact hg10, by rw [e2]; exact hg3, by simp⟩
            · rw [List.take_of_length_le (by omega)] at hg10 hg11
              repeat' (first
                | refine awp_seqK fun K' hpK => ?_
                | refine awp_block ?_
                | refine awp_condG fun A' B' hpA hpB => ?_
                | refine useK (by with_reducible assumption) ?_
                | refine useP (by with_reducible assumption) ?_
                | refine ED_cons (fun _ => ?_) ?_
                | (refine stable_mk ?_; simp (disch := first | (with_reducible assumption) | (simp; done) | omega | (simp; omega)) [hjl, p10, p11]; done)
                | (refine stable_no ?_; simp (disch := first | (with_reducible assumption) | (simp; done) | omega | (simp; omega)) [hjl, p10, p11]; done)
                | (with_reducible refine And.intro ?_ ?_)
                | (with_reducible intro hc; try (exfalso; omega))
                | (with_reducible refine GDsplit (fun hc => ?_) (fun hc => ?_) <;> try simp [hc])
                | (with_reducible refine GDsplitN (fun hc => ?_) (fun hc => ?_) <;> try simp [hc])
                | (with_reducible refine GDsplitNB (fun hc => ?_) (fun hc => ?_) <;> try simp [hc])
                | (with_reducible refine GDsplitB (fun hc => ?_) (fun hc => ?_) <;> try simp [hc])
                | (with_reducible refine GKsplit (fun hc => ?_) (fun hc => ?_) <;> try simp [hc])
                | (with_reducible refine GKsplitN (fun hc => ?_) (fun hc => ?_) <;> try simp [hc])
                | (with_reducible refine GKsplitNB (fun hc => ?_) (fun hc => ?_) <;> try simp [hc])
                | (with_reducible refine GKsplitB (fun hc => ?_) (fun hc => ?_) <;> try simp [hc])
                | simp (disch := first | (with_reducible assumption) | (simp; done) | omega | (simp; omega)) [hjl, p10, p11])
              obtain ⟨s', h11, z11, sub11⟩ := hg11.frz (by simp)
              obtain ⟨s10, h10, z10, sub10⟩ := hg10.frz (by simp)
              refine awp_frz 11 (by simp) p11 sub11 z11 ?_
              refine awp_frz 10 (by simp) p10 sub10 z10 ?_
              refine awp_fz0 ?_
              repeat' (first
                | refine awp_seqK fun K' hpK => ?_
                | refine awp_block ?_
                | refine awp_condG fun A' B' hpA hpB => ?_
                | refine useK (by with_reducible assumption) ?_
                | refine useP (by with_reducible assumption) ?_
                | refine ED_cons (fun _ => ?_) ?_
                | (refine stable_mk ?_; simp (disch := first | (with_reducible assumption) | (simp; done) | omega | (simp; omega)); done)
                | (refine stable_no ?_; simp (disch := first | (with_reducible assumption) | (simp; done) | omega | (simp; omega)); done)
                | (with_reducible refine And.intro ?_ ?_)
                | (with_reducible intro hc; try (exfalso; omega))
                | (with_reducible refine GDsplit (fun hc => ?_) (fun hc => ?_) <;> try simp [hc])
                | (with_reducible refine GDsplitN (fun hc => ?_) (fun hc => ?_) <;> try simp [hc])
                | (with_reducible refine GDsplitNB (fun hc => ?_) (fun hc => ?_) <;> try simp [hc])
                | (with_reducible refine GDsplitB (fun hc => ?_) (fun hc => ?_) <;> try simp [hc])
                | (with_reducible refine GKsplit (fun hc => ?_) (fun hc => ?_) <;> try simp [hc])
                | (with_reducible refine GKsplitN (fun hc => ?_) (fun hc => ?_) <;> try simp [hc])
                | (with_reducible refine GKsplitNB (fun hc => ?_) (fun hc => ?_) <;> try simp [hc])
                | (with_reducible refine GKsplitB (fun hc => ?_) (fun hc => ?_) <;> try simp [hc])
                | (refine CallK.fr (dc) hdis ?_; rintro r h' hdis _ _ ⟨hs', vs, rfl, hvs⟩)
                | simp (disch := first | (with_reducible assumption) | (simp; done) | omega | (simp; omega)))
              have hl10 : (LL s10).length ≤ 1000 := by rw [h10]; exact Nat.le_trans (List.length_filter_le _ _) (by omega)
              refine CallK.use (kvals_c (s := s10) (by omega)) ?_
              rintro r Gz _ _ ⟨rfl, t, rfl, ht⟩
              repeat' (first
                | refine awp_seqK fun K' hpK => ?_
                | refine awp_block ?_
                | refine awp_condG fun A' B' hpA hpB => ?_
                | refine useK (by with_reducible assumption) ?_
                | refine useP (by with_reducible assumption) ?_
                | refine ED_cons (fun _ => ?_) ?_
                | (refine stable_mk ?_; simp (disch := first | (with_reducible assumption) | (simp; done) | omega | (simp; omega)); done)
                | (refine stable_no ?_; simp (disch := first | (with_reducible assumption) | (simp; done) | omega | (simp; omega)); done)
                | (with_reducible refine And.intro ?_ ?_)
                | (with_reducible intro hc; try (exfalso; omega))
                | (with_reducible refine GDsplit (fun hc => ?_) (fun hc => ?_) <;> try simp [hc])
                | (with_reducible refine GDsplitN (fun hc => ?_) (fun hc => ?_) <;> try simp [hc])
                | (with_reducible refine GDsplitNB (fun hc => ?_) (fun hc => ?_) <;> try simp [hc])
                | (with_reducible refine GDsplitB (fun hc => ?_) (fun hc => ?_) <;> try simp [hc])
                | (with_reducible refine GKsplit (fun hc => ?_) (fun hc => ?_) <;> try simp [hc])
                | (with_reducible refine GKsplitN (fun hc => ?_) (fun hc => ?_) <;> try simp [hc])
                | (with_reducible refine GKsplitNB (fun hc => ?_) (fun hc => ?_) <;> try simp [hc])
                | (with_reducible refine GKsplitB (fun hc => ?_) (fun hc => ?_) <;> try simp [hc])
                | (refine CallK.use (same_tP (a := vs) (b := t) (by rw [hvs, ht, h10]) (by rw [hvs, List.length_map]; exact Nat.le_trans (List.length_filter_le _ _) (by omega))) ?_; rintro r G' _ _ ⟨rfl, rfl⟩)
                | simp (disch := first | (with_reducible assumption) | (simp; done) | omega | (simp; omega)))
              rw [← h11] at hs'
              have hl' : (LL s').length ≤ (LL s).length + 1 := by rw [h11]; exact Nat.le_trans (List.length_filter_le _ _) (by omega)
              refine CallK.fr (keysPG hs' (by omega)) hdis ?_
              rintro got h3 hdis _ _ hg
              have hgp := Grow.plain hg
              rcases hg with ⟨rfl, hl0, rfl⟩ | ⟨b, τ, hb, rfl, rfl⟩
              · have hs0 : LL s' = [] := List.map_eq_nil_iff.1 hl0
                repeat' (first
                  | refine awp_seqK fun K' hpK => ?_
                  | refine awp_block ?_
                  | refine awp_condG fun A' B' hpA hpB => ?_
                  | refine useK (by with_reducible assumption) ?_
                  | refine useP (by with_reducible assumption) ?_
                  | refine ED_cons (fun _ => ?_) ?_
                  | (refine stable_mk ?_; simp (disch := first | (with_reducible assumption) | (simp; done) | omega | (simp; omega)) [hs0]; done)
                  | (refine stable_no ?_; simp (disch := first | (with_reducible assumption) | (simp; done) | omega | (simp; omega)) [hs0]; done)
                  | (with_reducible refine And.intro ?_ ?_)
                  | (with_reducible intro hc; try (exfalso; omega))
                  | (with_reducible refine GDsplit (fun hc => ?_) (fun hc => ?_) <;> try simp [hc])
                  | (with_reducible refine GDsplitN (fun hc => ?_) (fun hc => ?_) <;> try simp [hc])
                  | (with_reducible refine GDsplitNB (fun hc => ?_) (fun hc => ?_) <;> try simp [hc])
                  | (with_reducible refine GDsplitB (fun hc => ?_) (fun hc => ?_) <;> try simp [hc])
                  | (with_reducible refine GKsplit (fun hc => ?_) (fun hc => ?_) <;> try simp [hc])
                  | (with_reducible refine GKsplitN (fun hc => ?_) (fun hc => ?_) <;> try simp [hc])
                  | (with_reducible refine GKsplitNB (fun hc => ?_) (fun hc => ?_) <;> try simp [hc])
                  | (with_reducible refine GKsplitB (fun hc => ?_) (fun hc => ?_) <;> try simp [hc])
                  | (refine CallK.fr (lenP_c hs') hdis ?_; rintro r h' hdis _ _ ⟨rfl, rfl⟩)
                  | simp (disch := first | (with_reducible assumption) | (simp; done) | omega | (simp; omega)) [hs0])
                refine CallK.fr (valsP_c hs' (by omega)) hdis ?_
                rintro r h4 hdis _ _ ⟨rfl, t1, rfl, ht1⟩
                repeat' (first
                  | refine awp_seqK fun K' hpK => ?_
                  | refine awp_block ?_
                  | refine awp_condG fun A' B' hpA hpB => ?_
                  | refine useK (by with_reducible assumption) ?_
                  | refine useP (by with_reducible assumption) ?_
                  | refine ED_cons (fun _ => ?_) ?_
                  | (refine stable_mk ?_; simp (disch := first | (with_reducible assumption) | (simp; done) | omega | (simp; omega)) [hs0]; done)
                  | (refine stable_no ?_; simp (disch := first | (with_reducible assumption) | (simp; done) | omega | (simp; omega)) [hs0]; done)
                  | (with_reducible refine And.intro ?_ ?_)
                  | (with_reducible intro hc; try (exfalso; omega))
                  | (with_reducible refine GDsplit (fun hc => ?_) (fun hc => ?_) <;> try simp [hc])
                  | (with_reducible refine GDsplitN (fun hc => ?_) (fun hc => ?_) <;> try simp [hc])
                  | (with_reducible refine GDsplitNB (fun hc => ?_) (fun hc => ?_) <;> try simp [hc])
                  | (with_reducible refine GDsplitB (fun hc => ?_) (fun hc => ?_) <;> try simp [hc])
                  | (with_reducible refine GKsplit (fun hc => ?_) (fun hc => ?_) <;> try simp [hc])
                  | (with_reducible refine GKsplitN (fun hc => ?_) (fun hc => ?_) <;> try simp [hc])
                  | (with_reducible refine GKsplitNB (fun hc => ?_) (fun hc => ?_) <;> try simp [hc])
                  | (with_reducible refine GKsplitB (fun hc => ?_) (fun hc => ?_) <;> try simp [hc])
                  | simp (disch := first | (with_reducible assumption) | (simp; done) | omega | (simp; omega)) [hs0])
                refine CallK.use (kvals_c (s := s') (by omega)) ?_
                rintro r Gz _ _ ⟨rfl, t2, rfl, ht2⟩
                repeat' (first
                  | refine awp_seqK fun K' hpK => ?_
                  | refine awp_block ?_
                  | refine awp_condG fun A' B' hpA hpB => ?_
                  | refine useK (by with_reducible assumption) ?_
                  | refine useP (by with_reducible assumption) ?_
                  | refine ED_cons (fun _ => ?_) ?_
                  | (refine stable_mk ?_; simp (disch := first | (with_reducible assumption) | (simp; done) | omega | (simp; omega)) [hs0]; done)
                  | (refine stable_no ?_; simp (disch := first | (with_reducible assumption) | (simp; done) | omega | (simp; omega)) [hs0]; done)
                  | (with_reducible refine And.intro ?_ ?_)
                  | (with_reducible intro hc; try (exfalso; omega))
                  | (with_reducible refine GDsplit (fun hc => ?_) (fun hc => ?_) <;> try simp [hc])
                  | (with_reducible refine GDsplitN (fun hc => ?_) (fun hc => ?_) <;> try simp [hc])
                  | (with_reducible refine GDsplitNB (fun hc => ?_) (fun hc => ?_) <;> try simp [hc])
                  | (with_reducible refine GDsplitB (fun hc => ?_) (fun hc => ?_) <;> try simp [hc])
                  | (with_reducible refine GKsplit (fun hc => ?_) (fun hc => ?_) <;> try simp [hc])
                  | (with_reducible refine GKsplitN (fun hc => ?_) (fun hc => ?_) <;> try simp [hc])
                  | (with_reducible refine GKsplitNB (fun hc => ?_) (fun hc => ?_) <;> try simp [hc])
                  | (with_reducible refine GKsplitB (fun hc => ?_) (fun hc => ?_) <;> try simp [hc])
                  | (refine CallK.use (same_tP (a := t1) (b := t2) (by rw [ht1, ht2]) (by rw [ht1, List.length_map]; omega)) ?_; rintro r G' _ _ ⟨rfl, rfl⟩)
                  | simp (disch := first | (with_reducible assumption) | (simp; done) | omega | (simp; omega)) [hs0])
                refine awp_unroll 1 (unr_step fun M hM => ?_)
                repeat' (first
                  | refine awp_seqK fun K' hpK => ?_
                  | refine awp_block ?_
                  | refine awp_condG fun A' B' hpA hpB => ?_
                  | refine useK (by with_reducible assumption) ?_
                  | refine useP (by with_reducible assumption) ?_
                  | refine ED_cons (fun _ => ?_) ?_
                  | (refine stable_mk ?_; simp (disch := first | (with_reducible assumption) | (simp; done) | omega | (simp; omega)) [hs0]; done)
                  | (refine stable_no ?_; simp (disch := first | (with_reducible assumption) | (simp; done) | omega | (simp; omega)) [hs0]; done)
                  | (with_reducible refine And.intro ?_ ?_)
                  | (with_reducible intro hc; try (exfalso; omega))
                  | (with_reducible refine GDsplit (fun hc => ?_) (fun hc => ?_) <;> try simp [hc])
                  | (with_reducible refine GDsplitN (fun hc => ?_) (fun hc => ?_) <;> try simp [hc])
                  | (with_reducible refine GDsplitNB (fun hc => ?_) (fun hc => ?_) <;> try simp [hc])
                  | (with_reducible refine GDsplitB (fun hc => ?_) (fun hc => ?_) <;> try simp [hc])
                  | (with_reducible refine GKsplit (fun hc => ?_) (fun hc => ?_) <;> try simp [hc])
                  | (with_reducible refine GKsplitN (fun hc => ?_) (fun hc => ?_) <;> try simp [hc])
                  | (with_reducible refine GKsplitNB (fun hc => ?_) (fun hc => ?_) <;> try simp [hc])
                  | (with_reducible refine GKsplitB (fun hc => ?_) (fun hc => ?_) <;> try simp [hc])
                  | simp (disch := first | (with_reducible assumption) | (simp; done) | omega | (simp; omega)) [hs0])
                exact hN (w - 1) _ _ (by omega) ⟨k + 1, F, _, s', by omega, rfl, hdis, hs', by omega, by omega, by simp⟩
              · have hFb : F b = none := by
                  rcases hdis b with h | h
                  · exact h
                  · rw [setH_same] at h; cases h
                rw [uni_swap hFb, uni_swapF hb]
                have hdis1 : Dis (setH F b (some (τ, ((LL s').map Prod.fst).flatMap cKP))) h' := by
                  refine dis_set ?_ hb
                  intro i
                  rcases hdis i with h | h
                  · exact .inl h
                  · by_cases hi : i = b
                    · subst hi; exact .inr hb
                    · rw [setH_ne _ _ hi] at h; exact .inr h
                have hlen : ((LL s').map Prod.fst).length = (LL s').length := List.length_map ..
                repeat' (first
                  | refine awp_seqK fun K' hpK => ?_
                  | refine awp_block ?_
                  | refine awp_condG fun A' B' hpA hpB => ?_
                  | refine useK (by with_reducible assumption) ?_
                  | refine useP (by with_reducible assumption) ?_
                  | refine ED_cons (fun _ => ?_) ?_
                  | (refine stable_mk ?_; simp (disch := first | (with_reducible assumption) | (simp; done) | omega | (simp; omega)) [hlen]; done)
                  | (refine stable_no ?_; simp (disch := first | (with_reducible assumption) | (simp; done) | omega | (simp; omega)) [hlen]; done)
                  | (with_reducible refine And.intro ?_ ?_)
                  | (with_reducible intro hc; try (exfalso; omega))
                  | (with_reducible refine GDsplit (fun hc => ?_) (fun hc => ?_) <;> try simp [hc])
                  | (with_reducible refine GDsplitN (fun hc => ?_) (fun hc => ?_) <;> try simp [hc])
                  | (with_reducible refine GDsplitNB (fun hc => ?_) (fun hc => ?_) <;> try simp [hc])
                  | (with_reducible refine GDsplitB (fun hc => ?_) (fun hc => ?_) <;> try simp [hc])
                  | (with_reducible refine GKsplit (fun hc => ?_) (fun hc => ?_) <;> try simp [hc])
                  | (with_reducible refine GKsplitN (fun hc => ?_) (fun hc => ?_) <;> try simp [hc])
                  | (with_reducible refine GKsplitNB (fun hc => ?_) (fun hc => ?_) <;> try simp [hc])
                  | (with_reducible refine GKsplitB (fun hc => ?_) (fun hc => ?_) <;> try simp [hc])
                  | (refine CallK.fr (lenP_c hs') hdis1 ?_; rintro r h' hdis1 _ _ ⟨rfl, rfl⟩)
                  | simp (disch := first | (with_reducible assumption) | (simp; done) | omega | (simp; omega)) [hlen])
                refine CallK.fr (valsP_c hs' (by omega)) hdis1 ?_
                rintro r h4 hdis1 _ _ ⟨rfl, t1, rfl, ht1⟩
                repeat' (first
                  | refine awp_seqK fun K' hpK => ?_
                  | refine awp_block ?_
                  | refine awp_condG fun A' B' hpA hpB => ?_
                  | refine useK (by with_reducible assumption) ?_
                  | refine useP (by with_reducible assumption) ?_
                  | refine ED_cons (fun _ => ?_) ?_
                  | (refine stable_mk ?_; simp (disch := first | (with_reducible assumption) | (simp; done) | omega | (simp; omega)) [hlen]; done)
                  | (refine stable_no ?_; simp (disch := first | (with_reducible assumption) | (simp; done) | omega | (simp; omega)) [hlen]; done)
                  | (with_reducible refine And.intro ?_ ?_)
                  | (with_reducible intro hc; try (exfalso; omega))
                  | (with_reducible refine GDsplit (fun hc => ?_) (fun hc => ?_) <;> try simp [hc])
                  | (with_reducible refine GDsplitN (fun hc => ?_) (fun hc => ?_) <;> try simp [hc])
                  | (with_reducible refine GDsplitNB (fun hc => ?_) (fun hc => ?_) <;> try simp [hc])
                  | (with_reducible refine GDsplitB (fun hc => ?_) (fun hc => ?_) <;> try simp [hc])
                  | (with_reducible refine GKsplit (fun hc => ?_) (fun hc => ?_) <;> try simp [hc])
                  | (with_reducible refine GKsplitN (fun hc => ?_) (fun hc => ?_) <;> try simp [hc])
                  | (with_reducible refine GKsplitNB (fun hc => ?_) (fun hc => ?_) <;> try simp [hc])
                  | (with_reducible refine GKsplitB (fun hc => ?_) (fun hc => ?_) <;> try simp [hc])
                  | simp (disch := first | (with_reducible assumption) | (simp; done) | omega | (simp; omega)) [hlen])
                refine CallK.use (kvals_c (s := s') (by omega)) ?_
                rintro r Gz _ _ ⟨rfl, t2, rfl, ht2⟩
                repeat' (first
                  | refine awp_seqK fun K' hpK => ?_
                  | refine awp_block ?_
                  | refine awp_condG fun A' B' hpA hpB => ?_
                  | refine useK (by with_reducible assumption) ?_
                  | refine useP (by with_reducible assumption) ?_
                  | refine ED_cons (fun _ => ?_) ?_
                  | (refine stable_mk ?_; simp (disch := first | (with_reducible assumption) | (simp; done) | omega | (simp; omega)) [hlen]; done)
                  | (refine stable_no ?_; simp (disch := first | (with_reducible assumption) | (simp; done) | omega | (simp; omega)) [hlen]; done)
                  | (with_reducible refine And.intro ?_ ?_)
                  | (with_reducible intro hc; try (exfalso; omega))
                  | (with_reducible refine GDsplit (fun hc => ?_) (fun hc => ?_) <;> try simp [hc])
                  | (with_reducible refine GDsplitN (fun hc => ?_) (fun hc => ?_) <;> try simp [hc])
                  | (with_reducible refine GDsplitNB (fun hc => ?_) (fun hc => ?_) <;> try simp [hc])
                  | (with_reducible refine GDsplitB (fun hc => ?_) (fun hc => ?_) <;> try simp [hc])
                  | (with_reducible refine GKsplit (fun hc => ?_) (fun hc => ?_) <;> try simp [hc])
                  | (with_reducible refine GKsplitN (fun hc => ?_) (fun hc => ?_) <;> try simp [hc])
                  | (with_reducible refine GKsplitNB (fun hc => ?_) (fun hc => ?_) <;> try simp [hc])
                  | (with_reducible refine GKsplitB (fun hc => ?_) (fun hc => ?_) <;> try simp [hc])
                  | (refine CallK.use (same_tP (a := t1) (b := t2) (by rw [ht1, ht2]) (by rw [ht1, List.length_map]; omega)) ?_; rintro r G' _ _ ⟨rfl, rfl⟩)
                  | simp (disch := first | (with_reducible assumption) | (simp; done) | omega | (simp; omega)) [hlen])
                have dropset : ∀ (cs : List AV) (j : Nat) (v : AV), j < cs.length → (List.take j cs ++ v :: List.drop (j + 1) cs).drop (j + 1) = cs.drop (j + 1) := by
                  intro cs j v hj; rw [tset hj, List.drop_set_of_lt (by omega)]
                refine awp_loop' (fun v T G' => ∃ (j : Nat) (F2 : Hp) (cs : List AV), j + v = (LL s').length ∧ G' = uni F2 h4 ∧ Dis F2 h4 ∧ F2 b = some (τ, cs) ∧ cs.length = (LL s').length ∧ cs.drop j = (((LL s').map Prod.fst).flatMap cKP).drop j ∧ T = ofL [(0, .int .i64 mx), (5, .ptr sb 0), (6, ofS cSP s'), (7, .bool true), (14, .ms b 0 (LL s').length 1), (22, ofS cT l), (23, .int .i64 (LL l).length), (24, .int .i64 k), (107, .int .i64 (LL s').length), (108, .int .i64 j)]) (LL s').length ⟨0, _, _, by omega, rfl, hdis1, setH_same .., flatP_len _, rfl, by simp [hlen]⟩ ?_
                rintro v T G' ⟨j, F2, cs, hj, rfl, hdis2, hF2, hcs, hcd, rfl⟩ M hM
                have hG2 : uni F2 h4 b = some (τ, cs) := uni_left hF2
                by_cases hjl : j < (LL s').length
                · obtain ⟨x, hx⟩ : ∃ x, x = (LL s')[j] := ⟨_, rfl⟩
                  have hjc : j < cs.length := by omega
                  rw [cutP_fst hjl, ← hx] at hcd
                  have hfit : j + [AV.str ⟨#[122, 122]⟩].length ≤ cs.length := by simp; omega
                  have h2L : 2 ≤ LIM := by simp [LIM]
                  repeat' (first
                    | refine awp_seqK fun K' hpK => ?_
                    | refine awp_block ?_
                    | refine awp_condG fun A' B' hpA hpB => ?_
                    | refine useK (by with_reducible assumption) ?_
                    | refine useP (by with_reducible assumption) ?_
                    | refine ED_cons (fun _ => ?_) ?_
                    | (refine stable_mk ?_; simp (disch := first | (with_reducible assumption) | (simp; done) | omega | (simp; omega)) [hjl, hG2, hcd, hfit, hjc, h2L, ofS_idx (f := cSP), cSP, ← hx]; done)
                    | (refine stable_no ?_; simp (disch := first | (with_reducible assumption) | (simp; done) | omega | (simp; omega)) [hjl, hG2, hcd, hfit, hjc, h2L, ofS_idx (f := cSP), cSP, ← hx]; done)
                    | (with_reducible refine And.intro ?_ ?_)
                    | (with_reducible intro hc; try (exfalso; omega))
                    | (with_reducible refine GDsplit (fun hc => ?_) (fun hc => ?_) <;> try simp [hc])
                    | (with_reducible refine GDsplitN (fun hc => ?_) (fun hc => ?_) <;> try simp [hc])
                    | (with_reducible refine GDsplitNB (fun hc => ?_) (fun hc => ?_) <;> try simp [hc])
                    | (with_reducible refine GDsplitB (fun hc => ?_) (fun hc => ?_) <;> try simp [hc])
                    | (with_reducible refine GKsplit (fun hc => ?_) (fun hc => ?_) <;> try simp [hc])
                    | (with_reducible refine GKsplitN (fun hc => ?_) (fun hc => ?_) <;> try simp [hc])
                    | (with_reducible refine GKsplitNB (fun hc => ?_) (fun hc => ?_) <;> try simp [hc])
                    | (with_reducible refine GKsplitB (fun hc => ?_) (fun hc => ?_) <;> try simp [hc])
                    | simp (disch := first | (with_reducible assumption) | (simp; done) | omega | (simp; omega)) [hjl, hG2, hcd, hfit, hjc, h2L, ofS_idx (f := cSP), cSP, ← hx])
                  rw [uni_swapF hb]
                  refine hM (v - 1) _ _ (by omega) ⟨j + 1, _, _, by omega, rfl, dis_set hdis2 hb, setH_same .., ?_, ?_, by simp⟩
                  · simp; omega
                  · have hcd2 : cs.drop (j + 1) = (((LL s').map Prod.fst).flatMap cKP).drop (j + 1) := by
                      have := congrArg List.tail hcd
                      simpa using this
                    rw [← hcd2]
                    exact dropset _ _ _ hjc
                · repeat' (first
                    | refine awp_seqK fun K' hpK => ?_
                    | refine awp_block ?_
                    | refine awp_condG fun A' B' hpA hpB => ?_
                    | refine useK (by with_reducible assumption) ?_
                    | refine useP (by with_reducible assumption) ?_
                    | refine ED_cons (fun _ => ?_) ?_
                    | (refine stable_mk ?_; simp (disch := first | (with_reducible assumption) | (simp; done) | omega | (simp; omega)) [hjl]; done)
                    | (refine stable_no ?_; simp (disch := first | (with_reducible assumption) | (simp; done) | omega | (simp; omega)) [hjl]; done)
                    | (with_reducible refine And.intro ?_ ?_)
                    | (with_reducible intro hc; try (exfalso; omega))
                    | (with_reducible refine GDsplit (fun hc => ?_) (fun hc => ?_) <;> try simp [hc])
                    | (with_reducible refine GDsplitN (fun hc => ?_) (fun hc => ?_) <;> try simp [hc])
                    | (with_reducible refine GDsplitNB (fun hc => ?_) (fun hc => ?_) <;> try simp [hc])
                    | (with_reducible refine GDsplitB (fun hc => ?_) (fun hc => ?_) <;> try simp [hc])
                    | (with_reducible refine GKsplit (fun hc => ?_) (fun hc => ?_) <;> try simp [hc])
                    | (with_reducible refine GKsplitN (fun hc => ?_) (fun hc => ?_) <;> try simp [hc])
                    | (with_reducible refine GKsplitNB (fun hc => ?_) (fun hc => ?_) <;> try simp [hc])
                    | (with_reducible refine GKsplitB (fun hc => ?_) (fun hc => ?_) <;> try simp [hc])
                    | simp (disch := first | (with_reducible assumption) | (simp; done) | omega | (simp; omega)) [hjl])
                  exact hN (w - 1) _ _ (by omega) ⟨k + 1, F2, h4, s', by omega, rfl, hdis2, hs', by omega, by omega, by simp⟩
        · by_cases h6 : 6 < y.2.2.2.2.1.size
          · have h6' : 6 ≤ y.2.2.2.2.1.size := by omega
            repeat' (first
              | refine awp_seqK fun K' hpK => ?_
              | refine awp_block ?_
              | refine awp_condG fun A' B' hpA hpB => ?_
              | refine useK (by with_reducible assumption) ?_
              | refine useP (by with_reducible assumption) ?_
              | refine ED_cons (fun _ => ?_) ?_
              | (refine stable_mk ?_; simp (disch := first | (with_reducible assumption) | (simp; done) | omega | (simp; omega)) [hkl, h40, ofS_idx (f := cT), cT, toCl_eq, ← hy, h6, h6', n4]; done)
              | (refine stable_no ?_; simp (disch := first | (with_reducible assumption) | (simp; done) | omega | (simp; omega)) [hkl, h40, ofS_idx (f := cT), cT, toCl_eq, ← hy, h6, h6', n4]; done)
              | (with_reducible refine And.intro ?_ ?_)
              | (with_reducible intro hc; try (exfalso; omega))
              | (with_reducible refine GDsplit (fun hc => ?_) (fun hc => ?_) <;> try simp [hc])
              | (with_reducible refine GDsplitN (fun hc => ?_) (fun hc => ?_) <;> try simp [hc])
              | (with_reducible refine GDsplitNB (fun hc => ?_) (fun hc => ?_) <;> try simp [hc])
              | (with_reducible refine GDsplitB (fun hc => ?_) (fun hc => ?_) <;> try simp [hc])
              | (with_reducible refine GKsplit (fun hc => ?_) (fun hc => ?_) <;> try simp [hc])
              | (with_reducible refine GKsplitN (fun hc => ?_) (fun hc => ?_) <;> try simp [hc])
              | (with_reducible refine GKsplitNB (fun hc => ?_) (fun hc => ?_) <;> try simp [hc])
              | (with_reducible refine GKsplitB (fun hc => ?_) (fun hc => ?_) <;> try simp [hc])
              | (refine CallK.fr (kc _) hdis ?_; rintro r h' hdis _ _ ⟨L', s', rfl, hs', rfl, hl'⟩)
              | simp (disch := first | (with_reducible assumption) | (simp; done) | omega | (simp; omega)) [hkl, h40, ofS_idx (f := cT), cT, toCl_eq, ← hy, h6, h6', n4])
            refine CallK.fr (keysPG hs' (by omega)) hdis ?_
            rintro got h3 hdis _ _ hg
            have hgp := Grow.plain hg
            rcases hg with ⟨rfl, hl0, rfl⟩ | ⟨b, τ, hb, rfl, rfl⟩
            · have hs0 : LL s' = [] := List.map_eq_nil_iff.1 hl0
              repeat' (first
                | refine awp_seqK fun K' hpK => ?_
                | refine awp_block ?_
                | refine awp_condG fun A' B' hpA hpB => ?_
                | refine useK (by with_reducible assumption) ?_
                | refine useP (by with_reducible assumption) ?_
                | refine ED_cons (fun _ => ?_) ?_
                | (refine stable_mk ?_; simp (disch := first | (with_reducible assumption) | (simp; done) | omega | (simp; omega)) [hs0]; done)
                | (refine stable_no ?_; simp (disch := first | (with_reducible assumption) | (simp; done) | omega | (simp; omega)) [hs0]; done)
                | (with_reducible refine And.intro ?_ ?_)
                | (with_reducible intro hc; try (exfalso; omega))
                | (with_reducible refine GDsplit (fun hc => ?_) (fun hc => ?_) <;> try simp [hc])
                | (with_reducible refine GDsplitN (fun hc => ?_) (fun hc => ?_) <;> try simp [hc])
                | (with_reducible refine GDsplitNB (fun hc => ?_) (fun hc => ?_) <;> try simp [hc])
                | (with_reducible refine GDsplitB (fun hc => ?_) (fun hc => ?_) <;> try simp [hc])
                | (with_reducible refine GKsplit (fun hc => ?_) (fun hc => ?_) <;> try simp [hc])
                | (with_reducible refine GKsplitN (fun hc => ?_) (fun hc => ?_) <;> try simp [hc])
                | (with_reducible refine GKsplitNB (fun hc => ?_) (fun hc => ?_) <;> try simp [hc])
                | (with_reducible refine GKsplitB (fun hc => ?_) (fun hc => ?_) <;> try simp [hc])
                | (refine CallK.fr (lenP_c hs') hdis ?_; rintro r h' hdis _ _ ⟨rfl, rfl⟩)
                | simp (disch := first | (with_reducible assumption) | (simp; done) | omega | (simp; omega)) [hs0])
              refine CallK.fr (valsP_c hs' (by omega)) hdis ?_
              rintro r h4 hdis _ _ ⟨rfl, t1, rfl, ht1⟩
              repeat' (first
                | refine awp_seqK fun K' hpK => ?_
                | refine awp_block ?_
                | refine awp_condG fun A' B' hpA hpB => ?_
                | refine useK (by with_reducible assumption) ?_
                | refine useP (by with_reducible assumption) ?_
                | refine ED_cons (fun _ => ?_) ?_
                | (refine stable_mk ?_; simp (disch := first | (with_reducible assumption) | (simp; done) | omega | (simp; omega)) [hs0]; done)
                | (refine stable_no ?_; simp (disch := first | (with_reducible assumption) | (simp; done) | omega | (simp; omega)) [hs0]; done)
                | (with_reducible refine And.intro ?_ ?_)
                | (with_reducible intro hc; try (exfalso; omega))
                | (with_reducible refine GDsplit (fun hc => ?_) (fun hc => ?_) <;> try simp [hc])
                | (with_reducible refine GDsplitN (fun hc => ?_) (fun hc => ?_) <;> try simp [hc])
                | (with_reducible refine GDsplitNB (fun hc => ?_) (fun hc => ?_) <;> try simp [hc])
                | (with_reducible refine GDsplitB (fun hc => ?_) (fun hc => ?_) <;> try simp [hc])
                | (with_reducible refine GKsplit (fun hc => ?_) (fun hc => ?_) <;> try simp [hc])
                | (with_reducible refine GKsplitN (fun hc => ?_) (fun hc => ?_) <;> try simp [hc])
                | (with_reducible refine GKsplitNB (fun hc => ?_) (fun hc => ?_) <;> try simp [hc])
                | (with_reducible refine GKsplitB (fun hc => ?_) (fun hc => ?_) <;> try simp [hc])
                | simp (disch := first | (with_reducible assumption) | (simp; done) | omega | (simp; omega)) [hs0])
              refine CallK.use (kvals_c (s := s') (by omega)) ?_
              rintro r Gz _ _ ⟨rfl, t2, rfl, ht2⟩
              repeat' (first
                | refine awp_seqK fun K' hpK => ?_
                | refine awp_block ?_
                | refine awp_condG fun A' B' hpA hpB => ?_
                | refine useK (by with_reducible assumption) ?_
                | refine useP (by with_reducible assumption) ?_
                | refine ED_cons (fun _ => ?_) ?_
                | (refine stable_mk ?_; simp (disch := first | (with_reducible assumption) | (simp; done) | omega | (simp; omega)) [hs0]; done)
                | (refine stable_no ?_; simp (disch := first | (with_reducible assumption) | (simp; done) | omega | (simp; omega)) [hs0]; done)
                | (with_reducible refine And.intro ?_ ?_)
                | (with_reducible intro hc; try (exfalso; omega))
                | (with_reducible refine GDsplit (fun hc => ?_) (fun hc => ?_) <;> try simp [hc])
                | (with_reducible refine GDsplitN (fun hc => ?_) (fun hc => ?_) <;> try simp [hc])
                | (with_reducible refine GDsplitNB (fun hc => ?_) (fun hc => ?_) <;> try simp [hc])
                | (with_reducible refine GDsplitB (fun hc => ?_) (fun hc => ?_) <;> try simp [hc])
                | (with_reducible refine GKsplit (fun hc => ?_) (fun hc => ?_) <;> try simp [hc])
                | (with_reducible refine GKsplitN (fun hc => ?_) (fun hc => ?_) <;> try simp [hc])
                | (with_reducible refine GKsplitNB (fun hc => ?_) (fun hc => ?_) <;> try simp [hc])
                | (with_reducible refine GKsplitB (fun hc => ?_) (fun hc => ?_) <;> try simp [hc])
                | (refine CallK.use (same_tP (a := t1) (b := t2) (by rw [ht1, ht2]) (by rw [ht1, List.length_map]; omega)) ?_; rintro r G' _ _ ⟨rfl, rfl⟩)
                | simp (disch := first | (with_reducible assumption) | (simp; done) | omega | (simp; omega)) [hs0])
              refine awp_unroll 1 (unr_step fun M hM => ?_)
              repeat' (first
                | refine awp_seqK fun K' hpK => ?_
                | refine awp_block ?_
                | refine awp_condG fun A' B' hpA hpB => ?_
                | refine useK (by with_reducible assumption) ?_
                | refine useP (by with_reducible assumption) ?_
                | refine ED_cons (fun _ => ?_) ?_
                | (refine stable_mk ?_; simp (disch := first | (with_reducible assumption) | (simp; done) | omega | (simp; omega)) [hs0]; done)
                | (refine stable_no ?_; simp (disch := first | (with_reducible assumption) | (simp; done) | omega | (simp; omega)) [hs0]; done)
                | (with_reducible refine And.intro ?_ ?_)
                | (with_reducible intro hc; try (exfalso; omega))
                | (with_reducible refine GDsplit (fun hc => ?_) (fun hc => ?_) <;> try simp [hc])
                | (with_reducible refine GDsplitN (fun hc => ?_) (fun hc => ?_) <;> try simp [hc])
                | (with_reducible refine GDsplitNB (fun hc => ?_) (fun hc => ?_) <;> try simp [hc])
                | (with_reducible refine GDsplitB (fun hc => ?_) (fun hc => ?_) <;> try simp [hc])
                | (with_reducible refine GKsplit (fun hc => ?_) (fun hc => ?_) <;> try simp [hc])
                | (with_reducible refine GKsplitN (fun hc => ?_) (fun hc => ?_) <;> try simp [hc])
                | (with_reducible refine GKsplitNB (fun hc => ?_) (fun hc => ?_) <;> try simp [hc])
                | (with_reducible refine GKsplitB (fun hc => ?_) (fun hc => ?_) <;> try simp [hc])
                | simp (disch := first | (with_reducible assumption) | (simp; done) | omega | (simp; omega)) [hs0])
              exact hN (w - 1) _ _ (by omega) ⟨k + 1, F, _, s', by omega, rfl, hdis, hs', by omega, by omega, by simp⟩
            · have hFb : F b = none := by
                rcases hdis b with h | h
                · exact h
                · rw [setH_same] at h; cases h
              rw [uni_swap hFb, uni_swapF hb]
              have hdis1 : Dis (setH F b (some (τ, ((LL s').map Prod.fst).flatMap cKP))) h' := by
                refine dis_set ?_ hb
                intro i
                rcases hdis i with h | h
                · exact .inl h
                · by_cases hi : i = b
                  · subst hi; exact .inr hb
                  · rw [setH_ne _ _ hi] at h; exact .inr h
              have hlen : ((LL s').map Prod.fst).length = (LL s').length := List.length_map ..
              repeat' (first
                | refine awp_seqK fun K' hpK => ?_
                | refine awp_block ?_
                | refine awp_condG fun A' B' hpA hpB => ?_
                | refine useK (by with_reducible assumption) ?_
                | refine useP (by with_reducible assumption) ?_
                | refine ED_cons (fun _ => ?_) ?_
                | (refine stable_mk ?_; simp (disch := first | (with_reducible assumption) | (simp; done) | omega | (simp; omega)) [hlen]; done)
                | (refine stable_no ?_; simp (disch := first | (with_reducible assumption) | (simp; done) | omega | (simp; omega)) [hlen]; done)
                | (with_reducible refine And.intro ?_ ?_)
                | (with_reducible intro hc; try (exfalso; omega))
                | (with_reducible refine GDsplit (fun hc => ?_) (fun hc => ?_) <;> try simp [hc])
                | (with_reducible refine GDsplitN (fun hc => ?_) (fun hc => ?_) <;> try simp [hc])
                | (with_reducible refine GDsplitNB (fun hc => ?_) (fun hc => ?_) <;> try simp [hc])
                | (with_reducible refine GDsplitB (fun hc => ?_) (fun hc => ?_) <;> try simp [hc])
                | (with_reducible refine GKsplit (fun hc => ?_) (fun hc => ?_) <;> try simp [hc])
                | (with_reducible refine GKsplitN (fun hc => ?_) (fun hc => ?_) <;> try simp [hc])
                | (with_reducible refine GKsplitNB (fun hc => ?_) (fun hc => ?_) <;> try simp [hc])
                | (with_reducible refine GKsplitB (fun hc => ?_) (fun hc => ?_) <;> try simp [hc])
                | (refine CallK.fr (lenP_c hs') hdis1 ?_; rintro r h' hdis1 _ _ ⟨rfl, rfl⟩)
                | simp (disch := first | (with_reducible assumption) | (simp; done) | omega | (simp; omega)) [hlen])
              refine CallK.fr (valsP_c hs' (by omega)) hdis1 ?_
              rintro r h4 hdis1 _ _ ⟨rfl, t1, rfl, ht1⟩
              repeat' (first
                | refine awp_seqK fun K' hpK => ?_
                | refine awp_block ?_
                | refine awp_condG fun A' B' hpA hpB => ?_
                | refine useK (by with_reducible assumption) ?_
                | refine useP (by with_reducible assumption) ?_
                | refine ED_cons (fun _ => ?_) ?_
                | (refine stable_mk ?_; simp (disch := first | (with_reducible assumption) | (simp; done) | omega | (simp; omega)) [hlen]; done)
                | (refine stable_no ?_; simp (disch := first | (with_reducible assumption) | (simp; done) | omega | (simp; omega)) [hlen]; done)
                | (with_reducible refine And.intro ?_ ?_)
                | (with_reducible intro hc; try (exfalso; omega))
                | (with_reducible refine GDsplit (fun hc => ?_) (fun hc => ?_) <;> try simp [hc])
                | (with_reducible refine GDsplitN (fun hc => ?_) (fun hc => ?_) <;> try simp [hc])
                | (with_reducible refine GDsplitNB (fun hc => ?_) (fun hc => ?_) <;> try simp [hc])
                | (with_reducible refine GDsplitB (fun hc => ?_) (fun hc => ?_) <;> try simp [hc])
                | (with_reducible refine GKsplit (fun hc => ?_) (fun hc => ?_) <;> try simp [hc])
                | (with_reducible refine GKsplitN (fun hc => ?_) (fun hc => ?_) <;> try simp [hc])
                | (with_reducible refine GKsplitNB (fun hc => ?_) (fun hc => ?_) <;> try simp [hc])
                | (with_reducible refine GKsplitB (fun hc => ?_) (fun hc => ?_) <;> try simp [hc])
                | simp (disch := first | (with_reducible assumption) | (simp; done) | omega | (simp; omega)) [hlen])
              refine CallK.use (kvals_c (s := s') (by omega)) ?_
              rintro r Gz _ _ ⟨rfl, t2, rfl, ht2⟩
              repeat' (first
                | refine awp_seqK fun K' hpK => ?_
                | refine awp_block ?_
                | refine awp_condG fun A' B' hpA hpB => ?_
                | refine useK (by with_reducible assumption) ?_
                | refine useP (by with_reducible assumption) ?_
                | refine ED_cons (fun _ => ?_) ?_
                | (refine stable_mk ?_; simp (disch := first | (with_reducible assumption) | (simp; done) | omega | (simp; omega)) [hlen]; done)
                | (refine stable_no ?_; simp (disch := first | (with_reducible assumption) | (simp; done) | omega | (simp; omega)) [hlen]; done)
                | (with_reducible refine And.intro ?_ ?_)
                | (with_reducible intro hc; try (exfalso; omega))
                | (with_reducible refine GDsplit (fun hc => ?_) (fun hc => ?_) <;> try simp [hc])
                | (with_reducible refine GDsplitN (fun hc => ?_) (fun hc => ?_) <;> try simp [hc])
                | (with_reducible refine GDsplitNB (fun hc => ?_) (fun hc => ?_) <;> try simp [hc])
                | (with_reducible refine GDsplitB (fun hc => ?_) (fun hc => ?_) <;> try simp [hc])
                | (with_reducible refine GKsplit (fun hc => ?_) (fun hc => ?_) <;> try simp [hc])
                | (with_reducible refine GKsplitN (fun hc => ?_) (fun hc => ?_) <;> try simp [hc])
                | (with_reducible refine GKsplitNB (fun hc => ?_) (fun hc => ?_) <;> try simp [hc])
                | (with_reducible refine GKsplitB (fun hc => ?_) (fun hc => ?_) <;> try simp [hc])
                | (refine CallK.use (same_tP (a := t1) (b := t2) (by rw [ht1, ht2]) (by rw [ht1, List.length_map]; omega)) ?_; rintro r G' _ _ ⟨rfl, rfl⟩)
                | simp (disch := first | (with_reducible assumption) | (simp; done) | omega | (simp; omega)) [hlen])
              have dropset : ∀ (cs : List AV) (j : Nat) (v : AV), j < cs.length → (List.take j cs ++ v :: List.drop (j + 1) cs).drop (j + 1) = cs.drop (j + 1) := by
                intro cs j v hj; rw [tset hj, List.drop_set_of_lt (by omega)]
              refine awp_loop' (fun v T G' => ∃ (j : Nat) (F2 : Hp) (cs : List AV), j + v = (LL s').length ∧ G' = uni F2 h4 ∧ Dis F2 h4 ∧ F2 b = some (τ, cs) ∧ cs.length = (LL s').length ∧ cs.drop j = (((LL s').map Prod.fst).flatMap cKP).drop j ∧ T = ofL [(0, .int .i64 mx), (5, .ptr sb 0), (6, ofS cSP s'), (7, .bool true), (14, .ms b 0 (LL s').length 1), (22, ofS cT l), (23, .int .i64 (LL l).length), (24, .int .i64 k), (107, .int .i64 (LL s').length), (108, .int .i64 j)]) (LL s').length ⟨0, _, _, by omega, rfl, hdis1, setH_same .., flatP_len _, rfl, by simp [hlen]⟩ ?_
              rintro v T G' ⟨j, F2, cs, hj, rfl, hdis2, hF2, hcs, hcd, rfl⟩ M hM
              have hG2 : uni F2 h4 b = some (τ, cs) := uni_left hF2
              by_cases hjl : j < (LL s').length
              · obtain ⟨x, hx⟩ : ∃ x, x = (LL s')[j] := ⟨_, rfl⟩
                have hjc : j < cs.length := by omega
                rw [cutP_fst hjl, ← hx] at hcd
                have hfit : j + [AV.str ⟨#[122, 122]⟩].length ≤ cs.length := by simp; omega
                have h2L : 2 ≤ LIM := by simp [LIM]
                repeat' (first
                  | refine awp_seqK fun K' hpK => ?_
                  | refine awp_block ?_
                  | refine awp_condG fun A' B' hpA hpB => ?_
                  | refine useK (by with_reducible assumption) ?_
                  | refine useP (by with_reducible assumption) ?_
                  | refine ED_cons (fun _ => ?_) ?_
                  | (refine stable_mk ?_; simp (disch := first | (with_reducible assumption) | (simp; done) | omega | (simp; omega)) [hjl, hG2, hcd, hfit, hjc, h2L, ofS_idx (f := cSP), cSP, ← hx]; done)
                  | (refine stable_no ?_; simp (disch := first | (with_reducible assumption) | (simp; done) | omega | (simp; omega)) [hjl, hG2, hcd, hfit, hjc, h2L, ofS_idx (f := cSP), cSP, ← hx]; done)
                  | (with_reducible refine And.intro ?_ ?_)
                  | (with_reducible intro hc; try (exfalso; omega))
                  | (with_reducible refine GDsplit (fun hc => ?_) (fun hc => ?_) <;> try simp [hc])
                  | (with_reducible refine GDsplitN (fun hc => ?_) (fun hc => ?_) <;> try simp [hc])
                  | (with_reducible refine GDsplitNB (fun hc => ?_) (fun hc => ?_) <;> try simp [hc])
                  | (with_reducible refine GDsplitB (fun hc => ?_) (fun hc => ?_) <;> try simp [hc])
                  | (with_reducible refine GKsplit (fun hc => ?_) (fun hc => ?_) <;> try simp [hc])
                  | (with_reducible refine GKsplitN (fun hc => ?_) (fun hc => ?_) <;> try simp [hc])
                  | (with_reducible refine GKsplitNB (fun hc => ?_) (fun hc => ?_) <;> try simp [hc])
                  | (with_reducible refine GKsplitB (fun hc => ?_) (fun hc => ?_) <;> try simp [hc])
                  | simp (disch := first | (with_reducible assumption) | (simp; done) | omega | (simp; omega)) [hjl, hG2, hcd, hfit, hjc, h2L, ofS_idx (f := cSP), cSP, ← hx])
                rw [uni_swapF hb]
                refine hM (v - 1) _ _ (by omega) ⟨j + 1, _, _, by omega, rfl, dis_set hdis2 hb, setH_same .., ?_, ?_, by simp⟩
                · simp; omega
                · have hcd2 : cs.drop (j + 1) = (((LL s').map Prod.fst).flatMap cKP).drop (j + 1) := by
                    have := congrArg List.tail hcd
                    simpa using this
                  rw [← hcd2]
                  exact dropset _ _ _ hjc
              · repeat' (first
                  | refine awp_seqK fun K' hpK => ?_
                  | refine awp_block ?_
                  | refine awp_condG fun A' B' hpA hpB => ?_
                  | refine useK (by with_reducible assumption) ?_
                  | refine useP (by with_reducible assumption) ?_
                  | refine ED_cons (fun _ => ?_) ?_
                  | (refine stable_mk ?_; simp (disch := first | (with_reducible assumption) | (simp; done) | omega | (simp; omega)) [hjl]; done)
                  | (refine stable_no ?_; simp (disch := first | (with_reducible assumption) | (simp; done) | omega | (simp; omega)) [hjl]; done)
                  | (with_reducible refine And.intro ?_ ?_)
                  | (with_reducible intro hc; try (exfalso; omega))
                  | (with_reducible refine GDsplit (fun hc => ?_) (fun hc => ?_) <;> try simp [hc])
                  | (with_reducible refine GDsplitN (fun hc => ?_) (fun hc => ?_) <;> try simp [hc])
                  | (with_reducible refine GDsplitNB (fun hc => ?_) (fun hc => ?_) <;> try simp [hc])
                  | (with_reducible refine GDsplitB (fun hc => ?_) (fun hc => ?_) <;> try simp [hc])
                  | (with_reducible refine GKsplit (fun hc => ?_) (fun hc => ?_) <;> try simp [hc])
                  | (with_reducible refine GKsplitN (fun hc => ?_) (fun hc => ?_) <;> try simp [hc])
                  | (with_reducible refine GKsplitNB (fun hc => ?_) (fun hc => ?_) <;> try simp [hc])
                  | (with_reducible refine GKsplitB (fun hc => ?_) (fun hc => ?_) <;> try simp [hc])
                  | simp (disch := first | (with_reducible assumption) | (simp; done) | omega | (simp; omega)) [hjl])
                exact hN (w - 1) _ _ (by omega) ⟨k + 1, F2, h4, s', by omega, rfl, hdis2, hs', by omega, by omega, by simp⟩
          · repeat' (first
              | refine awp_seqK fun K' hpK => ?_
              | refine awp_block ?_
              | refine awp_condG fun A' B' hpA hpB => ?_
              | refine useK (by with_reducible assumption) ?_
              | refine useP (by with_reducible assumption) ?_
              | refine ED_cons (fun _ => ?_) ?_
              | (refine stable_mk ?_; simp (disch := first | (with_reducible assumption) | (simp; done) | omega | (simp; omega)) [hkl, h40, ofS_idx (f := cT), cT, toCl_eq, ← hy, h6, n4]; done)
              | (refine stable_no ?_; simp (disch := first | (with_reducible assumption) | (simp; done) | omega | (simp; omega)) [hkl, h40, ofS_idx (f := cT), cT, toCl_eq, ← hy, h6, n4]; done)
              | (with_reducible refine And.intro ?_ ?_)
              | (with_reducible intro hc; try (exfalso; omega))
              | (with_reducible refine GDsplit (fun hc => ?_) (fun hc => ?_) <;> try simp [hc])
              | (with_reducible refine GDsplitN (fun hc => ?_) (fun hc => ?_) <;> try simp [hc])
              | (with_reducible refine GDsplitNB (fun hc => ?_) (fun hc => ?_) <;> try simp [hc])
              | (with_reducible refine GDsplitB (fun hc => ?_) (fun hc => ?_) <;> try simp [hc])
              | (with_reducible refine GKsplit (fun hc => ?_) (fun hc => ?_) <;> try simp [hc])
              | (with_reducible refine GKsplitN (fun hc => ?_) (fun hc => ?_) <;> try simp [hc])
              | (with_reducible refine GKsplitNB (fun hc => ?_) (fun hc => ?_) <;> try simp [hc])
              | (with_reducible refine GKsplitB (fun hc => ?_) (fun hc => ?_) <;> try simp [hc])
              | (refine CallK.fr (kc _) hdis ?_; rintro r h' hdis _ _ ⟨L', s', rfl, hs', rfl, hl'⟩)
              | simp (disch := first | (with_reducible assumption) | (simp; done) | omega | (simp; omega)) [hkl, h40, ofS_idx (f := cT), cT, toCl_eq, ← hy, h6, n4])
            refine CallK.fr (keysPG hs' (by omega)) hdis ?_
            rintro got h3 hdis _ _ hg
            have hgp := Grow.plain hg
            rcases hg with ⟨rfl, hl0, rfl⟩ | ⟨b, τ, hb, rfl, rfl⟩
            · have hs0 : LL s' = [] := List.map_eq_nil_iff.1 hl0
              repeat' (first
                | refine awp_seqK fun K' hpK => ?_
                | refine awp_block ?_
                | refine awp_condG fun A' B' hpA hpB => ?_
                | refine useK (by with_reducible assumption) ?_
                | refine useP (by with_reducible assumption) ?_
                | refine ED_cons (fun _ => ?_) ?_
                | (refine stable_mk ?_; simp (disch := first | (with_reducible assumption) | (simp; done) | omega | (simp; omega)) [hs0]; done)
                | (refine stable_no ?_; simp (disch := first | (with_reducible assumption) | (simp; done) | omega | (simp; omega)) [hs0]; done)
                | (with_reducible refine And.intro ?_ ?_)
                | (with_reducible intro hc; try (exfalso; omega))
                | (with_reducible refine GDsplit (fun hc => ?_) (fun hc => ?_) <;> try simp [hc])
                | (with_reducible refine GDsplitN (fun hc => ?_) (fun hc => ?_) <;> try simp [hc])
                | (with_reducible refine GDsplitNB (fun hc => ?_) (fun hc => ?_) <;> try simp [hc])
                | (with_reducible refine GDsplitB (fun hc => ?_) (fun hc => ?_) <;> try simp [hc])
                | (with_reducible refine GKsplit (fun hc => ?_) (fun hc => ?_) <;> try simp [hc])
                | (with_reducible refine GKsplitN (fun hc => ?_) (fun hc => ?_) <;> try simp [hc])
                | (with_reducible refine GKsplitNB (fun hc => ?_) (fun hc => ?_) <;> try simp [hc])
                | (with_reducible refine GKsplitB (fun hc => ?_) (fun hc => ?_) <;> try simp [hc])
                | (refine CallK.fr (lenP_c hs') hdis ?_; rintro r h' hdis _ _ ⟨rfl, rfl⟩)
                | simp (disch := first | (with_reducible assumption) | (simp; done) | omega | (simp; omega)) [hs0])
              refine CallK.fr (valsP_c hs' (by omega)) hdis ?_
              rintro r h4 hdis _ _ ⟨rfl, t1, rfl, ht1⟩
              repeat' (first
                | refine awp_seqK fun K' hpK => ?_
                | refine awp_block ?_
                | refine awp_condG fun A' B' hpA hpB => ?_
                | refine useK (by with_reducible assumption) ?_
                | refine useP (by with_reducible assumption) ?_
                | refine ED_cons (fun _ => ?_) ?_
                | (refine stable_mk ?_; simp (disch := first | (with_reducible assumption) | (simp; done) | omega | (simp; omega)) [hs0]; done)
                | (refine stable_no ?_; simp (disch := first | (with_reducible assumption) | (simp; done) | omega | (simp; omega)) [hs0]; done)
                | (with_reducible refine And.intro ?_ ?_)
                | (with_reducible intro hc; try (exfalso; omega))
                | (with_reducible refine GDsplit (fun hc => ?_) (fun hc => ?_) <;> try simp [hc])
                | (with_reducible refine GDsplitN (fun hc => ?_) (fun hc => ?_) <;> try simp [hc])
                | (with_reducible refine GDsplitNB (fun hc => ?_) (fun hc => ?_) <;> try simp [hc])
                | (with_reducible refine GDsplitB (fun hc => ?_) (fun hc => ?_) <;> try simp [hc])
                | (with_reducible refine GKsplit (fun hc => ?_) (fun hc => ?_) <;> try simp [hc])
                | (with_reducible refine GKsplitN (fun hc => ?_) (fun hc => ?_) <;> try simp [hc])
                | (with_reducible refine GKsplitNB (fun hc => ?_) (fun hc => ?_) <;> try simp [hc])
                | (with_reducible refine GKsplitB (fun hc => ?_) (fun hc => ?_) <;> try simp [hc])
                | simp (disch := first | (with_reducible assumption) | (simp; done) | omega | (simp; omega)) [hs0])
              refine CallK.use (kvals_c (s := s') (by omega)) ?_
              rintro r Gz _ _ ⟨rfl, t2, rfl, ht2⟩
              repeat' (first
                | refine awp_seqK fun K' hpK => ?_
                | refine awp_block ?_
                | refine awp_condG fun A' B' hpA hpB => ?_
                | refine useK (by with_reducible assumption) ?_
                | refine useP (by with_reducible assumption) ?_
                | refine ED_cons (fun _ => ?_) ?_
                | (refine stable_mk ?_; simp (disch := first | (with_reducible assumption) | (simp; done) | omega | (simp; omega)) [hs0]; done)
                | (refine stable_no ?_; simp (disch := first | (with_reducible assumption) | (simp; done) | omega | (simp; omega)) [hs0]; done)
                | (with_reducible refine And.intro ?_ ?_)
                | (with_reducible intro hc; try (exfalso; omega))
                | (with_reducible refine GDsplit (fun hc => ?_) (fun hc => ?_) <;> try simp [hc])
                | (with_reducible refine GDsplitN (fun hc => ?_) (fun hc => ?_) <;> try simp [hc])
                | (with_reducible refine GDsplitNB (fun hc => ?_) (fun hc => ?_) <;> try simp [hc])
                | (with_reducible refine GDsplitB (fun hc => ?_) (fun hc => ?_) <;> try simp [hc])
                | (with_reducible refine GKsplit (fun hc => ?_) (fun hc => ?_) <;> try simp [hc])
                | (with_reducible refine GKsplitN (fun hc => ?_) (fun hc => ?_) <;> try simp [hc])
                | (with_reducible refine GKsplitNB (fun hc => ?_) (fun hc => ?_) <;> try simp [hc])
                | (with_reducible refine GKsplitB (fun hc => ?_) (fun hc => ?_) <;> try simp [hc])
                | (refine CallK.use (same_tP (a := t1) (b := t2) (by rw [ht1, ht2]) (by rw [ht1, List.length_map]; omega)) ?_; rintro r G' _ _ ⟨rfl, rfl⟩)
                | simp (disch := first | (with_reducible assumption) | (simp; done) | omega | (simp; omega)) [hs0])
              refine awp_unroll 1 (unr_step fun M hM => ?_)
              repeat' (first
                | refine awp_seqK fun K' hpK => ?_
                | refine awp_block ?_
                | refine awp_condG fun A' B' hpA hpB => ?_
                | refine useK (by with_reducible assumption) ?_
                | refine useP (by with_reducible assumption) ?_
                | refine ED_cons (fun _ => ?_) ?_
                | (refine stable_mk ?_; simp (disch := first | (with_reducible assumption) | (simp; done) | omega | (simp; omega)) [hs0]; done)
                | (refine stable_no ?_; simp (disch := first | (with_reducible assumption) | (simp; done) | omega | (simp; omega)) [hs0]; done)
                | (with_reducible refine And.intro ?_ ?_)
                | (with_reducible intro hc; try (exfalso; omega))
                | (with_reducible refine GDsplit (fun hc => ?_) (fun hc => ?_) <;> try simp [hc])
                | (with_reducible refine GDsplitN (fun hc => ?_) (fun hc => ?_) <;> try simp [hc])
                | (with_reducible refine GDsplitNB (fun hc => ?_) (fun hc => ?_) <;> try simp [hc])
                | (with_reducible refine GDsplitB (fun hc => ?_) (fun hc => ?_) <;> try simp [hc])
                | (with_reducible refine GKsplit (fun hc => ?_) (fun hc => ?_) <;> try simp [hc])
                | (with_reducible refine GKsplitN (fun hc => ?_) (fun hc => ?_) <;> try simp [hc])
                | (with_reducible refine GKsplitNB (fun hc => ?_) (fun hc => ?_) <;> try simp [hc])
                | (with_reducible refine GKsplitB (fun hc => ?_) (fun hc => ?_) <;> try simp [hc])
                | simp (disch := first | (with_reducible assumption) | (simp; done) | omega | (simp; omega)) [hs0])
              exact hN (w - 1) _ _ (by omega) ⟨k + 1, F, _, s', by omega, rfl, hdis, hs', by omega, by omega, by simp⟩
            · have hFb : F b = none := by
                rcases hdis b with h | h
                · exact h
                · rw [setH_same] at h; cases h
              rw [uni_swap hFb, uni_swapF hb]
              have hdis1 : Dis (setH F b (some (τ, ((LL s').map Prod.fst).flatMap cKP))) h' := by
                refine dis_set ?_ hb
                intro i
                rcases hdis i with h | h
                · exact .inl h
                · by_cases hi : i = b
                  · subst hi; exact .inr hb
                  · rw [setH_ne _ _ hi] at h; exact .inr h
              have hlen : ((LL s').map Prod.fst).length = (LL s').length := List.length_map ..
              repeat' (first
                | refine awp_seqK fun K' hpK => ?_
                | refine awp_block ?_
                | refine awp_condG fun A' B' hpA hpB => ?_
                | refine useK (by with_reducible assumption) ?_
                | refine useP (by with_reducible assumption) ?_
                | refine ED_cons (fun _ => ?_) ?_
                | (refine stable_mk ?_; simp (disch := first | (with_reducible assumption) | (simp; done) | omega | (simp; omega)) [hlen]; done)
                | (refine stable_no ?_; simp (disch := first | (with_reducible assumption) | (simp; done) | omega | (simp; omega)) [hlen]; done)
                | (with_reducible refine And.intro ?_ ?_)
                | (with_reducible intro hc; try (exfalso; omega))
                | (with_reducible refine GDsplit (fun hc => ?_) (fun hc => ?_) <;> try simp [hc])
                | (with_reducible refine GDsplitN (fun hc => ?_) (fun hc => ?_) <;> try simp [hc])
                | (with_reducible refine GDsplitNB (fun hc => ?_) (fun hc => ?_) <;> try simp [hc])
                | (with_reducible refine GDsplitB (fun hc => ?_) (fun hc => ?_) <;> try simp [hc])
                | (with_reducible refine GKsplit (fun hc => ?_) (fun hc => ?_) <;> try simp [hc])
                | (with_reducible refine GKsplitN (fun hc => ?_) (fun hc => ?_) <;> try simp [hc])
                | (with_reducible refine GKsplitNB (fun hc => ?_) (fun hc => ?_) <;> try simp [hc])
                | (with_reducible refine GKsplitB (fun hc => ?_) (fun hc => ?_) <;> try simp [hc])
                | (refine CallK.fr (lenP_c hs') hdis1 ?_; rintro r h' hdis1 _ _ ⟨rfl, rfl⟩)
                | simp (disch := first | (with_reducible assumption) | (simp; done) | omega | (simp; omega)) [hlen])
              refine CallK.fr (valsP_c hs' (by omega)) hdis1 ?_
              rintro r h4 hdis1 _ _ ⟨rfl, t1, rfl, ht1⟩
              repeat' (first
                | refine awp_seqK fun K' hpK => ?_
                | refine awp_block ?_
                | refine awp_condG fun A' B' hpA hpB => ?_
                | refine useK (by with_reducible assumption) ?_
                | refine useP (by with_reducible assumption) ?_
                | refine ED_cons (fun _ => ?_) ?_
                | (refine stable_mk ?_; simp (disch := first | (with_reducible assumption) | (simp; done) | omega | (simp; omega)) [hlen]; done)
                | (refine stable_no ?_; simp (disch := first | (with_reducible assumption) | (simp; done) | omega | (simp; omega)) [hlen]; done)
                | (with_reducible refine And.intro ?_ ?_)
                | (with_reducible intro hc; try (exfalso; omega))
                | (with_reducible refine GDsplit (fun hc => ?_) (fun hc => ?_) <;> try simp [hc])
                | (with_reducible refine GDsplitN (fun hc => ?_) (fun hc => ?_) <;> try simp [hc])
                | (with_reducible refine GDsplitNB (fun hc => ?_) (fun hc => ?_) <;> try simp [hc])
                | (with_reducible refine GDsplitB (fun hc => ?_) (fun hc => ?_) <;> try simp [hc])
                | (with_reducible refine GKsplit (fun hc => ?_) (fun hc => ?_) <;> try simp [hc])
                | (with_reducible refine GKsplitN (fun hc => ?_) (fun hc => ?_) <;> try simp [hc])
                | (with_reducible refine GKsplitNB (fun hc => ?_) (fun hc => ?_) <;> try simp [hc])
                | (with_reducible refine GKsplitB (fun hc => ?_) (fun hc => ?_) <;> try simp [hc])
                | simp (disch := first | (with_reducible assumption) | (simp; done) | omega | (simp; omega)) [hlen])
              refine CallK.use (kvals_c (s := s') (by omega)) ?_
              rintro r Gz _ _ ⟨rfl, t2, rfl, ht2⟩
              repeat' (first
                | refine awp_seqK fun K' hpK => ?_
                | refine awp_block ?_
                | refine awp_condG fun A' B' hpA hpB => ?_
                | refine useK (by with_reducible assumption) ?_
                | refine useP (by with_reducible assumption) ?_
                | refine ED_cons (fun _ => ?_) ?_
                | (refine stable_mk ?_; simp (disch := first | (with_reducible assumption) | (simp; done) | omega | (simp; omega)) [hlen]; done)
                | (refine stable_no ?_; simp (disch := first | (with_reducible assumption) | (simp; done) | omega | (simp; omega)) [hlen]; done)
                | (with_reducible refine And.intro ?_ ?_)
                | (with_reducible intro hc; try (exfalso; omega))
                | (with_reducible refine GDsplit (fun hc => ?_) (fun hc => ?_) <;> try simp [hc])
                | (with_reducible refine GDsplitN (fun hc => ?_) (fun hc => ?_) <;> try simp [hc])
                | (with_reducible refine GDsplitNB (fun hc => ?_) (fun hc => ?_) <;> try simp [hc])
                | (with_reducible refine GDsplitB (fun hc => ?_) (fun hc => ?_) <;> try simp [hc])
                | (with_reducible refine GKsplit (fun hc => ?_) (fun hc => ?_) <;> try simp [hc])
                | (with_reducible refine GKsplitN (fun hc => ?_) (fun hc => ?_) <;> try simp [hc])
                | (with_reducible refine GKsplitNB (fun hc => ?_) (fun hc => ?_) <;> try simp [hc])
                | (with_reducible refine GKsplitB (fun hc => ?_) (fun hc => ?_) <;> try simp [hc])
                | (refine CallK.use (same_tP (a := t1) (b := t2) (by rw [ht1, ht2]) (by rw [ht1, List.length_map]; omega)) ?_; rintro r G' _ _ ⟨rfl, rfl⟩)
                | simp (disch := first | (with_reducible assumption) | (simp; done) | omega | (simp; omega)) [hlen])
              have dropset : ∀ (cs : List AV) (j : Nat) (v : AV), j < cs.length → (List.take j cs ++ v :: List.drop (j + 1) cs).drop (j + 1) = cs.drop (j + 1) := by
                intro cs j v hj; rw [tset hj, List.drop_set_of_lt (by omega)]
              refine awp_loop' (fun v T G' => ∃ (j : Nat) (F2 : Hp) (cs : List AV), j + v = (LL s').length ∧ G' = uni F2 h4 ∧ Dis F2 h4 ∧ F2 b = some (τ, cs) ∧ cs.length = (LL s').length ∧ cs.drop j = (((LL s').map Prod.fst).flatMap cKP).drop j ∧ T = ofL [(0, .int .i64 mx), (5, .ptr sb 0), (6, ofS cSP s'), (7, .bool true), (14, .ms b 0 (LL s').length 1), (22, ofS cT l), (23, .int .i64 (LL l).length), (24, .int .i64 k), (107, .int .i64 (LL s').length), (108, .int .i64 j)]) (LL s').length ⟨0, _, _, by omega, rfl, hdis1, setH_same .., flatP_len _, rfl, by simp [hlen]⟩ ?_
              rintro v T G' ⟨j, F2, cs, hj, rfl, hdis2, hF2, hcs, hcd, rfl⟩ M hM
              have hG2 : uni F2 h4 b = some (τ, cs) := uni_left hF2
              by_cases hjl : j < (LL s').length
              · obtain ⟨x, hx⟩ : ∃ x, x = (LL s')[j] := ⟨_, rfl⟩
                have hjc : j < cs.length := by omega
                rw [cutP_fst hjl, ← hx] at hcd
                have hfit : j + [AV.str ⟨#[122, 122]⟩].length ≤ cs.length := by simp; omega
                have h2L : 2 ≤ LIM := by simp [LIM]
                repeat' (first
                  | refine awp_seqK fun K' hpK => ?_
                  | refine awp_block ?_
                  | refine awp_condG fun A' B' hpA hpB => ?_
                  | refine useK (by with_reducible assumption) ?_
                  | refine useP (by with_reducible assumption) ?_
                  | refine ED_cons (fun _ => ?_) ?_
                  | (refine stable_mk ?_; simp (disch := first | (with_reducible assumption) | (simp; done) | omega | (simp; omega)) [hjl, hG2, hcd, hfit, hjc, h2L, ofS_idx (f := cSP), cSP, ← hx]; done)
                  | (refine stable_no ?_; simp (disch := first | (with_reducible assumption) | (simp; done) | omega | (simp; omega)) [hjl, hG2, hcd, hfit, hjc, h2L, ofS_idx (f := cSP), cSP, ← hx]; done)
                  | (with_reducible refine And.intro ?_ ?_)
                  | (with_reducible intro hc; try (exfalso; omega))
                  | (with_reducible refine GDsplit (fun hc => ?_) (fun hc => ?_) <;> try simp [hc])
                  | (with_reducible refine GDsplitN (fun hc => ?_) (fun hc => ?_) <;> try simp [hc])
                  | (with_reducible refine GDsplitNB (fun hc => ?_) (fun hc => ?_) <;> try simp [hc])
                  | (with_reducible refine GDsplitB (fun hc => ?_) (fun hc => ?_) <;> try simp [hc])
                  | (with_reducible refine GKsplit (fun hc => ?_) (fun hc => ?_) <;> try simp [hc])
                  | (with_reducible refine GKsplitN (fun hc => ?_) (fun hc => ?_) <;> try simp [hc])
                  | (with_reducible refine GKsplitNB (fun hc => ?_) (fun hc => ?_) <;> try simp [hc])
                  | (with_reducible refine GKsplitB (fun hc => ?_) (fun hc => ?_) <;> try simp [hc])
                  | simp (disch := first | (with_reducible assumption) | (simp; done) | omega | (simp; omega)) [hjl, hG2, hcd, hfit, hjc, h2L, ofS_idx (f := cSP), cSP, ← hx])
                rw [uni_swapF hb]
                refine hM (v - 1) _ _ (by omega) ⟨j + 1, _, _, by omega, rfl, dis_set hdis2 hb, setH_same .., ?_, ?_, by simp⟩
                · simp; omega
                · have hcd2 : cs.drop (j + 1) = (((LL s').map Prod.fst).flatMap cKP).drop (j + 1) := by
                    have := congrArg List.tail hcd
                    simpa using this
                  rw [← hcd2]
                  exact dropset _ _ _ hjc
              · repeat' (first
                  | refine awp_seqK fun K' hpK => ?_
                  | refine awp_block ?_
                  | refine awp_condG fun A' B' hpA hpB => ?_
                  | refine useK (by with_reducible assumption) ?_
                  | refine useP (by with_reducible assumption) ?_
                  | refine ED_cons (fun _ => ?_) ?_
                  | (refine stable_mk ?_; simp (disch := first | (with_reducible assumption) | (simp; done) | omega | (simp; omega)) [hjl]; done)
                  | (refine stable_no ?_; simp (disch := first | (with_reducible assumption) | (simp; done) | omega | (simp; omega)) [hjl]; done)
                  | (with_reducible refine And.intro ?_ ?_)
                  | (with_reducible intro hc; try (exfalso; omega))
                  | (with_reducible refine GDsplit (fun hc => ?_) (fun hc => ?_) <;> try simp [hc])
                  | (with_reducible refine GDsplitN (fun hc => ?_) (fun hc => ?_) <;> try simp [hc])
                  | (with_reducible refine GDsplitNB (fun hc => ?_) (fun hc => ?_) <;> try simp [hc])
                  | (with_reducible refine GDsplitB (fun hc => ?_) (fun hc => ?_) <;> try simp [hc])
                  | (with_reducible refine GKsplit (fun hc => ?_) (fun hc => ?_) <;> try simp [hc])
                  | (with_reducible refine GKsplitN (fun hc => ?_) (fun hc => ?_) <;> try simp [hc])
                  | (with_reducible refine GKsplitNB (fun hc => ?_) (fun hc => ?_) <;> try simp [hc])
                  | (with_reducible refine GKsplitB (fun hc => ?_) (fun hc => ?_) <;> try simp [hc])
                  | simp (disch := first | (with_reducible assumption) | (simp; done) | omega | (simp; omega)) [hjl])
                exact hN (w - 1) _ _ (by omega) ⟨k + 1, F2, h4, s', by omega, rfl, hdis2, hs', by omega, by omega, by simp⟩
    · repeat' (first
        | refine awp_seqK fun K' hpK => ?_
        | refine awp_block ?_
        | refine awp_condG fun A' B' hpA hpB => ?_
        | refine useK (by with_reducible assumption) ?_
        | refine useP (by with_reducible assumption) ?_
        | refine ED_cons (fun _ => ?_) ?_
        | (refine stable_mk ?_; simp (disch := first | (with_reducible assumption) | (simp; done) | omega | (simp; omega)) [hkl]; done)
        | (refine stable_no ?_; simp (disch := first | (with_reducible assumption) | (simp; done) | omega | (simp; omega)) [hkl]; done)
        | (with_reducible refine And.intro ?_ ?_)
        | (with_reducible intro hc; try (exfalso; omega))
        | (with_reducible refine GDsplit (fun hc => ?_) (fun hc => ?_) <;> try simp [hc])
        | (with_reducible refine GDsplitN (fun hc => ?_) (fun hc => ?_) <;> try simp [hc])
        | (with_reducible refine GDsplitNB (fun hc => ?_) (fun hc => ?_) <;> try simp [hc])
        | (with_reducible refine GDsplitB (fun hc => ?_) (fun hc => ?_) <;> try simp [hc])
        | (with_reducible refine GKsplit (fun hc => ?_) (fun hc => ?_) <;> try simp [hc])
        | (with_reducible refine GKsplitN (fun hc => ?_) (fun hc => ?_) <;> try simp [hc])
        | (with_reducible refine GKsplitNB (fun hc => ?_) (fun hc => ?_) <;> try simp [hc])
        | (with_reducible refine GKsplitB (fun hc => ?_) (fun hc => ?_) <;> try simp [hc])
        | (refine CallK.fr (lenP_c hs) hdis ?_; rintro r h' hdis _ _ ⟨rfl, rfl⟩)
        | (refine CallK.use (awake_c _) ?_; rintro r G' _ _ ⟨rfl, rfl⟩)
        | simp (disch := first | (with_reducible assumption) | (simp; done) | omega | (simp; omega)) [hkl])
      exact ends_drop (by simp <;> rfl) (by simp) (hpost _ _ ⟨rfl, rfl⟩)
  by_cases hq0 : q < 0
  · repeat' (first
      | refine awp_seqK fun K' hpK => ?_
      | refine awp_block ?_
      | refine awp_condG fun A' B' hpA hpB => ?_
      | refine useK (by with_reducible assumption) ?_
      | refine useP (by with_reducible assumption) ?_
      | refine ED_cons (fun _ => ?_) ?_
      | (refine stable_mk ?_; simp (disch := first | (with_reducible assumption) | (simp; done) | omega | (simp; omega)) [hq0]; done)
      | (refine stable_no ?_; simp (disch := first | (with_reducible assumption) | (simp; done) | omega | (simp; omega)) [hq0]; done)
      | (with_reducible refine And.intro ?_ ?_)
      | (with_reducible intro hc; try (exfalso; omega))
      | (with_reducible refine GDsplit (fun hc => ?_) (fun hc => ?_) <;> try simp [hc])
      | (with_reducible refine GDsplitN (fun hc => ?_) (fun hc => ?_) <;> try simp [hc])
      | (with_reducible refine GDsplitNB (fun hc => ?_) (fun hc => ?_) <;> try simp [hc])
      | (with_reducible refine GDsplitB (fun hc => ?_) (fun hc => ?_) <;> try simp [hc])
      | (with_reducible refine GKsplit (fun hc => ?_) (fun hc => ?_) <;> try simp [hc])
      | (with_reducible refine GKsplitN (fun hc => ?_) (fun hc => ?_) <;> try simp [hc])
      | (with_reducible refine GKsplitNB (fun hc => ?_) (fun hc => ?_) <;> try simp [hc])
      | (with_reducible refine GKsplitB (fun hc => ?_) (fun hc => ?_) <;> try simp [hc])
      | simp (disch := first | (with_reducible assumption) | (simp; done) | omega | (simp; omega)) [hq0])
    exact main 0 _ (by omega) (by omega) (by have : maxR0 q = 0 := if_pos hq0
                                             rw [this] at hr; exact hr) (by simp) (by simp) (by simp)
  · repeat' (first
      | refine awp_seqK fun K' hpK => ?_
      | refine awp_block ?_
      | refine awp_condG fun A' B' hpA hpB => ?_
      | refine useK (by with_reducible assumption) ?_
      | refine useP (by with_reducible assumption) ?_
      | refine ED_cons (fun _ => ?_) ?_
      | (refine stable_mk ?_; simp (disch := first | (with_reducible assumption) | (simp; done) | omega | (simp; omega)) [hq0]; done)
      | (refine stable_no ?_; simp (disch := first | (with_reducible assumption) | (simp; done) | omega | (simp; omega)) [hq0]; done)
      | (with_reducible refine And.intro ?_ ?_)
      | (with_reducible intro hc; try (exfalso; omega))
      | (with_reducible refine GDsplit (fun hc => ?_) (fun hc => ?_) <;> try simp [hc])
      | (with_reducible refine GDsplitN (fun hc => ?_) (fun hc => ?_) <;> try simp [hc])
      | (with_reducible refine GDsplitNB (fun hc => ?_) (fun hc => ?_) <;> try simp [hc])
      | (with_reducible refine GDsplitB (fun hc => ?_) (fun hc => ?_) <;> try simp [hc])
      | (with_reducible refine GKsplit (fun hc => ?_) (fun hc => ?_) <;> try simp [hc])
      | (with_reducible refine GKsplitN (fun hc => ?_) (fun hc => ?_) <;> try simp [hc])
      | (with_reducible refine GKsplitNB (fun hc => ?_) (fun hc => ?_) <;> try simp [hc])
      | (with_reducible refine GKsplitB (fun hc => ?_) (fun hc => ?_) <;> try simp [hc])
      | simp (disch := first | (with_reducible assumption) | (simp; done) | omega | (simp; omega)) [hq0])
    exact main q _ (by omega) (by omega) (by have : maxR0 q = q := if_neg hq0
                                             rw [this] at hr; exact hr) (by simp) (by simp) (by simp)
theorem shelfPlays_law (z0 : (TD.int .i64).T) (z1 : (TD.slc (.two (.int .i64) (.two (.int .i64) (.two (.int .i64) (.two (.int .i64) (.two .str (.two .str .unit))))))).T) (_ : (TD.int .i64).ok z0) (o1 : (TD.slc (.two (.int .i64) (.two (.int .i64) (.two (.int .i64) (.two (.int .i64) (.two .str (.two .str .unit))))))).ok z1) :
    ACalls Try.prog 7 [(TD.int .i64).av z0, (TD.slc (.two (.int .i64) (.two (.int .i64) (.two (.int .i64) (.two (.int .i64) (.two .str (.two .str .unit))))))).av z1] emptyH fun r G' => G' = emptyH ∧ r = .bool true :=
  shelfPlays_c (m0 := z0) (l := z1) o1.1 fun x hx => ⟨(o1.2 x hx).2.2.2.2.1, (o1.2 x hx).2.2.2.2.2.1⟩
end Go.Proofs.Yteifakkknhfdpaa
