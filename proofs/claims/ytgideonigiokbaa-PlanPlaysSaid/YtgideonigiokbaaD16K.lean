import Derived.Test.YtgideonigiokbaaD15K
set_option linter.unusedSimpArgs false
set_option linter.unusedVariables false
namespace Go.Proofs.Ytgideonigiokbaa
open Go Go.Al
set_option maxRecDepth 20000
attribute [local irreducible] awp aops aopsD eop pv ACalls CallK AppK AEnds ti

/-- where the reference puts a plan -/
def cntV (M : List On) (i : Int) : Nat := (M.filter fun q => decide (q.id < i)).length
def insV (M : List On) (x : On) : List On := M.take (cntV M x.id) ++ x :: M.drop (cntV M x.id)
def rstartP (M : List On) (sq : Int) (x : On) : List On × Int × Int :=
  if M.any (fun q => decide (q.id = x.id)) then (M, sq, 3) else if mayO x then (insV M x, sq + 1, 0) else (M, sq, 1)
theorem rstart_no {M : List On} {sq : Int} {x : On} (h : mayO x = false) (hn : M.any (fun q => decide (q.id = x.id)) = false) : rstartP M sq x = (M, sq, 1) := by unfold rstartP; rw [hn, h]; rfl
set_option maxHeartbeats 16000000 in
theorem rstart_c {rb : Nat} {G : Hp} {M : List On} {rt sq : Int} {v : On} (hR : RH rb G M rt sq) (hl : M.length ≤ 1000) (h0 : 0 ≤ sq) (h1 : sq ≤ 1000000) (hpl : (LL v.path).length ≤ 1000) : ACalls Try.prog 30 [.ptr rb 0, v.fl, v.lv, .int .i64 v.idle, .int .i64 v.hard] G fun r G' => RH rb G' (rstartP M sq (xO v v.path sq)).1 rt (rstartP M sq (xO v v.path sq)).2.1 ∧ r = .int .i64 (rstartP M sq (xO v v.path sq)).2.2 := by
  have hR0 := hR
  obtain ⟨out, hg⟩ := hR
  have hat := hg.at
  have hpo := Grow.plain hg
  have hal := fun {t : TypeId} => Grow.len (P := Try.prog) (t := t) hg
  have w1 : IntKind.u32.wrap (sq + 1) = sq + 1 := by rw [IntKind.wrap_u32]; omega
  have hw2 : IntKind.i64.wrap ((LL v.path).length - 1) = (LL v.path).length - 1 := by rw [IntKind.wrap_i64]; omega
  have hxid : (xO v v.path sq).id = v.id := rfl
  refine ACalls.hide fun post hpost => ?_
  refine F30_in (by simp) (by simp) fun hbd => ?_
  repeat' (first
    | refine awp_seqK fun K' hpK => ?_
    | refine awp_block ?_
    | refine awp_condG fun A' B' hpA hpB => ?_
    | refine useK (by with_reducible assumption) ?_
    | refine useP (by with_reducible assumption) ?_
    | refine ED_cons (fun _ => ?_) ?_
    | (refine stable_mk ?_; simp (disch := first | (with_reducible assumption) | (simp; done) | omega | (simp; omega)) [On.fl, On.lv, hat, hpo, hal, w1, hw2]; done)
    | (refine stable_no ?_; simp (disch := first | (with_reducible assumption) | (simp; done) | omega | (simp; omega)) [On.fl, On.lv, hat, hpo, hal, w1, hw2]; done)
    | (with_reducible refine And.intro ?_ ?_)
    | (with_reducible intro hc)
    | (with_reducible refine GDsplit (fun hc => ?_) (fun hc => ?_) <;> try simp [hc])
    | (with_reducible refine GDsplitN (fun hc => ?_) (fun hc => ?_) <;> try simp [hc])
    | (with_reducible refine GDsplitNB (fun hc => ?_) (fun hc => ?_) <;> try simp [hc])
    | (with_reducible refine GDsplitB (fun hc => ?_) (fun hc => ?_) <;> try simp [hc])
    | (with_reducible refine GKsplit (fun hc => ?_) (fun hc => ?_) <;> try simp [hc])
    | (with_reducible refine GKsplitN (fun hc => ?_) (fun hc => ?_) <;> try simp [hc])
    | (with_reducible refine GKsplitNB (fun hc => ?_) (fun hc => ?_) <;> try simp [hc])
    | (with_reducible refine GKsplitB (fun hc => ?_) (fun hc => ?_) <;> try simp [hc])
    | simp (disch := first | (with_reducible assumption) | (simp; done) | omega | (simp; omega)) [On.fl, On.lv, hat, hpo, hal, w1, hw2])
  refine awp_loop' (fun w T G1 => ∃ (j cn : Nat), j + w = M.length ∧ G1 = G ∧ cn = ((M.take j).filter fun q => decide (q.id < v.id)).length ∧ (M.take j).any (fun q => decide (q.id = v.id)) = false ∧ T = ofL [(0, .ptr rb 0), (6, .box [.int .u32 v.id, .int .u32 v.ep, .int .u64 v.k1, .int .u64 v.k2, .int .u32 v.k3, .int .u32 v.k4, .int .i64 v.k5, .int .i64 v.k6, .int .i64 v.k7, .int .i64 v.f1, .int .i64 v.f2, .int .i64 v.t1, .int .i64 v.t2, .str v.su, .str v.sh, .str v.du, .str v.dh, .int .i64 v.act, .int .i64 v.rule, ofS cHo v.path]), (11, .box [.int .u32 v.id, .int .u32 v.ep, .int .u64 v.k1, .int .u64 v.k2, .int .u32 v.k3, .int .u32 v.k4, .int .i64 v.k5, .int .i64 v.k6, .int .i64 v.k7, .int .i64 v.f1, .int .i64 v.f2, .int .i64 v.t1, .int .i64 v.t2, .str v.su, .str v.sh, .str v.du, .str v.dh, .int .i64 v.act, .int .i64 v.rule, ofS cHo v.path, .int .u32 v.l0, .int .u32 v.l1, .int .u32 v.l2, .int .u32 v.l3, .int .u32 v.l4, .int .u32 v.l5, .int .u32 v.l6, .int .u32 v.l7, .int .u32 v.l8, .int .i64 v.idle, .int .i64 v.hard, .int .i64 ((LL v.path).length - 1), .int .u32 (sq + 1), .bool false, .int .i64 0]), (12, .int .i64 cn), (34, out), (35, .int .i64 M.length), (36, .int .i64 j)]) M.length ⟨0, 0, by omega, rfl, by simp, by simp, by simp⟩ ?_
  rintro w T G1 ⟨j, cn, hj, rfl, hcn, hno, rfl⟩ N hN
  have hcl : cn ≤ j := by rw [hcn]; exact Nat.le_trans (List.length_filter_le _ _) (by rw [List.length_take]; omega)
  by_cases hjl : j < M.length
  · obtain ⟨x, hx⟩ : ∃ x, x = M[j] := ⟨_, rfl⟩
    obtain ⟨b, τ, hb, rfl, hG⟩ := Grow.ms hg (by intro h; subst h; simp at hjl)
    have hatb : G1 b = some (τ, M.flatMap cVO) := by rw [hG, setH_same]
    have hd0 := flat_at0 (f := cVO) (sz := 35) (by simp) hjl
    have htk := take_succ_get M j hjl
    rw [← hx] at htk
    rw [← hx, cVO_x] at hd0
    have wc : IntKind.i64.wrap ((cn : Int) + 1) = (cn : Int) + 1 := by rw [IntKind.wrap_i64]; omega
    by_cases he : x.id = v.id
    · have hany : M.any (fun q => decide (q.id = v.id)) = true := by
        rw [List.any_eq_true]; exact ⟨x, by rw [hx]; exact List.getElem_mem _, by simpa using he⟩
      have e : rstartP M sq (xO v v.path sq) = (M, sq, 3) := by unfold rstartP; rw [hxid, hany]; rfl
      repeat' (first
        | refine awp_seqK fun K' hpK => ?_
        | refine awp_block ?_
        | refine awp_condG fun A' B' hpA hpB => ?_
        | refine useK (by with_reducible assumption) ?_
        | refine useP (by with_reducible assumption) ?_
        | refine ED_cons (fun _ => ?_) ?_
        | (refine stable_mk ?_; simp (disch := first | (with_reducible assumption) | (simp; done) | omega | (simp; omega)) [hjl, hatb, hd0, he]; done)
        | (refine stable_no ?_; simp (disch := first | (with_reducible assumption) | (simp; done) | omega | (simp; omega)) [hjl, hatb, hd0, he]; done)
        | (with_reducible refine And.intro ?_ ?_)
        | (with_reducible intro hc)
        | (with_reducible refine GDsplit (fun hc => ?_) (fun hc => ?_) <;> try simp [hc])
        | (with_reducible refine GDsplitN (fun hc => ?_) (fun hc => ?_) <;> try simp [hc])
        | (with_reducible refine GDsplitNB (fun hc => ?_) (fun hc => ?_) <;> try simp [hc])
        | (with_reducible refine GDsplitB (fun hc => ?_) (fun hc => ?_) <;> try simp [hc])
        | (with_reducible refine GKsplit (fun hc => ?_) (fun hc => ?_) <;> try simp [hc])
        | (with_reducible refine GKsplitN (fun hc => ?_) (fun hc => ?_) <;> try simp [hc])
        | (with_reducible refine GKsplitNB (fun hc => ?_) (fun hc => ?_) <;> try simp [hc])
        | (with_reducible refine GKsplitB (fun hc => ?_) (fun hc => ?_) <;> try simp [hc])
        | simp (disch := first | (with_reducible assumption) | (simp; done) | omega | (simp; omega)) [hjl, hatb, hd0, he])
      exact ends_one (by simp <;> rfl) (by simp) (hpost _ _ ⟨by rw [e]; exact hR0, by rw [e]⟩)
    · have hno2 : (M.take (j + 1)).any (fun q => decide (q.id = v.id)) = false := by rw [htk, List.any_append, hno]; simp [he]
      by_cases hlt : x.id < v.id
      · repeat' (first
          | refine awp_seqK fun K' hpK => ?_
          | refine awp_block ?_
          | refine awp_condG fun A' B' hpA hpB => ?_
          | refine useK (by with_reducible assumption) ?_
          | refine useP (by with_reducible assumption) ?_
          | refine ED_cons (fun _ => ?_) ?_
          | (refine stable_mk ?_; simp (disch := first | (with_reducible assumption) | (simp; done) | omega | (simp; omega)) [hjl, hatb, hd0, he, hlt, wc]; done)
          | (refine stable_no ?_; simp (disch := first | (with_reducible assumption) | (simp; done) | omega | (simp; omega)) [hjl, hatb, hd0, he, hlt, wc]; done)
          | (with_reducible refine And.intro ?_ ?_)
          | (with_reducible intro hc)
          | (with_reducible refine GDsplit (fun hc => ?_) (fun hc => ?_) <;> try simp [hc])
          | (with_reducible refine GDsplitN (fun hc => ?_) (fun hc => ?_) <;> try simp [hc])
          | (with_reducible refine GDsplitNB (fun hc => ?_) (fun hc => ?_) <;> try simp [hc])
          | (with_reducible refine GDsplitB (fun hc => ?_) (fun hc => ?_) <;> try simp [hc])
          | (with_reducible refine GKsplit (fun hc => ?_) (fun hc => ?_) <;> try simp [hc])
          | (with_reducible refine GKsplitN (fun hc => ?_) (fun hc => ?_) <;> try simp [hc])
          | (with_reducible refine GKsplitNB (fun hc => ?_) (fun hc => ?_) <;> try simp [hc])
          | (with_reducible refine GKsplitB (fun hc => ?_) (fun hc => ?_) <;> try simp [hc])
          | simp (disch := first | (with_reducible assumption) | (simp; done) | omega | (simp; omega)) [hjl, hatb, hd0, he, hlt, wc])
        exact hN (w - 1) _ _ (by omega) ⟨j + 1, cn + 1, by omega, rfl, by rw [htk, List.filter_append, List.length_append, ← hcn]; simp [hlt], hno2, by simp⟩
      · repeat' (first
          | refine awp_seqK fun K' hpK => ?_
          | refine awp_block ?_
          | refine awp_condG fun A' B' hpA hpB => ?_
          | refine useK (by with_reducible assumption) ?_
          | refine useP (by with_reducible assumption) ?_
          | refine ED_cons (fun _ => ?_) ?_
          | (refine stable_mk ?_; simp (disch := first | (with_reducible assumption) | (simp; done) | omega | (simp; omega)) [hjl, hatb, hd0, he, hlt]; done)
          | (refine stable_no ?_; simp (disch := first | (with_reducible assumption) | (simp; done) | omega | (simp; omega)) [hjl, hatb, hd0, he, hlt]; done)
          | (with_reducible refine And.intro ?_ ?_)
          | (with_reducible intro hc)
          | (with_reducible refine GDsplit (fun hc => ?_) (fun hc => ?_) <;> try simp [hc])
          | (with_reducible refine GDsplitN (fun hc => ?_) (fun hc => ?_) <;> try simp [hc])
          | (with_reducible refine GDsplitNB (fun hc => ?_) (fun hc => ?_) <;> try simp [hc])
          | (with_reducible refine GDsplitB (fun hc => ?_) (fun hc => ?_) <;> try simp [hc])
          | (with_reducible refine GKsplit (fun hc => ?_) (fun hc => ?_) <;> try simp [hc])
          | (with_reducible refine GKsplitN (fun hc => ?_) (fun hc => ?_) <;> try simp [hc])
          | (with_reducible refine GKsplitNB (fun hc => ?_) (fun hc => ?_) <;> try simp [hc])
          | (with_reducible refine GKsplitB (fun hc => ?_) (fun hc => ?_) <;> try simp [hc])
          | simp (disch := first | (with_reducible assumption) | (simp; done) | omega | (simp; omega)) [hjl, hatb, hd0, he, hlt])
        exact hN (w - 1) _ _ (by omega) ⟨j + 1, cn, by omega, rfl, by rw [htk, List.filter_append, List.length_append, ← hcn]; simp [hlt], hno2, by simp⟩
  · rw [List.take_of_length_le (by omega)] at hcn hno
    have hany : M.any (fun q => decide (q.id = (xO v v.path sq).id)) = false := hno
    have hful : ¬ (1024 : Int) ≤ M.length := by omega
    have hins : M.take cn ++ [xO v v.path sq] ++ M.drop cn = (rstartP M sq (xO v v.path sq)).1 ∨ mayO (xO v v.path sq) = false := by
      cases hm : mayO (xO v v.path sq) with
      | false => exact .inr rfl
      | true => left; unfold rstartP insV cntV; rw [hany, hm, hxid, ← hcn]; simp
    by_cases hp0 : ((LL v.path).length : Int) = 0
    · have hm : mayO (xO v v.path sq) = false := by
        unfold mayO; rw [decide_eq_false (by show ¬ 0 < (LL v.path).length; omega)]; simp
      have e := rstart_no (sq := sq) hm hany
      have hp1 : LL v.path = [] := List.eq_nil_of_length_eq_zero (by omega)
      repeat' (first
        | refine awp_seqK fun K' hpK => ?_
        | refine awp_block ?_
        | refine awp_condG fun A' B' hpA hpB => ?_
        | refine useK (by with_reducible assumption) ?_
        | refine useP (by with_reducible assumption) ?_
        | refine ED_cons (fun _ => ?_) ?_
        | (refine stable_mk ?_; simp (disch := first | (with_reducible assumption) | (simp; done) | omega | (simp; omega)) [hjl, hat, hpo, hal, hful, hp1]; done)
        | (refine stable_no ?_; simp (disch := first | (with_reducible assumption) | (simp; done) | omega | (simp; omega)) [hjl, hat, hpo, hal, hful, hp1]; done)
        | (with_reducible refine And.intro ?_ ?_)
        | (with_reducible intro hc)
        | (with_reducible refine GDsplit (fun hc => ?_) (fun hc => ?_) <;> try simp [hc])
        | (with_reducible refine GDsplitN (fun hc => ?_) (fun hc => ?_) <;> try simp [hc])
        | (with_reducible refine GDsplitNB (fun hc => ?_) (fun hc => ?_) <;> try simp [hc])
        | (with_reducible refine GDsplitB (fun hc => ?_) (fun hc => ?_) <;> try simp [hc])
        | (with_reducible refine GKsplit (fun hc => ?_) (fun hc => ?_) <;> try simp [hc])
        | (with_reducible refine GKsplitN (fun hc => ?_) (fun hc => ?_) <;> try simp [hc])
        | (with_reducible refine GKsplitNB (fun hc => ?_) (fun hc => ?_) <;> try simp [hc])
        | (with_reducible refine GKsplitB (fun hc => ?_) (fun hc => ?_) <;> try simp [hc])
        | simp (disch := first | (with_reducible assumption) | (simp; done) | omega | (simp; omega)) [hjl, hat, hpo, hal, hful, hp1])
      exact ends_one (by simp <;> rfl) (by simp) (hpost _ _ ⟨by rw [e]; exact hR0, by rw [e]⟩)
    · have mc : ∀ G k, k < (LL v.path).length → ACalls Try.prog 41 [(xO v v.path sq).av, .int .i64 k] G fun r G' => G' = G ∧ r = ((xO v v.path sq).msg k).av := fun G k hk => rmsg_c (v := xO v v.path sq) (k := k) (G := G) hk hpl
      have yc := fun G k => rmay_c (m := (xO v v.path sq).msg k) (G := G)
      simp only [On.av, Ms.av, xO] at mc yc
      have hp1 : ¬ LL v.path = [] := by intro h; rw [h] at hp0; exact hp0 rfl
      repeat' (first
        | refine awp_seqK fun K' hpK => ?_
        | refine awp_block ?_
        | refine awp_condG fun A' B' hpA hpB => ?_
        | refine useK (by with_reducible assumption) ?_
        | refine useP (by with_reducible assumption) ?_
        | refine ED_cons (fun _ => ?_) ?_
        | (refine stable_mk ?_; simp (disch := first | (with_reducible assumption) | (simp; done) | omega | (simp; omega)) [hjl, hat, hpo, hal, hful, hp1]; done)
        | (refine stable_no ?_; simp (disch := first | (with_reducible assumption) | (simp; done) | omega | (simp; omega)) [hjl, hat, hpo, hal, hful, hp1]; done)
        | (with_reducible refine And.intro ?_ ?_)
        | (with_reducible intro hc)
        | (with_reducible refine GDsplit (fun hc => ?_) (fun hc => ?_) <;> try simp [hc])
        | (with_reducible refine GDsplitN (fun hc => ?_) (fun hc => ?_) <;> try simp [hc])
        | (with_reducible refine GDsplitNB (fun hc => ?_) (fun hc => ?_) <;> try simp [hc])
        | (with_reducible refine GDsplitB (fun hc => ?_) (fun hc => ?_) <;> try simp [hc])
        | (with_reducible refine GKsplit (fun hc => ?_) (fun hc => ?_) <;> try simp [hc])
        | (with_reducible refine GKsplitN (fun hc => ?_) (fun hc => ?_) <;> try simp [hc])
        | (with_reducible refine GKsplitNB (fun hc => ?_) (fun hc => ?_) <;> try simp [hc])
        | (with_reducible refine GKsplitB (fun hc => ?_) (fun hc => ?_) <;> try simp [hc])
        | simp (disch := first | (with_reducible assumption) | (simp; done) | omega | (simp; omega)) [hjl, hat, hpo, hal, hful, hp1])
      refine awp_loop' (fun w T G' => ∃ j : Nat, j + w = (LL v.path).length ∧ G' = G1 ∧ (∀ i, i < j → mayM ((xO v v.path sq).msg i) = true) ∧ T = ofL [(0, .ptr rb 0), (11, .box [.int .u32 v.id, .int .u32 v.ep, .int .u64 v.k1, .int .u64 v.k2, .int .u32 v.k3, .int .u32 v.k4, .int .i64 v.k5, .int .i64 v.k6, .int .i64 v.k7, .int .i64 v.f1, .int .i64 v.f2, .int .i64 v.t1, .int .i64 v.t2, .str v.su, .str v.sh, .str v.du, .str v.dh, .int .i64 v.act, .int .i64 v.rule, ofS cHo v.path, .int .u32 v.l0, .int .u32 v.l1, .int .u32 v.l2, .int .u32 v.l3, .int .u32 v.l4, .int .u32 v.l5, .int .u32 v.l6, .int .u32 v.l7, .int .u32 v.l8, .int .i64 v.idle, .int .i64 v.hard, .int .i64 ((LL v.path).length - 1), .int .u32 (sq + 1), .bool false, .int .i64 0]), (12, .int .i64 cn), (67, .int .i64 (LL v.path).length), (68, .int .i64 j)]) (LL v.path).length ⟨0, by omega, rfl, fun i h => absurd h (by omega), by simp⟩ ?_
      rintro w T G' ⟨j, hj, rfl, hd, rfl⟩ N hN
      by_cases hjp : j < (LL v.path).length
      · have yc1 := fun G => yc G j
        cases hm : mayM ((xO v v.path sq).msg j) with
        | true =>
          have hm' := hm
          simp only [xO] at hm'
          rw [hm'] at yc1
          repeat' (first
            | refine awp_seqK fun K' hpK => ?_
            | refine awp_block ?_
            | refine awp_condG fun A' B' hpA hpB => ?_
            | refine useK (by with_reducible assumption) ?_
            | refine useP (by with_reducible assumption) ?_
            | refine ED_cons (fun _ => ?_) ?_
            | (refine stable_mk ?_; simp (disch := first | (with_reducible assumption) | (simp; done) | omega | (simp; omega)) [hjp]; done)
            | (refine stable_no ?_; simp (disch := first | (with_reducible assumption) | (simp; done) | omega | (simp; omega)) [hjp]; done)
            | (with_reducible refine And.intro ?_ ?_)
            | (with_reducible intro hc)
            | (with_reducible refine GDsplit (fun hc => ?_) (fun hc => ?_) <;> try simp [hc])
            | (with_reducible refine GDsplitN (fun hc => ?_) (fun hc => ?_) <;> try simp [hc])
            | (with_reducible refine GDsplitNB (fun hc => ?_) (fun hc => ?_) <;> try simp [hc])
            | (with_reducible refine GDsplitB (fun hc => ?_) (fun hc => ?_) <;> try simp [hc])
            | (with_reducible refine GKsplit (fun hc => ?_) (fun hc => ?_) <;> try simp [hc])
            | (with_reducible refine GKsplitN (fun hc => ?_) (fun hc => ?_) <;> try simp [hc])
            | (with_reducible refine GKsplitNB (fun hc => ?_) (fun hc => ?_) <;> try simp [hc])
            | (with_reducible refine GKsplitB (fun hc => ?_) (fun hc => ?_) <;> try simp [hc])
            | (refine CallK.use (mc _ _ hjp) ?_; rintro r G' _ _ ⟨rfl, rfl⟩)
            | (refine CallK.use (yc1 _) ?_; rintro r G' _ _ ⟨rfl, rfl⟩)
            | simp (disch := first | (with_reducible assumption) | (simp; done) | omega | (simp; omega)) [hjp])
          refine hN (w - 1) _ _ (by omega) ⟨j + 1, by omega, rfl, fun i h => ?_, by simp⟩
          by_cases e : i < j
          · exact hd i e
          · have : i = j := by omega
            rw [this]; exact hm
        | false =>
          have hm' := hm
          simp only [xO] at hm'
          rw [hm'] at yc1
          have hmo : mayO (xO v v.path sq) = false := by
            unfold mayO; rw [range_all (p := fun k => mayM ((xO v v.path sq).msg k)) (show j < (LL (xO v v.path sq).path).length from hjp) hm]; rfl
          have e := rstart_no (sq := sq) hmo hany
          repeat' (first
            | refine awp_seqK fun K' hpK => ?_
            | refine awp_block ?_
            | refine awp_condG fun A' B' hpA hpB => ?_
            | refine useK (by with_reducible assumption) ?_
            | refine useP (by with_reducible assumption) ?_
            | refine ED_cons (fun _ => ?_) ?_
            | (refine stable_mk ?_; simp (disch := first | (with_reducible assumption) | (simp; done) | omega | (simp; omega)) [hjp]; done)
            | (refine stable_no ?_; simp (disch := first | (with_reducible assumption) | (simp; done) | omega | (simp; omega)) [hjp]; done)
            | (with_reducible refine And.intro ?_ ?_)
            | (with_reducible intro hc)
            | (with_reducible refine GDsplit (fun hc => ?_) (fun hc => ?_) <;> try simp [hc])
            | (with_reducible refine GDsplitN (fun hc => ?_) (fun hc => ?_) <;> try simp [hc])
            | (with_reducible refine GDsplitNB (fun hc => ?_) (fun hc => ?_) <;> try simp [hc])
            | (with_reducible refine GDsplitB (fun hc => ?_) (fun hc => ?_) <;> try simp [hc])
            | (with_reducible refine GKsplit (fun hc => ?_) (fun hc => ?_) <;> try simp [hc])
            | (with_reducible refine GKsplitN (fun hc => ?_) (fun hc => ?_) <;> try simp [hc])
            | (with_reducible refine GKsplitNB (fun hc => ?_) (fun hc => ?_) <;> try simp [hc])
            | (with_reducible refine GKsplitB (fun hc => ?_) (fun hc => ?_) <;> try simp [hc])
            | (refine CallK.use (mc _ _ hjp) ?_; rintro r G' _ _ ⟨rfl, rfl⟩)
            | (refine CallK.use (yc1 _) ?_; rintro r G' _ _ ⟨rfl, rfl⟩)
            | simp (disch := first | (with_reducible assumption) | (simp; done) | omega | (simp; omega)) [hjp])
          exact ends_one (by simp <;> rfl) (by simp) (hpost _ _ ⟨by rw [e]; exact hR0, by rw [e]⟩)
      · have hmo : mayO (xO v v.path sq) = true := by
          have ha : (List.range (LL v.path).length).all (fun k => mayM ((xO v v.path sq).msg k)) = true := by
            rw [List.all_eq_true]; intro k hk; exact hd k (by have := List.mem_range.1 hk; omega)
          unfold mayO
          rw [show (LL (xO v v.path sq).path) = LL v.path from rfl, ha, decide_eq_true (by omega)]; rfl
        replace hins := hins.resolve_right (by rw [hmo]; simp)
        have e2 : (rstartP M sq (xO v v.path sq)).2.1 = sq + 1 := by unfold rstartP; rw [hany, hmo]; rfl
        have e3 : (rstartP M sq (xO v v.path sq)).2.2 = 0 := by unfold rstartP; rw [hany, hmo]; rfl
        rw [e2, e3] at hpost
        have hcle : cn ≤ M.length := by omega
        have hj2 := hjp
        have hg2 := Grow.set hg (one_same ..) (o' := RO out rt (sq + 1))
        rw [setH_one] at hg2
        obtain ⟨H2, hH2⟩ : ∃ H2, H2 = setH G' rb (some (0, [out, .int .i64 rt, .int .u32 (sq + 1)])) := ⟨_, rfl⟩
        have hg2' : Grow cVO 35 (one rb (RO out rt (sq + 1))) H2 out M := by rw [hH2]; exact hg2
        have hat2 : H2 rb = some (0, [out, .int .i64 rt, .int .u32 (sq + 1)]) := by rw [hH2, setH_same]
        rcases hg2' with ⟨ho, hM, _⟩ | ⟨b, τ, hb, ho, hG2⟩
        · have hc0 : cn = 0 := by rw [hM] at hcle; simpa using hcle
          subst hM hc0 ho
          repeat' (first
            | refine awp_seqK fun K' hpK => ?_
            | refine awp_block ?_
            | refine awp_condG fun A' B' hpA hpB => ?_
            | refine useK (by with_reducible assumption) ?_
            | refine useP (by with_reducible assumption) ?_
            | refine ED_cons (fun _ => ?_) ?_
            | (refine stable_mk ?_; simp (disch := first | (with_reducible assumption) | (simp; done) | omega | (simp; omega)) [hat, hat2, w1, hj2]; done)
            | (refine stable_no ?_; simp (disch := first | (with_reducible assumption) | (simp; done) | omega | (simp; omega)) [hat, hat2, w1, hj2]; done)
            | (with_reducible refine And.intro ?_ ?_)
            | (with_reducible intro hc)
            | (with_reducible refine GDsplit (fun hc => ?_) (fun hc => ?_) <;> try simp [hc])
            | (with_reducible refine GDsplitN (fun hc => ?_) (fun hc => ?_) <;> try simp [hc])
            | (with_reducible refine GDsplitNB (fun hc => ?_) (fun hc => ?_) <;> try simp [hc])
            | (with_reducible refine GDsplitB (fun hc => ?_) (fun hc => ?_) <;> try simp [hc])
            | (with_reducible refine GKsplit (fun hc => ?_) (fun hc => ?_) <;> try simp [hc])
            | (with_reducible refine GKsplitN (fun hc => ?_) (fun hc => ?_) <;> try simp [hc])
            | (with_reducible refine GKsplitNB (fun hc => ?_) (fun hc => ?_) <;> try simp [hc])
            | (with_reducible refine GKsplitB (fun hc => ?_) (fun hc => ?_) <;> try simp [hc])
            | simp (disch := first | (with_reducible assumption) | (simp; done) | omega | (simp; omega)) [hat, hat2, w1, hj2])
          rw [← hH2]
          intro c hc
          refine ⟨0, ?_⟩
          have hatc := hat2
          have hrc : rb ≠ c := by rintro rfl; rw [hat2] at hc; cases hc
          rw [← setH_ne H2 (some (0, [])) hrc] at hatc
          repeat' (first
            | refine awp_seqK fun K' hpK => ?_
            | refine awp_block ?_
            | refine awp_condG fun A' B' hpA hpB => ?_
            | refine useK (by with_reducible assumption) ?_
            | refine useP (by with_reducible assumption) ?_
            | refine ED_cons (fun _ => ?_) ?_
            | (refine stable_mk ?_; simp (disch := first | (with_reducible assumption) | (simp; done) | omega | (simp; omega)) [hatc, hat2, RO]; done)
            | (refine stable_no ?_; simp (disch := first | (with_reducible assumption) | (simp; done) | omega | (simp; omega)) [hatc, hat2, RO]; done)
            | (with_reducible refine And.intro ?_ ?_)
            | (with_reducible intro hc)
            | (with_reducible refine GDsplit (fun hc => ?_) (fun hc => ?_) <;> try simp [hc])
            | (with_reducible refine GDsplitN (fun hc => ?_) (fun hc => ?_) <;> try simp [hc])
            | (with_reducible refine GDsplitNB (fun hc => ?_) (fun hc => ?_) <;> try simp [hc])
            | (with_reducible refine GDsplitB (fun hc => ?_) (fun hc => ?_) <;> try simp [hc])
            | (with_reducible refine GKsplit (fun hc => ?_) (fun hc => ?_) <;> try simp [hc])
            | (with_reducible refine GKsplitN (fun hc => ?_) (fun hc => ?_) <;> try simp [hc])
            | (with_reducible refine GKsplitNB (fun hc => ?_) (fun hc => ?_) <;> try simp [hc])
            | (with_reducible refine GKsplitB (fun hc => ?_) (fun hc => ?_) <;> try simp [hc])
            | simp (disch := first | (with_reducible assumption) | (simp; done) | omega | (simp; omega)) [hatc, hat2, RO])
          refine Grow.app (f := cVO) (xs := (([] : List On).take 0)) (Grow.fresh hc) (by rfl) (flat_scal _) (by simp [LIM] <;> omega) (fun v1 G4 hg4 => ?_) (hf := by simp)
          rw [List.nil_append] at hg4
          have hp4 := Grow.plain hg4
          have hat4 := hg4.base hat2
          repeat' (first
            | refine awp_seqK fun K' hpK => ?_
            | refine awp_block ?_
            | refine awp_condG fun A' B' hpA hpB => ?_
            | refine useK (by with_reducible assumption) ?_
            | refine useP (by with_reducible assumption) ?_
            | refine ED_cons (fun _ => ?_) ?_
            | (refine stable_mk ?_; simp (disch := first | (with_reducible assumption) | (simp; done) | omega | (simp; omega)) [hp4, hat4, RO]; done)
            | (refine stable_no ?_; simp (disch := first | (with_reducible assumption) | (simp; done) | omega | (simp; omega)) [hp4, hat4, RO]; done)
            | (with_reducible refine And.intro ?_ ?_)
            | (with_reducible intro hc)
            | (with_reducible refine GDsplit (fun hc => ?_) (fun hc => ?_) <;> try simp [hc])
            | (with_reducible refine GDsplitN (fun hc => ?_) (fun hc => ?_) <;> try simp [hc])
            | (with_reducible refine GDsplitNB (fun hc => ?_) (fun hc => ?_) <;> try simp [hc])
            | (with_reducible refine GDsplitB (fun hc => ?_) (fun hc => ?_) <;> try simp [hc])
            | (with_reducible refine GKsplit (fun hc => ?_) (fun hc => ?_) <;> try simp [hc])
            | (with_reducible refine GKsplitN (fun hc => ?_) (fun hc => ?_) <;> try simp [hc])
            | (with_reducible refine GKsplitNB (fun hc => ?_) (fun hc => ?_) <;> try simp [hc])
            | (with_reducible refine GKsplitB (fun hc => ?_) (fun hc => ?_) <;> try simp [hc])
            | simp (disch := first | (with_reducible assumption) | (simp; done) | omega | (simp; omega)) [hp4, hat4, RO])
          refine hg4.app1 (x := xO v v.path sq) rfl (by simp) (by simp [LIM] <;> omega) (fun v2 G5 hg5 => ?_)
          have hp5 := Grow.plain hg5
          have hat5 := hg5.base hat2
          repeat' (first
            | refine awp_seqK fun K' hpK => ?_
            | refine awp_block ?_
            | refine awp_condG fun A' B' hpA hpB => ?_
            | refine useK (by with_reducible assumption) ?_
            | refine useP (by with_reducible assumption) ?_
            | refine ED_cons (fun _ => ?_) ?_
            | (refine stable_mk ?_; simp (disch := first | (with_reducible assumption) | (simp; done) | omega | (simp; omega)) [hp5, hat5, RO]; done)
            | (refine stable_no ?_; simp (disch := first | (with_reducible assumption) | (simp; done) | omega | (simp; omega)) [hp5, hat5, RO]; done)
            | (with_reducible refine And.intro ?_ ?_)
            | (with_reducible intro hc)
            | (with_reducible refine GDsplit (fun hc => ?_) (fun hc => ?_) <;> try simp [hc])
            | (with_reducible refine GDsplitN (fun hc => ?_) (fun hc => ?_) <;> try simp [hc])
            | (with_reducible refine GDsplitNB (fun hc => ?_) (fun hc => ?_) <;> try simp [hc])
            | (with_reducible refine GDsplitB (fun hc => ?_) (fun hc => ?_) <;> try simp [hc])
            | (with_reducible refine GKsplit (fun hc => ?_) (fun hc => ?_) <;> try simp [hc])
            | (with_reducible refine GKsplitN (fun hc => ?_) (fun hc => ?_) <;> try simp [hc])
            | (with_reducible refine GKsplitNB (fun hc => ?_) (fun hc => ?_) <;> try simp [hc])
            | (with_reducible refine GKsplitB (fun hc => ?_) (fun hc => ?_) <;> try simp [hc])
            | simp (disch := first | (with_reducible assumption) | (simp; done) | omega | (simp; omega)) [hp5, hat5, RO])
          refine Grow.app (f := cVO) (xs := (([] : List On).drop 0)) hg5 (by rfl) (flat_scal _) (by simp [LIM] <;> omega) (fun v3 G6 hg6 => ?_) (hf := by simp)
          have hp6 := Grow.plain hg6
          have hkn := hg6.known
          have hks := hg6.scal
          have hkc := hg6.cells
          have hat6 := hg6.base hat2
          repeat' (first
            | refine awp_seqK fun K' hpK => ?_
            | refine awp_block ?_
            | refine awp_condG fun A' B' hpA hpB => ?_
            | refine useK (by with_reducible assumption) ?_
            | refine useP (by with_reducible assumption) ?_
            | refine ED_cons (fun _ => ?_) ?_
            | (refine stable_mk ?_; simp (disch := first | (with_reducible assumption) | (simp; done) | omega | (simp; omega)) [hp6, hat6, hkn, hks, hkc]; done)
            | (refine stable_no ?_; simp (disch := first | (with_reducible assumption) | (simp; done) | omega | (simp; omega)) [hp6, hat6, hkn, hks, hkc]; done)
            | (with_reducible refine And.intro ?_ ?_)
            | (with_reducible intro hc)
            | (with_reducible refine GDsplit (fun hc => ?_) (fun hc => ?_) <;> try simp [hc])
            | (with_reducible refine GDsplitN (fun hc => ?_) (fun hc => ?_) <;> try simp [hc])
            | (with_reducible refine GDsplitNB (fun hc => ?_) (fun hc => ?_) <;> try simp [hc])
            | (with_reducible refine GDsplitB (fun hc => ?_) (fun hc => ?_) <;> try simp [hc])
            | (with_reducible refine GKsplit (fun hc => ?_) (fun hc => ?_) <;> try simp [hc])
            | (with_reducible refine GKsplitN (fun hc => ?_) (fun hc => ?_) <;> try simp [hc])
            | (with_reducible refine GKsplitNB (fun hc => ?_) (fun hc => ?_) <;> try simp [hc])
            | (with_reducible refine GKsplitB (fun hc => ?_) (fun hc => ?_) <;> try simp [hc])
            | simp (disch := first | (with_reducible assumption) | (simp; done) | omega | (simp; omega)) [hp6, hat6, hkn, hks, hkc])
          obtain ⟨h7, hsub, hg7⟩ := Grow.cut hg6 hat2 (o' := RO v3 rt (sq + 1))
          rw [hins] at hg7
          exact ends_one_sub (by simp <;> rfl) (by simp) hsub (hpost _ _ ⟨⟨v3, hg7⟩, rfl⟩)
        · have hatb : H2 b = some (τ, M.flatMap cVO) := by rw [hG2, setH_same]
          subst ho
          by_cases hc0 : cn = 0
          · subst hc0
            repeat' (first
              | refine awp_seqK fun K' hpK => ?_
              | refine awp_block ?_
              | refine awp_condG fun A' B' hpA hpB => ?_
              | refine useK (by with_reducible assumption) ?_
              | refine useP (by with_reducible assumption) ?_
              | refine ED_cons (fun _ => ?_) ?_
              | (refine stable_mk ?_; simp (disch := first | (with_reducible assumption) | (simp; done) | omega | (simp; omega)) [hat, hat2, w1, hj2, hcle]; done)
              | (refine stable_no ?_; simp (disch := first | (with_reducible assumption) | (simp; done) | omega | (simp; omega)) [hat, hat2, w1, hj2, hcle]; done)
              | (with_reducible refine And.intro ?_ ?_)
              | (with_reducible intro hc)
              | (with_reducible refine GDsplit (fun hc => ?_) (fun hc => ?_) <;> try simp [hc])
              | (with_reducible refine GDsplitN (fun hc => ?_) (fun hc => ?_) <;> try simp [hc])
              | (with_reducible refine GDsplitNB (fun hc => ?_) (fun hc => ?_) <;> try simp [hc])
              | (with_reducible refine GDsplitB (fun hc => ?_) (fun hc => ?_) <;> try simp [hc])
              | (with_reducible refine GKsplit (fun hc => ?_) (fun hc => ?_) <;> try simp [hc])
              | (with_reducible refine GKsplitN (fun hc => ?_) (fun hc => ?_) <;> try simp [hc])
              | (with_reducible refine GKsplitNB (fun hc => ?_) (fun hc => ?_) <;> try simp [hc])
              | (with_reducible refine GKsplitB (fun hc => ?_) (fun hc => ?_) <;> try simp [hc])
              | simp (disch := first | (with_reducible assumption) | (simp; done) | omega | (simp; omega)) [hat, hat2, w1, hj2, hcle])
            rw [← hH2]
            intro c hc
            refine ⟨0, ?_⟩
            have hatc := hat2
            have hrc : rb ≠ c := by rintro rfl; rw [hat2] at hc; cases hc
            rw [← setH_ne H2 (some (0, [])) hrc] at hatc
            have hatbc : setH H2 c (some (0, [])) b = some (τ, M.flatMap cVO) := by rw [setH_ne _ _ (by rintro rfl; rw [hatb] at hc; cases hc)]; exact hatb
            repeat' (first
              | refine awp_seqK fun K' hpK => ?_
              | refine awp_block ?_
              | refine awp_condG fun A' B' hpA hpB => ?_
              | refine useK (by with_reducible assumption) ?_
              | refine useP (by with_reducible assumption) ?_
              | refine ED_cons (fun _ => ?_) ?_
              | (refine stable_mk ?_; simp (disch := first | (with_reducible assumption) | (simp; done) | omega | (simp; omega)) [hatc, hat2, RO, hcle]; done)
              | (refine stable_no ?_; simp (disch := first | (with_reducible assumption) | (simp; done) | omega | (simp; omega)) [hatc, hat2, RO, hcle]; done)
              | (with_reducible refine And.intro ?_ ?_)
              | (with_reducible intro hc)
              | (with_reducible refine GDsplit (fun hc => ?_) (fun hc => ?_) <;> try simp [hc])
              | (with_reducible refine GDsplitN (fun hc => ?_) (fun hc => ?_) <;> try simp [hc])
              | (with_reducible refine GDsplitNB (fun hc => ?_) (fun hc => ?_) <;> try simp [hc])
              | (with_reducible refine GDsplitB (fun hc => ?_) (fun hc => ?_) <;> try simp [hc])
              | (with_reducible refine GKsplit (fun hc => ?_) (fun hc => ?_) <;> try simp [hc])
              | (with_reducible refine GKsplitN (fun hc => ?_) (fun hc => ?_) <;> try simp [hc])
              | (with_reducible refine GKsplitNB (fun hc => ?_) (fun hc => ?_) <;> try simp [hc])
              | (with_reducible refine GKsplitB (fun hc => ?_) (fun hc => ?_) <;> try simp [hc])
              | simp (disch := first | (with_reducible assumption) | (simp; done) | omega | (simp; omega)) [hatc, hat2, RO, hcle])
            refine Grow.app (f := cVO) (xs := (M.take 0)) (Grow.fresh hc) (by have := src_ms hatbc (k := 0) (n := 0) (by omega); simpa using this) (flat_scal _) (by simp [LIM] <;> omega) (fun v1 G4 hg4 => ?_) (hf := by simp)
            rw [List.nil_append] at hg4
            have hp4 := Grow.plain hg4
            have hat4 := hg4.base hat2
            repeat' (first
              | refine awp_seqK fun K' hpK => ?_
              | refine awp_block ?_
              | refine awp_condG fun A' B' hpA hpB => ?_
              | refine useK (by with_reducible assumption) ?_
              | refine useP (by with_reducible assumption) ?_
              | refine ED_cons (fun _ => ?_) ?_
              | (refine stable_mk ?_; simp (disch := first | (with_reducible assumption) | (simp; done) | omega | (simp; omega)) [hp4, hat4, RO]; done)
              | (refine stable_no ?_; simp (disch := first | (with_reducible assumption) | (simp; done) | omega | (simp; omega)) [hp4, hat4, RO]; done)
              | (with_reducible refine And.intro ?_ ?_)
              | (with_reducible intro hc)
              | (with_reducible refine GDsplit (fun hc => ?_) (fun hc => ?_) <;> try simp [hc])
              | (with_reducible refine GDsplitN (fun hc => ?_) (fun hc => ?_) <;> try simp [hc])
              | (with_reducible refine GDsplitNB (fun hc => ?_) (fun hc => ?_) <;> try simp [hc])
              | (with_reducible refine GDsplitB (fun hc => ?_) (fun hc => ?_) <;> try simp [hc])
              | (with_reducible refine GKsplit (fun hc => ?_) (fun hc => ?_) <;> try simp [hc])
              | (with_reducible refine GKsplitN (fun hc => ?_) (fun hc => ?_) <;> try simp [hc])
              | (with_reducible refine GKsplitNB (fun hc => ?_) (fun hc => ?_) <;> try simp [hc])
              | (with_reducible refine GKsplitB (fun hc => ?_) (fun hc => ?_) <;> try simp [hc])
              | simp (disch := first | (with_reducible assumption) | (simp; done) | omega | (simp; omega)) [hp4, hat4, RO])
            refine hg4.app1 (x := xO v v.path sq) rfl (by simp) (by simp [LIM] <;> omega) (fun v2 G5 hg5 => ?_)
            have hp5 := Grow.plain hg5
            have hat5 := hg5.base hat2
            have hatb5 := hg5.base hatb
            repeat' (first
              | refine awp_seqK fun K' hpK => ?_
              | refine awp_block ?_
              | refine awp_condG fun A' B' hpA hpB => ?_
              | refine useK (by with_reducible assumption) ?_
              | refine useP (by with_reducible assumption) ?_
              | refine ED_cons (fun _ => ?_) ?_
              | (refine stable_mk ?_; simp (disch := first | (with_reducible assumption) | (simp; done) | omega | (simp; omega)) [hp5, hat5, RO, hcle]; done)
              | (refine stable_no ?_; simp (disch := first | (with_reducible assumption) | (simp; done) | omega | (simp; omega)) [hp5, hat5, RO, hcle]; done)
              | (with_reducible refine And.intro ?_ ?_)
              | (with_reducible intro hc)
              | (with_reducible refine GDsplit (fun hc => ?_) (fun hc => ?_) <;> try simp [hc])
              | (with_reducible refine GDsplitN (fun hc => ?_) (fun hc => ?_) <;> try simp [hc])
              | (with_reducible refine GDsplitNB (fun hc => ?_) (fun hc => ?_) <;> try simp [hc])
              | (with_reducible refine GDsplitB (fun hc => ?_) (fun hc => ?_) <;> try simp [hc])
              | (with_reducible refine GKsplit (fun hc => ?_) (fun hc => ?_) <;> try simp [hc])
              | (with_reducible refine GKsplitN (fun hc => ?_) (fun hc => ?_) <;> try simp [hc])
              | (with_reducible refine GKsplitNB (fun hc => ?_) (fun hc => ?_) <;> try simp [hc])
              | (with_reducible refine GKsplitB (fun hc => ?_) (fun hc => ?_) <;> try simp [hc])
              | simp (disch := first | (with_reducible assumption) | (simp; done) | omega | (simp; omega)) [hp5, hat5, RO, hcle])
            refine Grow.app (f := cVO) (xs := (M.drop 0)) hg5 (by have := src_ms hatb5 (k := 0) (n := M.length) (by omega); simpa using this) (flat_scal _) (by simp [LIM] <;> omega) (fun v3 G6 hg6 => ?_) (hf := by simp)
            have hp6 := Grow.plain hg6
            have hkn := hg6.known
            have hks := hg6.scal
            have hkc := hg6.cells
            have hat6 := hg6.base hat2
            repeat' (first
              | refine awp_seqK fun K' hpK => ?_
              | refine awp_block ?_
              | refine awp_condG fun A' B' hpA hpB => ?_
              | refine useK (by with_reducible assumption) ?_
              | refine useP (by with_reducible assumption) ?_
              | refine ED_cons (fun _ => ?_) ?_
              | (refine stable_mk ?_; simp (disch := first | (with_reducible assumption) | (simp; done) | omega | (simp; omega)) [hp6, hat6, hkn, hks, hkc]; done)
              | (refine stable_no ?_; simp (disch := first | (with_reducible assumption) | (simp; done) | omega | (simp; omega)) [hp6, hat6, hkn, hks, hkc]; done)
              | (with_reducible refine And.intro ?_ ?_)
              | (with_reducible intro hc)
              | (with_reducible refine GDsplit (fun hc => ?_) (fun hc => ?_) <;> try simp [hc])
              | (with_reducible refine GDsplitN (fun hc => ?_) (fun hc => ?_) <;> try simp [hc])
              | (with_reducible refine GDsplitNB (fun hc => ?_) (fun hc => ?_) <;> try simp [hc])
              | (with_reducible refine GDsplitB (fun hc => ?_) (fun hc => ?_) <;> try simp [hc])
              | (with_reducible refine GKsplit (fun hc => ?_) (fun hc => ?_) <;> try simp [hc])
              | (with_reducible refine GKsplitN (fun hc => ?_) (fun hc => ?_) <;> try simp [hc])
              | (with_reducible refine GKsplitNB (fun hc => ?_) (fun hc => ?_) <;> try simp [hc])
              | (with_reducible refine GKsplitB (fun hc => ?_) (fun hc => ?_) <;> try simp [hc])
              | simp (disch := first | (with_reducible assumption) | (simp; done) | omega | (simp; omega)) [hp6, hat6, hkn, hks, hkc])
            obtain ⟨h7, hsub, hg7⟩ := Grow.cut hg6 hat2 (o' := RO v3 rt (sq + 1))
            rw [hins] at hg7
            exact ends_one_sub (by simp <;> rfl) (by simp) hsub (hpost _ _ ⟨⟨v3, hg7⟩, rfl⟩)
          · by_cases hclt : cn < M.length
            · repeat' (first
                | refine awp_seqK fun K' hpK => ?_
                | refine awp_block ?_
                | refine awp_condG fun A' B' hpA hpB => ?_
                | refine useK (by with_reducible assumption) ?_
                | refine useP (by with_reducible assumption) ?_
                | refine ED_cons (fun _ => ?_) ?_
                | (refine stable_mk ?_; simp (disch := first | (with_reducible assumption) | (simp; done) | omega | (simp; omega)) [hat, hat2, w1, hj2, hcle, hc0, hclt]; done)
                | (refine stable_no ?_; simp (disch := first | (with_reducible assumption) | (simp; done) | omega | (simp; omega)) [hat, hat2, w1, hj2, hcle, hc0, hclt]; done)
                | (with_reducible refine And.intro ?_ ?_)
                | (with_reducible intro hc)
                | (with_reducible refine GDsplit (fun hc => ?_) (fun hc => ?_) <;> try simp [hc])
                | (with_reducible refine GDsplitN (fun hc => ?_) (fun hc => ?_) <;> try simp [hc])
                | (with_reducible refine GDsplitNB (fun hc => ?_) (fun hc => ?_) <;> try simp [hc])
                | (with_reducible refine GDsplitB (fun hc => ?_) (fun hc => ?_) <;> try simp [hc])
                | (with_reducible refine GKsplit (fun hc => ?_) (fun hc => ?_) <;> try simp [hc])
                | (with_reducible refine GKsplitN (fun hc => ?_) (fun hc => ?_) <;> try simp [hc])
                | (with_reducible refine GKsplitNB (fun hc => ?_) (fun hc => ?_) <;> try simp [hc])
                | (with_reducible refine GKsplitB (fun hc => ?_) (fun hc => ?_) <;> try simp [hc])
                | simp (disch := first | (with_reducible assumption) | (simp; done) | omega | (simp; omega)) [hat, hat2, w1, hj2, hcle, hc0, hclt])
              rw [← hH2]
              intro c hc
              refine ⟨0, ?_⟩
              have hatc := hat2
              have hrc : rb ≠ c := by rintro rfl; rw [hat2] at hc; cases hc
              rw [← setH_ne H2 (some (0, [])) hrc] at hatc
              have hatbc : setH H2 c (some (0, [])) b = some (τ, M.flatMap cVO) := by rw [setH_ne _ _ (by rintro rfl; rw [hatb] at hc; cases hc)]; exact hatb
              repeat' (first
                | refine awp_seqK fun K' hpK => ?_
                | refine awp_block ?_
                | refine awp_condG fun A' B' hpA hpB => ?_
                | refine useK (by with_reducible assumption) ?_
                | refine useP (by with_reducible assumption) ?_
                | refine ED_cons (fun _ => ?_) ?_
                | (refine stable_mk ?_; simp (disch := first | (with_reducible assumption) | (simp; done) | omega | (simp; omega)) [hatc, hat2, RO, hcle, hc0, hclt]; done)
                | (refine stable_no ?_; simp (disch := first | (with_reducible assumption) | (simp; done) | omega | (simp; omega)) [hatc, hat2, RO, hcle, hc0, hclt]; done)
                | (with_reducible refine And.intro ?_ ?_)
                | (with_reducible intro hc)
                | (with_reducible refine GDsplit (fun hc => ?_) (fun hc => ?_) <;> try simp [hc])
                | (with_reducible refine GDsplitN (fun hc => ?_) (fun hc => ?_) <;> try simp [hc])
                | (with_reducible refine GDsplitNB (fun hc => ?_) (fun hc => ?_) <;> try simp [hc])
                | (with_reducible refine GDsplitB (fun hc => ?_) (fun hc => ?_) <;> try simp [hc])
                | (with_reducible refine GKsplit (fun hc => ?_) (fun hc => ?_) <;> try simp [hc])
                | (with_reducible refine GKsplitN (fun hc => ?_) (fun hc => ?_) <;> try simp [hc])
                | (with_reducible refine GKsplitNB (fun hc => ?_) (fun hc => ?_) <;> try simp [hc])
                | (with_reducible refine GKsplitB (fun hc => ?_) (fun hc => ?_) <;> try simp [hc])
                | simp (disch := first | (with_reducible assumption) | (simp; done) | omega | (simp; omega)) [hatc, hat2, RO, hcle, hc0, hclt])
              refine Grow.app (f := cVO) (xs := M.take cn) (Grow.fresh hc) (by have := src_ms hatbc (k := 0) (n := cn) (by omega); simpa using this) (flat_scal _) (by simp [LIM] <;> omega) (fun v1 G4 hg4 => ?_) (hf := by simp)
              rw [List.nil_append] at hg4
              have hp4 := Grow.plain hg4
              have hat4 := hg4.base hat2
              repeat' (first
                | refine awp_seqK fun K' hpK => ?_
                | refine awp_block ?_
                | refine awp_condG fun A' B' hpA hpB => ?_
                | refine useK (by with_reducible assumption) ?_
                | refine useP (by with_reducible assumption) ?_
                | refine ED_cons (fun _ => ?_) ?_
                | (refine stable_mk ?_; simp (disch := first | (with_reducible assumption) | (simp; done) | omega | (simp; omega)) [hp4, hat4, RO]; done)
                | (refine stable_no ?_; simp (disch := first | (with_reducible assumption) | (simp; done) | omega | (simp; omega)) [hp4, hat4, RO]; done)
                | (with_reducible refine And.intro ?_ ?_)
                | (with_reducible intro hc)
                | (with_reducible refine GDsplit (fun hc => ?_) (fun hc => ?_) <;> try simp [hc])
                | (with_reducible refine GDsplitN (fun hc => ?_) (fun hc => ?_) <;> try simp [hc])
                | (with_reducible refine GDsplitNB (fun hc => ?_) (fun hc => ?_) <;> try simp [hc])
                | (with_reducible refine GDsplitB (fun hc => ?_) (fun hc => ?_) <;> try simp [hc])
                | (with_reducible refine GKsplit (fun hc => ?_) (fun hc => ?_) <;> try simp [hc])
                | (with_reducible refine GKsplitN (fun hc => ?_) (fun hc => ?_) <;> try simp [hc])
                | (with_reducible refine GKsplitNB (fun hc => ?_) (fun hc => ?_) <;> try simp [hc])
                | (with_reducible refine GKsplitB (fun hc => ?_) (fun hc => ?_) <;> try simp [hc])
                | simp (disch := first | (with_reducible assumption) | (simp; done) | omega | (simp; omega)) [hp4, hat4, RO])
              refine hg4.app1 (x := xO v v.path sq) rfl (by simp) (by simp [LIM] <;> omega) (fun v2 G5 hg5 => ?_)
              have hp5 := Grow.plain hg5
              have hat5 := hg5.base hat2
              have hatb5 := hg5.base hatb
              repeat' (first
                | refine awp_seqK fun K' hpK => ?_
                | refine awp_block ?_
                | refine awp_condG fun A' B' hpA hpB => ?_
                | refine useK (by with_reducible assumption) ?_
                | refine useP (by with_reducible assumption) ?_
                | refine ED_cons (fun _ => ?_) ?_
                | (refine stable_mk ?_; simp (disch := first | (with_reducible assumption) | (simp; done) | omega | (simp; omega)) [hp5, hat5, RO, hcle, hc0, hclt]; done)
                | (refine stable_no ?_; simp (disch := first | (with_reducible assumption) | (simp; done) | omega | (simp; omega)) [hp5, hat5, RO, hcle, hc0, hclt]; done)
                | (with_reducible refine And.intro ?_ ?_)
                | (with_reducible intro hc)
                | (with_reducible refine GDsplit (fun hc => ?_) (fun hc => ?_) <;> try simp [hc])
                | (with_reducible refine GDsplitN (fun hc => ?_) (fun hc => ?_) <;> try simp [hc])
                | (with_reducible refine GDsplitNB (fun hc => ?_) (fun hc => ?_) <;> try simp [hc])
                | (with_reducible refine GDsplitB (fun hc => ?_) (fun hc => ?_) <;> try simp [hc])
                | (with_reducible refine GKsplit (fun hc => ?_) (fun hc => ?_) <;> try simp [hc])
                | (with_reducible refine GKsplitN (fun hc => ?_) (fun hc => ?_) <;> try simp [hc])
                | (with_reducible refine GKsplitNB (fun hc => ?_) (fun hc => ?_) <;> try simp [hc])
                | (with_reducible refine GKsplitB (fun hc => ?_) (fun hc => ?_) <;> try simp [hc])
                | simp (disch := first | (with_reducible assumption) | (simp; done) | omega | (simp; omega)) [hp5, hat5, RO, hcle, hc0, hclt])
              refine Grow.app (f := cVO) (xs := M.drop cn) hg5 (by have := src_ms hatb5 (k := cn) (n := M.length - cn) (by omega); rwa [List.take_of_length_le (by rw [List.length_drop]; omega)] at this) (flat_scal _) (by simp [LIM] <;> omega) (fun v3 G6 hg6 => ?_) (hf := by simp)
              have hp6 := Grow.plain hg6
              have hkn := hg6.known
              have hks := hg6.scal
              have hkc := hg6.cells
              have hat6 := hg6.base hat2
              repeat' (first
                | refine awp_seqK fun K' hpK => ?_
                | refine awp_block ?_
                | refine awp_condG fun A' B' hpA hpB => ?_
                | refine useK (by with_reducible assumption) ?_
                | refine useP (by with_reducible assumption) ?_
                | refine ED_cons (fun _ => ?_) ?_
                | (refine stable_mk ?_; simp (disch := first | (with_reducible assumption) | (simp; done) | omega | (simp; omega)) [hp6, hat6, hkn, hks, hkc]; done)
                | (refine stable_no ?_; simp (disch := first | (with_reducible assumption) | (simp; done) | omega | (simp; omega)) [hp6, hat6, hkn, hks, hkc]; done)
                | (with_reducible refine And.intro ?_ ?_)
                | (with_reducible intro hc)
                | (with_reducible refine GDsplit (fun hc => ?_) (fun hc => ?_) <;> try simp [hc])
                | (with_reducible refine GDsplitN (fun hc => ?_) (fun hc => ?_) <;> try simp [hc])
                | (with_reducible refine GDsplitNB (fun hc => ?_) (fun hc => ?_) <;> try simp [hc])
                | (with_reducible refine GDsplitB (fun hc => ?_) (fun hc => ?_) <;> try simp [hc])
                | (with_reducible refine GKsplit (fun hc => ?_) (fun hc => ?_) <;> try simp [hc])
                | (with_reducible refine GKsplitN (fun hc => ?_) (fun hc => ?_) <;> try simp [hc])
                | (with_reducible refine GKsplitNB (fun hc => ?_) (fun hc => ?_) <;> try simp [hc])
                | (with_reducible refine GKsplitB (fun hc => ?_) (fun hc => ?_) <;> try simp [hc])
                | simp (disch := first | (with_reducible assumption) | (simp; done) | omega | (simp; omega)) [hp6, hat6, hkn, hks, hkc])
              obtain ⟨h7, hsub, hg7⟩ := Grow.cut hg6 hat2 (o' := RO v3 rt (sq + 1))
              rw [hins] at hg7
              exact ends_one_sub (by simp <;> rfl) (by simp) hsub (hpost _ _ ⟨⟨v3, hg7⟩, rfl⟩)
            · have hdn : M.drop cn = [] := List.drop_eq_nil_of_le (by omega)
              repeat' (first
                | refine awp_seqK fun K' hpK => ?_
                | refine awp_block ?_
                | refine awp_condG fun A' B' hpA hpB => ?_
                | refine useK (by with_reducible assumption) ?_
                | refine useP (by with_reducible assumption) ?_
                | refine ED_cons (fun _ => ?_) ?_
                | (refine stable_mk ?_; simp (disch := first | (with_reducible assumption) | (simp; done) | omega | (simp; omega)) [hat, hat2, w1, hj2, hcle, hc0, hclt]; done)
                | (refine stable_no ?_; simp (disch := first | (with_reducible assumption) | (simp; done) | omega | (simp; omega)) [hat, hat2, w1, hj2, hcle, hc0, hclt]; done)
                | (with_reducible refine And.intro ?_ ?_)
                | (with_reducible intro hc)
                | (with_reducible refine GDsplit (fun hc => ?_) (fun hc => ?_) <;> try simp [hc])
                | (with_reducible refine GDsplitN (fun hc => ?_) (fun hc => ?_) <;> try simp [hc])
                | (with_reducible refine GDsplitNB (fun hc => ?_) (fun hc => ?_) <;> try simp [hc])
                | (with_reducible refine GDsplitB (fun hc => ?_) (fun hc => ?_) <;> try simp [hc])
                | (with_reducible refine GKsplit (fun hc => ?_) (fun hc => ?_) <;> try simp [hc])
                | (with_reducible refine GKsplitN (fun hc => ?_) (fun hc => ?_) <;> try simp [hc])
                | (with_reducible refine GKsplitNB (fun hc => ?_) (fun hc => ?_) <;> try simp [hc])
                | (with_reducible refine GKsplitB (fun hc => ?_) (fun hc => ?_) <;> try simp [hc])
                | simp (disch := first | (with_reducible assumption) | (simp; done) | omega | (simp; omega)) [hat, hat2, w1, hj2, hcle, hc0, hclt])
              rw [← hH2]
              intro c hc
              refine ⟨0, ?_⟩
              have hatc := hat2
              have hrc : rb ≠ c := by rintro rfl; rw [hat2] at hc; cases hc
              rw [← setH_ne H2 (some (0, [])) hrc] at hatc
              have hatbc : setH H2 c (some (0, [])) b = some (τ, M.flatMap cVO) := by rw [setH_ne _ _ (by rintro rfl; rw [hatb] at hc; cases hc)]; exact hatb
              repeat' (first
                | refine awp_seqK fun K' hpK => ?_
                | refine awp_block ?_
                | refine awp_condG fun A' B' hpA hpB => ?_
                | refine useK (by with_reducible assumption) ?_
                | refine useP (by with_reducible assumption) ?_
                | refine ED_cons (fun _ => ?_) ?_
                | (refine stable_mk ?_; simp (disch := first | (with_reducible assumption) | (simp; done) | omega | (simp; omega)) [hatc, hat2, RO, hcle, hc0, hclt]; done)
                | (refine stable_no ?_; simp (disch := first | (with_reducible assumption) | (simp; done) | omega | (simp; omega)) [hatc, hat2, RO, hcle, hc0, hclt]; done)
                | (with_reducible refine And.intro ?_ ?_)
                | (with_reducible intro hc)
                | (with_reducible refine GDsplit (fun hc => ?_) (fun hc => ?_) <;> try simp [hc])
                | (with_reducible refine GDsplitN (fun hc => ?_) (fun hc => ?_) <;> try simp [hc])
                | (with_reducible refine GDsplitNB (fun hc => ?_) (fun hc => ?_) <;> try simp [hc])
                | (with_reducible refine GDsplitB (fun hc => ?_) (fun hc => ?_) <;> try simp [hc])
                | (with_reducible refine GKsplit (fun hc => ?_) (fun hc => ?_) <;> try simp [hc])
                | (with_reducible refine GKsplitN (fun hc => ?_) (fun hc => ?_) <;> try simp [hc])
                | (with_reducible refine GKsplitNB (fun hc => ?_) (fun hc => ?_) <;> try simp [hc])
                | (with_reducible refine GKsplitB (fun hc => ?_) (fun hc => ?_) <;> try simp [hc])
                | simp (disch := first | (with_reducible assumption) | (simp; done) | omega | (simp; omega)) [hatc, hat2, RO, hcle, hc0, hclt])
              refine Grow.app (f := cVO) (xs := M.take cn) (Grow.fresh hc) (by have := src_ms hatbc (k := 0) (n := cn) (by omega); simpa using this) (flat_scal _) (by simp [LIM] <;> omega) (fun v1 G4 hg4 => ?_) (hf := by simp)
              rw [List.nil_append] at hg4
              have hp4 := Grow.plain hg4
              have hat4 := hg4.base hat2
              repeat' (first
                | refine awp_seqK fun K' hpK => ?_
                | refine awp_block ?_
                | refine awp_condG fun A' B' hpA hpB => ?_
                | refine useK (by with_reducible assumption) ?_
                | refine useP (by with_reducible assumption) ?_
                | refine ED_cons (fun _ => ?_) ?_
                | (refine stable_mk ?_; simp (disch := first | (with_reducible assumption) | (simp; done) | omega | (simp; omega)) [hp4, hat4, RO]; done)
                | (refine stable_no ?_; simp (disch := first | (with_reducible assumption) | (simp; done) | omega | (simp; omega)) [hp4, hat4, RO]; done)
                | (with_reducible refine And.intro ?_ ?_)
                | (with_reducible intro hc)
                | (with_reducible refine GDsplit (fun hc => ?_) (fun hc => ?_) <;> try simp [hc])
                | (with_reducible refine GDsplitN (fun hc => ?_) (fun hc => ?_) <;> try simp [hc])
                | (with_reducible refine GDsplitNB (fun hc => ?_) (fun hc => ?_) <;> try simp [hc])
                | (with_reducible refine GDsplitB (fun hc => ?_) (fun hc => ?_) <;> try simp [hc])
                | (with_reducible refine GKsplit (fun hc => ?_) (fun hc => ?_) <;> try simp [hc])
                | (with_reducible refine GKsplitN (fun hc => ?_) (fun hc => ?_) <;> try simp [hc])
                | (with_reducible refine GKsplitNB (fun hc => ?_) (fun hc => ?_) <;> try simp [hc])
                | (with_reducible refine GKsplitB (fun hc => ?_) (fun hc => ?_) <;> try simp [hc])
                | simp (disch := first | (with_reducible assumption) | (simp; done) | omega | (simp; omega)) [hp4, hat4, RO])
              refine hg4.app1 (x := xO v v.path sq) rfl (by simp) (by simp [LIM] <;> omega) (fun v2 G5 hg5 => ?_)
              have hp5 := Grow.plain hg5
              have hat5 := hg5.base hat2
              have hatb5 := hg5.base hatb
              repeat' (first
                | refine awp_seqK fun K' hpK => ?_
                | refine awp_block ?_
                | refine awp_condG fun A' B' hpA hpB => ?_
                | refine useK (by with_reducible assumption) ?_
                | refine useP (by with_reducible assumption) ?_
                | refine ED_cons (fun _ => ?_) ?_
                | (refine stable_mk ?_; simp (disch := first | (with_reducible assumption) | (simp; done) | omega | (simp; omega)) [hp5, hat5, RO, hcle, hc0, hclt]; done)
                | (refine stable_no ?_; simp (disch := first | (with_reducible assumption) | (simp; done) | omega | (simp; omega)) [hp5, hat5, RO, hcle, hc0, hclt]; done)
                | (with_reducible refine And.intro ?_ ?_)
                | (with_reducible intro hc)
                | (with_reducible refine GDsplit (fun hc => ?_) (fun hc => ?_) <;> try simp [hc])
                | (with_reducible refine GDsplitN (fun hc => ?_) (fun hc => ?_) <;> try simp [hc])
                | (with_reducible refine GDsplitNB (fun hc => ?_) (fun hc => ?_) <;> try simp [hc])
                | (with_reducible refine GDsplitB (fun hc => ?_) (fun hc => ?_) <;> try simp [hc])
                | (with_reducible refine GKsplit (fun hc => ?_) (fun hc => ?_) <;> try simp [hc])
                | (with_reducible refine GKsplitN (fun hc => ?_) (fun hc => ?_) <;> try simp [hc])
                | (with_reducible refine GKsplitNB (fun hc => ?_) (fun hc => ?_) <;> try simp [hc])
                | (with_reducible refine GKsplitB (fun hc => ?_) (fun hc => ?_) <;> try simp [hc])
                | simp (disch := first | (with_reducible assumption) | (simp; done) | omega | (simp; omega)) [hp5, hat5, RO, hcle, hc0, hclt])
              refine Grow.app (f := cVO) (xs := M.drop cn) hg5 (by rw [hdn]; rfl) (flat_scal _) (by simp [LIM] <;> omega) (fun v3 G6 hg6 => ?_) (hf := by simp)
              have hp6 := Grow.plain hg6
              have hkn := hg6.known
              have hks := hg6.scal
              have hkc := hg6.cells
              have hat6 := hg6.base hat2
              repeat' (first
                | refine awp_seqK fun K' hpK => ?_
                | refine awp_block ?_
                | refine awp_condG fun A' B' hpA hpB => ?_
                | refine useK (by with_reducible assumption) ?_
                | refine useP (by with_reducible assumption) ?_
                | refine ED_cons (fun _ => ?_) ?_
                | (refine stable_mk ?_; simp (disch := first | (with_reducible assumption) | (simp; done) | omega | (simp; omega)) [hp6, hat6, hkn, hks, hkc]; done)
                | (refine stable_no ?_; simp (disch := first | (with_reducible assumption) | (simp; done) | omega | (simp; omega)) [hp6, hat6, hkn, hks, hkc]; done)
                | (with_reducible refine And.intro ?_ ?_)
                | (with_reducible intro hc)
                | (with_reducible refine GDsplit (fun hc => ?_) (fun hc => ?_) <;> try simp [hc])
                | (with_reducible refine GDsplitN (fun hc => ?_) (fun hc => ?_) <;> try simp [hc])
                | (with_reducible refine GDsplitNB (fun hc => ?_) (fun hc => ?_) <;> try simp [hc])
                | (with_reducible refine GDsplitB (fun hc => ?_) (fun hc => ?_) <;> try simp [hc])
                | (with_reducible refine GKsplit (fun hc => ?_) (fun hc => ?_) <;> try simp [hc])
                | (with_reducible refine GKsplitN (fun hc => ?_) (fun hc => ?_) <;> try simp [hc])
                | (with_reducible refine GKsplitNB (fun hc => ?_) (fun hc => ?_) <;> try simp [hc])
                | (with_reducible refine GKsplitB (fun hc => ?_) (fun hc => ?_) <;> try simp [hc])
                | simp (disch := first | (with_reducible assumption) | (simp; done) | omega | (simp; omega)) [hp6, hat6, hkn, hks, hkc])
              obtain ⟨h7, hsub, hg7⟩ := Grow.cut hg6 hat2 (o' := RO v3 rt (sq + 1))
              rw [hins] at hg7
              exact ends_one_sub (by simp <;> rfl) (by simp) hsub (hpost _ _ ⟨⟨v3, hg7⟩, rfl⟩)
end Go.Proofs.Ytgideonigiokbaa
