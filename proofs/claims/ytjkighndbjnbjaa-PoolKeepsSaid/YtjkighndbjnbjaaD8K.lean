import Derived.Test.YtjkighndbjnbjaaD6K
import Derived.Test.YtjkighndbjnbjaaD7K
set_option linter.unusedSimpArgs false
set_option linter.unusedVariables false
namespace Go.Proofs.Ytjkighndbjnbjaa
open Go Go.Al
set_option maxRecDepth 20000
attribute [local irreducible] awp aops aopsD eop pv ACalls CallK AppK AEnds ti

theorem bsetx {bs : List Bool} {k : Nat} {v : Bool} (h : k < bs.length) : List.take k (List.map AV.bool bs) ++ AV.bool v :: List.drop (k + 1) (List.map AV.bool bs) = List.map AV.bool (bs.set k v) := by
  have := bset (v := v) h
  unfold splice at this
  simpa using this
theorem lsetx {ls : List Ls} {k : Nat} {a b c : Int} (h : k < ls.length) : List.take (k * 3) (List.flatMap cVL ls) ++ AV.int .u64 a :: AV.int .u32 b :: AV.int .i64 c :: List.drop (k * 3 + 3) (List.flatMap cVL ls) = List.flatMap cVL (ls.set k ⟨a, b, c⟩) := by
  have := flat_splice (f := cVL) (sz := 3) (by simp) h (j := 0) (vs := [.int .u64 a, .int .u32 b, .int .i64 c]) (y := ⟨a, b, c⟩) (by simp) (by simp [cVL])
  unfold splice at this
  simpa using this
def RG (q : PP) (rb b1 b2 : Nat) (bs : List Bool) (ls : List Ls) : Hp := setH (setH (one rb (RO q b1 b2)) b1 (some (0, bs.map AV.bool))) b2 (some (0, ls.flatMap cVL))

theorem tset {X : List AV} {j : Nat} {v : AV} (h : j < X.length) : List.take j X ++ v :: List.drop (j + 1) X = X.set j v := by
  rw [List.set_eq_take_append_cons_drop, if_pos h]
theorem hcol {G : Hp} {b1 b2 : Nat} {x y x' : Option (Nat × List AV)} (n : b1 ≠ b2) : setH (setH (setH G b1 x) b2 y) b1 x' = setH (setH G b1 x') b2 y := by rw [setH_comm n.symm, setH_setH]
theorem RH.mk {q : PP} {rb b1 b2 : Nat} {bs : List Bool} {ls : List Ls} {cb : List AV} (n1 : rb ≠ b1) (n2 : rb ≠ b2) (n3 : b1 ≠ b2) (l1 : bs.length = q.n) (l2 : ls.length = q.n) (hcb : cb = bs.map AV.bool) : RH q rb (setH (setH (one rb (0, [.int .u32 q.base, .int .i64 q.ticks, .ms b1 0 q.n 1, .ms b2 0 q.n 3])) b1 (some (0, cb))) b2 (some (0, ls.flatMap cVL))) := by
  subst hcb; exact ⟨b1, b2, bs, ls, n1, n2, n3, l1, l2, rfl⟩
theorem roffer_c {q : PP} {rb : Nat} {G : Hp} {m now : Int} (hq : q.ok) (hR : RH q rb G) : ACalls Try.prog 20 [.ptr rb 0, .int .u64 m, .int .i64 now] G fun r G' => G' = G ∧ ∃ a e, r = .tup [.int .u32 a, .int .i64 e] := by
  have wc := whose_c (m := m) hq hR
  obtain ⟨b1, b2, bs, ls, l1, l2, hr, hb1, hb2, _, _⟩ := hR.open
  obtain ⟨h1, h2, h3, h4, h5, h6⟩ := hq
  unfold RO at hr
  refine ACalls.hide fun post hpost => ?_
  refine F20_in (by simp) (by simp) fun hbd => ?_
  repeat' (first
    | refine awp_seqK fun K' hpK => ?_
    | refine awp_block ?_
    | refine awp_condG fun A' B' hpA hpB => ?_
    | refine useK (by with_reducible assumption) ?_
    | refine useP (by with_reducible assumption) ?_
    | refine ED_cons (fun _ => ?_) ?_
    | (refine stable_mk ?_; simp (disch := first | (with_reducible assumption) | (simp; done) | omega | (simp; omega)); done)
    | (refine stable_no ?_; simp (disch := first | (with_reducible assumption) | (simp; done) | omega | (simp; omega)); done)
    | (with_reducible refine And.intro ?_ ?_)
    | (with_reducible intro hc; try (exfalso; omega))
    | (with_reducible refine GDsplit (fun hc => ?_) (fun hc => ?_) <;> try simp [hc])
    | (with_reducible refine GDsplitN (fun hc => ?_) (fun hc => ?_) <;> try simp [hc])
    | (with_reducible refine GDsplitNB (fun hc => ?_) (fun hc => ?_) <;> try simp [hc])
    | (with_reducible refine GDsplitB (fun hc => ?_) (fun hc => ?_) <;> try simp [hc])
    | (with_reducible refine GKsplit (fun hc => ?_) (fun hc => ?_) <;> try simp [hc])
    | (with_reducible refine GKsplitN (fun hc => ?_) (fun hc => ?_) <;> try simp [hc])
    | (with_reducible refine GKsplitNB (fun hc => ?_) (fun hc => ?_) <;> try simp [hc])
    | (with_reducible refine GKsplitB (fun hc => ?_) (fun hc => ?_) <;> try simp [hc])
    | simp (disch := first | (with_reducible assumption) | (simp; done) | omega | (simp; omega)))
  refine CallK.use wc ?_
  rintro r G' _ _ ⟨rfl, k, rfl, hk⟩
  by_cases hk0 : 0 ≤ k
  · obtain ⟨j, rfl⟩ := Int.eq_ofNat_of_zero_le hk0
    have hjl : j < ls.length := by omega
    have hjn : j < q.n := by omega
    have g2 := flat_at1 (f := cVL) (sz := 3) (j := 1) (by simp) hjl (by omega)
    repeat' (first
      | refine awp_seqK fun K' hpK => ?_
      | refine awp_block ?_
      | refine awp_condG fun A' B' hpA hpB => ?_
      | refine useK (by with_reducible assumption) ?_
      | refine useP (by with_reducible assumption) ?_
      | refine ED_cons (fun _ => ?_) ?_
      | (refine stable_mk ?_; simp (disch := first | (with_reducible assumption) | (simp; done) | omega | (simp; omega)) [hr, hb2, g2, cVL, hjn]; done)
      | (refine stable_no ?_; simp (disch := first | (with_reducible assumption) | (simp; done) | omega | (simp; omega)) [hr, hb2, g2, cVL, hjn]; done)
      | (with_reducible refine And.intro ?_ ?_)
      | (with_reducible intro hc; try (exfalso; omega))
      | (with_reducible refine GDsplit (fun hc => ?_) (fun hc => ?_) <;> try simp [hc])
      | (with_reducible refine GDsplitN (fun hc => ?_) (fun hc => ?_) <;> try simp [hc])
      | (with_reducible refine GDsplitNB (fun hc => ?_) (fun hc => ?_) <;> try simp [hc])
      | (with_reducible refine GDsplitB (fun hc => ?_) (fun hc => ?_) <;> try simp [hc])
      | (with_reducible refine GKsplit (fun hc => ?_) (fun hc => ?_) <;> try simp [hc])
      | (with_reducible refine GKsplitN (fun hc => ?_) (fun hc => ?_) <;> try simp [hc])
      | (with_reducible refine GKsplitNB (fun hc => ?_) (fun hc => ?_) <;> try simp [hc])
      | (with_reducible refine GKsplitB (fun hc => ?_) (fun hc => ?_) <;> try simp [hc])
      | simp (disch := first | (with_reducible assumption) | (simp; done) | omega | (simp; omega)) [hr, hb2, g2, cVL, hjn])
    exact ends_two (by simp <;> exact ⟨rfl, rfl⟩) (by simp) (by simp) (hpost _ _ ⟨rfl, _, _, rfl⟩)
  · repeat' (first
      | refine awp_seqK fun K' hpK => ?_
      | refine awp_block ?_
      | refine awp_condG fun A' B' hpA hpB => ?_
      | refine useK (by with_reducible assumption) ?_
      | refine useP (by with_reducible assumption) ?_
      | refine ED_cons (fun _ => ?_) ?_
      | (refine stable_mk ?_; simp (disch := first | (with_reducible assumption) | (simp; done) | omega | (simp; omega)) [hk0, hr]; done)
      | (refine stable_no ?_; simp (disch := first | (with_reducible assumption) | (simp; done) | omega | (simp; omega)) [hk0, hr]; done)
      | (with_reducible refine And.intro ?_ ?_)
      | (with_reducible intro hc; try (exfalso; omega))
      | (with_reducible refine GDsplit (fun hc => ?_) (fun hc => ?_) <;> try simp [hc])
      | (with_reducible refine GDsplitN (fun hc => ?_) (fun hc => ?_) <;> try simp [hc])
      | (with_reducible refine GDsplitNB (fun hc => ?_) (fun hc => ?_) <;> try simp [hc])
      | (with_reducible refine GDsplitB (fun hc => ?_) (fun hc => ?_) <;> try simp [hc])
      | (with_reducible refine GKsplit (fun hc => ?_) (fun hc => ?_) <;> try simp [hc])
      | (with_reducible refine GKsplitN (fun hc => ?_) (fun hc => ?_) <;> try simp [hc])
      | (with_reducible refine GKsplitNB (fun hc => ?_) (fun hc => ?_) <;> try simp [hc])
      | (with_reducible refine GKsplitB (fun hc => ?_) (fun hc => ?_) <;> try simp [hc])
      | simp (disch := first | (with_reducible assumption) | (simp; done) | omega | (simp; omega)) [hk0, hr])
    refine awp_loop' (fun w T G1 => ∃ k : Nat, k + w = q.n ∧ G1 = G' ∧ T = ofL [(0, .ptr rb 0), (2, .int .i64 now), (27, .int .i64 q.n), (28, .int .i64 k)]) q.n ⟨0, by omega, rfl, by simp⟩ ?_
    rintro w T G1 ⟨k, hk, rfl, rfl⟩ N hN
    by_cases hkl : k < q.n
    · have hbk : k < bs.length := by omega
      have hlk : k < ls.length := by omega
      have g1 := bget hbk
      have g2 := flat_at1 (f := cVL) (sz := 3) (j := 2) (by simp) hlk (by omega)
      cases hbv : bs[k] with
      | false =>
        rw [hbv] at g1
        repeat' (first
          | refine awp_seqK fun K' hpK => ?_
          | refine awp_block ?_
          | refine awp_condG fun A' B' hpA hpB => ?_
          | refine useK (by with_reducible assumption) ?_
          | refine useP (by with_reducible assumption) ?_
          | refine ED_cons (fun _ => ?_) ?_
          | (refine stable_mk ?_; simp (disch := first | (with_reducible assumption) | (simp; done) | omega | (simp; omega)) [hkl, hr, hb1, g1]; done)
          | (refine stable_no ?_; simp (disch := first | (with_reducible assumption) | (simp; done) | omega | (simp; omega)) [hkl, hr, hb1, g1]; done)
          | (with_reducible refine And.intro ?_ ?_)
          | (with_reducible intro hc; try (exfalso; omega))
          | (with_reducible refine GDsplit (fun hc => ?_) (fun hc => ?_) <;> try simp [hc])
          | (with_reducible refine GDsplitN (fun hc => ?_) (fun hc => ?_) <;> try simp [hc])
          | (with_reducible refine GDsplitNB (fun hc => ?_) (fun hc => ?_) <;> try simp [hc])
          | (with_reducible refine GDsplitB (fun hc => ?_) (fun hc => ?_) <;> try simp [hc])
          | (with_reducible refine GKsplit (fun hc => ?_) (fun hc => ?_) <;> try simp [hc])
          | (with_reducible refine GKsplitN (fun hc => ?_) (fun hc => ?_) <;> try simp [hc])
          | (with_reducible refine GKsplitNB (fun hc => ?_) (fun hc => ?_) <;> try simp [hc])
          | (with_reducible refine GKsplitB (fun hc => ?_) (fun hc => ?_) <;> try simp [hc])
          | simp (disch := first | (with_reducible assumption) | (simp; done) | omega | (simp; omega)) [hkl, hr, hb1, g1])
        exact ends_two (by simp <;> exact ⟨rfl, rfl⟩) (by simp) (by simp) (hpost _ _ ⟨rfl, _, _, rfl⟩)
      | true =>
        rw [hbv] at g1
        by_cases he : (ls[k]).u ≤ now
        · repeat' (first
            | refine awp_seqK fun K' hpK => ?_
            | refine awp_block ?_
            | refine awp_condG fun A' B' hpA hpB => ?_
            | refine useK (by with_reducible assumption) ?_
            | refine useP (by with_reducible assumption) ?_
            | refine ED_cons (fun _ => ?_) ?_
            | (refine stable_mk ?_; simp (disch := first | (with_reducible assumption) | (simp; done) | omega | (simp; omega)) [hkl, hr, hb1, hb2, g1, g2, cVL, he]; done)
            | (refine stable_no ?_; simp (disch := first | (with_reducible assumption) | (simp; done) | omega | (simp; omega)) [hkl, hr, hb1, hb2, g1, g2, cVL, he]; done)
            | (with_reducible refine And.intro ?_ ?_)
            | (with_reducible intro hc; try (exfalso; omega))
            | (with_reducible refine GDsplit (fun hc => ?_) (fun hc => ?_) <;> try simp [hc])
            | (with_reducible refine GDsplitN (fun hc => ?_) (fun hc => ?_) <;> try simp [hc])
            | (with_reducible refine GDsplitNB (fun hc => ?_) (fun hc => ?_) <;> try simp [hc])
            | (with_reducible refine GDsplitB (fun hc => ?_) (fun hc => ?_) <;> try simp [hc])
            | (with_reducible refine GKsplit (fun hc => ?_) (fun hc => ?_) <;> try simp [hc])
            | (with_reducible refine GKsplitN (fun hc => ?_) (fun hc => ?_) <;> try simp [hc])
            | (with_reducible refine GKsplitNB (fun hc => ?_) (fun hc => ?_) <;> try simp [hc])
            | (with_reducible refine GKsplitB (fun hc => ?_) (fun hc => ?_) <;> try simp [hc])
            | simp (disch := first | (with_reducible assumption) | (simp; done) | omega | (simp; omega)) [hkl, hr, hb1, hb2, g1, g2, cVL, he])
          exact ends_two (by simp <;> exact ⟨rfl, rfl⟩) (by simp) (by simp) (hpost _ _ ⟨rfl, _, _, rfl⟩)
        · repeat' (first
            | refine awp_seqK fun K' hpK => ?_
            | refine awp_block ?_
            | refine awp_condG fun A' B' hpA hpB => ?_
            | refine useK (by with_reducible assumption) ?_
            | refine useP (by with_reducible assumption) ?_
            | refine ED_cons (fun _ => ?_) ?_
            | (refine stable_mk ?_; simp (disch := first | (with_reducible assumption) | (simp; done) | omega | (simp; omega)) [hkl, hr, hb1, hb2, g1, g2, cVL, he]; done)
            | (refine stable_no ?_; simp (disch := first | (with_reducible assumption) | (simp; done) | omega | (simp; omega)) [hkl, hr, hb1, hb2, g1, g2, cVL, he]; done)
            | (with_reducible refine And.intro ?_ ?_)
            | (with_reducible intro hc; try (exfalso; omega))
            | (with_reducible refine GDsplit (fun hc => ?_) (fun hc => ?_) <;> try simp [hc])
            | (with_reducible refine GDsplitN (fun hc => ?_) (fun hc => ?_) <;> try simp [hc])
            | (with_reducible refine GDsplitNB (fun hc => ?_) (fun hc => ?_) <;> try simp [hc])
            | (with_reducible refine GDsplitB (fun hc => ?_) (fun hc => ?_) <;> try simp [hc])
            | (with_reducible refine GKsplit (fun hc => ?_) (fun hc => ?_) <;> try simp [hc])
            | (with_reducible refine GKsplitN (fun hc => ?_) (fun hc => ?_) <;> try simp [hc])
            | (with_reducible refine GKsplitNB (fun hc => ?_) (fun hc => ?_) <;> try simp [hc])
            | (with_reducible refine GKsplitB (fun hc => ?_) (fun hc => ?_) <;> try simp [hc])
            | simp (disch := first | (with_reducible assumption) | (simp; done) | omega | (simp; omega)) [hkl, hr, hb1, hb2, g1, g2, cVL, he])
          exact hN (w - 1) _ _ (by omega) ⟨k + 1, by omega, rfl, by simp⟩
    · repeat' (first
        | refine awp_seqK fun K' hpK => ?_
        | refine awp_block ?_
        | refine awp_condG fun A' B' hpA hpB => ?_
        | refine useK (by with_reducible assumption) ?_
        | refine useP (by with_reducible assumption) ?_
        | refine ED_cons (fun _ => ?_) ?_
        | (refine stable_mk ?_; simp (disch := first | (with_reducible assumption) | (simp; done) | omega | (simp; omega)) [hkl, hr]; done)
        | (refine stable_no ?_; simp (disch := first | (with_reducible assumption) | (simp; done) | omega | (simp; omega)) [hkl, hr]; done)
        | (with_reducible refine And.intro ?_ ?_)
        | (with_reducible intro hc; try (exfalso; omega))
        | (with_reducible refine GDsplit (fun hc => ?_) (fun hc => ?_) <;> try simp [hc])
        | (with_reducible refine GDsplitN (fun hc => ?_) (fun hc => ?_) <;> try simp [hc])
        | (with_reducible refine GDsplitNB (fun hc => ?_) (fun hc => ?_) <;> try simp [hc])
        | (with_reducible refine GDsplitB (fun hc => ?_) (fun hc => ?_) <;> try simp [hc])
        | (with_reducible refine GKsplit (fun hc => ?_) (fun hc => ?_) <;> try simp [hc])
        | (with_reducible refine GKsplitN (fun hc => ?_) (fun hc => ?_) <;> try simp [hc])
        | (with_reducible refine GKsplitNB (fun hc => ?_) (fun hc => ?_) <;> try simp [hc])
        | (with_reducible refine GKsplitB (fun hc => ?_) (fun hc => ?_) <;> try simp [hc])
        | simp (disch := first | (with_reducible assumption) | (simp; done) | omega | (simp; omega)) [hkl, hr])
      exact ends_two (by simp <;> exact ⟨rfl, rfl⟩) (by simp) (by simp) (hpost _ _ ⟨rfl, _, _, rfl⟩)

theorem rfree_c {q : PP} {rb : Nat} {G : Hp} {m : Int} (hq : q.ok) (hR : RH q rb G) : ACalls Try.prog 22 [.ptr rb 0, .int .u64 m] G fun r G' => RH q rb G' ∧ ∃ l b, r = .tup [Ls.av l, .bool b] := by
  have wc := whose_c (m := m) hq hR
  have hR0 := hR
  obtain ⟨b1, b2, bs, ls, n1, n2, n3, l1, l2, hG⟩ := hR
  obtain ⟨h1, h2, h3, h4, h5, h6⟩ := hq
  have n3' := n3.symm
  refine ACalls.hide fun post hpost => ?_
  refine F22_in (by simp) (by simp) fun hbd => ?_
  repeat' (first
    | refine awp_seqK fun K' hpK => ?_
    | refine awp_block ?_
    | refine awp_condG fun A' B' hpA hpB => ?_
    | refine useK (by with_reducible assumption) ?_
    | refine useP (by with_reducible assumption) ?_
    | refine ED_cons (fun _ => ?_) ?_
    | (refine stable_mk ?_; simp (disch := first | (with_reducible assumption) | (simp; done) | omega | (simp; omega)); done)
    | (refine stable_no ?_; simp (disch := first | (with_reducible assumption) | (simp; done) | omega | (simp; omega)); done)
    | (with_reducible refine And.intro ?_ ?_)
    | (with_reducible intro hc; try (exfalso; omega))
    | (with_reducible refine GDsplit (fun hc => ?_) (fun hc => ?_) <;> try simp [hc])
    | (with_reducible refine GDsplitN (fun hc => ?_) (fun hc => ?_) <;> try simp [hc])
    | (with_reducible refine GDsplitNB (fun hc => ?_) (fun hc => ?_) <;> try simp [hc])
    | (with_reducible refine GDsplitB (fun hc => ?_) (fun hc => ?_) <;> try simp [hc])
    | (with_reducible refine GKsplit (fun hc => ?_) (fun hc => ?_) <;> try simp [hc])
    | (with_reducible refine GKsplitN (fun hc => ?_) (fun hc => ?_) <;> try simp [hc])
    | (with_reducible refine GKsplitNB (fun hc => ?_) (fun hc => ?_) <;> try simp [hc])
    | (with_reducible refine GKsplitB (fun hc => ?_) (fun hc => ?_) <;> try simp [hc])
    | simp (disch := first | (with_reducible assumption) | (simp; done) | omega | (simp; omega)))
  refine CallK.use wc ?_
  rintro r G' _ _ ⟨rfl, k, rfl, hk⟩
  by_cases hk0 : k < 0
  · repeat' (first
      | refine awp_seqK fun K' hpK => ?_
      | refine awp_block ?_
      | refine awp_condG fun A' B' hpA hpB => ?_
      | refine useK (by with_reducible assumption) ?_
      | refine useP (by with_reducible assumption) ?_
      | refine ED_cons (fun _ => ?_) ?_
      | (refine stable_mk ?_; simp (disch := first | (with_reducible assumption) | (simp; done) | omega | (simp; omega)) [hk0]; done)
      | (refine stable_no ?_; simp (disch := first | (with_reducible assumption) | (simp; done) | omega | (simp; omega)) [hk0]; done)
      | (with_reducible refine And.intro ?_ ?_)
      | (with_reducible intro hc; try (exfalso; omega))
      | (with_reducible refine GDsplit (fun hc => ?_) (fun hc => ?_) <;> try simp [hc])
      | (with_reducible refine GDsplitN (fun hc => ?_) (fun hc => ?_) <;> try simp [hc])
      | (with_reducible refine GDsplitNB (fun hc => ?_) (fun hc => ?_) <;> try simp [hc])
      | (with_reducible refine GDsplitB (fun hc => ?_) (fun hc => ?_) <;> try simp [hc])
      | (with_reducible refine GKsplit (fun hc => ?_) (fun hc => ?_) <;> try simp [hc])
      | (with_reducible refine GKsplitN (fun hc => ?_) (fun hc => ?_) <;> try simp [hc])
      | (with_reducible refine GKsplitNB (fun hc => ?_) (fun hc => ?_) <;> try simp [hc])
      | (with_reducible refine GKsplitB (fun hc => ?_) (fun hc => ?_) <;> try simp [hc])
      | simp (disch := first | (with_reducible assumption) | (simp; done) | omega | (simp; omega)) [hk0])
    exact ends_two (by simp <;> exact ⟨rfl, rfl⟩) (by simp) (by simp) (hpost _ _ ⟨hR0, l0, false, by simp [l0]⟩)
  · obtain ⟨j, rfl⟩ := Int.eq_ofNat_of_zero_le (show 0 ≤ k by omega)
    subst hG
    have hjl : j < ls.length := by omega
    have hjb : j < bs.length := by omega
    have hjn : j < q.n := by omega
    have hjf : j * 3 + 3 ≤ (List.flatMap cVL ls).length := by rw [flat_len (sz := 3) (by simp)]; omega
    have hjf2 : j * 3 + [AV.int .u64 0, AV.int .u32 0, AV.int .i64 0].length ≤ (List.flatMap cVL ls).length := hjf
    have g2 := flat_at0 (f := cVL) (sz := 3) (by simp) hjl
    repeat' (first
      | refine awp_seqK fun K' hpK => ?_
      | refine awp_block ?_
      | refine awp_condG fun A' B' hpA hpB => ?_
      | refine useK (by with_reducible assumption) ?_
      | refine useP (by with_reducible assumption) ?_
      | refine ED_cons (fun _ => ?_) ?_
      | (refine stable_mk ?_; simp (disch := first | (with_reducible assumption) | (simp; done) | omega | (simp; omega)) [setH_ne, setH_same, RO, hjn, hjl, hjb, g2, cVL, bsetx, lsetx, hk0, hjf, hjf2, hcol, setH_setH]; done)
      | (refine stable_no ?_; simp (disch := first | (with_reducible assumption) | (simp; done) | omega | (simp; omega)) [setH_ne, setH_same, RO, hjn, hjl, hjb, g2, cVL, bsetx, lsetx, hk0, hjf, hjf2, hcol, setH_setH]; done)
      | (with_reducible refine And.intro ?_ ?_)
      | (with_reducible intro hc; try (exfalso; omega))
      | (with_reducible refine GDsplit (fun hc => ?_) (fun hc => ?_) <;> try simp [hc])
      | (with_reducible refine GDsplitN (fun hc => ?_) (fun hc => ?_) <;> try simp [hc])
      | (with_reducible refine GDsplitNB (fun hc => ?_) (fun hc => ?_) <;> try simp [hc])
      | (with_reducible refine GDsplitB (fun hc => ?_) (fun hc => ?_) <;> try simp [hc])
      | (with_reducible refine GKsplit (fun hc => ?_) (fun hc => ?_) <;> try simp [hc])
      | (with_reducible refine GKsplitN (fun hc => ?_) (fun hc => ?_) <;> try simp [hc])
      | (with_reducible refine GKsplitNB (fun hc => ?_) (fun hc => ?_) <;> try simp [hc])
      | (with_reducible refine GKsplitB (fun hc => ?_) (fun hc => ?_) <;> try simp [hc])
      | simp (disch := first | (with_reducible assumption) | (simp; done) | omega | (simp; omega)) [setH_ne, setH_same, RO, hjn, hjl, hjb, g2, cVL, bsetx, lsetx, hk0, hjf, hjf2, hcol, setH_setH])
    exact ends_two (by simp <;> exact ⟨rfl, rfl⟩) (by simp) (by simp) (hpost _ _ ⟨RH.mk (bs := bs.set j false) n1 n2 n3 (by simpa using l1) (by simpa using l2) (by simp [List.map_set]), ls[j], true, by simp⟩)

set_option maxHeartbeats 4000000 in
theorem rgrant_c {q : PP} {rb : Nat} {G : Hp} {m ip now : Int} (hq : q.ok) (hR : RH q rb G) (hn0 : 0 ≤ now) (hn1 : now ≤ 1000000) : ACalls Try.prog 21 [.ptr rb 0, .int .u64 m, .int .u32 ip, .int .i64 now] G fun r G' => RH q rb G' ∧ ∃ a e, r = .tup [.int .i64 a, .int .i64 e] := by
  have ac := at_c (ip := ip) hq hR
  have wc := whose_c (m := m) hq hR
  have hR0 := hR
  obtain ⟨b1, b2, bs, ls, n1, n2, n3, l1, l2, hG⟩ := hR
  obtain ⟨h1, h2, h3, h4, h5, h6⟩ := hq
  have n3' := n3.symm
  refine ACalls.hide fun post hpost => ?_
  refine F21_in (by simp) (by simp) fun hbd => ?_
  repeat' (first
    | refine awp_seqK fun K' hpK => ?_
    | refine awp_block ?_
    | refine awp_condG fun A' B' hpA hpB => ?_
    | refine useK (by with_reducible assumption) ?_
    | refine useP (by with_reducible assumption) ?_
    | refine ED_cons (fun _ => ?_) ?_
    | (refine stable_mk ?_; simp (disch := first | (with_reducible assumption) | (simp; done) | omega | (simp; omega)); done)
    | (refine stable_no ?_; simp (disch := first | (with_reducible assumption) | (simp; done) | omega | (simp; omega)); done)
    | (with_reducible refine And.intro ?_ ?_)
    | (with_reducible intro hc; try (exfalso; omega))
    | (with_reducible refine GDsplit (fun hc => ?_) (fun hc => ?_) <;> try simp [hc])
    | (with_reducible refine GDsplitN (fun hc => ?_) (fun hc => ?_) <;> try simp [hc])
    | (with_reducible refine GDsplitNB (fun hc => ?_) (fun hc => ?_) <;> try simp [hc])
    | (with_reducible refine GDsplitB (fun hc => ?_) (fun hc => ?_) <;> try simp [hc])
    | (with_reducible refine GKsplit (fun hc => ?_) (fun hc => ?_) <;> try simp [hc])
    | (with_reducible refine GKsplitN (fun hc => ?_) (fun hc => ?_) <;> try simp [hc])
    | (with_reducible refine GKsplitNB (fun hc => ?_) (fun hc => ?_) <;> try simp [hc])
    | (with_reducible refine GKsplitB (fun hc => ?_) (fun hc => ?_) <;> try simp [hc])
    | simp (disch := first | (with_reducible assumption) | (simp; done) | omega | (simp; omega)))
  refine CallK.use ac ?_
  rintro r G' _ _ ⟨rfl, k, rfl, hk⟩
  by_cases hk0 : k < 0
  · repeat' (first
      | refine awp_seqK fun K' hpK => ?_
      | refine awp_block ?_
      | refine awp_condG fun A' B' hpA hpB => ?_
      | refine useK (by with_reducible assumption) ?_
      | refine useP (by with_reducible assumption) ?_
      | refine ED_cons (fun _ => ?_) ?_
      | (refine stable_mk ?_; simp (disch := first | (with_reducible assumption) | (simp; done) | omega | (simp; omega)) [hk0]; done)
      | (refine stable_no ?_; simp (disch := first | (with_reducible assumption) | (simp; done) | omega | (simp; omega)) [hk0]; done)
      | (with_reducible refine And.intro ?_ ?_)
      | (with_reducible intro hc; try (exfalso; omega))
      | (with_reducible refine GDsplit (fun hc => ?_) (fun hc => ?_) <;> try simp [hc])
      | (with_reducible refine GDsplitN (fun hc => ?_) (fun hc => ?_) <;> try simp [hc])
      | (with_reducible refine GDsplitNB (fun hc => ?_) (fun hc => ?_) <;> try simp [hc])
      | (with_reducible refine GDsplitB (fun hc => ?_) (fun hc => ?_) <;> try simp [hc])
      | (with_reducible refine GKsplit (fun hc => ?_) (fun hc => ?_) <;> try simp [hc])
      | (with_reducible refine GKsplitN (fun hc => ?_) (fun hc => ?_) <;> try simp [hc])
      | (with_reducible refine GKsplitNB (fun hc => ?_) (fun hc => ?_) <;> try simp [hc])
      | (with_reducible refine GKsplitB (fun hc => ?_) (fun hc => ?_) <;> try simp [hc])
      | simp (disch := first | (with_reducible assumption) | (simp; done) | omega | (simp; omega)) [hk0])
    exact ends_two (by simp <;> exact ⟨rfl, rfl⟩) (by simp) (by simp) (hpost _ _ ⟨hR0, _, _, rfl⟩)
  · obtain ⟨j, rfl⟩ := Int.eq_ofNat_of_zero_le (show 0 ≤ k by omega)
    have hjl : j < ls.length := by omega
    have hjb : j < bs.length := by omega
    have hjn : j < q.n := by omega
    have hjf : j * 3 + 3 ≤ (List.flatMap cVL ls).length := by rw [flat_len (sz := 3) (by simp)]; omega
    have hjf2 : j * 3 + [AV.int .u64 0, AV.int .u32 0, AV.int .i64 0].length ≤ (List.flatMap cVL ls).length := hjf
    have g1 := bget hjb
    have g2 := flat_at0 (f := cVL) (sz := 3) (by simp) hjl
    have g3 := flat_at1 (f := cVL) (sz := 3) (j := 2) (by simp) hjl (by omega)
    have fin : ∀ (T : Tm) (G2 : Hp), True := fun _ _ => trivial
    subst hG
    have hlf : ∀ (l : List Ls), l.length = q.n → j * 3 + 3 ≤ (List.flatMap cVL l).length := fun l hl => by rw [flat_len (sz := 3) (by simp)]; omega
    have rest : ∀ (bv : Bool), bs[j] = bv → (bv = true → (ls[j]).mac = m ∨ ¬ now < (ls[j]).u) → True := fun _ _ _ => trivial
    cases hbv : bs[j] with
    | false =>
      rw [hbv] at g1
      repeat' (first
        | refine awp_seqK fun K' hpK => ?_
        | refine awp_block ?_
        | refine awp_condG fun A' B' hpA hpB => ?_
        | refine useK (by with_reducible assumption) ?_
        | refine useP (by with_reducible assumption) ?_
        | refine ED_cons (fun _ => ?_) ?_
        | (refine stable_mk ?_; simp (disch := first | (with_reducible assumption) | (simp; done) | omega | (simp; omega)) [setH_ne, setH_same, RO, hjn, hjl, hjb, g1, hk0]; done)
        | (refine stable_no ?_; simp (disch := first | (with_reducible assumption) | (simp; done) | omega | (simp; omega)) [setH_ne, setH_same, RO, hjn, hjl, hjb, g1, hk0]; done)
        | (with_reducible refine And.intro ?_ ?_)
        | (with_reducible intro hc; try (exfalso; omega))
        | (with_reducible refine GDsplit (fun hc => ?_) (fun hc => ?_) <;> try simp [hc])
        | (with_reducible refine GDsplitN (fun hc => ?_) (fun hc => ?_) <;> try simp [hc])
        | (with_reducible refine GDsplitNB (fun hc => ?_) (fun hc => ?_) <;> try simp [hc])
        | (with_reducible refine GDsplitB (fun hc => ?_) (fun hc => ?_) <;> try simp [hc])
        | (with_reducible refine GKsplit (fun hc => ?_) (fun hc => ?_) <;> try simp [hc])
        | (with_reducible refine GKsplitN (fun hc => ?_) (fun hc => ?_) <;> try simp [hc])
        | (with_reducible refine GKsplitNB (fun hc => ?_) (fun hc => ?_) <;> try simp [hc])
        | (with_reducible refine GKsplitB (fun hc => ?_) (fun hc => ?_) <;> try simp [hc])
        | simp (disch := first | (with_reducible assumption) | (simp; done) | omega | (simp; omega)) [setH_ne, setH_same, RO, hjn, hjl, hjb, g1, hk0])
      refine CallK.use wc ?_
      rintro r G' _ _ ⟨rfl, i, rfl, hi⟩
      by_cases hi0 : 0 ≤ i
      · obtain ⟨t, rfl⟩ := Int.eq_ofNat_of_zero_le hi0
        have htl : t < ls.length := by omega
        have htb : t < bs.length := by omega
        have htn : t < q.n := by omega
        have htf : t * 3 + 3 ≤ (List.flatMap cVL ls).length := by rw [flat_len (sz := 3) (by simp)]; omega
        have htf2 : t * 3 + [AV.int .u64 0, AV.int .u32 0, AV.int .i64 0].length ≤ (List.flatMap cVL ls).length := htf
        have hjf3 : j * 3 + 3 ≤ (List.flatMap cVL (ls.set t ⟨0, 0, 0⟩)).length := hlf _ (by simpa using l2)
        have hjf4 : j * 3 + [AV.int .u64 m, AV.int .u32 ip, AV.int .i64 (now + q.ticks)].length ≤ (List.flatMap cVL (ls.set t ⟨0, 0, 0⟩)).length := hjf3
        repeat' (first
          | refine awp_seqK fun K' hpK => ?_
          | refine awp_block ?_
          | refine awp_condG fun A' B' hpA hpB => ?_
          | refine useK (by with_reducible assumption) ?_
          | refine useP (by with_reducible assumption) ?_
          | refine ED_cons (fun _ => ?_) ?_
          | (refine stable_mk ?_; simp (disch := first | (with_reducible assumption) | (simp; done) | omega | (simp; omega)) [RO, setH_ne, setH_same, hjn, hjl, hjb, htl, htb, htn, bsetx, lsetx, hjf3, hjf4, htf, htf2, hcol, setH_setH]; done)
          | (refine stable_no ?_; simp (disch := first | (with_reducible assumption) | (simp; done) | omega | (simp; omega)) [RO, setH_ne, setH_same, hjn, hjl, hjb, htl, htb, htn, bsetx, lsetx, hjf3, hjf4, htf, htf2, hcol, setH_setH]; done)
          | (with_reducible refine And.intro ?_ ?_)
          | (with_reducible intro hc; try (exfalso; omega))
          | (with_reducible refine GDsplit (fun hc => ?_) (fun hc => ?_) <;> try simp [hc])
          | (with_reducible refine GDsplitN (fun hc => ?_) (fun hc => ?_) <;> try simp [hc])
          | (with_reducible refine GDsplitNB (fun hc => ?_) (fun hc => ?_) <;> try simp [hc])
          | (with_reducible refine GDsplitB (fun hc => ?_) (fun hc => ?_) <;> try simp [hc])
          | (with_reducible refine GKsplit (fun hc => ?_) (fun hc => ?_) <;> try simp [hc])
          | (with_reducible refine GKsplitN (fun hc => ?_) (fun hc => ?_) <;> try simp [hc])
          | (with_reducible refine GKsplitNB (fun hc => ?_) (fun hc => ?_) <;> try simp [hc])
          | (with_reducible refine GKsplitB (fun hc => ?_) (fun hc => ?_) <;> try simp [hc])
          | simp (disch := first | (with_reducible assumption) | (simp; done) | omega | (simp; omega)) [RO, setH_ne, setH_same, hjn, hjl, hjb, htl, htb, htn, bsetx, lsetx, hjf3, hjf4, htf, htf2, hcol, setH_setH])
        exact ends_two (by simp <;> exact ⟨rfl, rfl⟩) (by simp) (by simp) (hpost _ _ ⟨RH.mk (bs := (bs.set t false).set j true) n1 n2 n3 (by simpa using l1) (by simpa using l2) (by simp only [List.map_set]; exact tset (by simp; omega)), _, _, rfl⟩)
      · have hjf4 : j * 3 + [AV.int .u64 m, AV.int .u32 ip, AV.int .i64 (now + q.ticks)].length ≤ (List.flatMap cVL ls).length := hjf
        repeat' (first
          | refine awp_seqK fun K' hpK => ?_
          | refine awp_block ?_
          | refine awp_condG fun A' B' hpA hpB => ?_
          | refine useK (by with_reducible assumption) ?_
          | refine useP (by with_reducible assumption) ?_
          | refine ED_cons (fun _ => ?_) ?_
          | (refine stable_mk ?_; simp (disch := first | (with_reducible assumption) | (simp; done) | omega | (simp; omega)) [RO, hi0, setH_ne, setH_same, hjn, hjl, hjb, bsetx, lsetx, hjf, hjf4, hcol, setH_setH]; done)
          | (refine stable_no ?_; simp (disch := first | (with_reducible assumption) | (simp; done) | omega | (simp; omega)) [RO, hi0, setH_ne, setH_same, hjn, hjl, hjb, bsetx, lsetx, hjf, hjf4, hcol, setH_setH]; done)
          | (with_reducible refine And.intro ?_ ?_)
          | (with_reducible intro hc; try (exfalso; omega))
          | (with_reducible refine GDsplit (fun hc => ?_) (fun hc => ?_) <;> try simp [hc])
          | (with_reducible refine GDsplitN (fun hc => ?_) (fun hc => ?_) <;> try simp [hc])
          | (with_reducible refine GDsplitNB (fun hc => ?_) (fun hc => ?_) <;> try simp [hc])
          | (with_reducible refine GDsplitB (fun hc => ?_) (fun hc => ?_) <;> try simp [hc])
          | (with_reducible refine GKsplit (fun hc => ?_) (fun hc => ?_) <;> try simp [hc])
          | (with_reducible refine GKsplitN (fun hc => ?_) (fun hc => ?_) <;> try simp [hc])
          | (with_reducible refine GKsplitNB (fun hc => ?_) (fun hc => ?_) <;> try simp [hc])
          | (with_reducible refine GKsplitB (fun hc => ?_) (fun hc => ?_) <;> try simp [hc])
          | simp (disch := first | (with_reducible assumption) | (simp; done) | omega | (simp; omega)) [RO, hi0, setH_ne, setH_same, hjn, hjl, hjb, bsetx, lsetx, hjf, hjf4, hcol, setH_setH])
        exact ends_two (by simp <;> exact ⟨rfl, rfl⟩) (by simp) (by simp) (hpost _ _ ⟨RH.mk (bs := bs.set j true) n1 n2 n3 (by simpa using l1) (by simpa using l2) (by simp [List.map_set]), _, _, rfl⟩)
    | true =>
      rw [hbv] at g1
      by_cases hm : (ls[j]).mac = m
      · repeat' (first
          | refine awp_seqK fun K' hpK => ?_
          | refine awp_block ?_
          | refine awp_condG fun A' B' hpA hpB => ?_
          | refine useK (by with_reducible assumption) ?_
          | refine useP (by with_reducible assumption) ?_
          | refine ED_cons (fun _ => ?_) ?_
          | (refine stable_mk ?_; simp (disch := first | (with_reducible assumption) | (simp; done) | omega | (simp; omega)) [setH_ne, setH_same, RO, hjn, hjl, hjb, g1, g2, cVL, hk0, hm]; done)
          | (refine stable_no ?_; simp (disch := first | (with_reducible assumption) | (simp; done) | omega | (simp; omega)) [setH_ne, setH_same, RO, hjn, hjl, hjb, g1, g2, cVL, hk0, hm]; done)
          | (with_reducible refine And.intro ?_ ?_)
          | (with_reducible intro hc; try (exfalso; omega))
          | (with_reducible refine GDsplit (fun hc => ?_) (fun hc => ?_) <;> try simp [hc])
          | (with_reducible refine GDsplitN (fun hc => ?_) (fun hc => ?_) <;> try simp [hc])
          | (with_reducible refine GDsplitNB (fun hc => ?_) (fun hc => ?_) <;> try simp [hc])
          | (with_reducible refine GDsplitB (fun hc => ?_) (fun hc => ?_) <;> try simp [hc])
          | (with_reducible refine GKsplit (fun hc => ?_) (fun hc => ?_) <;> try simp [hc])
          | (with_reducible refine GKsplitN (fun hc => ?_) (fun hc => ?_) <;> try simp [hc])
          | (with_reducible refine GKsplitNB (fun hc => ?_) (fun hc => ?_) <;> try simp [hc])
          | (with_reducible refine GKsplitB (fun hc => ?_) (fun hc => ?_) <;> try simp [hc])
          | simp (disch := first | (with_reducible assumption) | (simp; done) | omega | (simp; omega)) [setH_ne, setH_same, RO, hjn, hjl, hjb, g1, g2, cVL, hk0, hm])
        refine CallK.use wc ?_
        rintro r G' _ _ ⟨rfl, i, rfl, hi⟩
        by_cases hi0 : 0 ≤ i
        · obtain ⟨t, rfl⟩ := Int.eq_ofNat_of_zero_le hi0
          have htl : t < ls.length := by omega
          have htb : t < bs.length := by omega
          have htn : t < q.n := by omega
          have htf : t * 3 + 3 ≤ (List.flatMap cVL ls).length := by rw [flat_len (sz := 3) (by simp)]; omega
          have htf2 : t * 3 + [AV.int .u64 0, AV.int .u32 0, AV.int .i64 0].length ≤ (List.flatMap cVL ls).length := htf
          have hjf3 : j * 3 + 3 ≤ (List.flatMap cVL (ls.set t ⟨0, 0, 0⟩)).length := hlf _ (by simpa using l2)
          have hjf4 : j * 3 + [AV.int .u64 m, AV.int .u32 ip, AV.int .i64 (now + q.ticks)].length ≤ (List.flatMap cVL (ls.set t ⟨0, 0, 0⟩)).length := hjf3
          repeat' (first
            | refine awp_seqK fun K' hpK => ?_
            | refine awp_block ?_
            | refine awp_condG fun A' B' hpA hpB => ?_
            | refine useK (by with_reducible assumption) ?_
            | refine useP (by with_reducible assumption) ?_
            | refine ED_cons (fun _ => ?_) ?_
            | (refine stable_mk ?_; simp (disch := first | (with_reducible assumption) | (simp; done) | omega | (simp; omega)) [RO, setH_ne, setH_same, hjn, hjl, hjb, htl, htb, htn, bsetx, lsetx, hjf3, hjf4, htf, htf2, hcol, setH_setH]; done)
            | (refine stable_no ?_; simp (disch := first | (with_reducible assumption) | (simp; done) | omega | (simp; omega)) [RO, setH_ne, setH_same, hjn, hjl, hjb, htl, htb, htn, bsetx, lsetx, hjf3, hjf4, htf, htf2, hcol, setH_setH]; done)
            | (with_reducible refine And.intro ?_ ?_)
            | (with_reducible intro hc; try (exfalso; omega))
            | (with_reducible refine GDsplit (fun hc => ?_) (fun hc => ?_) <;> try simp [hc])
            | (with_reducible refine GDsplitN (fun hc => ?_) (fun hc => ?_) <;> try simp [hc])
            | (with_reducible refine GDsplitNB (fun hc => ?_) (fun hc => ?_) <;> try simp [hc])
            | (with_reducible refine GDsplitB (fun hc => ?_) (fun hc => ?_) <;> try simp [hc])
            | (with_reducible refine GKsplit (fun hc => ?_) (fun hc => ?_) <;> try simp [hc])
            | (with_reducible refine GKsplitN (fun hc => ?_) (fun hc => ?_) <;> try simp [hc])
            | (with_reducible refine GKsplitNB (fun hc => ?_) (fun hc => ?_) <;> try simp [hc])
            | (with_reducible refine GKsplitB (fun hc => ?_) (fun hc => ?_) <;> try simp [hc])
            | simp (disch := first | (with_reducible assumption) | (simp; done) | omega | (simp; omega)) [RO, setH_ne, setH_same, hjn, hjl, hjb, htl, htb, htn, bsetx, lsetx, hjf3, hjf4, htf, htf2, hcol, setH_setH])
          exact ends_two (by simp <;> exact ⟨rfl, rfl⟩) (by simp) (by simp) (hpost _ _ ⟨RH.mk (bs := (bs.set t false).set j true) n1 n2 n3 (by simpa using l1) (by simpa using l2) (by simp only [List.map_set]; exact tset (by simp; omega)), _, _, rfl⟩)
        · have hjf4 : j * 3 + [AV.int .u64 m, AV.int .u32 ip, AV.int .i64 (now + q.ticks)].length ≤ (List.flatMap cVL ls).length := hjf
          repeat' (first
            | refine awp_seqK fun K' hpK => ?_
            | refine awp_block ?_
            | refine awp_condG fun A' B' hpA hpB => ?_
            | refine useK (by with_reducible assumption) ?_
            | refine useP (by with_reducible assumption) ?_
            | refine ED_cons (fun _ => ?_) ?_
            | (refine stable_mk ?_; simp (disch := first | (with_reducible assumption) | (simp; done) | omega | (simp; omega)) [RO, hi0, setH_ne, setH_same, hjn, hjl, hjb, bsetx, lsetx, hjf, hjf4, hcol, setH_setH]; done)
            | (refine stable_no ?_; simp (disch := first | (with_reducible assumption) | (simp; done) | omega | (simp; omega)) [RO, hi0, setH_ne, setH_same, hjn, hjl, hjb, bsetx, lsetx, hjf, hjf4, hcol, setH_setH]; done)
            | (with_reducible refine And.intro ?_ ?_)
            | (with_reducible intro hc; try (exfalso; omega))
            | (with_reducible refine GDsplit (fun hc => ?_) (fun hc => ?_) <;> try simp [hc])
            | (with_reducible refine GDsplitN (fun hc => ?_) (fun hc => ?_) <;> try simp [hc])
            | (with_reducible refine GDsplitNB (fun hc => ?_) (fun hc => ?_) <;> try simp [hc])
            | (with_reducible refine GDsplitB (fun hc => ?_) (fun hc => ?_) <;> try simp [hc])
            | (with_reducible refine GKsplit (fun hc => ?_) (fun hc => ?_) <;> try simp [hc])
            | (with_reducible refine GKsplitN (fun hc => ?_) (fun hc => ?_) <;> try simp [hc])
            | (with_reducible refine GKsplitNB (fun hc => ?_) (fun hc => ?_) <;> try simp [hc])
            | (with_reducible refine GKsplitB (fun hc => ?_) (fun hc => ?_) <;> try simp [hc])
            | simp (disch := first | (with_reducible assumption) | (simp; done) | omega | (simp; omega)) [RO, hi0, setH_ne, setH_same, hjn, hjl, hjb, bsetx, lsetx, hjf, hjf4, hcol, setH_setH])
          exact ends_two (by simp <;> exact ⟨rfl, rfl⟩) (by simp) (by simp) (hpost _ _ ⟨RH.mk (bs := bs.set j true) n1 n2 n3 (by simpa using l1) (by simpa using l2) (by simp [List.map_set]), _, _, rfl⟩)
      · by_cases hu : now < (ls[j]).u
        · repeat' (first
            | refine awp_seqK fun K' hpK => ?_
            | refine awp_block ?_
            | refine awp_condG fun A' B' hpA hpB => ?_
            | refine useK (by with_reducible assumption) ?_
            | refine useP (by with_reducible assumption) ?_
            | refine ED_cons (fun _ => ?_) ?_
            | (refine stable_mk ?_; simp (disch := first | (with_reducible assumption) | (simp; done) | omega | (simp; omega)) [setH_ne, setH_same, RO, hjn, hjl, hjb, g1, g2, g3, cVL, hk0, hm, hu]; done)
            | (refine stable_no ?_; simp (disch := first | (with_reducible assumption) | (simp; done) | omega | (simp; omega)) [setH_ne, setH_same, RO, hjn, hjl, hjb, g1, g2, g3, cVL, hk0, hm, hu]; done)
            | (with_reducible refine And.intro ?_ ?_)
            | (with_reducible intro hc; try (exfalso; omega))
            | (with_reducible refine GDsplit (fun hc => ?_) (fun hc => ?_) <;> try simp [hc])
            | (with_reducible refine GDsplitN (fun hc => ?_) (fun hc => ?_) <;> try simp [hc])
            | (with_reducible refine GDsplitNB (fun hc => ?_) (fun hc => ?_) <;> try simp [hc])
            | (with_reducible refine GDsplitB (fun hc => ?_) (fun hc => ?_) <;> try simp [hc])
            | (with_reducible refine GKsplit (fun hc => ?_) (fun hc => ?_) <;> try simp [hc])
            | (with_reducible refine GKsplitN (fun hc => ?_) (fun hc => ?_) <;> try simp [hc])
            | (with_reducible refine GKsplitNB (fun hc => ?_) (fun hc => ?_) <;> try simp [hc])
            | (with_reducible refine GKsplitB (fun hc => ?_) (fun hc => ?_) <;> try simp [hc])
            | simp (disch := first | (with_reducible assumption) | (simp; done) | omega | (simp; omega)) [setH_ne, setH_same, RO, hjn, hjl, hjb, g1, g2, g3, cVL, hk0, hm, hu])
          exact ends_two (by simp <;> exact ⟨rfl, rfl⟩) (by simp) (by simp) (hpost _ _ ⟨hR0, _, _, rfl⟩)
        · repeat' (first
            | refine awp_seqK fun K' hpK => ?_
            | refine awp_block ?_
            | refine awp_condG fun A' B' hpA hpB => ?_
            | refine useK (by with_reducible assumption) ?_
            | refine useP (by with_reducible assumption) ?_
            | refine ED_cons (fun _ => ?_) ?_
            | (refine stable_mk ?_; simp (disch := first | (with_reducible assumption) | (simp; done) | omega | (simp; omega)) [setH_ne, setH_same, RO, hjn, hjl, hjb, g1, g2, g3, cVL, hk0, hm, hu]; done)
            | (refine stable_no ?_; simp (disch := first | (with_reducible assumption) | (simp; done) | omega | (simp; omega)) [setH_ne, setH_same, RO, hjn, hjl, hjb, g1, g2, g3, cVL, hk0, hm, hu]; done)
            | (with_reducible refine And.intro ?_ ?_)
            | (with_reducible intro hc; try (exfalso; omega))
            | (with_reducible refine GDsplit (fun hc => ?_) (fun hc => ?_) <;> try simp [hc])
            | (with_reducible refine GDsplitN (fun hc => ?_) (fun hc => ?_) <;> try simp [hc])
            | (with_reducible refine GDsplitNB (fun hc => ?_) (fun hc => ?_) <;> try simp [hc])
            | (with_reducible refine GDsplitB (fun hc => ?_) (fun hc => ?_) <;> try simp [hc])
            | (with_reducible refine GKsplit (fun hc => ?_) (fun hc => ?_) <;> try simp [hc])
            | (with_reducible refine GKsplitN (fun hc => ?_) (fun hc => ?_) <;> try simp [hc])
            | (with_reducible refine GKsplitNB (fun hc => ?_) (fun hc => ?_) <;> try simp [hc])
            | (with_reducible refine GKsplitB (fun hc => ?_) (fun hc => ?_) <;> try simp [hc])
            | simp (disch := first | (with_reducible assumption) | (simp; done) | omega | (simp; omega)) [setH_ne, setH_same, RO, hjn, hjl, hjb, g1, g2, g3, cVL, hk0, hm, hu])
          refine CallK.use wc ?_
          rintro r G' _ _ ⟨rfl, i, rfl, hi⟩
          by_cases hi0 : 0 ≤ i
          · obtain ⟨t, rfl⟩ := Int.eq_ofNat_of_zero_le hi0
            have htl : t < ls.length := by omega
            have htb : t < bs.length := by omega
            have htn : t < q.n := by omega
            have htf : t * 3 + 3 ≤ (List.flatMap cVL ls).length := by rw [flat_len (sz := 3) (by simp)]; omega
            have htf2 : t * 3 + [AV.int .u64 0, AV.int .u32 0, AV.int .i64 0].length ≤ (List.flatMap cVL ls).length := htf
            have hjf3 : j * 3 + 3 ≤ (List.flatMap cVL (ls.set t ⟨0, 0, 0⟩)).length := hlf _ (by simpa using l2)
            have hjf4 : j * 3 + [AV.int .u64 m, AV.int .u32 ip, AV.int .i64 (now + q.ticks)].length ≤ (List.flatMap cVL (ls.set t ⟨0, 0, 0⟩)).length := hjf3
            repeat' (first
              | refine awp_seqK fun K' hpK => ?_
              | refine awp_block ?_
              | refine awp_condG fun A' B' hpA hpB => ?_
              | refine useK (by with_reducible assumption) ?_
              | refine useP (by with_reducible assumption) ?_
              | refine ED_cons (fun _ => ?_) ?_
              | (refine stable_mk ?_; simp (disch := first | (with_reducible assumption) | (simp; done) | omega | (simp; omega)) [RO, setH_ne, setH_same, hjn, hjl, hjb, htl, htb, htn, bsetx, lsetx, hjf3, hjf4, htf, htf2, hcol, setH_setH]; done)
              | (refine stable_no ?_; simp (disch := first | (with_reducible assumption) | (simp; done) | omega | (simp; omega)) [RO, setH_ne, setH_same, hjn, hjl, hjb, htl, htb, htn, bsetx, lsetx, hjf3, hjf4, htf, htf2, hcol, setH_setH]; done)
              | (with_reducible refine And.intro ?_ ?_)
              | (with_reducible intro hc; try (exfalso; omega))
              | (with_reducible refine GDsplit (fun hc => ?_) (fun hc => ?_) <;> try simp [hc])
              | (with_reducible refine GDsplitN (fun hc => ?_) (fun hc => ?_) <;> try simp [hc])
              | (with_reducible refine GDsplitNB (fun hc => ?_) (fun hc => ?_) <;> try simp [hc])
              | (with_reducible refine GDsplitB (fun hc => ?_) (fun hc => ?_) <;> try simp [hc])
              | (with_reducible refine GKsplit (fun hc => ?_) (fun hc => ?_) <;> try simp [hc])
              | (with_reducible refine GKsplitN (fun hc => ?_) (fun hc => ?_) <;> try simp [hc])
              | (with_reducible refine GKsplitNB (fun hc => ?_) (fun hc => ?_) <;> try simp [hc])
              | (with_reducible refine GKsplitB (fun hc => ?_) (fun hc => ?_) <;> try simp [hc])
              | simp (disch := first | (with_reducible assumption) | (simp; done) | omega | (simp; omega)) [RO, setH_ne, setH_same, hjn, hjl, hjb, htl, htb, htn, bsetx, lsetx, hjf3, hjf4, htf, htf2, hcol, setH_setH])
            exact ends_two (by simp <;> exact ⟨rfl, rfl⟩) (by simp) (by simp) (hpost _ _ ⟨RH.mk (bs := (bs.set t false).set j true) n1 n2 n3 (by simpa using l1) (by simpa using l2) (by simp only [List.map_set]; exact tset (by simp; omega)), _, _, rfl⟩)
          · have hjf4 : j * 3 + [AV.int .u64 m, AV.int .u32 ip, AV.int .i64 (now + q.ticks)].length ≤ (List.flatMap cVL ls).length := hjf
            repeat' (first
              | refine awp_seqK fun K' hpK => ?_
              | refine awp_block ?_
              | refine awp_condG fun A' B' hpA hpB => ?_
              | refine useK (by with_reducible assumption) ?_
              | refine useP (by with_reducible assumption) ?_
              | refine ED_cons (fun _ => ?_) ?_
              | (refine stable_mk ?_; simp (disch := first | (with_reducible assumption) | (simp; done) | omega | (simp; omega)) [RO, hi0, setH_ne, setH_same, hjn, hjl, hjb, bsetx, lsetx, hjf, hjf4, hcol, setH_setH]; done)
              | (refine stable_no ?_; simp (disch := first | (with_reducible assumption) | (simp; done) | omega | (simp; omega)) [RO, hi0, setH_ne, setH_same, hjn, hjl, hjb, bsetx, lsetx, hjf, hjf4, hcol, setH_setH]; done)
              | (with_reducible refine And.intro ?_ ?_)
              | (with_reducible intro hc; try (exfalso; omega))
              | (with_reducible refine GDsplit (fun hc => ?_) (fun hc => ?_) <;> try simp [hc])
              | (with_reducible refine GDsplitN (fun hc => ?_) (fun hc => ?_) <;> try simp [hc])
              | (with_reducible refine GDsplitNB (fun hc => ?_) (fun hc => ?_) <;> try simp [hc])
              | (with_reducible refine GDsplitB (fun hc => ?_) (fun hc => ?_) <;> try simp [hc])
              | (with_reducible refine GKsplit (fun hc => ?_) (fun hc => ?_) <;> try simp [hc])
              | (with_reducible refine GKsplitN (fun hc => ?_) (fun hc => ?_) <;> try simp [hc])
              | (with_reducible refine GKsplitNB (fun hc => ?_) (fun hc => ?_) <;> try simp [hc])
              | (with_reducible refine GKsplitB (fun hc => ?_) (fun hc => ?_) <;> try simp [hc])
              | simp (disch := first | (with_reducible assumption) | (simp; done) | omega | (simp; omega)) [RO, hi0, setH_ne, setH_same, hjn, hjl, hjb, bsetx, lsetx, hjf, hjf4, hcol, setH_setH])
            exact ends_two (by simp <;> exact ⟨rfl, rfl⟩) (by simp) (by simp) (hpost _ _ ⟨RH.mk (bs := bs.set j true) n1 n2 n3 (by simpa using l1) (by simpa using l2) (by simp [List.map_set]), _, _, rfl⟩)
end Go.Proofs.Ytjkighndbjnbjaa
