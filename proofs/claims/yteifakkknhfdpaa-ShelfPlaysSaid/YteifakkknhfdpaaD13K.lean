import Derived.Test.YteifakkknhfdpaaD8K
import Derived.Test.YteifakkknhfdpaaD4K
import Derived.Test.YteifakkknhfdpaaAl2
set_option linter.unusedSimpArgs false
set_option linter.unusedVariables false
namespace Go.Proofs.Yteifakkknhfdpaa
open Go Go.Al
set_option maxRecDepth 20000
attribute [local irreducible] awp aops aopsD eop pv ACalls CallK AppK AEnds ti

set_option maxHeartbeats 4000000 in
theorem dropP_c {sb : Nat} {h F : Hp} {L : List (ByteArray × Int)} {mx : Int} {f : Nat} {caps : List AV} {p : (ByteArray × Int) → Bool} (hs : SHP sb h L mx) (hl : L.length ≤ 1000000) (hdis : Dis F h) (hcal : callable Try.prog f = true) (hcp : (AV.fn f caps).plain = true)
    (hp : ∀ x ∈ L, ACalls Try.prog f ([.str x.1, (.int .i64 x.2)] ++ caps) F fun r G' => G' = F ∧ r = .bool (p x)) :
    ACalls Try.prog 44 [.ptr sb 0, .fn f caps] (uni F h) fun r G' => ∃ h', G' = uni F h' ∧ Dis F h' ∧ SHP sb h' (L.filter fun x => !p x) mx ∧ ∃ s : Option (List Int), r = ofS cVP s ∧ LL s = (L.filter p).map Prod.snd := by
  have hle := lenP_c hs
  obtain ⟨⟨out, hg⟩, hS⟩ := hs
  have hat := hg.at
  have hpo := Grow.plain hg
  have hFsb : F sb = none := by
    rcases hdis sb with h | h
    · exact h
    · rw [hat] at h; cases h
  have hatF : uni F h sb = some (0, [out, .int .i64 mx]) := by rw [uni_right hFsb]; exact hat
  refine ACalls.hide fun post hpost => ?_
  refine F44_in (by simp) (by simp) fun hbd => ?_
  repeat' (first
    | refine awp_seqK fun K' hpK => ?_
    | refine awp_block ?_
    | refine awp_condG fun A' B' hpA hpB => ?_
    | refine useK (by with_reducible assumption) ?_
    | refine useP (by with_reducible assumption) ?_
    | refine ED_cons (fun _ => ?_) ?_
    | (refine stable_mk ?_; simp (disch := first | (with_reducible assumption) | (simp; done) | omega | (simp; omega)); done)
    | (refine stable_no ?_; simp (disch := first | (with_reducible assumption) | (simp; done) | omega | (simp; omega)); done)
    | (with_reducible refine And.intro ?_ ?_)
    | (with_reducible intro hc)
    | (with_reducible refine GDsplit (fun hc => ?_) (fun hc => ?_) <;> try simp [hc])
    | (with_reducible refine GDsplitN (fun hc => ?_) (fun hc => ?_) <;> try simp [hc])
    | (with_reducible refine GDsplitNB (fun hc => ?_) (fun hc => ?_) <;> try simp [hc])
    | (with_reducible refine GDsplitB (fun hc => ?_) (fun hc => ?_) <;> try simp [hc])
    | (with_reducible refine GKsplit (fun hc => ?_) (fun hc => ?_) <;> try simp [hc])
    | (with_reducible refine GKsplitN (fun hc => ?_) (fun hc => ?_) <;> try simp [hc])
    | (with_reducible refine GKsplitNB (fun hc => ?_) (fun hc => ?_) <;> try simp [hc])
    | (with_reducible refine GKsplitB (fun hc => ?_) (fun hc => ?_) <;> try simp [hc])
    | (refine CallK.fr (hle) hdis ?_; rintro r h' hdis _ _ ⟨rfl, rfl⟩)
    | simp (disch := first | (with_reducible assumption) | (simp; done) | omega | (simp; omega)))
  refine awp_loop' (fun w T G1 => ∃ (k : Nat) (oo kk : AV) (Gm : Hp), k + w = L.length ∧ Grow cSP 2 (uni F h') Gm kk ((L.take k).filter fun x => !p x) ∧ Grow cVP 1 Gm G1 oo (((L.take k).filter p).map Prod.snd) ∧ T = ofL [(0, .ptr sb 0), (1, .fn f caps), (5, oo), (6, kk), (10, .int .i64 L.length), (11, .int .i64 k)]) L.length ⟨0, .nils, .nils, _, by omega, Grow.nil _ _, Grow.nil _ _, by simp⟩ ?_
  rintro w T G1 ⟨k, oo, kk, Gm, hk, hgk, hgo, rfl⟩ N hN
  have hoo := hgo.plain
  have hkk := hgk.plain
  have hat1 := hgo.base (hgk.base hatF)
  by_cases hkl : k < L.length
  · have hln1 : ((L.take k).filter fun x => !p x).length ≤ 1000000 := Nat.le_trans (List.length_filter_le _ _) (by rw [List.length_take]; omega)
    have hln3 : ((L.take k).filter p).length ≤ 1000000 := Nat.le_trans (List.length_filter_le _ _) (by rw [List.length_take]; omega)
    have hln2 : (((L.take k).filter p).map Prod.snd).length ≤ 1000000 := by rw [List.length_map]; exact Nat.le_trans (List.length_filter_le _ _) (by rw [List.length_take]; omega)
    obtain ⟨b, τ, hb, rfl, hG⟩ := Grow.ms hg (by intro h; subst h; simp at hkl)
    have hatb : uni F h' b = some (τ, L.flatMap cSP) := by
      have h1 : h' b = some (τ, L.flatMap cSP) := by rw [hG, setH_same]
      have h2 : F b = none := by
        rcases hdis b with h | h
        · exact h
        · rw [h1] at h; cases h
      rw [uni_right h2]; exact h1
    have hatb1 := hgo.base (hgk.base hatb)
    have hd0 := flat_at0 (f := cSP) (sz := 2) (by simp) hkl
    have htk := take_succ_get L k hkl
    have hpx := (hp L[k] (List.getElem_mem hkl)).ext (((Ext.uni (F := F) (h := h')).grow hgk).grow hgo)
    obtain ⟨x, hx⟩ : ∃ x, x = L[k] := ⟨_, rfl⟩
    rw [← hx] at hd0 htk hpx
    cases hq : p x with
    | true =>
      rw [hq] at hpx
      have e1 : (L.take (k + 1)).filter p = (L.take k).filter p ++ [x] := by rw [htk, List.filter_append]; simp [hq]
      have e2 : ((L.take (k + 1)).filter fun x => !p x) = (L.take k).filter fun x => !p x := by rw [htk, List.filter_append]; simp [hq]
      repeat' (first
        | refine awp_seqK fun K' hpK => ?_
        | refine awp_block ?_
        | refine awp_condG fun A' B' hpA hpB => ?_
        | refine useK (by with_reducible assumption) ?_
        | refine useP (by with_reducible assumption) ?_
        | refine ED_cons (fun _ => ?_) ?_
        | (refine stable_mk ?_; simp (disch := first | (with_reducible assumption) | (simp; done) | omega | (simp; omega)) [hkl, hat1, hatb1, hd0, cSP, hoo, hkk, hcal, ← hx]; done)
        | (refine stable_no ?_; simp (disch := first | (with_reducible assumption) | (simp; done) | omega | (simp; omega)) [hkl, hat1, hatb1, hd0, cSP, hoo, hkk, hcal, ← hx]; done)
        | (with_reducible refine And.intro ?_ ?_)
        | (with_reducible intro hc)
        | (with_reducible refine GDsplit (fun hc => ?_) (fun hc => ?_) <;> try simp [hc])
        | (with_reducible refine GDsplitN (fun hc => ?_) (fun hc => ?_) <;> try simp [hc])
        | (with_reducible refine GDsplitNB (fun hc => ?_) (fun hc => ?_) <;> try simp [hc])
        | (with_reducible refine GDsplitB (fun hc => ?_) (fun hc => ?_) <;> try simp [hc])
        | (with_reducible refine GKsplit (fun hc => ?_) (fun hc => ?_) <;> try simp [hc])
        | (with_reducible refine GKsplitN (fun hc => ?_) (fun hc => ?_) <;> try simp [hc])
        | (with_reducible refine GKsplitNB (fun hc => ?_) (fun hc => ?_) <;> try simp [hc])
        | (with_reducible refine GKsplitB (fun hc => ?_) (fun hc => ?_) <;> try simp [hc])
        | (refine CallK.use (hpx) ?_; rintro r G' _ _ ⟨rfl, rfl⟩)
        | simp (disch := first | (with_reducible assumption) | (simp; done) | omega | (simp; omega)) [hkl, hat1, hatb1, hd0, cSP, hoo, hkk, hcal, ← hx])
      refine hgo.app1 (x := x.2) (by simp [cVP]) (by simp [cVP]) (by simp [LIM]; omega) (fun v2 G2 hg2 => ?_)
      have hv2 := hg2.plain
      repeat' (first
        | refine awp_seqK fun K' hpK => ?_
        | refine awp_block ?_
        | refine awp_condG fun A' B' hpA hpB => ?_
        | refine useK (by with_reducible assumption) ?_
        | refine useP (by with_reducible assumption) ?_
        | refine ED_cons (fun _ => ?_) ?_
        | (refine stable_mk ?_; simp (disch := first | (with_reducible assumption) | (simp; done) | omega | (simp; omega)) [hv2, hkk]; done)
        | (refine stable_no ?_; simp (disch := first | (with_reducible assumption) | (simp; done) | omega | (simp; omega)) [hv2, hkk]; done)
        | (with_reducible refine And.intro ?_ ?_)
        | (with_reducible intro hc)
        | (with_reducible refine GDsplit (fun hc => ?_) (fun hc => ?_) <;> try simp [hc])
        | (with_reducible refine GDsplitN (fun hc => ?_) (fun hc => ?_) <;> try simp [hc])
        | (with_reducible refine GDsplitNB (fun hc => ?_) (fun hc => ?_) <;> try simp [hc])
        | (with_reducible refine GDsplitB (fun hc => ?_) (fun hc => ?_) <;> try simp [hc])
        | (with_reducible refine GKsplit (fun hc => ?_) (fun hc => ?_) <;> try simp [hc])
        | (with_reducible refine GKsplitN (fun hc => ?_) (fun hc => ?_) <;> try simp [hc])
        | (with_reducible refine GKsplitNB (fun hc => ?_) (fun hc => ?_) <;> try simp [hc])
        | (with_reducible refine GKsplitB (fun hc => ?_) (fun hc => ?_) <;> try simp [hc])
        | simp (disch := first | (with_reducible assumption) | (simp; done) | omega | (simp; omega)) [hv2, hkk])
      exact hN (w - 1) _ _ (by omega) ⟨k + 1, v2, kk, Gm, by omega, by rw [e2]; exact hgk, by rw [e1, List.map_append]; exact hg2, by simp⟩
    | false =>
      rw [hq] at hpx
      have e1 : (L.take (k + 1)).filter p = (L.take k).filter p := by rw [htk, List.filter_append]; simp [hq]
      have e2 : ((L.take (k + 1)).filter fun x => !p x) = ((L.take k).filter fun x => !p x) ++ [x] := by rw [htk, List.filter_append]; simp [hq]
      repeat' (first
        | refine awp_seqK fun K' hpK => ?_
        | refine awp_block ?_
        | refine awp_condG fun A' B' hpA hpB => ?_
        | refine useK (by with_reducible assumption) ?_
        | refine useP (by with_reducible assumption) ?_
        | refine ED_cons (fun _ => ?_) ?_
        | (refine stable_mk ?_; simp (disch := first | (with_reducible assumption) | (simp; done) | omega | (simp; omega)) [hkl, hat1, hatb1, hd0, cSP, hoo, hkk, hcal, ← hx]; done)
        | (refine stable_no ?_; simp (disch := first | (with_reducible assumption) | (simp; done) | omega | (simp; omega)) [hkl, hat1, hatb1, hd0, cSP, hoo, hkk, hcal, ← hx]; done)
        | (with_reducible refine And.intro ?_ ?_)
        | (with_reducible intro hc)
        | (with_reducible refine GDsplit (fun hc => ?_) (fun hc => ?_) <;> try simp [hc])
        | (with_reducible refine GDsplitN (fun hc => ?_) (fun hc => ?_) <;> try simp [hc])
        | (with_reducible refine GDsplitNB (fun hc => ?_) (fun hc => ?_) <;> try simp [hc])
        | (with_reducible refine GDsplitB (fun hc => ?_) (fun hc => ?_) <;> try simp [hc])
        | (with_reducible refine GKsplit (fun hc => ?_) (fun hc => ?_) <;> try simp [hc])
        | (with_reducible refine GKsplitN (fun hc => ?_) (fun hc => ?_) <;> try simp [hc])
        | (with_reducible refine GKsplitNB (fun hc => ?_) (fun hc => ?_) <;> try simp [hc])
        | (with_reducible refine GKsplitB (fun hc => ?_) (fun hc => ?_) <;> try simp [hc])
        | (refine CallK.use (hpx) ?_; rintro r G' _ _ ⟨rfl, rfl⟩)
        | simp (disch := first | (with_reducible assumption) | (simp; done) | omega | (simp; omega)) [hkl, hat1, hatb1, hd0, cSP, hoo, hkk, hcal, ← hx])
      obtain ⟨Gn, hgo', hgk'⟩ := hgk.swap hgo
      refine hgk'.app1 (x := x) (by simp [cSP]) (by simp [cSP]) (by simp [LIM]; omega) (fun v2 G2 hg2 => ?_)
      have hv2 := hg2.plain
      obtain ⟨Gq, hgk2, hgo2⟩ := hgo'.swap hg2
      repeat' (first
        | refine awp_seqK fun K' hpK => ?_
        | refine awp_block ?_
        | refine awp_condG fun A' B' hpA hpB => ?_
        | refine useK (by with_reducible assumption) ?_
        | refine useP (by with_reducible assumption) ?_
        | refine ED_cons (fun _ => ?_) ?_
        | (refine stable_mk ?_; simp (disch := first | (with_reducible assumption) | (simp; done) | omega | (simp; omega)) [hv2, hoo]; done)
        | (refine stable_no ?_; simp (disch := first | (with_reducible assumption) | (simp; done) | omega | (simp; omega)) [hv2, hoo]; done)
        | (with_reducible refine And.intro ?_ ?_)
        | (with_reducible intro hc)
        | (with_reducible refine GDsplit (fun hc => ?_) (fun hc => ?_) <;> try simp [hc])
        | (with_reducible refine GDsplitN (fun hc => ?_) (fun hc => ?_) <;> try simp [hc])
        | (with_reducible refine GDsplitNB (fun hc => ?_) (fun hc => ?_) <;> try simp [hc])
        | (with_reducible refine GDsplitB (fun hc => ?_) (fun hc => ?_) <;> try simp [hc])
        | (with_reducible refine GKsplit (fun hc => ?_) (fun hc => ?_) <;> try simp [hc])
        | (with_reducible refine GKsplitN (fun hc => ?_) (fun hc => ?_) <;> try simp [hc])
        | (with_reducible refine GKsplitNB (fun hc => ?_) (fun hc => ?_) <;> try simp [hc])
        | (with_reducible refine GKsplitB (fun hc => ?_) (fun hc => ?_) <;> try simp [hc])
        | simp (disch := first | (with_reducible assumption) | (simp; done) | omega | (simp; omega)) [hv2, hoo])
      exact hN (w - 1) _ _ (by omega) ⟨k + 1, oo, v2, Gq, by omega, by rw [e2]; exact hgk2, by rw [e1]; exact hgo2, by simp⟩
  · rw [List.take_of_length_le (by omega)] at hgk hgo
    have hkn := hgk.known
    have hks := hgk.scal
    have hkc := hgk.cells
    repeat' (first
      | refine awp_seqK fun K' hpK => ?_
      | refine awp_block ?_
      | refine awp_condG fun A' B' hpA hpB => ?_
      | refine useK (by with_reducible assumption) ?_
      | refine useP (by with_reducible assumption) ?_
      | refine ED_cons (fun _ => ?_) ?_
      | (refine stable_mk ?_; simp (disch := first | (with_reducible assumption) | (simp; done) | omega | (simp; omega)) [hkl, hoo, hkk, hat1, hkn, hks, hkc]; done)
      | (refine stable_no ?_; simp (disch := first | (with_reducible assumption) | (simp; done) | omega | (simp; omega)) [hkl, hoo, hkk, hat1, hkn, hks, hkc]; done)
      | (with_reducible refine And.intro ?_ ?_)
      | (with_reducible intro hc)
      | (with_reducible refine GDsplit (fun hc => ?_) (fun hc => ?_) <;> try simp [hc])
      | (with_reducible refine GDsplitN (fun hc => ?_) (fun hc => ?_) <;> try simp [hc])
      | (with_reducible refine GDsplitNB (fun hc => ?_) (fun hc => ?_) <;> try simp [hc])
      | (with_reducible refine GDsplitB (fun hc => ?_) (fun hc => ?_) <;> try simp [hc])
      | (with_reducible refine GKsplit (fun hc => ?_) (fun hc => ?_) <;> try simp [hc])
      | (with_reducible refine GKsplitN (fun hc => ?_) (fun hc => ?_) <;> try simp [hc])
      | (with_reducible refine GKsplitNB (fun hc => ?_) (fun hc => ?_) <;> try simp [hc])
      | (with_reducible refine GKsplitB (fun hc => ?_) (fun hc => ?_) <;> try simp [hc])
      | simp (disch := first | (with_reducible assumption) | (simp; done) | omega | (simp; omega)) [hkl, hoo, hkk, hat1, hkn, hks, hkc])
    obtain ⟨hn, r, hsub, hdn, hgn, hz, hr⟩ := Grow.sieve (o' := (0, [kk, .int .i64 mx])) hFsb hatF hgk hgo (by simp)
    exact ends_fr1 (by simp <;> rfl) hoo hsub hz (hpost _ _ ⟨hn, rfl, hdn, ⟨⟨kk, hgn⟩, hS.filter _⟩, r, rfl, hr⟩)

theorem dropF_c {x : ByteArray × Int} {v : Int} {tb : Nat} {F : Hp} (hF : F tb = some (0, [.int .i64 v])) : ACalls Try.prog 45 ([.str x.1, .int .i64 x.2] ++ [.ptr tb 0]) F fun r G' => G' = F ∧ r = .bool (decide (x.2 < v)) := by
  refine ACalls.hide fun post hpost => ?_
  refine F45_in (by simp) (by simp) fun hbd => ?_
  repeat' (first
    | refine awp_seqK fun K' hpK => ?_
    | refine awp_block ?_
    | refine awp_condG fun A' B' hpA hpB => ?_
    | refine useK (by with_reducible assumption) ?_
    | refine useP (by with_reducible assumption) ?_
    | refine ED_cons (fun _ => ?_) ?_
    | (refine stable_mk ?_; simp (disch := first | (with_reducible assumption) | (simp; done) | omega | (simp; omega)) [hF]; done)
    | (refine stable_no ?_; simp (disch := first | (with_reducible assumption) | (simp; done) | omega | (simp; omega)) [hF]; done)
    | (with_reducible refine And.intro ?_ ?_)
    | (with_reducible intro hc)
    | (with_reducible refine GDsplit (fun hc => ?_) (fun hc => ?_) <;> try simp [hc])
    | (with_reducible refine GDsplitN (fun hc => ?_) (fun hc => ?_) <;> try simp [hc])
    | (with_reducible refine GDsplitNB (fun hc => ?_) (fun hc => ?_) <;> try simp [hc])
    | (with_reducible refine GDsplitB (fun hc => ?_) (fun hc => ?_) <;> try simp [hc])
    | (with_reducible refine GKsplit (fun hc => ?_) (fun hc => ?_) <;> try simp [hc])
    | (with_reducible refine GKsplitN (fun hc => ?_) (fun hc => ?_) <;> try simp [hc])
    | (with_reducible refine GKsplitNB (fun hc => ?_) (fun hc => ?_) <;> try simp [hc])
    | (with_reducible refine GKsplitB (fun hc => ?_) (fun hc => ?_) <;> try simp [hc])
    | simp (disch := first | (with_reducible assumption) | (simp; done) | omega | (simp; omega)) [hF])
  exact ends_one (by simp <;> rfl) (by simp) (hpost _ _ ⟨rfl, rfl⟩)
set_option maxHeartbeats 1000000 in
theorem dropC {sb : Nat} {h : Hp} {L : List (ByteArray × Int)} {mx v : Int} (hs : SHP sb h L mx) (hl : L.length ≤ 1000000) : ACalls Try.prog 28 [.ptr sb 0, .int .i64 v] h fun r G' => SHP sb G' (L.filter fun x => !decide (x.2 < v)) mx ∧ ∃ s : Option (List Int), r = ofS cVP s ∧ LL s = (L.filter fun x => decide (x.2 < v)).map Prod.snd := by
  refine ACalls.hide fun post hpost => ?_
  refine F28_in (by simp) (by simp) fun hbd => ?_
  repeat' (first
    | refine awp_seqK fun K' hpK => ?_
    | refine awp_block ?_
    | refine awp_condG fun A' B' hpA hpB => ?_
    | refine useK (by with_reducible assumption) ?_
    | refine useP (by with_reducible assumption) ?_
    | refine ED_cons (fun _ => ?_) ?_
    | (refine stable_mk ?_; simp (disch := first | (with_reducible assumption) | (simp; done) | omega | (simp; omega)); done)
    | (refine stable_no ?_; simp (disch := first | (with_reducible assumption) | (simp; done) | omega | (simp; omega)); done)
    | (with_reducible refine And.intro ?_ ?_)
    | (with_reducible intro hc)
    | (with_reducible refine GDsplit (fun hc => ?_) (fun hc => ?_) <;> try simp [hc])
    | (with_reducible refine GDsplitN (fun hc => ?_) (fun hc => ?_) <;> try simp [hc])
    | (with_reducible refine GDsplitNB (fun hc => ?_) (fun hc => ?_) <;> try simp [hc])
    | (with_reducible refine GDsplitB (fun hc => ?_) (fun hc => ?_) <;> try simp [hc])
    | (with_reducible refine GKsplit (fun hc => ?_) (fun hc => ?_) <;> try simp [hc])
    | (with_reducible refine GKsplitN (fun hc => ?_) (fun hc => ?_) <;> try simp [hc])
    | (with_reducible refine GKsplitNB (fun hc => ?_) (fun hc => ?_) <;> try simp [hc])
    | (with_reducible refine GKsplitB (fun hc => ?_) (fun hc => ?_) <;> try simp [hc])
    | simp (disch := first | (with_reducible assumption) | (simp; done) | omega | (simp; omega)))
  intro tb htb
  refine ⟨0, ?_⟩
  have e1 : setH h tb (some (0, [.int .i64 v])) = uni (one tb (0, [.int .i64 v])) h := (uni_one tb _ h).symm
  have hdis : Dis (one tb (0, [.int .i64 v])) h := dis_one.2 htb
  have dc := dropP_c (f := 45) (caps := [.ptr tb 0]) (p := fun x => decide (x.2 < v)) hs (by omega) hdis (by simp) (by simp) (fun x _ => dropF_c (x := x) (one_same ..))
  rw [e1]
  repeat' (first
    | refine awp_seqK fun K' hpK => ?_
    | refine awp_block ?_
    | refine awp_condG fun A' B' hpA hpB => ?_
    | refine useK (by with_reducible assumption) ?_
    | refine useP (by with_reducible assumption) ?_
    | refine ED_cons (fun _ => ?_) ?_
    | (refine stable_mk ?_; simp (disch := first | (with_reducible assumption) | (simp; done) | omega | (simp; omega)); done)
    | (refine stable_no ?_; simp (disch := first | (with_reducible assumption) | (simp; done) | omega | (simp; omega)); done)
    | (with_reducible refine And.intro ?_ ?_)
    | (with_reducible intro hc)
    | (with_reducible refine GDsplit (fun hc => ?_) (fun hc => ?_) <;> try simp [hc])
    | (with_reducible refine GDsplitN (fun hc => ?_) (fun hc => ?_) <;> try simp [hc])
    | (with_reducible refine GDsplitNB (fun hc => ?_) (fun hc => ?_) <;> try simp [hc])
    | (with_reducible refine GDsplitB (fun hc => ?_) (fun hc => ?_) <;> try simp [hc])
    | (with_reducible refine GKsplit (fun hc => ?_) (fun hc => ?_) <;> try simp [hc])
    | (with_reducible refine GKsplitN (fun hc => ?_) (fun hc => ?_) <;> try simp [hc])
    | (with_reducible refine GKsplitNB (fun hc => ?_) (fun hc => ?_) <;> try simp [hc])
    | (with_reducible refine GKsplitB (fun hc => ?_) (fun hc => ?_) <;> try simp [hc])
    | simp (disch := first | (with_reducible assumption) | (simp; done) | omega | (simp; omega)))
  refine CallK.use dc ?_
  rintro r G2 _ _ ⟨h', rfl, hdis', hs', s, rfl, hss⟩
  have hsub : sub h' (uni (one tb (0, [.int .i64 v])) h') := by
    intro i o hi
    rcases hdis' i with h3 | h3
    · rw [uni_right h3]; exact hi
    · rw [h3] at hi; cases hi
  repeat' (first
    | refine awp_seqK fun K' hpK => ?_
    | refine awp_block ?_
    | refine awp_condG fun A' B' hpA hpB => ?_
    | refine useK (by with_reducible assumption) ?_
    | refine useP (by with_reducible assumption) ?_
    | refine ED_cons (fun _ => ?_) ?_
    | (refine stable_mk ?_; simp (disch := first | (with_reducible assumption) | (simp; done) | omega | (simp; omega)); done)
    | (refine stable_no ?_; simp (disch := first | (with_reducible assumption) | (simp; done) | omega | (simp; omega)); done)
    | (with_reducible refine And.intro ?_ ?_)
    | (with_reducible intro hc)
    | (with_reducible refine GDsplit (fun hc => ?_) (fun hc => ?_) <;> try simp [hc])
    | (with_reducible refine GDsplitN (fun hc => ?_) (fun hc => ?_) <;> try simp [hc])
    | (with_reducible refine GDsplitNB (fun hc => ?_) (fun hc => ?_) <;> try simp [hc])
    | (with_reducible refine GDsplitB (fun hc => ?_) (fun hc => ?_) <;> try simp [hc])
    | (with_reducible refine GKsplit (fun hc => ?_) (fun hc => ?_) <;> try simp [hc])
    | (with_reducible refine GKsplitN (fun hc => ?_) (fun hc => ?_) <;> try simp [hc])
    | (with_reducible refine GKsplitNB (fun hc => ?_) (fun hc => ?_) <;> try simp [hc])
    | (with_reducible refine GKsplitB (fun hc => ?_) (fun hc => ?_) <;> try simp [hc])
    | simp (disch := first | (with_reducible assumption) | (simp; done) | omega | (simp; omega)))
  exact ends_one_sub (by simp <;> rfl) (by simp) hsub (hpost _ _ ⟨hs', s, rfl, hss⟩)

section pure
variable {κ ν : Type} [DecidableEq κ] [KO κ]
open KO
theorem setL_lt {l : List (κ × ν)} {k : κ} {v : ν} (h : ∀ x ∈ l, lt x.1 k = true) : setL l k v = l ++ [(k, v)] := by
  induction l with
  | nil => rfl
  | cons p r ih => unfold setL; rw [if_pos (h p (by simp)), ih fun x hx => h x (by simp [hx])]; rfl
theorem setL_at {l : List (κ × ν)} {k : κ} {v : ν} {x : κ × ν} (h : ∀ x ∈ l, lt x.1 k = true) (hx : lt x.1 k = false) : setL (l ++ [x]) k v = l ++ if x.1 = k then [(k, v)] else [(k, v), x] := by
  induction l with
  | nil => show setL [x] k v = _; unfold setL; rw [if_neg (by rw [hx]; simp)]; split <;> rfl
  | cons p r ih => show setL (p :: (r ++ [x])) k v = _; unfold setL; rw [if_pos (h p (by simp)), ih fun x hx => h x (by simp [hx])]; rfl
theorem setL_past {l : List (κ × ν)} {k : κ} {v : ν} {x : κ × ν} (h : ∃ y ∈ l, lt y.1 k = false) : setL (l ++ [x]) k v = setL l k v ++ [x] := by
  induction l with
  | nil => obtain ⟨y, hy, _⟩ := h; cases hy
  | cons p r ih =>
    show setL (p :: (r ++ [x])) k v = setL (p :: r) k v ++ [x]
    unfold setL
    split
    · rename_i h1
      rw [ih (by
        obtain ⟨y, hy, hy2⟩ := h
        rcases List.mem_cons.1 hy with rfl | hy
        · rw [h1] at hy2; cases hy2
        · exact ⟨y, hy, hy2⟩)]; rfl
    · split <;> rfl
end pure

theorem kget_c {s : Option (List (ByteArray × Int))} {k : ByteArray} {G : Hp} (hl : (LL s).length ≤ 1000000) : ACalls Try.prog 46 [ofS cSP s, .str k] G fun r G' => G' = G ∧ r = .tup [.int .i64 ((getL (LL s) k).getD 0), .bool (getL (LL s) k).isSome] := by
  refine ACalls.hide fun post hpost => ?_
  refine F46_in (by simp) (by simp) fun hbd => ?_
  repeat' (first
    | refine awp_seqK fun K' hpK => ?_
    | refine awp_block ?_
    | refine awp_condG fun A' B' hpA hpB => ?_
    | refine useK (by with_reducible assumption) ?_
    | refine useP (by with_reducible assumption) ?_
    | refine ED_cons (fun _ => ?_) ?_
    | (refine stable_mk ?_; simp (disch := first | (with_reducible assumption) | (simp; done) | omega | (simp; omega)); done)
    | (refine stable_no ?_; simp (disch := first | (with_reducible assumption) | (simp; done) | omega | (simp; omega)); done)
    | (with_reducible refine And.intro ?_ ?_)
    | (with_reducible intro hc)
    | (with_reducible refine GDsplit (fun hc => ?_) (fun hc => ?_) <;> try simp [hc])
    | (with_reducible refine GDsplitN (fun hc => ?_) (fun hc => ?_) <;> try simp [hc])
    | (with_reducible refine GDsplitNB (fun hc => ?_) (fun hc => ?_) <;> try simp [hc])
    | (with_reducible refine GDsplitB (fun hc => ?_) (fun hc => ?_) <;> try simp [hc])
    | (with_reducible refine GKsplit (fun hc => ?_) (fun hc => ?_) <;> try simp [hc])
    | (with_reducible refine GKsplitN (fun hc => ?_) (fun hc => ?_) <;> try simp [hc])
    | (with_reducible refine GKsplitNB (fun hc => ?_) (fun hc => ?_) <;> try simp [hc])
    | (with_reducible refine GKsplitB (fun hc => ?_) (fun hc => ?_) <;> try simp [hc])
    | simp (disch := first | (with_reducible assumption) | (simp; done) | omega | (simp; omega)))
  refine awp_loop' (fun w T G' => ∃ j : Nat, j + w = (LL s).length ∧ G' = G ∧ getL (LL s) k = getL ((LL s).drop j) k ∧ T = ofL [(1, .str k), (8, ofS cSP s), (9, .int .i64 (LL s).length), (10, .int .i64 j)]) (LL s).length ⟨0, by omega, rfl, rfl, by simp⟩ ?_
  rintro w T G' ⟨j, hj, rfl, hd, rfl⟩ N hN
  by_cases hjl : j < (LL s).length
  · obtain ⟨x, hx⟩ : ∃ x, x = (LL s)[j] := ⟨_, rfl⟩
    have hu : getL (x :: (LL s).drop (j + 1)) k = if x.1 = k then some x.2 else getL ((LL s).drop (j + 1)) k := rfl
    rw [List.drop_eq_getElem_cons hjl, ← hx, hu] at hd
    by_cases hk : x.1 = k
    · rw [if_pos hk] at hd
      repeat' (first
        | refine awp_seqK fun K' hpK => ?_
        | refine awp_block ?_
        | refine awp_condG fun A' B' hpA hpB => ?_
        | refine useK (by with_reducible assumption) ?_
        | refine useP (by with_reducible assumption) ?_
        | refine ED_cons (fun _ => ?_) ?_
        | (refine stable_mk ?_; simp (disch := first | (with_reducible assumption) | (simp; done) | omega | (simp; omega)) [hjl, ofS_idx (f := cSP), cSP, ← hx, hk]; done)
        | (refine stable_no ?_; simp (disch := first | (with_reducible assumption) | (simp; done) | omega | (simp; omega)) [hjl, ofS_idx (f := cSP), cSP, ← hx, hk]; done)
        | (with_reducible refine And.intro ?_ ?_)
        | (with_reducible intro hc)
        | (with_reducible refine GDsplit (fun hc => ?_) (fun hc => ?_) <;> try simp [hc])
        | (with_reducible refine GDsplitN (fun hc => ?_) (fun hc => ?_) <;> try simp [hc])
        | (with_reducible refine GDsplitNB (fun hc => ?_) (fun hc => ?_) <;> try simp [hc])
        | (with_reducible refine GDsplitB (fun hc => ?_) (fun hc => ?_) <;> try simp [hc])
        | (with_reducible refine GKsplit (fun hc => ?_) (fun hc => ?_) <;> try simp [hc])
        | (with_reducible refine GKsplitN (fun hc => ?_) (fun hc => ?_) <;> try simp [hc])
        | (with_reducible refine GKsplitNB (fun hc => ?_) (fun hc => ?_) <;> try simp [hc])
        | (with_reducible refine GKsplitB (fun hc => ?_) (fun hc => ?_) <;> try simp [hc])
        | simp (disch := first | (with_reducible assumption) | (simp; done) | omega | (simp; omega)) [hjl, ofS_idx (f := cSP), cSP, ← hx, hk])
      exact ends_two (by simp <;> exact ⟨rfl, rfl⟩) (by simp) (by simp) (hpost _ _ ⟨rfl, by rw [hd]; rfl⟩)
    · rw [if_neg hk] at hd
      repeat' (first
        | refine awp_seqK fun K' hpK => ?_
        | refine awp_block ?_
        | refine awp_condG fun A' B' hpA hpB => ?_
        | refine useK (by with_reducible assumption) ?_
        | refine useP (by with_reducible assumption) ?_
        | refine ED_cons (fun _ => ?_) ?_
        | (refine stable_mk ?_; simp (disch := first | (with_reducible assumption) | (simp; done) | omega | (simp; omega)) [hjl, ofS_idx (f := cSP), cSP, ← hx, hk]; done)
        | (refine stable_no ?_; simp (disch := first | (with_reducible assumption) | (simp; done) | omega | (simp; omega)) [hjl, ofS_idx (f := cSP), cSP, ← hx, hk]; done)
        | (with_reducible refine And.intro ?_ ?_)
        | (with_reducible intro hc)
        | (with_reducible refine GDsplit (fun hc => ?_) (fun hc => ?_) <;> try simp [hc])
        | (with_reducible refine GDsplitN (fun hc => ?_) (fun hc => ?_) <;> try simp [hc])
        | (with_reducible refine GDsplitNB (fun hc => ?_) (fun hc => ?_) <;> try simp [hc])
        | (with_reducible refine GDsplitB (fun hc => ?_) (fun hc => ?_) <;> try simp [hc])
        | (with_reducible refine GKsplit (fun hc => ?_) (fun hc => ?_) <;> try simp [hc])
        | (with_reducible refine GKsplitN (fun hc => ?_) (fun hc => ?_) <;> try simp [hc])
        | (with_reducible refine GKsplitNB (fun hc => ?_) (fun hc => ?_) <;> try simp [hc])
        | (with_reducible refine GKsplitB (fun hc => ?_) (fun hc => ?_) <;> try simp [hc])
        | simp (disch := first | (with_reducible assumption) | (simp; done) | omega | (simp; omega)) [hjl, ofS_idx (f := cSP), cSP, ← hx, hk])
      exact hN (w - 1) _ _ (by omega) ⟨j + 1, by omega, rfl, hd, by simp⟩
  · rw [List.drop_eq_nil_of_le (by omega)] at hd
    repeat' (first
      | refine awp_seqK fun K' hpK => ?_
      | refine awp_block ?_
      | refine awp_condG fun A' B' hpA hpB => ?_
      | refine useK (by with_reducible assumption) ?_
      | refine useP (by with_reducible assumption) ?_
      | refine ED_cons (fun _ => ?_) ?_
      | (refine stable_mk ?_; simp (disch := first | (with_reducible assumption) | (simp; done) | omega | (simp; omega)) [hjl]; done)
      | (refine stable_no ?_; simp (disch := first | (with_reducible assumption) | (simp; done) | omega | (simp; omega)) [hjl]; done)
      | (with_reducible refine And.intro ?_ ?_)
      | (with_reducible intro hc)
      | (with_reducible refine GDsplit (fun hc => ?_) (fun hc => ?_) <;> try simp [hc])
      | (with_reducible refine GDsplitN (fun hc => ?_) (fun hc => ?_) <;> try simp [hc])
      | (with_reducible refine GDsplitNB (fun hc => ?_) (fun hc => ?_) <;> try simp [hc])
      | (with_reducible refine GDsplitB (fun hc => ?_) (fun hc => ?_) <;> try simp [hc])
      | (with_reducible refine GKsplit (fun hc => ?_) (fun hc => ?_) <;> try simp [hc])
      | (with_reducible refine GKsplitN (fun hc => ?_) (fun hc => ?_) <;> try simp [hc])
      | (with_reducible refine GKsplitNB (fun hc => ?_) (fun hc => ?_) <;> try simp [hc])
      | (with_reducible refine GKsplitB (fun hc => ?_) (fun hc => ?_) <;> try simp [hc])
      | simp (disch := first | (with_reducible assumption) | (simp; done) | omega | (simp; omega)) [hjl])
    exact ends_two (by simp <;> exact ⟨rfl, rfl⟩) (by simp) (by simp) (hpost _ _ ⟨rfl, by rw [hd]; rfl⟩)
theorem kvals_c {s : Option (List (ByteArray × Int))} {G : Hp} (hl : (LL s).length ≤ 1000000) : ACalls Try.prog 29 [ofS cSP s] G fun r G' => G' = G ∧ ∃ t, r = ofS cVP t ∧ LL t = (LL s).map Prod.snd := by
  refine ACalls.hide fun post hpost => ?_
  refine F29_in (by simp) (by simp) fun hbd => ?_
  repeat' (first
    | refine awp_seqK fun K' hpK => ?_
    | refine awp_block ?_
    | refine awp_condG fun A' B' hpA hpB => ?_
    | refine useK (by with_reducible assumption) ?_
    | refine useP (by with_reducible assumption) ?_
    | refine ED_cons (fun _ => ?_) ?_
    | (refine stable_mk ?_; simp (disch := first | (with_reducible assumption) | (simp; done) | omega | (simp; omega)); done)
    | (refine stable_no ?_; simp (disch := first | (with_reducible assumption) | (simp; done) | omega | (simp; omega)); done)
    | (with_reducible refine And.intro ?_ ?_)
    | (with_reducible intro hc)
    | (with_reducible refine GDsplit (fun hc => ?_) (fun hc => ?_) <;> try simp [hc])
    | (with_reducible refine GDsplitN (fun hc => ?_) (fun hc => ?_) <;> try simp [hc])
    | (with_reducible refine GDsplitNB (fun hc => ?_) (fun hc => ?_) <;> try simp [hc])
    | (with_reducible refine GDsplitB (fun hc => ?_) (fun hc => ?_) <;> try simp [hc])
    | (with_reducible refine GKsplit (fun hc => ?_) (fun hc => ?_) <;> try simp [hc])
    | (with_reducible refine GKsplitN (fun hc => ?_) (fun hc => ?_) <;> try simp [hc])
    | (with_reducible refine GKsplitNB (fun hc => ?_) (fun hc => ?_) <;> try simp [hc])
    | (with_reducible refine GKsplitB (fun hc => ?_) (fun hc => ?_) <;> try simp [hc])
    | simp (disch := first | (with_reducible assumption) | (simp; done) | omega | (simp; omega)))
  refine awp_loop' (fun w T G' => ∃ (j : Nat) (v : AV), j + w = (LL s).length ∧ Grow cVP 1 G G' v (((LL s).take j).map Prod.snd) ∧ T = ofL [(3, v), (6, ofS cSP s), (7, .int .i64 (LL s).length), (8, .int .i64 j)]) (LL s).length ⟨0, .nils, by omega, Grow.nil _ _, by simp⟩ ?_
  rintro w T G' ⟨j, v, hj, hg, rfl⟩ N hN
  have hv := hg.plain
  by_cases hjl : j < (LL s).length
  · have hln : (((LL s).take j).map Prod.snd).length ≤ 1000000 := by rw [List.length_map, List.length_take]; omega
    obtain ⟨x, hx⟩ : ∃ x, x = (LL s)[j] := ⟨_, rfl⟩
    have htk := take_succ_get (LL s) j hjl
    rw [← hx] at htk
    repeat' (first
      | refine awp_seqK fun K' hpK => ?_
      | refine awp_block ?_
      | refine awp_condG fun A' B' hpA hpB => ?_
      | refine useK (by with_reducible assumption) ?_
      | refine useP (by with_reducible assumption) ?_
      | refine ED_cons (fun _ => ?_) ?_
      | (refine stable_mk ?_; simp (disch := first | (with_reducible assumption) | (simp; done) | omega | (simp; omega)) [hjl, ofS_idx (f := cSP), cSP, ← hx, hv]; done)
      | (refine stable_no ?_; simp (disch := first | (with_reducible assumption) | (simp; done) | omega | (simp; omega)) [hjl, ofS_idx (f := cSP), cSP, ← hx, hv]; done)
      | (with_reducible refine And.intro ?_ ?_)
      | (with_reducible intro hc)
      | (with_reducible refine GDsplit (fun hc => ?_) (fun hc => ?_) <;> try simp [hc])
      | (with_reducible refine GDsplitN (fun hc => ?_) (fun hc => ?_) <;> try simp [hc])
      | (with_reducible refine GDsplitNB (fun hc => ?_) (fun hc => ?_) <;> try simp [hc])
      | (with_reducible refine GDsplitB (fun hc => ?_) (fun hc => ?_) <;> try simp [hc])
      | (with_reducible refine GKsplit (fun hc => ?_) (fun hc => ?_) <;> try simp [hc])
      | (with_reducible refine GKsplitN (fun hc => ?_) (fun hc => ?_) <;> try simp [hc])
      | (with_reducible refine GKsplitNB (fun hc => ?_) (fun hc => ?_) <;> try simp [hc])
      | (with_reducible refine GKsplitB (fun hc => ?_) (fun hc => ?_) <;> try simp [hc])
      | simp (disch := first | (with_reducible assumption) | (simp; done) | omega | (simp; omega)) [hjl, ofS_idx (f := cSP), cSP, ← hx, hv])
    refine hg.app1 (x := x.2) (by simp [cVP]) (by simp [cVP]) (by simp [LIM]; omega) (fun v2 G2 hg2 => ?_)
    have hv2 := hg2.plain
    repeat' (first
      | refine awp_seqK fun K' hpK => ?_
      | refine awp_block ?_
      | refine awp_condG fun A' B' hpA hpB => ?_
      | refine useK (by with_reducible assumption) ?_
      | refine useP (by with_reducible assumption) ?_
      | refine ED_cons (fun _ => ?_) ?_
      | (refine stable_mk ?_; simp (disch := first | (with_reducible assumption) | (simp; done) | omega | (simp; omega)) [hv2]; done)
      | (refine stable_no ?_; simp (disch := first | (with_reducible assumption) | (simp; done) | omega | (simp; omega)) [hv2]; done)
      | (with_reducible refine And.intro ?_ ?_)
      | (with_reducible intro hc)
      | (with_reducible refine GDsplit (fun hc => ?_) (fun hc => ?_) <;> try simp [hc])
      | (with_reducible refine GDsplitN (fun hc => ?_) (fun hc => ?_) <;> try simp [hc])
      | (with_reducible refine GDsplitNB (fun hc => ?_) (fun hc => ?_) <;> try simp [hc])
      | (with_reducible refine GDsplitB (fun hc => ?_) (fun hc => ?_) <;> try simp [hc])
      | (with_reducible refine GKsplit (fun hc => ?_) (fun hc => ?_) <;> try simp [hc])
      | (with_reducible refine GKsplitN (fun hc => ?_) (fun hc => ?_) <;> try simp [hc])
      | (with_reducible refine GKsplitNB (fun hc => ?_) (fun hc => ?_) <;> try simp [hc])
      | (with_reducible refine GKsplitB (fun hc => ?_) (fun hc => ?_) <;> try simp [hc])
      | simp (disch := first | (with_reducible assumption) | (simp; done) | omega | (simp; omega)) [hv2])
    exact hN (w - 1) _ _ (by omega) ⟨j + 1, v2, by omega, by rw [htk, List.map_append]; exact hg2, by simp⟩
  · rw [List.take_of_length_le (by omega)] at hg
    repeat' (first
      | refine awp_seqK fun K' hpK => ?_
      | refine awp_block ?_
      | refine awp_condG fun A' B' hpA hpB => ?_
      | refine useK (by with_reducible assumption) ?_
      | refine useP (by with_reducible assumption) ?_
      | refine ED_cons (fun _ => ?_) ?_
      | (refine stable_mk ?_; simp (disch := first | (with_reducible assumption) | (simp; done) | omega | (simp; omega)) [hjl, hv]; done)
      | (refine stable_no ?_; simp (disch := first | (with_reducible assumption) | (simp; done) | omega | (simp; omega)) [hjl, hv]; done)
      | (with_reducible refine And.intro ?_ ?_)
      | (with_reducible intro hc)
      | (with_reducible refine GDsplit (fun hc => ?_) (fun hc => ?_) <;> try simp [hc])
      | (with_reducible refine GDsplitN (fun hc => ?_) (fun hc => ?_) <;> try simp [hc])
      | (with_reducible refine GDsplitNB (fun hc => ?_) (fun hc => ?_) <;> try simp [hc])
      | (with_reducible refine GDsplitB (fun hc => ?_) (fun hc => ?_) <;> try simp [hc])
      | (with_reducible refine GKsplit (fun hc => ?_) (fun hc => ?_) <;> try simp [hc])
      | (with_reducible refine GKsplitN (fun hc => ?_) (fun hc => ?_) <;> try simp [hc])
      | (with_reducible refine GKsplitNB (fun hc => ?_) (fun hc => ?_) <;> try simp [hc])
      | (with_reducible refine GKsplitB (fun hc => ?_) (fun hc => ?_) <;> try simp [hc])
      | simp (disch := first | (with_reducible assumption) | (simp; done) | omega | (simp; omega)) [hjl, hv])
    obtain ⟨t, ht, hz, hsub⟩ := hg.frz (by simp)
    exact ends_fr1 (by simp <;> rfl) hv hsub hz (hpost _ _ ⟨rfl, t, rfl, ht⟩)
theorem kdel_c {s : Option (List (ByteArray × Int))} {k : ByteArray} {G : Hp} (hl : (LL s).length ≤ 1000000) : ACalls Try.prog 51 [ofS cSP s, .str k] G fun r G' => G' = G ∧ ∃ t, r = ofS cSP t ∧ LL t = delL (LL s) k := by
  refine ACalls.hide fun post hpost => ?_
  refine F51_in (by simp) (by simp) fun hbd => ?_
  repeat' (first
    | refine awp_seqK fun K' hpK => ?_
    | refine awp_block ?_
    | refine awp_condG fun A' B' hpA hpB => ?_
    | refine useK (by with_reducible assumption) ?_
    | refine useP (by with_reducible assumption) ?_
    | refine ED_cons (fun _ => ?_) ?_
    | (refine stable_mk ?_; simp (disch := first | (with_reducible assumption) | (simp; done) | omega | (simp; omega)); done)
    | (refine stable_no ?_; simp (disch := first | (with_reducible assumption) | (simp; done) | omega | (simp; omega)); done)
    | (with_reducible refine And.intro ?_ ?_)
    | (with_reducible intro hc)
    | (with_reducible refine GDsplit (fun hc => ?_) (fun hc => ?_) <;> try simp [hc])
    | (with_reducible refine GDsplitN (fun hc => ?_) (fun hc => ?_) <;> try simp [hc])
    | (with_reducible refine GDsplitNB (fun hc => ?_) (fun hc => ?_) <;> try simp [hc])
    | (with_reducible refine GDsplitB (fun hc => ?_) (fun hc => ?_) <;> try simp [hc])
    | (with_reducible refine GKsplit (fun hc => ?_) (fun hc => ?_) <;> try simp [hc])
    | (with_reducible refine GKsplitN (fun hc => ?_) (fun hc => ?_) <;> try simp [hc])
    | (with_reducible refine GKsplitNB (fun hc => ?_) (fun hc => ?_) <;> try simp [hc])
    | (with_reducible refine GKsplitB (fun hc => ?_) (fun hc => ?_) <;> try simp [hc])
    | simp (disch := first | (with_reducible assumption) | (simp; done) | omega | (simp; omega)))
  refine awp_loop' (fun w T G' => ∃ (j : Nat) (v : AV), j + w = (LL s).length ∧ Grow cSP 2 G G' v (delL ((LL s).take j) k) ∧ T = ofL [(1, .str k), (5, v), (8, ofS cSP s), (9, .int .i64 (LL s).length), (10, .int .i64 j)]) (LL s).length ⟨0, .nils, by omega, Grow.nil _ _, by simp⟩ ?_
  rintro w T G' ⟨j, v, hj, hg, rfl⟩ N hN
  have hv := hg.plain
  by_cases hjl : j < (LL s).length
  · have hln : (delL ((LL s).take j) k).length ≤ 1000000 := Nat.le_trans (delL_len_le _ _) (by rw [List.length_take]; omega)
    obtain ⟨x, hx⟩ : ∃ x, x = (LL s)[j] := ⟨_, rfl⟩
    have htk := take_succ_get (LL s) j hjl
    rw [← hx] at htk
    by_cases hk : x.1 = k
    · have e : delL ((LL s).take (j + 1)) k = delL ((LL s).take j) k := by rw [htk]; unfold delL; rw [List.filter_append]; simp [hk]
      repeat' (first
        | refine awp_seqK fun K' hpK => ?_
        | refine awp_block ?_
        | refine awp_condG fun A' B' hpA hpB => ?_
        | refine useK (by with_reducible assumption) ?_
        | refine useP (by with_reducible assumption) ?_
        | refine ED_cons (fun _ => ?_) ?_
        | (refine stable_mk ?_; simp (disch := first | (with_reducible assumption) | (simp; done) | omega | (simp; omega)) [hjl, ofS_idx (f := cSP), cSP, ← hx, hv, hk]; done)
        | (refine stable_no ?_; simp (disch := first | (with_reducible assumption) | (simp; done) | omega | (simp; omega)) [hjl, ofS_idx (f := cSP), cSP, ← hx, hv, hk]; done)
        | (with_reducible refine And.intro ?_ ?_)
        | (with_reducible intro hc)
        | (with_reducible refine GDsplit (fun hc => ?_) (fun hc => ?_) <;> try simp [hc])
        | (with_reducible refine GDsplitN (fun hc => ?_) (fun hc => ?_) <;> try simp [hc])
        | (with_reducible refine GDsplitNB (fun hc => ?_) (fun hc => ?_) <;> try simp [hc])
        | (with_reducible refine GDsplitB (fun hc => ?_) (fun hc => ?_) <;> try simp [hc])
        | (with_reducible refine GKsplit (fun hc => ?_) (fun hc => ?_) <;> try simp [hc])
        | (with_reducible refine GKsplitN (fun hc => ?_) (fun hc => ?_) <;> try simp [hc])
        | (with_reducible refine GKsplitNB (fun hc => ?_) (fun hc => ?_) <;> try simp [hc])
        | (with_reducible refine GKsplitB (fun hc => ?_) (fun hc => ?_) <;> try simp [hc])
        | simp (disch := first | (with_reducible assumption) | (simp; done) | omega | (simp; omega)) [hjl, ofS_idx (f := cSP), cSP, ← hx, hv, hk])
      exact hN (w - 1) _ _ (by omega) ⟨j + 1, v, by omega, by rw [e]; exact hg, by simp⟩
    · have e : delL ((LL s).take (j + 1)) k = delL ((LL s).take j) k ++ [x] := by rw [htk]; unfold delL; rw [List.filter_append]; simp [hk]
      repeat' (first
        | refine awp_seqK fun K' hpK => ?_
        | refine awp_block ?_
        | refine awp_condG fun A' B' hpA hpB => ?_
        | refine useK (by with_reducible assumption) ?_
        | refine useP (by with_reducible assumption) ?_
        | refine ED_cons (fun _ => ?_) ?_
        | (refine stable_mk ?_; simp (disch := first | (with_reducible assumption) | (simp; done) | omega | (simp; omega)) [hjl, ofS_idx (f := cSP), cSP, ← hx, hv, hk]; done)
        | (refine stable_no ?_; simp (disch := first | (with_reducible assumption) | (simp; done) | omega | (simp; omega)) [hjl, ofS_idx (f := cSP), cSP, ← hx, hv, hk]; done)
        | (with_reducible refine And.intro ?_ ?_)
        | (with_reducible intro hc)
        | (with_reducible refine GDsplit (fun hc => ?_) (fun hc => ?_) <;> try simp [hc])
        | (with_reducible refine GDsplitN (fun hc => ?_) (fun hc => ?_) <;> try simp [hc])
        | (with_reducible refine GDsplitNB (fun hc => ?_) (fun hc => ?_) <;> try simp [hc])
        | (with_reducible refine GDsplitB (fun hc => ?_) (fun hc => ?_) <;> try simp [hc])
        | (with_reducible refine GKsplit (fun hc => ?_) (fun hc => ?_) <;> try simp [hc])
        | (with_reducible refine GKsplitN (fun hc => ?_) (fun hc => ?_) <;> try simp [hc])
        | (with_reducible refine GKsplitNB (fun hc => ?_) (fun hc => ?_) <;> try simp [hc])
        | (with_reducible refine GKsplitB (fun hc => ?_) (fun hc => ?_) <;> try simp [hc])
        | simp (disch := first | (with_reducible assumption) | (simp; done) | omega | (simp; omega)) [hjl, ofS_idx (f := cSP), cSP, ← hx, hv, hk])
      refine hg.app1 (x := x) (by simp [cSP]) (by simp [cSP]) (by simp [LIM]; omega) (fun v2 G2 hg2 => ?_)
      have hv2 := hg2.plain
      repeat' (first
        | refine awp_seqK fun K' hpK => ?_
        | refine awp_block ?_
        | refine awp_condG fun A' B' hpA hpB => ?_
        | refine useK (by with_reducible assumption) ?_
        | refine useP (by with_reducible assumption) ?_
        | refine ED_cons (fun _ => ?_) ?_
        | (refine stable_mk ?_; simp (disch := first | (with_reducible assumption) | (simp; done) | omega | (simp; omega)) [hv2]; done)
        | (refine stable_no ?_; simp (disch := first | (with_reducible assumption) | (simp; done) | omega | (simp; omega)) [hv2]; done)
        | (with_reducible refine And.intro ?_ ?_)
        | (with_reducible intro hc)
        | (with_reducible refine GDsplit (fun hc => ?_) (fun hc => ?_) <;> try simp [hc])
        | (with_reducible refine GDsplitN (fun hc => ?_) (fun hc => ?_) <;> try simp [hc])
        | (with_reducible refine GDsplitNB (fun hc => ?_) (fun hc => ?_) <;> try simp [hc])
        | (with_reducible refine GDsplitB (fun hc => ?_) (fun hc => ?_) <;> try simp [hc])
        | (with_reducible refine GKsplit (fun hc => ?_) (fun hc => ?_) <;> try simp [hc])
        | (with_reducible refine GKsplitN (fun hc => ?_) (fun hc => ?_) <;> try simp [hc])
        | (with_reducible refine GKsplitNB (fun hc => ?_) (fun hc => ?_) <;> try simp [hc])
        | (with_reducible refine GKsplitB (fun hc => ?_) (fun hc => ?_) <;> try simp [hc])
        | simp (disch := first | (with_reducible assumption) | (simp; done) | omega | (simp; omega)) [hv2])
      exact hN (w - 1) _ _ (by omega) ⟨j + 1, v2, by omega, by rw [e]; exact hg2, by simp⟩
  · rw [List.take_of_length_le (by omega)] at hg
    repeat' (first
      | refine awp_seqK fun K' hpK => ?_
      | refine awp_block ?_
      | refine awp_condG fun A' B' hpA hpB => ?_
      | refine useK (by with_reducible assumption) ?_
      | refine useP (by with_reducible assumption) ?_
      | refine ED_cons (fun _ => ?_) ?_
      | (refine stable_mk ?_; simp (disch := first | (with_reducible assumption) | (simp; done) | omega | (simp; omega)) [hjl, hv]; done)
      | (refine stable_no ?_; simp (disch := first | (with_reducible assumption) | (simp; done) | omega | (simp; omega)) [hjl, hv]; done)
      | (with_reducible refine And.intro ?_ ?_)
      | (with_reducible intro hc)
      | (with_reducible refine GDsplit (fun hc => ?_) (fun hc => ?_) <;> try simp [hc])
      | (with_reducible refine GDsplitN (fun hc => ?_) (fun hc => ?_) <;> try simp [hc])
      | (with_reducible refine GDsplitNB (fun hc => ?_) (fun hc => ?_) <;> try simp [hc])
      | (with_reducible refine GDsplitB (fun hc => ?_) (fun hc => ?_) <;> try simp [hc])
      | (with_reducible refine GKsplit (fun hc => ?_) (fun hc => ?_) <;> try simp [hc])
      | (with_reducible refine GKsplitN (fun hc => ?_) (fun hc => ?_) <;> try simp [hc])
      | (with_reducible refine GKsplitNB (fun hc => ?_) (fun hc => ?_) <;> try simp [hc])
      | (with_reducible refine GKsplitB (fun hc => ?_) (fun hc => ?_) <;> try simp [hc])
      | simp (disch := first | (with_reducible assumption) | (simp; done) | omega | (simp; omega)) [hjl, hv])
    obtain ⟨t, ht, hz, hsub⟩ := hg.frz (by simp)
    exact ends_fr1 (by simp <;> rfl) hv hsub hz (hpost _ _ ⟨rfl, t, rfl, ht⟩)
end Go.Proofs.Yteifakkknhfdpaa
