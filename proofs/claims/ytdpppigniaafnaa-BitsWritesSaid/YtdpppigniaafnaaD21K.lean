import Derived.Test.YtdpppigniaafnaaD20K
set_option linter.unusedSimpArgs false
set_option linter.unusedVariables false
namespace Go.Proofs.Ytdpppigniaafnaa
open Go Go.Al
set_option maxRecDepth 20000
attribute [local irreducible] awp aops aopsD eop pv ACalls CallK AppK AEnds ti

theorem xor_some (x c : Int) : ∃ y, ibits .xor .u8 x c = some y := ⟨_, rfl⟩
theorem dis_at {F h : Hp} (hd : Dis F h) {b : Nat} {o : Nat × List AV} (e : F b = some o) : h b = none := by
  rcases hd b with h1 | h1
  · rw [e] at h1; cases h1
  · exact h1
theorem split_left {F h G : Hp} {out : AV} {bs : List Int} (hd : Dis F G) (hg : Grow cB 1 h G out bs) : ∃ F', uni F G = uni F' h ∧ Dis F' h ∧ ((out = .nils ∧ bs = []) ∨ ∃ b τ, out = .ms b 0 bs.length 1 ∧ F' b = some (τ, bs.map (AV.int .u8))) := by
  rcases hg with ⟨rfl, rfl, rfl⟩ | ⟨b, τ, hb, rfl, rfl⟩
  · exact ⟨F, rfl, hd, .inl ⟨rfl, rfl⟩⟩
  · have hF : F b = none := by
      rcases hd b with h1 | h1
      · exact h1
      · rw [setH_same] at h1; cases h1
    have hd2 : Dis F h := by
      intro i
      by_cases hi : i = b
      · subst hi; exact .inl hF
      · have := hd i; rw [setH_ne _ _ hi] at this; exact this
    refine ⟨setH F b (some (τ, bs.map (AV.int .u8))), ?_, dis_set hd2 hb, .inr ⟨b, τ, rfl, setH_same ..⟩⟩
    rw [uni_swap hF, uni_swapF hb, cB_map]
theorem conv_ms {P : Program} {G : Hp} {a d : TypeId} {x : AV} {n : Nat} {bs : List Int} (h1 : (ti P a).ok = true) (h2 : (ti P d).ok = true) (h3 : (ti P d).kd = .str) (h4 : (ti P a).isS = true) (h5 : (ti P (ti P a).el).ok = true) (h6 : (ti P (ti P a).el).kd = .int .u8) (hx : x = .nils ∨ ∃ b o n z, x = .ms b o n z) (hs : srcCells G 1 x = some (n, bs.map (AV.int .u8))) :
    conv P G a d x = some (.str (strOfNums bs)) := by
  have hm : intsOf (bs.map (AV.int .u8)) = some bs := intsOf_map _
  rcases hx with rfl | ⟨b, o, n, z, rfl⟩
  · unfold conv
    rw [h1, h2, h3, isS_kd h4]
    simp only [Bool.and_self, if_true, h5, h6, decide_true, hs, hm, Option.map_some]
  · unfold conv
    rw [h1, h2, h3, isS_kd h4]
    simp only [Bool.and_self, if_true, h5, h6, decide_true, hs, hm, Option.map_some]
theorem appM {α : Type} {P : Program} {f : α → List AV} {sz : Nat} {G0 : Hp} {b τ : Nat} {y : AV} {l xs : List α} {t u : TypeId} {k : AV → Tm → Hp → Prop} {T : Tm} (hb0 : G0 b = none)
    (hs : srcCells (setH G0 b (some (τ, l.flatMap f))) sz y = some (xs.length, xs.flatMap f)) (hsc : (xs.flatMap f).all AV.scal = true) (hb : (l.length + xs.length) * ((ti P (ti P t).el).bytes + 1) ≤ LIM)
    (hk' : ∀ b', G0 b' = none → k (.ms b' 0 (l ++ xs).length sz) T (setH G0 b' (some (τ, (l ++ xs).flatMap f)))) (hf : ∀ x, (f x).length = sz := by simp)
    (hok : (ti P t).ok = true := by simp) (hk : (ti P t).isS = true := by simp) (he : (ti P (ti P t).el).ok = true := by simp) (hz : (ti P (ti P t).el).hasz = true := by simp) (hzs : (ti P (ti P t).el).zs.length = sz := by simp) (hsz : (ti P (ti P t).el).size = sz := by simp) (hou : (ti P u).ok = true := by simp)
    (hku : (ti P u).isS = true ∨ (ti P u).kd = .str := by simp) (hy : y.plain = true := by simp) : AppK P t u (.ms b 0 l.length sz) y (setH G0 b (some (τ, l.flatMap f))) k T := by
  have hb1 : l.length + xs.length ≤ LIM := Nat.le_trans (Nat.le_mul_of_pos_right _ (by omega)) hb
  have hb2 : (l.length + xs.length) * (ti P (ti P t).el).bytes ≤ LIM := Nat.le_trans (Nat.mul_le_mul_left _ (by omega)) hb
  have hmp : (AV.ms b 0 l.length sz).plain = true := by simp
  unfold AppK
  simp only [aappB, hok, hou, hy, hmp, true_and, isS_kd hk, he, hasz_zero hz, hsz, hzs]
  refine ⟨?_, ?_⟩
  · rcases hku with hku | hku
    · rw [isS_kd hku]; trivial
    · rw [hku]; trivial
  · rw [hs]
    simp only [aapp, setH_same, hsz]
    refine ⟨trivial, trivial, flat_len hf l, hsc, hb1, hb2, fun b' hb' => ?_⟩
    have e := hk' b' (by
      rcases hb' with rfl | hb'
      · exact hb0
      · unfold setH at hb'
        split at hb'
        · cases hb'
        · exact hb')
    rw [setH_undo hb0]
    simpa using e
abbrev CT := Int × Int × Int × Option (List Int) × Option (List Int) × Unit
def cC (x : CT) : List AV := [.int .i64 x.1, .int .i64 x.2.1, .int .i64 x.2.2.1, ofS cU x.2.2.2.1, ofS cB x.2.2.2.2.1]
@[simp] theorem cC_len (x : CT) : (cC x).length = 5 := by simp [cC]
structure okC (x : CT) : Prop where
  n : -9223372036854775808 ≤ x.2.1 ∧ x.2.1 ≤ 9223372036854775807
  a : -9223372036854775808 ≤ x.2.2.1 ∧ x.2.2.1 ≤ 9223372036854775807
  U : U64 (LL x.2.2.2.1)
  Ul : (LL x.2.2.2.1).length ≤ 140737488355328
  B : Bytes (LL x.2.2.2.2.1)
  Bl : (LL x.2.2.2.2.1).length ≤ 140737488355328
set_option maxHeartbeats 8000000 in
theorem bitsWrites_c {first : Option (List Int)} {calls : Option (List CT)} (hF0 : Bytes (LL first)) (hFl : (LL first).length ≤ 140737488355328) (hcl : (LL calls).length ≤ 140737488355328) (hC : ∀ x ∈ LL calls, okC x) : ACalls Try.prog 7 [ofS cB first, ofS cC calls] emptyH fun r G' => G' = emptyH ∧ r = .bool true := by
  refine ACalls.hide fun post hpost => ?_
  refine F7_in (by simp) (by simp) fun hbd => ?_
  refine awp_seqH fun K1 hK1 => ?_
  repeat' (first
    | refine awp_seqK fun K' hpK => ?_
    | refine awp_block ?_
    | refine awp_condG fun A' B' hpA hpB => ?_
    | refine useK (by with_reducible assumption) ?_
    | refine useP (by with_reducible assumption) ?_
    | refine ED_cons (fun _ => ?_) ?_
    | (refine stable_mk ?_; simp (disch := first | (with_reducible assumption) | (simp; done) | omega | (simp; omega)); done)
    | (refine stable_no ?_; simp (disch := first | (with_reducible assumption) | (simp; done) | omega | (simp; omega)); done)
    | (with_reducible refine And.intro ?_ ?_)
    | (with_reducible intro hc)
    | (with_reducible refine GDsplit (fun hc => ?_) (fun hc => ?_) <;> try simp [hc])
    | (with_reducible refine GDsplitN (fun hc => ?_) (fun hc => ?_) <;> try simp [hc])
    | (with_reducible refine GDsplitNB (fun hc => ?_) (fun hc => ?_) <;> try simp [hc])
    | (with_reducible refine GDsplitB (fun hc => ?_) (fun hc => ?_) <;> try simp [hc])
    | (with_reducible refine GKsplit (fun hc => ?_) (fun hc => ?_) <;> try simp [hc])
    | (with_reducible refine GKsplitN (fun hc => ?_) (fun hc => ?_) <;> try simp [hc])
    | (with_reducible refine GKsplitNB (fun hc => ?_) (fun hc => ?_) <;> try simp [hc])
    | (with_reducible refine GKsplitB (fun hc => ?_) (fun hc => ?_) <;> try simp [hc])
    | simp (disch := first | (with_reducible assumption) | (simp; done) | omega | (simp; omega)))
  refine hK1.out _ _ ?_
  refine awp_seqH fun K2 hK2 => ?_
  have h2 : ∀ (f : Option (List Int)) (T : Tm), (LL f).length ≤ 40 → Bytes (LL f) → (T = ofL [(0, ofS cB f), (1, ofS cC calls)] ∨ T = ofL [(0, ofS cB f), (1, ofS cC calls), (16, .bool false)]) → K2 T emptyH := by
    intro f T hf40 hfB hT
    refine hK2.out _ _ ?_
    refine awp_seqH fun K3 hK3 => ?_
    have h3 : ∀ (c τ : Nat), K3 (ofL [(0, ofS cB f), (1, ofS cC calls), (5, .ms c 0 (LL f).length 1)]) (one c (τ, (LL f).flatMap cB)) := by
      intro c τ
      refine hK3.out _ _ ?_
      refine awp_seqH fun K4 hK4 => ?_
      have h4 : ∀ (F h1 : Hp) (ob : Nat), F c = some (τ, (LL f).map (AV.int .u8)) → Dis F h1 → OutH (.ptr ob 0) h1 (bitsL (LL f)) → K4 (ofL [(0, ofS cB f), (1, ofS cC calls), (5, .ms c 0 (LL f).length 1), (6, .ptr ob 0)]) (uni F h1) := by
        intro F h1 ob hFc hdis ho
        refine hK4.out _ _ ?_
        refine awp_seqH fun K5 hK5 => ?_
        repeat' (first
          | refine awp_seqK fun K' hpK => ?_
          | refine awp_block ?_
          | refine awp_condG fun A' B' hpA hpB => ?_
          | refine useK (by with_reducible assumption) ?_
          | refine useP (by with_reducible assumption) ?_
          | refine ED_cons (fun _ => ?_) ?_
          | (refine stable_mk ?_; simp (disch := first | (with_reducible assumption) | (simp; done) | omega | (simp; omega)); done)
          | (refine stable_no ?_; simp (disch := first | (with_reducible assumption) | (simp; done) | omega | (simp; omega)); done)
          | (with_reducible refine And.intro ?_ ?_)
          | (with_reducible intro hc)
          | (with_reducible refine GDsplit (fun hc => ?_) (fun hc => ?_) <;> try simp [hc])
          | (with_reducible refine GDsplitN (fun hc => ?_) (fun hc => ?_) <;> try simp [hc])
          | (with_reducible refine GDsplitNB (fun hc => ?_) (fun hc => ?_) <;> try simp [hc])
          | (with_reducible refine GDsplitB (fun hc => ?_) (fun hc => ?_) <;> try simp [hc])
          | (with_reducible refine GKsplit (fun hc => ?_) (fun hc => ?_) <;> try simp [hc])
          | (with_reducible refine GKsplitN (fun hc => ?_) (fun hc => ?_) <;> try simp [hc])
          | (with_reducible refine GKsplitNB (fun hc => ?_) (fun hc => ?_) <;> try simp [hc])
          | (with_reducible refine GKsplitB (fun hc => ?_) (fun hc => ?_) <;> try simp [hc])
          | simp (disch := first | (with_reducible assumption) | (simp; done) | omega | (simp; omega)))
        refine awp_loop' (fun w T G => ∃ (k : Nat) (F : Hp) (xs : List Int), k + w = (LL f).length ∧ xs.length = (LL f).length ∧ F c = some (τ, xs.map (AV.int .u8)) ∧ Dis F h1 ∧ G = uni F h1 ∧ T = ofL [(0, ofS cB f), (1, ofS cC calls), (5, .ms c 0 (LL f).length 1), (6, .ptr ob 0), (35, .int .i64 (LL f).length), (36, .int .i64 k)]) (LL f).length ⟨0, F, LL f, by omega, rfl, hFc, hdis, rfl, by simp⟩ ?_
        clear hFc hdis
        rintro w T G ⟨k, F, xs, hk, hxl, hFc, hdis, rfl, rfl⟩ N hN
        by_cases hkl : k < (LL f).length
        · have hkx : k < xs.length := by omega
          obtain ⟨y, hy⟩ := xor_some xs[k] 5
          have hat : uni F h1 c = some (τ, xs.map (AV.int .u8)) := uni_left hFc
          have hh := dis_at hdis hFc
          repeat' (first
            | refine awp_seqK fun K' hpK => ?_
            | refine awp_block ?_
            | refine awp_condG fun A' B' hpA hpB => ?_
            | refine useK (by with_reducible assumption) ?_
            | refine useP (by with_reducible assumption) ?_
            | refine ED_cons (fun _ => ?_) ?_
            | (refine stable_mk ?_; simp (disch := first | (with_reducible assumption) | (simp; done) | omega | (simp; omega)) [hkl, hat, hkx, hy]; done)
            | (refine stable_no ?_; simp (disch := first | (with_reducible assumption) | (simp; done) | omega | (simp; omega)) [hkl, hat, hkx, hy]; done)
            | (with_reducible refine And.intro ?_ ?_)
            | (with_reducible intro hc)
            | (with_reducible refine GDsplit (fun hc => ?_) (fun hc => ?_) <;> try simp [hc])
            | (with_reducible refine GDsplitN (fun hc => ?_) (fun hc => ?_) <;> try simp [hc])
            | (with_reducible refine GDsplitNB (fun hc => ?_) (fun hc => ?_) <;> try simp [hc])
            | (with_reducible refine GDsplitB (fun hc => ?_) (fun hc => ?_) <;> try simp [hc])
            | (with_reducible refine GKsplit (fun hc => ?_) (fun hc => ?_) <;> try simp [hc])
            | (with_reducible refine GKsplitN (fun hc => ?_) (fun hc => ?_) <;> try simp [hc])
            | (with_reducible refine GKsplitNB (fun hc => ?_) (fun hc => ?_) <;> try simp [hc])
            | (with_reducible refine GKsplitB (fun hc => ?_) (fun hc => ?_) <;> try simp [hc])
            | simp (disch := first | (with_reducible assumption) | (simp; done) | omega | (simp; omega)) [hkl, hat, hkx, hy])
          rw [splice_set _ hkx, uni_swapF hh]
          exact hN (w - 1) _ _ (by omega) ⟨k + 1, _, xs.set k y, by omega, by simp [hxl], setH_same .., dis_set hdis hh, rfl, by simp⟩
        · repeat' (first
            | refine awp_seqK fun K' hpK => ?_
            | refine awp_block ?_
            | refine awp_condG fun A' B' hpA hpB => ?_
            | refine useK (by with_reducible assumption) ?_
            | refine useP (by with_reducible assumption) ?_
            | refine ED_cons (fun _ => ?_) ?_
            | (refine stable_mk ?_; simp (disch := first | (with_reducible assumption) | (simp; done) | omega | (simp; omega)) [hkl]; done)
            | (refine stable_no ?_; simp (disch := first | (with_reducible assumption) | (simp; done) | omega | (simp; omega)) [hkl]; done)
            | (with_reducible refine And.intro ?_ ?_)
            | (with_reducible intro hc)
            | (with_reducible refine GDsplit (fun hc => ?_) (fun hc => ?_) <;> try simp [hc])
            | (with_reducible refine GDsplitN (fun hc => ?_) (fun hc => ?_) <;> try simp [hc])
            | (with_reducible refine GDsplitNB (fun hc => ?_) (fun hc => ?_) <;> try simp [hc])
            | (with_reducible refine GDsplitB (fun hc => ?_) (fun hc => ?_) <;> try simp [hc])
            | (with_reducible refine GKsplit (fun hc => ?_) (fun hc => ?_) <;> try simp [hc])
            | (with_reducible refine GKsplitN (fun hc => ?_) (fun hc => ?_) <;> try simp [hc])
            | (with_reducible refine GKsplitNB (fun hc => ?_) (fun hc => ?_) <;> try simp [hc])
            | (with_reducible refine GKsplitB (fun hc => ?_) (fun hc => ?_) <;> try simp [hc])
            | simp (disch := first | (with_reducible assumption) | (simp; done) | omega | (simp; omega)) [hkl])
          refine hK5.out _ _ ?_
          refine awp_seqH fun K6 hK6 => ?_
          repeat' (first
            | refine awp_seqK fun K' hpK => ?_
            | refine awp_block ?_
            | refine awp_condG fun A' B' hpA hpB => ?_
            | refine useK (by with_reducible assumption) ?_
            | refine useP (by with_reducible assumption) ?_
            | refine ED_cons (fun _ => ?_) ?_
            | (refine stable_mk ?_; simp (disch := first | (with_reducible assumption) | (simp; done) | omega | (simp; omega)); done)
            | (refine stable_no ?_; simp (disch := first | (with_reducible assumption) | (simp; done) | omega | (simp; omega)); done)
            | (with_reducible refine And.intro ?_ ?_)
            | (with_reducible intro hc)
            | (with_reducible refine GDsplit (fun hc => ?_) (fun hc => ?_) <;> try simp [hc])
            | (with_reducible refine GDsplitN (fun hc => ?_) (fun hc => ?_) <;> try simp [hc])
            | (with_reducible refine GDsplitNB (fun hc => ?_) (fun hc => ?_) <;> try simp [hc])
            | (with_reducible refine GDsplitB (fun hc => ?_) (fun hc => ?_) <;> try simp [hc])
            | (with_reducible refine GKsplit (fun hc => ?_) (fun hc => ?_) <;> try simp [hc])
            | (with_reducible refine GKsplitN (fun hc => ?_) (fun hc => ?_) <;> try simp [hc])
            | (with_reducible refine GKsplitNB (fun hc => ?_) (fun hc => ?_) <;> try simp [hc])
            | (with_reducible refine GKsplitB (fun hc => ?_) (fun hc => ?_) <;> try simp [hc])
            | simp (disch := first | (with_reducible assumption) | (simp; done) | omega | (simp; omega)))
          refine CallK.use (rof_c (s := f) hfB (by omega)) ?_
          rintro r G6 _ _ ⟨rfl, s0, rfl, hs0⟩
          repeat' (first
            | refine awp_seqK fun K' hpK => ?_
            | refine awp_block ?_
            | refine awp_condG fun A' B' hpA hpB => ?_
            | refine useK (by with_reducible assumption) ?_
            | refine useP (by with_reducible assumption) ?_
            | refine ED_cons (fun _ => ?_) ?_
            | (refine stable_mk ?_; simp (disch := first | (with_reducible assumption) | (simp; done) | omega | (simp; omega)); done)
            | (refine stable_no ?_; simp (disch := first | (with_reducible assumption) | (simp; done) | omega | (simp; omega)); done)
            | (with_reducible refine And.intro ?_ ?_)
            | (with_reducible intro hc)
            | (with_reducible refine GDsplit (fun hc => ?_) (fun hc => ?_) <;> try simp [hc])
            | (with_reducible refine GDsplitN (fun hc => ?_) (fun hc => ?_) <;> try simp [hc])
            | (with_reducible refine GDsplitNB (fun hc => ?_) (fun hc => ?_) <;> try simp [hc])
            | (with_reducible refine GDsplitB (fun hc => ?_) (fun hc => ?_) <;> try simp [hc])
            | (with_reducible refine GKsplit (fun hc => ?_) (fun hc => ?_) <;> try simp [hc])
            | (with_reducible refine GKsplitN (fun hc => ?_) (fun hc => ?_) <;> try simp [hc])
            | (with_reducible refine GKsplitNB (fun hc => ?_) (fun hc => ?_) <;> try simp [hc])
            | (with_reducible refine GKsplitB (fun hc => ?_) (fun hc => ?_) <;> try simp [hc])
            | simp (disch := first | (with_reducible assumption) | (simp; done) | omega | (simp; omega)))
          refine hK6.out _ _ ?_
          refine awp_seqH fun K7 hK7 => ?_
          repeat' (first
            | refine awp_seqK fun K' hpK => ?_
            | refine awp_block ?_
            | refine awp_condG fun A' B' hpA hpB => ?_
            | refine useK (by with_reducible assumption) ?_
            | refine useP (by with_reducible assumption) ?_
            | refine ED_cons (fun _ => ?_) ?_
            | (refine stable_mk ?_; simp (disch := first | (with_reducible assumption) | (simp; done) | omega | (simp; omega)); done)
            | (refine stable_no ?_; simp (disch := first | (with_reducible assumption) | (simp; done) | omega | (simp; omega)); done)
            | (with_reducible refine And.intro ?_ ?_)
            | (with_reducible intro hc)
            | (with_reducible refine GDsplit (fun hc => ?_) (fun hc => ?_) <;> try simp [hc])
            | (with_reducible refine GDsplitN (fun hc => ?_) (fun hc => ?_) <;> try simp [hc])
            | (with_reducible refine GDsplitNB (fun hc => ?_) (fun hc => ?_) <;> try simp [hc])
            | (with_reducible refine GDsplitB (fun hc => ?_) (fun hc => ?_) <;> try simp [hc])
            | (with_reducible refine GKsplit (fun hc => ?_) (fun hc => ?_) <;> try simp [hc])
            | (with_reducible refine GKsplitN (fun hc => ?_) (fun hc => ?_) <;> try simp [hc])
            | (with_reducible refine GKsplitNB (fun hc => ?_) (fun hc => ?_) <;> try simp [hc])
            | (with_reducible refine GKsplitB (fun hc => ?_) (fun hc => ?_) <;> try simp [hc])
            | simp (disch := first | (with_reducible assumption) | (simp; done) | omega | (simp; omega)))
          refine hK7.out _ _ ?_
          refine awp_seqH fun K8 hK8 => ?_
          have fin : ∀ (F h : Hp) (l : List Int) (s : Option (List Int)) (T : Tm), Dis F h → OutH (.ptr ob 0) h l → LL s = l → l.length ≤ 20000 → T 6 = .ptr ob 0 → T 8 = ofS cI s → T 9 = .bool true → K8 T (uni F h) := by
            intro F h l s T hdis ho hs hl e6 e8 e9
            have h01 : Bits01 (LL s) := by rw [hs]; obtain ⟨_, _, _, _, _, hp⟩ := ho; exact hp.2.1
            refine hK8.out _ _ ?_
            repeat' (first
              | refine awp_seqK fun K' hpK => ?_
              | refine awp_block ?_
              | refine awp_condG fun A' B' hpA hpB => ?_
              | refine useK (by with_reducible assumption) ?_
              | refine useP (by with_reducible assumption) ?_
              | refine ED_cons (fun _ => ?_) ?_
              | (refine stable_mk ?_; simp (disch := first | (with_reducible assumption) | (simp; done) | omega | (simp; omega)) [e6, e8, e9]; done)
              | (refine stable_no ?_; simp (disch := first | (with_reducible assumption) | (simp; done) | omega | (simp; omega)) [e6, e8, e9]; done)
              | (with_reducible refine And.intro ?_ ?_)
              | (with_reducible intro hc)
              | (with_reducible refine GDsplit (fun hc => ?_) (fun hc => ?_) <;> try simp [hc])
              | (with_reducible refine GDsplitN (fun hc => ?_) (fun hc => ?_) <;> try simp [hc])
              | (with_reducible refine GDsplitNB (fun hc => ?_) (fun hc => ?_) <;> try simp [hc])
              | (with_reducible refine GDsplitB (fun hc => ?_) (fun hc => ?_) <;> try simp [hc])
              | (with_reducible refine GKsplit (fun hc => ?_) (fun hc => ?_) <;> try simp [hc])
              | (with_reducible refine GKsplitN (fun hc => ?_) (fun hc => ?_) <;> try simp [hc])
              | (with_reducible refine GKsplitNB (fun hc => ?_) (fun hc => ?_) <;> try simp [hc])
              | (with_reducible refine GKsplitB (fun hc => ?_) (fun hc => ?_) <;> try simp [hc])
              | simp (disch := first | (with_reducible assumption) | (simp; done) | omega | (simp; omega)) [e6, e8, e9])
            refine CallK.fr (done_c ho (by omega)) hdis ?_
            rintro r h5 hdis5 _ _ ⟨rfl, s5, rfl, hp5⟩
            repeat' (first
              | refine awp_seqK fun K' hpK => ?_
              | refine awp_block ?_
              | refine awp_condG fun A' B' hpA hpB => ?_
              | refine useK (by with_reducible assumption) ?_
              | refine useP (by with_reducible assumption) ?_
              | refine ED_cons (fun _ => ?_) ?_
              | (refine stable_mk ?_; simp (disch := first | (with_reducible assumption) | (simp; done) | omega | (simp; omega)) [e6, e8, e9, conv_ofS]; done)
              | (refine stable_no ?_; simp (disch := first | (with_reducible assumption) | (simp; done) | omega | (simp; omega)) [e6, e8, e9, conv_ofS]; done)
              | (with_reducible refine And.intro ?_ ?_)
              | (with_reducible intro hc)
              | (with_reducible refine GDsplit (fun hc => ?_) (fun hc => ?_) <;> try simp [hc])
              | (with_reducible refine GDsplitN (fun hc => ?_) (fun hc => ?_) <;> try simp [hc])
              | (with_reducible refine GDsplitNB (fun hc => ?_) (fun hc => ?_) <;> try simp [hc])
              | (with_reducible refine GDsplitB (fun hc => ?_) (fun hc => ?_) <;> try simp [hc])
              | (with_reducible refine GKsplit (fun hc => ?_) (fun hc => ?_) <;> try simp [hc])
              | (with_reducible refine GKsplitN (fun hc => ?_) (fun hc => ?_) <;> try simp [hc])
              | (with_reducible refine GKsplitNB (fun hc => ?_) (fun hc => ?_) <;> try simp [hc])
              | (with_reducible refine GKsplitB (fun hc => ?_) (fun hc => ?_) <;> try simp [hc])
              | simp (disch := first | (with_reducible assumption) | (simp; done) | omega | (simp; omega)) [e6, e8, e9, conv_ofS])
            refine CallK.use (rdone_c (s := s) h01 (by rw [hs]; omega)) ?_
            rintro r G7 _ _ ⟨rfl, s6, rfl, hp6⟩
            rw [hs] at hp6
            have e := Packed.unique hp5 hp6
            repeat' (first
              | refine awp_seqK fun K' hpK => ?_
              | refine awp_block ?_
              | refine awp_condG fun A' B' hpA hpB => ?_
              | refine useK (by with_reducible assumption) ?_
              | refine useP (by with_reducible assumption) ?_
              | refine ED_cons (fun _ => ?_) ?_
              | (refine stable_mk ?_; simp (disch := first | (with_reducible assumption) | (simp; done) | omega | (simp; omega)) [e6, e8, e9, conv_ofS, e]; done)
              | (refine stable_no ?_; simp (disch := first | (with_reducible assumption) | (simp; done) | omega | (simp; omega)) [e6, e8, e9, conv_ofS, e]; done)
              | (with_reducible refine And.intro ?_ ?_)
              | (with_reducible intro hc)
              | (with_reducible refine GDsplit (fun hc => ?_) (fun hc => ?_) <;> try simp [hc])
              | (with_reducible refine GDsplitN (fun hc => ?_) (fun hc => ?_) <;> try simp [hc])
              | (with_reducible refine GDsplitNB (fun hc => ?_) (fun hc => ?_) <;> try simp [hc])
              | (with_reducible refine GDsplitB (fun hc => ?_) (fun hc => ?_) <;> try simp [hc])
              | (with_reducible refine GKsplit (fun hc => ?_) (fun hc => ?_) <;> try simp [hc])
              | (with_reducible refine GKsplitN (fun hc => ?_) (fun hc => ?_) <;> try simp [hc])
              | (with_reducible refine GKsplitNB (fun hc => ?_) (fun hc => ?_) <;> try simp [hc])
              | (with_reducible refine GKsplitB (fun hc => ?_) (fun hc => ?_) <;> try simp [hc])
              | (refine CallK.use (awake_c _) ?_; rintro r G' _ _ ⟨rfl, rfl⟩)
              | simp (disch := first | (with_reducible assumption) | (simp; done) | omega | (simp; omega)) [e6, e8, e9, conv_ofS, e])
            exact ends_drop (by simp <;> rfl) (by simp) (hpost _ _ ⟨rfl, rfl⟩)
          repeat' (first
            | refine awp_seqK fun K' hpK => ?_
            | refine awp_block ?_
            | refine awp_condG fun A' B' hpA hpB => ?_
            | refine useK (by with_reducible assumption) ?_
            | refine useP (by with_reducible assumption) ?_
            | refine ED_cons (fun _ => ?_) ?_
            | (refine stable_mk ?_; simp (disch := first | (with_reducible assumption) | (simp; done) | omega | (simp; omega)); done)
            | (refine stable_no ?_; simp (disch := first | (with_reducible assumption) | (simp; done) | omega | (simp; omega)); done)
            | (with_reducible refine And.intro ?_ ?_)
            | (with_reducible intro hc)
            | (with_reducible refine GDsplit (fun hc => ?_) (fun hc => ?_) <;> try simp [hc])
            | (with_reducible refine GDsplitN (fun hc => ?_) (fun hc => ?_) <;> try simp [hc])
            | (with_reducible refine GDsplitNB (fun hc => ?_) (fun hc => ?_) <;> try simp [hc])
            | (with_reducible refine GDsplitB (fun hc => ?_) (fun hc => ?_) <;> try simp [hc])
            | (with_reducible refine GKsplit (fun hc => ?_) (fun hc => ?_) <;> try simp [hc])
            | (with_reducible refine GKsplitN (fun hc => ?_) (fun hc => ?_) <;> try simp [hc])
            | (with_reducible refine GKsplitNB (fun hc => ?_) (fun hc => ?_) <;> try simp [hc])
            | (with_reducible refine GKsplitB (fun hc => ?_) (fun hc => ?_) <;> try simp [hc])
            | simp (disch := first | (with_reducible assumption) | (simp; done) | omega | (simp; omega)))
          refine awp_loop' (fun w T G => ∃ (k : Nat) (F h : Hp) (l : List Int) (s : Option (List Int)), k + w = (LL calls).length ∧ k ≤ 30 ∧ Dis F h ∧ G = uni F h ∧ OutH (.ptr ob 0) h l ∧ LL s = l ∧ l.length ≤ 320 + 400 * k ∧ T = ofL [(6, .ptr ob 0), (8, ofS cI s), (9, .bool true), (48, ofS cC calls), (49, .int .i64 (LL calls).length), (50, .int .i64 k)]) (LL calls).length ⟨0, F, h1, bitsL (LL f), s0, by omega, by omega, hdis, rfl, ho, hs0, by rw [bitsL_len]; omega, by simp⟩ ?_
          clear ho hdis hFc hN
          rintro w T G ⟨k, F2, h2', l, s, hk, hk30, hd2, rfl, ho2, hs, hll, rfl⟩ N hN
          by_cases hkl : k < (LL calls).length
          · obtain ⟨x, hx⟩ : ∃ x, x = (LL calls)[k] := ⟨_, rfl⟩
            have hox := hC x (by rw [hx]; exact List.getElem_mem _)
            by_cases h30 : (30 : Int) ≤ k
            · repeat' (first
                | refine awp_seqK fun K' hpK => ?_
                | refine awp_block ?_
                | refine awp_condG fun A' B' hpA hpB => ?_
                | refine useK (by with_reducible assumption) ?_
                | refine useP (by with_reducible assumption) ?_
                | refine ED_cons (fun _ => ?_) ?_
                | (refine stable_mk ?_; simp (disch := first | (with_reducible assumption) | (simp; done) | omega | (simp; omega)) [hkl, h30, ofS_idx (f := cC), cC, ← hx]; done)
                | (refine stable_no ?_; simp (disch := first | (with_reducible assumption) | (simp; done) | omega | (simp; omega)) [hkl, h30, ofS_idx (f := cC), cC, ← hx]; done)
                | (with_reducible refine And.intro ?_ ?_)
                | (with_reducible intro hc)
                | (with_reducible refine GDsplit (fun hc => ?_) (fun hc => ?_) <;> try simp [hc])
                | (with_reducible refine GDsplitN (fun hc => ?_) (fun hc => ?_) <;> try simp [hc])
                | (with_reducible refine GDsplitNB (fun hc => ?_) (fun hc => ?_) <;> try simp [hc])
                | (with_reducible refine GDsplitB (fun hc => ?_) (fun hc => ?_) <;> try simp [hc])
                | (with_reducible refine GKsplit (fun hc => ?_) (fun hc => ?_) <;> try simp [hc])
                | (with_reducible refine GKsplitN (fun hc => ?_) (fun hc => ?_) <;> try simp [hc])
                | (with_reducible refine GKsplitNB (fun hc => ?_) (fun hc => ?_) <;> try simp [hc])
                | (with_reducible refine GKsplitB (fun hc => ?_) (fun hc => ?_) <;> try simp [hc])
                | simp (disch := first | (with_reducible assumption) | (simp; done) | omega | (simp; omega)) [hkl, h30, ofS_idx (f := cC), cC, ← hx])
              exact fin _ _ l s _ hd2 ho2 hs (by omega) (by simp) (by simp) (by simp)
            · have sc := step_c (kd := x.1) (n := x.2.1) (at_ := x.2.2.1) (L := x.2.2.2.1) (B := x.2.2.2.2.1) ho2 hs (by omega) hox.n hox.a hox.U hox.B hox.Ul hox.Bl
              repeat' (first
                | refine awp_seqK fun K' hpK => ?_
                | refine awp_block ?_
                | refine awp_condG fun A' B' hpA hpB => ?_
                | refine useK (by with_reducible assumption) ?_
                | refine useP (by with_reducible assumption) ?_
                | refine ED_cons (fun _ => ?_) ?_
                | (refine stable_mk ?_; simp (disch := first | (with_reducible assumption) | (simp; done) | omega | (simp; omega)) [hkl, h30, ofS_idx (f := cC), cC, ← hx]; done)
                | (refine stable_no ?_; simp (disch := first | (with_reducible assumption) | (simp; done) | omega | (simp; omega)) [hkl, h30, ofS_idx (f := cC), cC, ← hx]; done)
                | (with_reducible refine And.intro ?_ ?_)
                | (with_reducible intro hc)
                | (with_reducible refine GDsplit (fun hc => ?_) (fun hc => ?_) <;> try simp [hc])
                | (with_reducible refine GDsplitN (fun hc => ?_) (fun hc => ?_) <;> try simp [hc])
                | (with_reducible refine GDsplitNB (fun hc => ?_) (fun hc => ?_) <;> try simp [hc])
                | (with_reducible refine GDsplitB (fun hc => ?_) (fun hc => ?_) <;> try simp [hc])
                | (with_reducible refine GKsplit (fun hc => ?_) (fun hc => ?_) <;> try simp [hc])
                | (with_reducible refine GKsplitN (fun hc => ?_) (fun hc => ?_) <;> try simp [hc])
                | (with_reducible refine GKsplitNB (fun hc => ?_) (fun hc => ?_) <;> try simp [hc])
                | (with_reducible refine GKsplitB (fun hc => ?_) (fun hc => ?_) <;> try simp [hc])
                | simp (disch := first | (with_reducible assumption) | (simp; done) | omega | (simp; omega)) [hkl, h30, ofS_idx (f := cC), cC, ← hx])
              refine CallK.fr sc hd2 ?_
              rintro r h3 hd3 _ _ ⟨l3, s3, ho3, hs3, rfl, hl3⟩
              have h01 : Bits01 (LL s3) := by rw [hs3]; obtain ⟨_, _, _, _, _, hp⟩ := ho3; exact hp.2.1
              repeat' (first
                | refine awp_seqK fun K' hpK => ?_
                | refine awp_block ?_
                | refine awp_condG fun A' B' hpA hpB => ?_
                | refine useK (by with_reducible assumption) ?_
                | refine useP (by with_reducible assumption) ?_
                | refine ED_cons (fun _ => ?_) ?_
                | (refine stable_mk ?_; simp (disch := first | (with_reducible assumption) | (simp; done) | omega | (simp; omega)); done)
                | (refine stable_no ?_; simp (disch := first | (with_reducible assumption) | (simp; done) | omega | (simp; omega)); done)
                | (with_reducible refine And.intro ?_ ?_)
                | (with_reducible intro hc)
                | (with_reducible refine GDsplit (fun hc => ?_) (fun hc => ?_) <;> try simp [hc])
                | (with_reducible refine GDsplitN (fun hc => ?_) (fun hc => ?_) <;> try simp [hc])
                | (with_reducible refine GDsplitNB (fun hc => ?_) (fun hc => ?_) <;> try simp [hc])
                | (with_reducible refine GDsplitB (fun hc => ?_) (fun hc => ?_) <;> try simp [hc])
                | (with_reducible refine GKsplit (fun hc => ?_) (fun hc => ?_) <;> try simp [hc])
                | (with_reducible refine GKsplitN (fun hc => ?_) (fun hc => ?_) <;> try simp [hc])
                | (with_reducible refine GKsplitNB (fun hc => ?_) (fun hc => ?_) <;> try simp [hc])
                | (with_reducible refine GKsplitB (fun hc => ?_) (fun hc => ?_) <;> try simp [hc])
                | simp (disch := first | (with_reducible assumption) | (simp; done) | omega | (simp; omega)))
              refine CallK.fr (doneG_c ho3 (by omega)) hd3 ?_
              rintro r h4 hd4 _ _ ⟨bs, hpk, hg⟩
              obtain ⟨F3, hu, hd5, hcase⟩ := split_left hd4 hg
              have hbl : bs.length ≤ 1000000 := by have := hpk.2.2.2.1; omega
              have hrp : r.plain = true := hg.plain
              have hal := fun {t : TypeId} => Grow.len (P := Try.prog) (t := t) hg
              rw [hu]
              have hcv : ∀ {a d : TypeId}, (ti Try.prog a).ok = true → (ti Try.prog d).ok = true → (ti Try.prog d).kd = .str → (ti Try.prog a).isS = true → (ti Try.prog (ti Try.prog a).el).ok = true → (ti Try.prog (ti Try.prog a).el).kd = .int .u8 → conv Try.prog (uni F3 h3) a d r = some (.str (strOfNums bs)) := by
                intro a d k1 k2 k3 k4 k5 k6
                rcases hcase with ⟨rfl, rfl⟩ | ⟨b, τ', rfl, hb⟩
                · exact conv_ms (n := 0) k1 k2 k3 k4 k5 k6 (.inl rfl) (by simp [srcCells])
                · exact conv_ms (n := bs.length) k1 k2 k3 k4 k5 k6 (.inr ⟨_, _, _, _, rfl⟩) (by simp [srcCells, uni_left hb]; exact List.take_of_length_le (by simp))
              repeat' (first
                | refine awp_seqK fun K' hpK => ?_
                | refine awp_block ?_
                | refine awp_condG fun A' B' hpA hpB => ?_
                | refine useK (by with_reducible assumption) ?_
                | refine useP (by with_reducible assumption) ?_
                | refine ED_cons (fun _ => ?_) ?_
                | (refine stable_mk ?_; simp (disch := first | (with_reducible assumption) | (simp; done) | omega | (simp; omega)) [hrp]; done)
                | (refine stable_no ?_; simp (disch := first | (with_reducible assumption) | (simp; done) | omega | (simp; omega)) [hrp]; done)
                | (with_reducible refine And.intro ?_ ?_)
                | (with_reducible intro hc)
                | (with_reducible refine GDsplit (fun hc => ?_) (fun hc => ?_) <;> try simp [hc])
                | (with_reducible refine GDsplitN (fun hc => ?_) (fun hc => ?_) <;> try simp [hc])
                | (with_reducible refine GDsplitNB (fun hc => ?_) (fun hc => ?_) <;> try simp [hc])
                | (with_reducible refine GDsplitB (fun hc => ?_) (fun hc => ?_) <;> try simp [hc])
                | (with_reducible refine GKsplit (fun hc => ?_) (fun hc => ?_) <;> try simp [hc])
                | (with_reducible refine GKsplitN (fun hc => ?_) (fun hc => ?_) <;> try simp [hc])
                | (with_reducible refine GKsplitNB (fun hc => ?_) (fun hc => ?_) <;> try simp [hc])
                | (with_reducible refine GKsplitB (fun hc => ?_) (fun hc => ?_) <;> try simp [hc])
                | simp (disch := first | (with_reducible assumption) | (simp; done) | omega | (simp; omega)) [hrp])
              refine CallK.fr (len_c ho3) hd5 ?_
              rintro r5 h5 hd6 _ _ ⟨rfl, rfl⟩
              repeat' (first
                | refine awp_seqK fun K' hpK => ?_
                | refine awp_block ?_
                | refine awp_condG fun A' B' hpA hpB => ?_
                | refine useK (by with_reducible assumption) ?_
                | refine useP (by with_reducible assumption) ?_
                | refine ED_cons (fun _ => ?_) ?_
                | (refine stable_mk ?_; simp (disch := first | (with_reducible assumption) | (simp; done) | omega | (simp; omega)) [hrp, hs3, hcv]; done)
                | (refine stable_no ?_; simp (disch := first | (with_reducible assumption) | (simp; done) | omega | (simp; omega)) [hrp, hs3, hcv]; done)
                | (with_reducible refine And.intro ?_ ?_)
                | (with_reducible intro hc)
                | (with_reducible refine GDsplit (fun hc => ?_) (fun hc => ?_) <;> try simp [hc])
                | (with_reducible refine GDsplitN (fun hc => ?_) (fun hc => ?_) <;> try simp [hc])
                | (with_reducible refine GDsplitNB (fun hc => ?_) (fun hc => ?_) <;> try simp [hc])
                | (with_reducible refine GDsplitB (fun hc => ?_) (fun hc => ?_) <;> try simp [hc])
                | (with_reducible refine GKsplit (fun hc => ?_) (fun hc => ?_) <;> try simp [hc])
                | (with_reducible refine GKsplitN (fun hc => ?_) (fun hc => ?_) <;> try simp [hc])
                | (with_reducible refine GKsplitNB (fun hc => ?_) (fun hc => ?_) <;> try simp [hc])
                | (with_reducible refine GKsplitB (fun hc => ?_) (fun hc => ?_) <;> try simp [hc])
                | simp (disch := first | (with_reducible assumption) | (simp; done) | omega | (simp; omega)) [hrp, hs3, hcv])
              refine CallK.use (rdone_c (s := s3) h01 (by rw [hs3]; omega)) ?_
              rintro r6 G7 _ _ ⟨rfl, s6, rfl, hp6⟩
              rw [hs3] at hp6
              have e := Packed.unique hpk hp6
              repeat' (first
                | refine awp_seqK fun K' hpK => ?_
                | refine awp_block ?_
                | refine awp_condG fun A' B' hpA hpB => ?_
                | refine useK (by with_reducible assumption) ?_
                | refine useP (by with_reducible assumption) ?_
                | refine ED_cons (fun _ => ?_) ?_
                | (refine stable_mk ?_; simp (disch := first | (with_reducible assumption) | (simp; done) | omega | (simp; omega)) [hrp, hs3, hcv, conv_ofS, ← e, hal]; done)
                | (refine stable_no ?_; simp (disch := first | (with_reducible assumption) | (simp; done) | omega | (simp; omega)) [hrp, hs3, hcv, conv_ofS, ← e, hal]; done)
                | (with_reducible refine And.intro ?_ ?_)
                | (with_reducible intro hc)
                | (with_reducible refine GDsplit (fun hc => ?_) (fun hc => ?_) <;> try simp [hc])
                | (with_reducible refine GDsplitN (fun hc => ?_) (fun hc => ?_) <;> try simp [hc])
                | (with_reducible refine GDsplitNB (fun hc => ?_) (fun hc => ?_) <;> try simp [hc])
                | (with_reducible refine GDsplitB (fun hc => ?_) (fun hc => ?_) <;> try simp [hc])
                | (with_reducible refine GKsplit (fun hc => ?_) (fun hc => ?_) <;> try simp [hc])
                | (with_reducible refine GKsplitN (fun hc => ?_) (fun hc => ?_) <;> try simp [hc])
                | (with_reducible refine GKsplitNB (fun hc => ?_) (fun hc => ?_) <;> try simp [hc])
                | (with_reducible refine GKsplitB (fun hc => ?_) (fun hc => ?_) <;> try simp [hc])
                | simp (disch := first | (with_reducible assumption) | (simp; done) | omega | (simp; omega)) [hrp, hs3, hcv, conv_ofS, ← e, hal])
              rcases hcase with ⟨rfl, rfl⟩ | ⟨b, τ', rfl, hb⟩
              · refine awp_loop' (fun w T G => G = uni F3 h5 ∧ T = ofL [(6, .ptr ob 0), (8, ofS cI s3), (9, .bool true), (12, .nils), (48, ofS cC calls), (49, .int .i64 (LL calls).length), (50, .int .i64 k), (87, .int .i64 0), (88, .int .i64 0)]) 0 ⟨rfl, by simp⟩ ?_
                rintro w2 T G ⟨rfl, rfl⟩ N2 hN2
                repeat' (first
                  | refine awp_seqK fun K' hpK => ?_
                  | refine awp_block ?_
                  | refine awp_condG fun A' B' hpA hpB => ?_
                  | refine useK (by with_reducible assumption) ?_
                  | refine useP (by with_reducible assumption) ?_
                  | refine ED_cons (fun _ => ?_) ?_
                  | (refine stable_mk ?_; simp (disch := first | (with_reducible assumption) | (simp; done) | omega | (simp; omega)); done)
                  | (refine stable_no ?_; simp (disch := first | (with_reducible assumption) | (simp; done) | omega | (simp; omega)); done)
                  | (with_reducible refine And.intro ?_ ?_)
                  | (with_reducible intro hc)
                  | (with_reducible refine GDsplit (fun hc => ?_) (fun hc => ?_) <;> try simp [hc])
                  | (with_reducible refine GDsplitN (fun hc => ?_) (fun hc => ?_) <;> try simp [hc])
                  | (with_reducible refine GDsplitNB (fun hc => ?_) (fun hc => ?_) <;> try simp [hc])
                  | (with_reducible refine GDsplitB (fun hc => ?_) (fun hc => ?_) <;> try simp [hc])
                  | (with_reducible refine GKsplit (fun hc => ?_) (fun hc => ?_) <;> try simp [hc])
                  | (with_reducible refine GKsplitN (fun hc => ?_) (fun hc => ?_) <;> try simp [hc])
                  | (with_reducible refine GKsplitNB (fun hc => ?_) (fun hc => ?_) <;> try simp [hc])
                  | (with_reducible refine GKsplitB (fun hc => ?_) (fun hc => ?_) <;> try simp [hc])
                  | simp (disch := first | (with_reducible assumption) | (simp; done) | omega | (simp; omega)))
                exact hN (w - 1) _ _ (by omega) ⟨k + 1, F3, h5, l3, s3, by omega, by omega, hd6, rfl, ho3, hs3, by omega, by simp⟩
              · refine awp_loop' (fun w T G => ∃ (j : Nat) (F : Hp) (xs : List Int), j + w = bs.length ∧ xs.length = bs.length ∧ F b = some (τ', xs.map (AV.int .u8)) ∧ Dis F h5 ∧ G = uni F h5 ∧ T = ofL [(6, .ptr ob 0), (8, ofS cI s3), (9, .bool true), (12, .ms b 0 bs.length 1), (48, ofS cC calls), (49, .int .i64 (LL calls).length), (50, .int .i64 k), (87, .int .i64 bs.length), (88, .int .i64 j)]) bs.length ⟨0, F3, bs, by omega, rfl, hb, hd6, rfl, by simp⟩ ?_
                rintro w2 T G ⟨j, F4, xs, hj, hxl, hFb, hd7, rfl, rfl⟩ N2 hN2
                by_cases hjl : j < bs.length
                · have hjx : j < xs.length := by omega
                  obtain ⟨y, hy⟩ := xor_some xs[j] 3
                  have hat : uni F4 h5 b = some (τ', xs.map (AV.int .u8)) := uni_left hFb
                  have hh := dis_at hd7 hFb
                  repeat' (first
                    | refine awp_seqK fun K' hpK => ?_
                    | refine awp_block ?_
                    | refine awp_condG fun A' B' hpA hpB => ?_
                    | refine useK (by with_reducible assumption) ?_
                    | refine useP (by with_reducible assumption) ?_
                    | refine ED_cons (fun _ => ?_) ?_
                    | (refine stable_mk ?_; simp (disch := first | (with_reducible assumption) | (simp; done) | omega | (simp; omega)) [hjl, hat, hjx, hy]; done)
                    | (refine stable_no ?_; simp (disch := first | (with_reducible assumption) | (simp; done) | omega | (simp; omega)) [hjl, hat, hjx, hy]; done)
                    | (with_reducible refine And.intro ?_ ?_)
                    | (with_reducible intro hc)
                    | (with_reducible refine GDsplit (fun hc => ?_) (fun hc => ?_) <;> try simp [hc])
                    | (with_reducible refine GDsplitN (fun hc => ?_) (fun hc => ?_) <;> try simp [hc])
                    | (with_reducible refine GDsplitNB (fun hc => ?_) (fun hc => ?_) <;> try simp [hc])
                    | (with_reducible refine GDsplitB (fun hc => ?_) (fun hc => ?_) <;> try simp [hc])
                    | (with_reducible refine GKsplit (fun hc => ?_) (fun hc => ?_) <;> try simp [hc])
                    | (with_reducible refine GKsplitN (fun hc => ?_) (fun hc => ?_) <;> try simp [hc])
                    | (with_reducible refine GKsplitNB (fun hc => ?_) (fun hc => ?_) <;> try simp [hc])
                    | (with_reducible refine GKsplitB (fun hc => ?_) (fun hc => ?_) <;> try simp [hc])
                    | simp (disch := first | (with_reducible assumption) | (simp; done) | omega | (simp; omega)) [hjl, hat, hjx, hy])
                  rw [splice_set _ hjx, uni_swapF hh]
                  exact hN2 (w2 - 1) _ _ (by omega) ⟨j + 1, _, xs.set j y, by omega, by simp [hxl], setH_same .., dis_set hd7 hh, rfl, by simp⟩
                · repeat' (first
                    | refine awp_seqK fun K' hpK => ?_
                    | refine awp_block ?_
                    | refine awp_condG fun A' B' hpA hpB => ?_
                    | refine useK (by with_reducible assumption) ?_
                    | refine useP (by with_reducible assumption) ?_
                    | refine ED_cons (fun _ => ?_) ?_
                    | (refine stable_mk ?_; simp (disch := first | (with_reducible assumption) | (simp; done) | omega | (simp; omega)) [hjl]; done)
                    | (refine stable_no ?_; simp (disch := first | (with_reducible assumption) | (simp; done) | omega | (simp; omega)) [hjl]; done)
                    | (with_reducible refine And.intro ?_ ?_)
                    | (with_reducible intro hc)
                    | (with_reducible refine GDsplit (fun hc => ?_) (fun hc => ?_) <;> try simp [hc])
                    | (with_reducible refine GDsplitN (fun hc => ?_) (fun hc => ?_) <;> try simp [hc])
                    | (with_reducible refine GDsplitNB (fun hc => ?_) (fun hc => ?_) <;> try simp [hc])
                    | (with_reducible refine GDsplitB (fun hc => ?_) (fun hc => ?_) <;> try simp [hc])
                    | (with_reducible refine GKsplit (fun hc => ?_) (fun hc => ?_) <;> try simp [hc])
                    | (with_reducible refine GKsplitN (fun hc => ?_) (fun hc => ?_) <;> try simp [hc])
                    | (with_reducible refine GKsplitNB (fun hc => ?_) (fun hc => ?_) <;> try simp [hc])
                    | (with_reducible refine GKsplitB (fun hc => ?_) (fun hc => ?_) <;> try simp [hc])
                    | simp (disch := first | (with_reducible assumption) | (simp; done) | omega | (simp; omega)) [hjl])
                  exact hN (w - 1) _ _ (by omega) ⟨k + 1, F4, h5, l3, s3, by omega, by omega, hd7, rfl, ho3, hs3, by omega, by simp⟩
          · repeat' (first
              | refine awp_seqK fun K' hpK => ?_
              | refine awp_block ?_
              | refine awp_condG fun A' B' hpA hpB => ?_
              | refine useK (by with_reducible assumption) ?_
              | refine useP (by with_reducible assumption) ?_
              | refine ED_cons (fun _ => ?_) ?_
              | (refine stable_mk ?_; simp (disch := first | (with_reducible assumption) | (simp; done) | omega | (simp; omega)) [hkl]; done)
              | (refine stable_no ?_; simp (disch := first | (with_reducible assumption) | (simp; done) | omega | (simp; omega)) [hkl]; done)
              | (with_reducible refine And.intro ?_ ?_)
              | (with_reducible intro hc)
              | (with_reducible refine GDsplit (fun hc => ?_) (fun hc => ?_) <;> try simp [hc])
              | (with_reducible refine GDsplitN (fun hc => ?_) (fun hc => ?_) <;> try simp [hc])
              | (with_reducible refine GDsplitNB (fun hc => ?_) (fun hc => ?_) <;> try simp [hc])
              | (with_reducible refine GDsplitB (fun hc => ?_) (fun hc => ?_) <;> try simp [hc])
              | (with_reducible refine GKsplit (fun hc => ?_) (fun hc => ?_) <;> try simp [hc])
              | (with_reducible refine GKsplitN (fun hc => ?_) (fun hc => ?_) <;> try simp [hc])
              | (with_reducible refine GKsplitNB (fun hc => ?_) (fun hc => ?_) <;> try simp [hc])
              | (with_reducible refine GKsplitB (fun hc => ?_) (fun hc => ?_) <;> try simp [hc])
              | simp (disch := first | (with_reducible assumption) | (simp; done) | omega | (simp; omega)) [hkl])
            exact fin _ _ l s _ hd2 ho2 hs (by omega) (by simp) (by simp) (by simp)
      obtain ⟨q, hq⟩ : ∃ q, q = (LL f).length / 2 := ⟨_, rfl⟩
      have hd2 : ((LL f).length : Int).tdiv 2 = (q : Int) := by rw [Int.tdiv_eq_ediv_of_nonneg (by omega)]; omega
      have hq0 : (0 : Int) ≤ (q : Int) := by omega
      have hq1 : q ≤ (LL f).length := by omega
      have hta : ((LL f).take q ++ (LL f).drop q) = LL f := List.take_append_drop ..
      have nc := new2_c (c := c) (τ := τ) (a := (LL f).take q) (b := (LL f).drop q) rfl (by rw [hta]; omega) (by rw [hta]; exact hfB)
      rw [hta, List.length_take, List.length_drop, Nat.min_eq_left hq1] at nc
      by_cases hqz : q = 0
      · subst hqz
        repeat' (first
          | refine awp_seqK fun K' hpK => ?_
          | refine awp_block ?_
          | refine awp_condG fun A' B' hpA hpB => ?_
          | refine useK (by with_reducible assumption) ?_
          | refine useP (by with_reducible assumption) ?_
          | refine ED_cons (fun _ => ?_) ?_
          | (refine stable_mk ?_; simp (disch := first | (with_reducible assumption) | (simp; done) | omega | (simp; omega)) [hd2, hq0, hq1]; done)
          | (refine stable_no ?_; simp (disch := first | (with_reducible assumption) | (simp; done) | omega | (simp; omega)) [hd2, hq0, hq1]; done)
          | (with_reducible refine And.intro ?_ ?_)
          | (with_reducible intro hc)
          | (with_reducible refine GDsplit (fun hc => ?_) (fun hc => ?_) <;> try simp [hc])
          | (with_reducible refine GDsplitN (fun hc => ?_) (fun hc => ?_) <;> try simp [hc])
          | (with_reducible refine GDsplitNB (fun hc => ?_) (fun hc => ?_) <;> try simp [hc])
          | (with_reducible refine GDsplitB (fun hc => ?_) (fun hc => ?_) <;> try simp [hc])
          | (with_reducible refine GKsplit (fun hc => ?_) (fun hc => ?_) <;> try simp [hc])
          | (with_reducible refine GKsplitN (fun hc => ?_) (fun hc => ?_) <;> try simp [hc])
          | (with_reducible refine GKsplitNB (fun hc => ?_) (fun hc => ?_) <;> try simp [hc])
          | (with_reducible refine GKsplitB (fun hc => ?_) (fun hc => ?_) <;> try simp [hc])
          | simp (disch := first | (with_reducible assumption) | (simp; done) | omega | (simp; omega)) [hd2, hq0, hq1])
        refine CallK.use (by simpa using nc) ?_
        rintro r G7 _ _ ⟨h1, rfl, hdis, hO⟩
        obtain ⟨ob, out, bs, rfl, hO⟩ := hO
        repeat' (first
          | refine awp_seqK fun K' hpK => ?_
          | refine awp_block ?_
          | refine awp_condG fun A' B' hpA hpB => ?_
          | refine useK (by with_reducible assumption) ?_
          | refine useP (by with_reducible assumption) ?_
          | refine ED_cons (fun _ => ?_) ?_
          | (refine stable_mk ?_; simp (disch := first | (with_reducible assumption) | (simp; done) | omega | (simp; omega)); done)
          | (refine stable_no ?_; simp (disch := first | (with_reducible assumption) | (simp; done) | omega | (simp; omega)); done)
          | (with_reducible refine And.intro ?_ ?_)
          | (with_reducible intro hc)
          | (with_reducible refine GDsplit (fun hc => ?_) (fun hc => ?_) <;> try simp [hc])
          | (with_reducible refine GDsplitN (fun hc => ?_) (fun hc => ?_) <;> try simp [hc])
          | (with_reducible refine GDsplitNB (fun hc => ?_) (fun hc => ?_) <;> try simp [hc])
          | (with_reducible refine GDsplitB (fun hc => ?_) (fun hc => ?_) <;> try simp [hc])
          | (with_reducible refine GKsplit (fun hc => ?_) (fun hc => ?_) <;> try simp [hc])
          | (with_reducible refine GKsplitN (fun hc => ?_) (fun hc => ?_) <;> try simp [hc])
          | (with_reducible refine GKsplitNB (fun hc => ?_) (fun hc => ?_) <;> try simp [hc])
          | (with_reducible refine GKsplitB (fun hc => ?_) (fun hc => ?_) <;> try simp [hc])
          | simp (disch := first | (with_reducible assumption) | (simp; done) | omega | (simp; omega)))
        exact h4 _ _ ob (by rw [one_same, cB_map]) hdis ⟨ob, out, bs, rfl, hO⟩
      · have hql : q < (LL f).length := by omega
        repeat' (first
          | refine awp_seqK fun K' hpK => ?_
          | refine awp_block ?_
          | refine awp_condG fun A' B' hpA hpB => ?_
          | refine useK (by with_reducible assumption) ?_
          | refine useP (by with_reducible assumption) ?_
          | refine ED_cons (fun _ => ?_) ?_
          | (refine stable_mk ?_; simp (disch := first | (with_reducible assumption) | (simp; done) | omega | (simp; omega)) [hd2, hq0, hq1, hqz, hql]; done)
          | (refine stable_no ?_; simp (disch := first | (with_reducible assumption) | (simp; done) | omega | (simp; omega)) [hd2, hq0, hq1, hqz, hql]; done)
          | (with_reducible refine And.intro ?_ ?_)
          | (with_reducible intro hc)
          | (with_reducible refine GDsplit (fun hc => ?_) (fun hc => ?_) <;> try simp [hc])
          | (with_reducible refine GDsplitN (fun hc => ?_) (fun hc => ?_) <;> try simp [hc])
          | (with_reducible refine GDsplitNB (fun hc => ?_) (fun hc => ?_) <;> try simp [hc])
          | (with_reducible refine GDsplitB (fun hc => ?_) (fun hc => ?_) <;> try simp [hc])
          | (with_reducible refine GKsplit (fun hc => ?_) (fun hc => ?_) <;> try simp [hc])
          | (with_reducible refine GKsplitN (fun hc => ?_) (fun hc => ?_) <;> try simp [hc])
          | (with_reducible refine GKsplitNB (fun hc => ?_) (fun hc => ?_) <;> try simp [hc])
          | (with_reducible refine GKsplitB (fun hc => ?_) (fun hc => ?_) <;> try simp [hc])
          | simp (disch := first | (with_reducible assumption) | (simp; done) | omega | (simp; omega)) [hd2, hq0, hq1, hqz, hql])
        refine CallK.use nc ?_
        rintro r G7 _ _ ⟨h1, rfl, hdis, hO⟩
        obtain ⟨ob, out, bs, rfl, hO⟩ := hO
        repeat' (first
          | refine awp_seqK fun K' hpK => ?_
          | refine awp_block ?_
          | refine awp_condG fun A' B' hpA hpB => ?_
          | refine useK (by with_reducible assumption) ?_
          | refine useP (by with_reducible assumption) ?_
          | refine ED_cons (fun _ => ?_) ?_
          | (refine stable_mk ?_; simp (disch := first | (with_reducible assumption) | (simp; done) | omega | (simp; omega)); done)
          | (refine stable_no ?_; simp (disch := first | (with_reducible assumption) | (simp; done) | omega | (simp; omega)); done)
          | (with_reducible refine And.intro ?_ ?_)
          | (with_reducible intro hc)
          | (with_reducible refine GDsplit (fun hc => ?_) (fun hc => ?_) <;> try simp [hc])
          | (with_reducible refine GDsplitN (fun hc => ?_) (fun hc => ?_) <;> try simp [hc])
          | (with_reducible refine GDsplitNB (fun hc => ?_) (fun hc => ?_) <;> try simp [hc])
          | (with_reducible refine GDsplitB (fun hc => ?_) (fun hc => ?_) <;> try simp [hc])
          | (with_reducible refine GKsplit (fun hc => ?_) (fun hc => ?_) <;> try simp [hc])
          | (with_reducible refine GKsplitN (fun hc => ?_) (fun hc => ?_) <;> try simp [hc])
          | (with_reducible refine GKsplitNB (fun hc => ?_) (fun hc => ?_) <;> try simp [hc])
          | (with_reducible refine GKsplitB (fun hc => ?_) (fun hc => ?_) <;> try simp [hc])
          | simp (disch := first | (with_reducible assumption) | (simp; done) | omega | (simp; omega)))
        exact h4 _ _ ob (by rw [one_same, cB_map]) hdis ⟨ob, out, bs, rfl, hO⟩
    rcases hT with rfl | rfl
    · repeat' (first
        | refine awp_seqK fun K' hpK => ?_
        | refine awp_block ?_
        | refine awp_condG fun A' B' hpA hpB => ?_
        | refine useK (by with_reducible assumption) ?_
        | refine useP (by with_reducible assumption) ?_
        | refine ED_cons (fun _ => ?_) ?_
        | (refine stable_mk ?_; simp (disch := first | (with_reducible assumption) | (simp; done) | omega | (simp; omega)); done)
        | (refine stable_no ?_; simp (disch := first | (with_reducible assumption) | (simp; done) | omega | (simp; omega)); done)
        | (with_reducible refine And.intro ?_ ?_)
        | (with_reducible intro hc)
        | (with_reducible refine GDsplit (fun hc => ?_) (fun hc => ?_) <;> try simp [hc])
        | (with_reducible refine GDsplitN (fun hc => ?_) (fun hc => ?_) <;> try simp [hc])
        | (with_reducible refine GDsplitNB (fun hc => ?_) (fun hc => ?_) <;> try simp [hc])
        | (with_reducible refine GDsplitB (fun hc => ?_) (fun hc => ?_) <;> try simp [hc])
        | (with_reducible refine GKsplit (fun hc => ?_) (fun hc => ?_) <;> try simp [hc])
        | (with_reducible refine GKsplitN (fun hc => ?_) (fun hc => ?_) <;> try simp [hc])
        | (with_reducible refine GKsplitNB (fun hc => ?_) (fun hc => ?_) <;> try simp [hc])
        | (with_reducible refine GKsplitB (fun hc => ?_) (fun hc => ?_) <;> try simp [hc])
        | simp (disch := first | (with_reducible assumption) | (simp; done) | omega | (simp; omega)))
      intro c hc
      refine ⟨0, ?_⟩
      repeat' (first
        | refine awp_seqK fun K' hpK => ?_
        | refine awp_block ?_
        | refine awp_condG fun A' B' hpA hpB => ?_
        | refine useK (by with_reducible assumption) ?_
        | refine useP (by with_reducible assumption) ?_
        | refine ED_cons (fun _ => ?_) ?_
        | (refine stable_mk ?_; simp (disch := first | (with_reducible assumption) | (simp; done) | omega | (simp; omega)); done)
        | (refine stable_no ?_; simp (disch := first | (with_reducible assumption) | (simp; done) | omega | (simp; omega)); done)
        | (with_reducible refine And.intro ?_ ?_)
        | (with_reducible intro hc)
        | (with_reducible refine GDsplit (fun hc => ?_) (fun hc => ?_) <;> try simp [hc])
        | (with_reducible refine GDsplitN (fun hc => ?_) (fun hc => ?_) <;> try simp [hc])
        | (with_reducible refine GDsplitNB (fun hc => ?_) (fun hc => ?_) <;> try simp [hc])
        | (with_reducible refine GDsplitB (fun hc => ?_) (fun hc => ?_) <;> try simp [hc])
        | (with_reducible refine GKsplit (fun hc => ?_) (fun hc => ?_) <;> try simp [hc])
        | (with_reducible refine GKsplitN (fun hc => ?_) (fun hc => ?_) <;> try simp [hc])
        | (with_reducible refine GKsplitNB (fun hc => ?_) (fun hc => ?_) <;> try simp [hc])
        | (with_reducible refine GKsplitB (fun hc => ?_) (fun hc => ?_) <;> try simp [hc])
        | simp (disch := first | (with_reducible assumption) | (simp; done) | omega | (simp; omega)))
      refine appM (f := cB) (sz := 1) (l := []) (xs := LL f) hc (ofS_src (by simp)) (cB_scal _) (by simp [LIM]; omega) (fun b' hb' => ?_)
      repeat' (first
        | refine awp_seqK fun K' hpK => ?_
        | refine awp_block ?_
        | refine awp_condG fun A' B' hpA hpB => ?_
        | refine useK (by with_reducible assumption) ?_
        | refine useP (by with_reducible assumption) ?_
        | refine ED_cons (fun _ => ?_) ?_
        | (refine stable_mk ?_; simp (disch := first | (with_reducible assumption) | (simp; done) | omega | (simp; omega)); done)
        | (refine stable_no ?_; simp (disch := first | (with_reducible assumption) | (simp; done) | omega | (simp; omega)); done)
        | (with_reducible refine And.intro ?_ ?_)
        | (with_reducible intro hc)
        | (with_reducible refine GDsplit (fun hc => ?_) (fun hc => ?_) <;> try simp [hc])
        | (with_reducible refine GDsplitN (fun hc => ?_) (fun hc => ?_) <;> try simp [hc])
        | (with_reducible refine GDsplitNB (fun hc => ?_) (fun hc => ?_) <;> try simp [hc])
        | (with_reducible refine GDsplitB (fun hc => ?_) (fun hc => ?_) <;> try simp [hc])
        | (with_reducible refine GKsplit (fun hc => ?_) (fun hc => ?_) <;> try simp [hc])
        | (with_reducible refine GKsplitN (fun hc => ?_) (fun hc => ?_) <;> try simp [hc])
        | (with_reducible refine GKsplitNB (fun hc => ?_) (fun hc => ?_) <;> try simp [hc])
        | (with_reducible refine GKsplitB (fun hc => ?_) (fun hc => ?_) <;> try simp [hc])
        | simp (disch := first | (with_reducible assumption) | (simp; done) | omega | (simp; omega)))
      exact h3 b' 0
    · repeat' (first
        | refine awp_seqK fun K' hpK => ?_
        | refine awp_block ?_
        | refine awp_condG fun A' B' hpA hpB => ?_
        | refine useK (by with_reducible assumption) ?_
        | refine useP (by with_reducible assumption) ?_
        | refine ED_cons (fun _ => ?_) ?_
        | (refine stable_mk ?_; simp (disch := first | (with_reducible assumption) | (simp; done) | omega | (simp; omega)); done)
        | (refine stable_no ?_; simp (disch := first | (with_reducible assumption) | (simp; done) | omega | (simp; omega)); done)
        | (with_reducible refine And.intro ?_ ?_)
        | (with_reducible intro hc)
        | (with_reducible refine GDsplit (fun hc => ?_) (fun hc => ?_) <;> try simp [hc])
        | (with_reducible refine GDsplitN (fun hc => ?_) (fun hc => ?_) <;> try simp [hc])
        | (with_reducible refine GDsplitNB (fun hc => ?_) (fun hc => ?_) <;> try simp [hc])
        | (with_reducible refine GDsplitB (fun hc => ?_) (fun hc => ?_) <;> try simp [hc])
        | (with_reducible refine GKsplit (fun hc => ?_) (fun hc => ?_) <;> try simp [hc])
        | (with_reducible refine GKsplitN (fun hc => ?_) (fun hc => ?_) <;> try simp [hc])
        | (with_reducible refine GKsplitNB (fun hc => ?_) (fun hc => ?_) <;> try simp [hc])
        | (with_reducible refine GKsplitB (fun hc => ?_) (fun hc => ?_) <;> try simp [hc])
        | simp (disch := first | (with_reducible assumption) | (simp; done) | omega | (simp; omega)))
      intro c hc
      refine ⟨0, ?_⟩
      repeat' (first
        | refine awp_seqK fun K' hpK => ?_
        | refine awp_block ?_
        | refine awp_condG fun A' B' hpA hpB => ?_
        | refine useK (by with_reducible assumption) ?_
        | refine useP (by with_reducible assumption) ?_
        | refine ED_cons (fun _ => ?_) ?_
        | (refine stable_mk ?_; simp (disch := first | (with_reducible assumption) | (simp; done) | omega | (simp; omega)); done)
        | (refine stable_no ?_; simp (disch := first | (with_reducible assumption) | (simp; done) | omega | (simp; omega)); done)
        | (with_reducible refine And.intro ?_ ?_)
        | (with_reducible intro hc)
        | (with_reducible refine GDsplit (fun hc => ?_) (fun hc => ?_) <;> try simp [hc])
        | (with_reducible refine GDsplitN (fun hc => ?_) (fun hc => ?_) <;> try simp [hc])
        | (with_reducible refine GDsplitNB (fun hc => ?_) (fun hc => ?_) <;> try simp [hc])
        | (with_reducible refine GDsplitB (fun hc => ?_) (fun hc => ?_) <;> try simp [hc])
        | (with_reducible refine GKsplit (fun hc => ?_) (fun hc => ?_) <;> try simp [hc])
        | (with_reducible refine GKsplitN (fun hc => ?_) (fun hc => ?_) <;> try simp [hc])
        | (with_reducible refine GKsplitNB (fun hc => ?_) (fun hc => ?_) <;> try simp [hc])
        | (with_reducible refine GKsplitB (fun hc => ?_) (fun hc => ?_) <;> try simp [hc])
        | simp (disch := first | (with_reducible assumption) | (simp; done) | omega | (simp; omega)))
      refine appM (f := cB) (sz := 1) (l := []) (xs := LL f) hc (ofS_src (by simp)) (cB_scal _) (by simp [LIM]; omega) (fun b' hb' => ?_)
      repeat' (first
        | refine awp_seqK fun K' hpK => ?_
        | refine awp_block ?_
        | refine awp_condG fun A' B' hpA hpB => ?_
        | refine useK (by with_reducible assumption) ?_
        | refine useP (by with_reducible assumption) ?_
        | refine ED_cons (fun _ => ?_) ?_
        | (refine stable_mk ?_; simp (disch := first | (with_reducible assumption) | (simp; done) | omega | (simp; omega)); done)
        | (refine stable_no ?_; simp (disch := first | (with_reducible assumption) | (simp; done) | omega | (simp; omega)); done)
        | (with_reducible refine And.intro ?_ ?_)
        | (with_reducible intro hc)
        | (with_reducible refine GDsplit (fun hc => ?_) (fun hc => ?_) <;> try simp [hc])
        | (with_reducible refine GDsplitN (fun hc => ?_) (fun hc => ?_) <;> try simp [hc])
        | (with_reducible refine GDsplitNB (fun hc => ?_) (fun hc => ?_) <;> try simp [hc])
        | (with_reducible refine GDsplitB (fun hc => ?_) (fun hc => ?_) <;> try simp [hc])
        | (with_reducible refine GKsplit (fun hc => ?_) (fun hc => ?_) <;> try simp [hc])
        | (with_reducible refine GKsplitN (fun hc => ?_) (fun hc => ?_) <;> try simp [hc])
        | (with_reducible refine GKsplitNB (fun hc => ?_) (fun hc => ?_) <;> try simp [hc])
        | (with_reducible refine GKsplitB (fun hc => ?_) (fun hc => ?_) <;> try simp [hc])
        | simp (disch := first | (with_reducible assumption) | (simp; done) | omega | (simp; omega)))
      exact h3 b' 0
  by_cases ha : (40 : Int) < ((LL first).length : Int)
  · repeat' (first
      | refine awp_seqK fun K' hpK => ?_
      | refine awp_block ?_
      | refine awp_condG fun A' B' hpA hpB => ?_
      | refine useK (by with_reducible assumption) ?_
      | refine useP (by with_reducible assumption) ?_
      | refine ED_cons (fun _ => ?_) ?_
      | (refine stable_mk ?_; simp (disch := first | (with_reducible assumption) | (simp; done) | omega | (simp; omega)) [ha, aslc_hi (f := cB)]; done)
      | (refine stable_no ?_; simp (disch := first | (with_reducible assumption) | (simp; done) | omega | (simp; omega)) [ha, aslc_hi (f := cB)]; done)
      | (with_reducible refine And.intro ?_ ?_)
      | (with_reducible intro hc)
      | (with_reducible refine GDsplit (fun hc => ?_) (fun hc => ?_) <;> try simp [hc])
      | (with_reducible refine GDsplitN (fun hc => ?_) (fun hc => ?_) <;> try simp [hc])
      | (with_reducible refine GDsplitNB (fun hc => ?_) (fun hc => ?_) <;> try simp [hc])
      | (with_reducible refine GDsplitB (fun hc => ?_) (fun hc => ?_) <;> try simp [hc])
      | (with_reducible refine GKsplit (fun hc => ?_) (fun hc => ?_) <;> try simp [hc])
      | (with_reducible refine GKsplitN (fun hc => ?_) (fun hc => ?_) <;> try simp [hc])
      | (with_reducible refine GKsplitNB (fun hc => ?_) (fun hc => ?_) <;> try simp [hc])
      | (with_reducible refine GKsplitB (fun hc => ?_) (fun hc => ?_) <;> try simp [hc])
      | simp (disch := first | (with_reducible assumption) | (simp; done) | omega | (simp; omega)) [ha, aslc_hi (f := cB)])
    exact h2 (first.map fun l => l.take 40) _ (by simp; omega) (by simp; intro x hx; exact hF0 x (List.mem_of_mem_take hx)) (.inl rfl)
  · repeat' (first
      | refine awp_seqK fun K' hpK => ?_
      | refine awp_block ?_
      | refine awp_condG fun A' B' hpA hpB => ?_
      | refine useK (by with_reducible assumption) ?_
      | refine useP (by with_reducible assumption) ?_
      | refine ED_cons (fun _ => ?_) ?_
      | (refine stable_mk ?_; simp (disch := first | (with_reducible assumption) | (simp; done) | omega | (simp; omega)) [ha]; done)
      | (refine stable_no ?_; simp (disch := first | (with_reducible assumption) | (simp; done) | omega | (simp; omega)) [ha]; done)
      | (with_reducible refine And.intro ?_ ?_)
      | (with_reducible intro hc)
      | (with_reducible refine GDsplit (fun hc => ?_) (fun hc => ?_) <;> try simp [hc])
      | (with_reducible refine GDsplitN (fun hc => ?_) (fun hc => ?_) <;> try simp [hc])
      | (with_reducible refine GDsplitNB (fun hc => ?_) (fun hc => ?_) <;> try simp [hc])
      | (with_reducible refine GDsplitB (fun hc => ?_) (fun hc => ?_) <;> try simp [hc])
      | (with_reducible refine GKsplit (fun hc => ?_) (fun hc => ?_) <;> try simp [hc])
      | (with_reducible refine GKsplitN (fun hc => ?_) (fun hc => ?_) <;> try simp [hc])
      | (with_reducible refine GKsplitNB (fun hc => ?_) (fun hc => ?_) <;> try simp [hc])
      | (with_reducible refine GKsplitB (fun hc => ?_) (fun hc => ?_) <;> try simp [hc])
      | simp (disch := first | (with_reducible assumption) | (simp; done) | omega | (simp; omega)) [ha])
    exact h2 first _ (by omega) hF0 (.inr rfl)
end Go.Proofs.Ytdpppigniaafnaa
