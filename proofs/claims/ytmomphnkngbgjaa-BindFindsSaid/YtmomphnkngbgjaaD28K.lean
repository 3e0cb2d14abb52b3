import Derived.Test.YtmomphnkngbgjaaD27K
set_option linter.unusedSimpArgs false
set_option linter.unusedVariables false
namespace Go.Proofs.Ytmomphnkngbgjaa
open Go Go.Al
set_option maxRecDepth 20000

theorem snd_clr (M : List (Int × Bd)) (s : ByteArray) : (M.map (clrP s)).map Prod.snd = (M.map Prod.snd).map (clrF s) := by
  rw [List.map_map, List.map_map]; rfl
theorem forget_map {L : List (Int × Bd)} (h : JB L) (s : ByteArray) : (forgetB L s).map Prod.snd = restF s (L.map Prod.snd) := by
  unfold restF
  rw [← filter_snd L (fun x => !goneF s x), ← snd_clr]
  congr 1
  have h0 := h.filter (fun x => !goneF s x.2)
  refine Srt.ext (h.forget s).s (srt_clr h0.s s) fun k => ?_
  rw [getL_clr]
  unfold forgetB
  rw [fold_out h0]
  cases hg : getL (L.filter fun x => !goneF s x.2) k with
  | none => split <;> rfl
  | some x =>
    have hm := getL_mem hg
    have hmL := (List.mem_filter.1 hm).1
    have hgn := (List.mem_filter.1 hm).2
    have hxk : k = x.mac := h.k _ hmL
    by_cases hu : x.user = s
    · have hc : clrF s x = clrA x := if_pos hu
      show _ = some (clrF s x)
      rw [hc]
      by_cases n0 : s = ByteArray.empty
      · have : clrA x = x := by unfold clrA; cases x; simp at hu; simp [hu, n0]
        show (if _ then some (clrA x) else some x) = _; rw [this]; split <;> rfl
      · have hho : x.host ≠ s := by
          intro e
          have : goneF s x = true := decide_eq_true ⟨n0, e⟩
          simp [this] at hgn
        have ho : outM s ((L.map Prod.snd).filter (matchF s)) k = true := by
          unfold outM
          rw [List.any_eq_true]
          exact ⟨x, List.mem_filter.2 ⟨List.mem_map.2 ⟨_, hmL, rfl⟩, decide_eq_true ⟨n0, .inr hu⟩⟩, decide_eq_true ⟨hho, hxk.symm⟩⟩
        rw [if_pos ho]; rfl
    · have hc : clrF s x = x := if_neg hu
      show _ = some (clrF s x)
      rw [hc]
      have ho : ¬ outM s ((L.map Prod.snd).filter (matchF s)) k = true := by
        unfold outM
        rw [List.any_eq_true]
        rintro ⟨y, hy, hyk⟩
        obtain ⟨hy1, hy2⟩ := of_decide_eq_true hyk
        obtain ⟨hyL, hym⟩ := List.mem_filter.1 hy
        obtain ⟨q, hq, rfl⟩ := List.mem_map.1 hyL
        have h1 := h.k q hq
        have g1 := mem_getL h.s (k := q.1) (v := q.2) hq
        have g2 := mem_getL h.s hmL
        rw [show q.1 = k by omega, g2] at g1
        injection g1 with g1
        rw [← g1] at hym hy1
        exact (of_decide_eq_true hym).2.elim hy1 hu
      rw [if_neg ho]
end Go.Proofs.Ytmomphnkngbgjaa
