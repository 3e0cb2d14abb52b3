import Derived.Test.YtmomphnkngbgjaaD23K
set_option linter.unusedSimpArgs false
set_option linter.unusedVariables false
namespace Go.Proofs.Ytmomphnkngbgjaa
open Go Go.Al
set_option maxRecDepth 20000

/-- what the table's laws keep -/
structure JB (L : List (Int × Bd)) : Prop where
  s : Srt L
  k : KM L
theorem JB.filter {L : List (Int × Bd)} (h : JB L) (p : Int × Bd → Bool) : JB (L.filter p) := ⟨List.Pairwise.filter _ h.s, h.k.filter p⟩
theorem JB.put {L : List (Int × Bd)} (h : JB L) (b : Bd) : JB (putB L b) := by
  unfold putB; split
  · have := h.filter (fun x => !clashB b x.2)
    exact ⟨this.s.set _ _, this.k.set rfl⟩
  · exact h
theorem JB.setU {L : List (Int × Bd)} (h : JB L) {m : Int} {x : Bd} {s : ByteArray} (hg : getL L m = some x) : JB (setL L m { x with user := s }) := by
  have hm := h.k _ (getL_mem hg)
  exact ⟨h.s.set _ _, h.k.set hm⟩
theorem JB.login {L : List (Int × Bd)} (h : JB L) (m : Int) (s : ByteArray) : JB (loginB L m s).1 := by
  unfold loginB; split
  · cases hg : getL L m with
    | none => exact h
    | some x => exact h.setU hg
  · exact h
theorem JB.logout {L : List (Int × Bd)} (h : JB L) (m : Int) : JB (logoutB L m).1 := by
  unfold logoutB
  cases hg : getL L m with
  | none => exact h
  | some x => simp only; split; exact h; exact h.setU hg
theorem JB.forget {L : List (Int × Bd)} (h : JB L) (s : ByteArray) : JB (forgetB L s) := by
  unfold forgetB
  have h0 := h.filter (fun x => !goneF s x.2)
  generalize (L.filter fun x => !goneF s x.2) = M at h0
  generalize (L.map Prod.snd).filter (matchF s) = l
  induction l generalizing M with
  | nil => exact h0
  | cons y r ih =>
    rw [List.foldl_cons]
    apply ih
    unfold outF; split
    · exact h0
    · exact h0.logout _
end Go.Proofs.Ytmomphnkngbgjaa
