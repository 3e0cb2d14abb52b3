import Derived.Test.YtmomphnkngbgjaaD34K
set_option linter.unusedSimpArgs false
set_option linter.unusedVariables false
namespace Go.Proofs.Ytmomphnkngbgjaa
open Go Go.Al
set_option maxRecDepth 20000

def goodN (b : Bd) : Prop := nameB b.host = true ∧ (b.user = ByteArray.empty ∨ nameB b.user = true)
/-- all that the calls keep -/
structure JC (L : List (Int × Bd)) : Prop where
  j : JB L
  d : ∀ x ∈ L, ∀ y ∈ L, x.2.ip = y.2.ip ∨ (x.2.sw = y.2.sw ∧ x.2.port = y.2.port) → x.1 = y.1
  g : ∀ x ∈ L, goodN x.2
theorem JC.nil : JC [] := ⟨⟨Srt.nil, fun x hx => by cases hx⟩, fun x hx => (by cases hx), fun x hx => (by cases hx)⟩
theorem JC.filter {L : List (Int × Bd)} (h : JC L) (p : Int × Bd → Bool) : JC (L.filter p) :=
  ⟨h.j.filter p, fun x hx y hy => h.d x (List.mem_filter.1 hx).1 y (List.mem_filter.1 hy).1, fun x hx => h.g x (List.mem_filter.1 hx).1⟩
theorem JC.put {L : List (Int × Bd)} (h : JC L) (b : Bd) : JC (putB L b) := by
  refine ⟨h.j.put b, ?_, ?_⟩
  · unfold putB
    split
    · have hne : ∀ x ∈ L.filter (fun x => !clashB b x.2), ¬ (x.2.ip = b.ip ∨ (x.2.sw = b.sw ∧ x.2.port = b.port)) := by
        intro x hx
        have h1 := (List.mem_filter.1 hx).2
        have h2 : clashB b x.2 = false := by simpa using h1
        have h3 := of_decide_eq_false h2
        intro h4; exact h3 (.inr h4)
      intro x hx y hy hxy
      rcases setL_mem hx with rfl | hx
      · rcases setL_mem hy with rfl | hy
        · rfl
        · refine absurd ?_ (hne y hy)
          rcases hxy with e | ⟨e1, e2⟩
          · exact .inl e.symm
          · exact .inr ⟨e1.symm, e2.symm⟩
      · rcases setL_mem hy with rfl | hy
        · exact absurd hxy (hne x hx)
        · exact h.d x (List.mem_filter.1 hx).1 y (List.mem_filter.1 hy).1 hxy
    · exact h.d
  · unfold putB
    split
    · rename_i hm
      intro x hx
      rcases setL_mem hx with rfl | hx
      · unfold mayB at hm
        simp only [Bool.and_eq_true, Bool.or_eq_true, decide_eq_true_eq] at hm
        exact ⟨hm.1.2, hm.2⟩
      · exact h.g x (List.mem_filter.1 hx).1
    · exact h.g
theorem JC.setU {L : List (Int × Bd)} (h : JC L) {m : Int} {x : Bd} {s : ByteArray} (hg : getL L m = some x) (hs : s = ByteArray.empty ∨ nameB s = true) : JC (setL L m { x with user := s }) := by
  have hm := getL_mem hg
  refine ⟨h.j.setU hg, ?_, ?_⟩
  · intro a ha c hc hac
    rcases setL_mem ha with rfl | ha
    · rcases setL_mem hc with rfl | hc
      · rfl
      · exact h.d (m, x) hm c hc hac
    · rcases setL_mem hc with rfl | hc
      · exact h.d a ha (m, x) hm hac
      · exact h.d a ha c hc hac
  · intro a ha
    rcases setL_mem ha with rfl | ha
    · exact ⟨(h.g _ hm).1, hs⟩
    · exact h.g a ha
theorem JC.login {L : List (Int × Bd)} (h : JC L) (m : Int) (s : ByteArray) : JC (loginB L m s).1 := by
  unfold loginB; split
  · rename_i hn
    cases hg : getL L m with
    | none => exact h
    | some x => exact h.setU hg (.inr hn)
  · exact h
theorem JC.logout {L : List (Int × Bd)} (h : JC L) (m : Int) : JC (logoutB L m).1 := by
  unfold logoutB
  cases hg : getL L m with
  | none => exact h
  | some x => simp only; split; exact h; exact h.setU hg (.inl rfl)
theorem JC.forget {L : List (Int × Bd)} (h : JC L) (s : ByteArray) : JC (forgetB L s) := by
  unfold forgetB
  have h0 := h.filter (fun x => !goneF s x.2)
  generalize (L.filter fun x => !goneF s x.2) = M at h0
  generalize (L.map Prod.snd).filter (matchF s) = l
  induction l generalizing M with
  | nil => exact h0
  | cons y r ih =>
    rw [List.foldl_cons]
    apply ih
    unfold outF; split
    · exact h0
    · exact h0.logout _
theorem JC.step {L : List (Int × Bd)} (h : JC L) (kd : Int) (b : Bd) (sw port : Int) (nm : ByteArray) (n : Int) : JC (stepL kd b sw port nm n L) := by
  unfold stepL
  split
  · exact h.put b
  split
  · exact h.login _ _
  split
  · exact h.logout _
  split
  · exact h.filter _
  split
  · exact h.forget _
  split
  · exact h.filter _
  · exact h
theorem putB_len {L : List (Int × Bd)} (h : JB L) (b : Bd) : (putB L b).length ≤ L.length + 1 := by
  unfold putB; split
  · have h1 := setL_len_le (h.filter (fun x => !clashB b x.2)).s b.mac b
    have h2 := List.length_filter_le (fun x : Int × Bd => !clashB b x.2) L
    omega
  · omega
theorem setU_len {L : List (Int × Bd)} (hS : Srt L) {m : Int} {x y : Bd} (hg : getL L m = some x) : (setL L m y).length = L.length := by
  rw [setL_len hS, if_pos (by rw [hasL_get, hg]; rfl)]
theorem stepL_len {L : List (Int × Bd)} (h : JB L) (kd : Int) (b : Bd) (sw port : Int) (nm : ByteArray) (n : Int) : (stepL kd b sw port nm n L).length ≤ L.length + 1 := by
  unfold stepL
  split
  · exact putB_len h b
  split
  · unfold loginB; split
    · cases hg : getL L b.mac with
      | none => exact Nat.le_succ _
      | some x => simp only; rw [setU_len h.s hg]; omega
    · exact Nat.le_succ _
  split
  · rw [(logoutB_len h.s _).1]; omega
  split
  · exact Nat.le_succ_of_le (List.length_filter_le _ _)
  split
  · unfold forgetB
    rw [(foldF_len (h.filter _).s _ _).1]; exact Nat.le_succ_of_le (List.length_filter_le _ _)
  split
  · exact Nat.le_succ_of_le (List.length_filter_le _ _)
  · omega
abbrev BT := Int × Int × (Int × Int × Unit) × ByteArray × ByteArray × Int × Unit
abbrev CT := Int × BT × (Int × Int × Unit) × ByteArray × Int × Unit
def bdT (x : BT) : Bd := ⟨x.1, x.2.1, x.2.2.1.1, x.2.2.1.2.1, x.2.2.2.1, x.2.2.2.2.1, x.2.2.2.2.2.1⟩
def cC (x : CT) : List AV := [.int .i64 x.1, .int .u64 x.2.1.1, .int .u32 x.2.1.2.1, .int .i64 x.2.1.2.2.1.1, .int .i64 x.2.1.2.2.1.2.1, .str x.2.1.2.2.2.1, .str x.2.1.2.2.2.2.1, .int .i64 x.2.1.2.2.2.2.2.1, .int .i64 x.2.2.1.1, .int .i64 x.2.2.1.2.1, .str x.2.2.2.1, .int .i64 x.2.2.2.2.1]
@[simp] theorem cC_len (x : CT) : (cC x).length = 12 := by simp [cC]
end Go.Proofs.Ytmomphnkngbgjaa
