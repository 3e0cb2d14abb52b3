import Derived.Test.YtmomphnkngbgjaaC4K
import Derived.WalkKit
import Derived.Test.YtmomphnkngbgjaaAl2
import Derived.Test.YtmomphnkngbgjaaAl1
set_option linter.unusedSimpArgs false
set_option linter.unusedVariables false
namespace Go.Proofs.Ytmomphnkngbgjaa
open Go Go.Al
set_option maxRecDepth 1000000

def chOk (i c : Nat) : Bool := decide (97 ≤ c ∧ c ≤ 122 ∨ i ≠ 0 ∧ 48 ≤ c ∧ c ≤ 57)
def nameB (s : ByteArray) : Bool := decide ((1 ≤ s.size ∧ s.size ≤ 8) ∧ ∀ i (h : i < s.size), chOk i (s[i]'h).toNat = true)
theorem chF {i c : Nat} (h : ¬ (97 ≤ c ∧ c ≤ 122)) (h2 : i = 0 ∨ c < 48 ∨ 57 < c) : chOk i c = false := by
  unfold chOk; rw [decide_eq_false_iff_not]; omega
theorem chT {i c : Nat} (h : 97 ≤ c ∧ c ≤ 122 ∨ i ≠ 0 ∧ 48 ≤ c ∧ c ≤ 57) : chOk i c = true := by
  unfold chOk; rw [decide_eq_true_iff]; exact h
theorem nameT {s : ByteArray} (h : (1 ≤ s.size ∧ s.size ≤ 8) ∧ ∀ i (h : i < s.size), chOk i (s[i]'h).toNat = true) : nameB s = true := decide_eq_true h
theorem nameF {s : ByteArray} (h : ¬ ((1 ≤ s.size ∧ s.size ≤ 8) ∧ ∀ i (h : i < s.size), chOk i (s[i]'h).toNat = true)) : nameB s = false := decide_eq_false h
theorem nameC {s : ByteArray} {i : Nat} (h : i < s.size) (hc : chOk i (s[i]'h).toNat = false) : nameB s = false := nameF fun k => by rw [k.2 i h] at hc; cases hc
theorem name_w (s : ByteArray) (hs : s.size ≤ LIM) (w : World) :
    Calls Try.prog 47 #[.string s] w fun e w' => e = .returned (.bool (nameB s)) ∧ ∃ pos, w' = w.iter s pos := by
  go_enter Try.func47, Try.ntmps47
  go_wp2
  go_loopw [] (fun w' => ∃ (pos : Nat), w' = w.iter s pos ∧ (∀ i (h : i < s.size), i < pos → chOk i (s[i]'h).toNat = true)) (fun w' => s.size - w'.iterPos w.heap.size)
  case atStart => exact ⟨0, rfl, fun i h hi => absurd hi (by omega)⟩
  case round =>
    obtain ⟨pos, rfl, hc⟩ := hrel
    by_cases hp : pos < s.size
    · by_cases ha : (s[pos]'hp).toNat < 128
      · have hnx : ∀ ty, (Instr.next (.pointer (some ⟨w.heap.size, 0, none⟩)) true ty).run Try.prog (w.iter s pos) = _ := fun ty => run_next_ascii w s pos ty hp ha
        by_cases b1 : 97 ≤ (s[pos]'hp).toNat ∧ (s[pos]'hp).toNat ≤ 122
        · have hok : chOk pos (s[pos]'hp).toNat = true := chT (by omega)
          have a1 : (97 : Int) ≤ ((s[pos]'hp).toNat : Int) := by omega
          have a2 : ((s[pos]'hp).toNat : Int) ≤ 122 := by omega
          go_wp2
          go_roundw
          case rel =>
            refine ⟨pos + 1, rfl, fun i h hi => ?_⟩
            by_cases hip : i < pos
            · exact hc i h hip
            · have : i = pos := by omega
              subst this
              exact hok
          case measure => rw [World.iterPos_iter, World.iterPos_iter]; omega
        by_cases b2 : pos ≠ 0 ∧ 48 ≤ (s[pos]'hp).toNat ∧ (s[pos]'hp).toNat ≤ 57
        · have hok : chOk pos (s[pos]'hp).toNat = true := chT (by omega)
          have a1 : ¬ (97 : Int) ≤ ((s[pos]'hp).toNat : Int) := by omega
          have a3 : ¬ (pos : Int) = 0 := by omega
          have a3' : ((pos : Int) == 0) = false := by simp; omega
          have a4 : ¬ ((s[pos]'hp).toNat : Int) < 48 := by omega
          have a5 : ¬ (57 : Int) < ((s[pos]'hp).toNat : Int) := by omega
          go_wp2
          go_roundw
          case rel =>
            refine ⟨pos + 1, rfl, fun i h hi => ?_⟩
            by_cases hip : i < pos
            · exact hc i h hip
            · have : i = pos := by omega
              subst this
              exact hok
          case measure => rw [World.iterPos_iter, World.iterPos_iter]; omega
        · have hno : nameB s = false := nameC hp (chF (by omega) (by omega))
          clear hc
          by_cases a1 : (97 : Int) ≤ ((s[pos]'hp).toNat : Int)
          · have a2 : ¬ ((s[pos]'hp).toNat : Int) ≤ 122 := by omega
            have a5 : (57 : Int) < ((s[pos]'hp).toNat : Int) := by omega
            go_wp2
            all_goals (
              go_ret
              exact ⟨rfl, _, rfl⟩)
          · by_cases a4 : ((s[pos]'hp).toNat : Int) < 48
            · go_wp2
              all_goals (
                go_ret
                exact ⟨rfl, _, rfl⟩)
            · by_cases a5 : (57 : Int) < ((s[pos]'hp).toNat : Int)
              · go_wp2
                all_goals (
                  go_ret
                  exact ⟨rfl, _, rfl⟩)
              · have p0 : pos = 0 := by omega
                subst p0
                go_wp2
                all_goals (
                  go_ret
                  exact ⟨rfl, _, rfl⟩)
      · have hnx : ∀ ty, (Instr.next (.pointer (some ⟨w.heap.size, 0, none⟩)) true ty).run Try.prog (w.iter s pos) = _ := fun ty => run_next_any w s pos ty hp
        obtain ⟨hd1, hd2⟩ := decode_high s pos hp (by omega)
        have hd3 := decode_le s pos
        have hno : nameB s = false := nameC hp (chF (by omega) (by omega))
        have a1 : (97 : Int) ≤ ((Utf8.decode s pos).1 : Int) := by omega
        have a2 : ¬ ((Utf8.decode s pos).1 : Int) ≤ 122 := by omega
        have a5 : (57 : Int) < ((Utf8.decode s pos).1 : Int) := by omega
        clear hc
        go_wp2
        all_goals (
          go_ret
          exact ⟨rfl, _, rfl⟩)
    · have hnx : ∀ ty, (Instr.next (.pointer (some ⟨w.heap.size, 0, none⟩)) true ty).run Try.prog (w.iter s pos) = _ := fun ty => run_next_end w s pos ty hp
      by_cases h8 : (s.size : Int) ≤ 8
      all_goals (
        go_wp2
        all_goals (
          go_ret
          first
            | (rw [nameF (fun k => by omega)]; exact ⟨rfl, _, rfl⟩)
            | (rw [nameT ⟨by omega, fun i h => hc i h (by omega)⟩]; exact ⟨rfl, _, rfl⟩)
            | exact ⟨by simp [h8, nameF (s := s) (fun k => by omega)], _, rfl⟩))
theorem name_c {s : ByteArray} (G : Hp) : ACalls Try.prog 47 [.str s] G fun r G' => G' = G ∧ r = .bool (nameB s) := acalls_iter (fun w hs => name_w s hs w) G
/-- what is bound -/
structure Bd where
  mac : Int
  ip : Int
  sw : Int
  port : Int
  host : ByteArray
  user : ByteArray
  u : Int
  deriving DecidableEq
end Go.Proofs.Ytmomphnkngbgjaa
