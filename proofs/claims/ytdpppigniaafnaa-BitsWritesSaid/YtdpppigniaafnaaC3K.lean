import Derived.Test.YtdpppigniaafnaaC0K
set_option linter.unusedVariables false
set_option linter.unusedSimpArgs false
set_option maxRecDepth 100000
namespace Go.Proofs.Ytdpppigniaafnaa
open Go Go.Al

/- 27 ostiary/ostiaryref01.Done -/
@[simp] noncomputable def F27_r0 : CC := .reg [⟨some 2, none, (.assign (.const (.slice none 0 0)))⟩] [0]
@[simp] noncomputable def F27_r1 : CC := .reg [⟨some 3, none, (.assign (.const (.slice none 0 0)))⟩] [0, 3]
@[simp] noncomputable def F27_r2 : CC := .reg [⟨some 4, none, (.assign (.const (.int .i64 0)))⟩] [0, 3, 4]
@[simp] noncomputable def F27_r3 : CC := .reg [⟨some 7, none, (.move (.tmp 4))⟩,
  ⟨some 8, none, (.move (.tmp 0))⟩,
  ⟨some 9, none, (.call { callee := (.builtin .len), args := #[(.tmp 8)], argTypes := #[22] })⟩,
  ⟨some 10, none, (.binOp .lss 3 (.tmp 7) (.tmp 9) 3)⟩] [0, 3, 4, 10]
@[simp] noncomputable def F27_r5 : CC := .reg [⟨some 5, none, (.assign (.const (.int .i64 0)))⟩] [0, 3, 4, 5]
@[simp] noncomputable def F27_r6 : CC := .reg [⟨some 6, none, (.assign (.const (.int .i64 0)))⟩] [0, 3, 4, 5, 6]
@[simp] noncomputable def F27_r7 : CC := .reg [⟨some 13, none, (.move (.tmp 6))⟩,
  ⟨some 14, none, (.binOp .lss 3 (.tmp 13) (.const (.int .i64 8)) 3)⟩] [0, 3, 4, 5, 6, 14]
@[simp] noncomputable def F27_r9 : CC := .reg [⟨some 17, none, (.move (.tmp 5))⟩,
  ⟨some 18, none, (.binOp .mul 3 (.const (.int .i64 2)) (.tmp 17) 3)⟩,
  ⟨some 5, none, (.assign (.tmp 18))⟩] [0, 3, 4, 5, 6]
@[simp] noncomputable def F27_r10 : CC := .reg [⟨some 19, none, (.move (.tmp 4))⟩,
  ⟨some 20, none, (.move (.tmp 6))⟩,
  ⟨some 21, none, (.binOp .add 3 (.tmp 19) (.tmp 20) 3)⟩,
  ⟨some 22, none, (.move (.tmp 0))⟩,
  ⟨some 23, none, (.call { callee := (.builtin .len), args := #[(.tmp 22)], argTypes := #[22] })⟩,
  ⟨some 24, none, (.binOp .lss 3 (.tmp 21) (.tmp 23) 3)⟩] [0, 3, 4, 5, 6, 24]
@[simp] noncomputable def F27_r11 : CC := .reg [⟨some 25, none, (.move (.tmp 5))⟩,
  ⟨some 26, none, (.move (.tmp 0))⟩,
  ⟨some 27, none, (.move (.tmp 4))⟩,
  ⟨some 28, none, (.move (.tmp 6))⟩,
  ⟨some 29, none, (.binOp .add 3 (.tmp 27) (.tmp 28) 3)⟩,
  ⟨some 30, none, (.indexAddr 22 (.tmp 26) (.tmp 29))⟩,
  ⟨some 31, none, (.load 3 (.tmp 30))⟩,
  ⟨some 32, none, (.binOp .add 3 (.tmp 25) (.tmp 31) 3)⟩,
  ⟨some 5, none, (.assign (.tmp 32))⟩] [0, 3, 4, 5, 6]
@[simp] noncomputable def F27_r8 : CC := .reg [⟨some 15, none, (.move (.tmp 6))⟩,
  ⟨some 16, none, (.binOp .add 3 (.tmp 15) (.const (.int .i64 1)) 3)⟩,
  ⟨some 6, none, (.assign (.tmp 16))⟩] [0, 3, 4, 5, 6]
noncomputable def F27_l0 : CC := (.seq (.seq F27_r7 (.cond (.tmp 14) .skip (.exit 2))) (.seq (.block 3 (.seq F27_r9 (.seq F27_r10 (.cond (.tmp 24) F27_r11 .skip)))) F27_r8))
@[simp] noncomputable def F27_r12 : CC := .reg [⟨some 33, none, (.move (.tmp 3))⟩,
  ⟨some 34, none, (.move (.tmp 5))⟩,
  ⟨some 35, none, (.convert 3 5 (.tmp 34))⟩,
  ⟨some 36, none, (.buildSlice 32 1 #[(0, (.tmp 35))])⟩,
  ⟨some 37, none, (.call { callee := (.builtin .append), args := #[(.tmp 33), (.tmp 36)], argTypes := #[32, 32] })⟩,
  ⟨some 3, none, (.assign (.tmp 37))⟩] [0, 3, 4]
@[simp] noncomputable def F27_r4 : CC := .reg [⟨some 11, none, (.move (.tmp 4))⟩,
  ⟨some 12, none, (.binOp .add 3 (.tmp 11) (.const (.int .i64 8)) 3)⟩,
  ⟨some 4, none, (.assign (.tmp 12))⟩] [0, 3, 4]
noncomputable def F27_l1 : CC := (.seq (.seq F27_r3 (.cond (.tmp 10) .skip (.exit 0))) (.seq (.block 1 (.seq F27_r5 (.seq (.seq F27_r6 (.block 2 (.loop F27_l0))) F27_r12))) F27_r4))
@[simp] noncomputable def F27_r13 : CC := .reg [⟨some 38, none, (.move (.tmp 3))⟩,
  ⟨some 2, none, (.assign (.tmp 38))⟩] [2]
noncomputable def F27 : CC := (.seq F27_r0 (.seq F27_r1 (.seq (.seq F27_r2 (.block 0 (.loop F27_l1))) (.seq F27_r13 .ret))))
noncomputable def F27_inf : Nat → RI
  | 0 => ⟨[0], [], []⟩
  | 1 => ⟨[0, 3], [], []⟩
  | 2 => ⟨[0, 3, 4], [], []⟩
  | 3 => ⟨[0, 3, 4, 10], [], []⟩
  | 5 => ⟨[0, 3, 4, 5], [], []⟩
  | 6 => ⟨[0, 3, 4, 5, 6], [], []⟩
  | 7 => ⟨[0, 3, 4, 5, 6, 14], [], []⟩
  | 9 => ⟨[0, 3, 4, 5, 6], [], []⟩
  | 10 => ⟨[0, 3, 4, 5, 6, 24], [], []⟩
  | 11 => ⟨[0, 3, 4, 5, 6], [], []⟩
  | 8 => ⟨[0, 3, 4, 5, 6], [], []⟩
  | 12 => ⟨[0, 3, 4], [], []⟩
  | 4 => ⟨[0, 3, 4], [], []⟩
  | 13 => ⟨[2], [], []⟩
  | _ => ⟨[], [], []⟩
noncomputable def F27_c : Code := Try.f27.body.getD .skip
theorem F27_b : Try.f27.body = some F27_c := by kernel_rfl
theorem F27_rs : Try.f27.results.toList = ([.tmp 2] : List ResultVar) := by kernel_rfl
theorem F27_n : Try.f27.ntmps = 39 := by kernel_rfl
theorem F27_ok : toCC [] 39 F27_inf F27_c = some F27 := by kernel_rfl
theorem F27_in {args : List AV} {G : Hp} {post : AV → Hp → Prop} (ha : args.all AV.plain = true) (hn : args.length ≤ 39) (h : BDs args → awp Try.prog [] F27 (AEnds Try.prog [.tmp 2] post) (initT args) G) : ACalls Try.prog 27 args G post :=
  acalls_cc Try.func27 F27_b F27_rs F27_n F27_ok mixed ha hn h

/- 28 (*ostiary/bits.In).Rest -/
@[simp] noncomputable def F28_r0 : CC := .reg [⟨some 2, none, (.assign (.const (.slice none 0 0)))⟩] [0]
@[simp] noncomputable def F28_r1 : CC := .reg [⟨some 3, none, (.move (.tmp 0))⟩,
  ⟨some 4, none, (.move (.tmp 0))⟩,
  ⟨some 5, none, (.call { callee := (.value (.func 18)), args := #[(.tmp 4)], argTypes := #[30] })⟩,
  ⟨some 6, none, (.binOp .quo 3 (.tmp 5) (.const (.int .i64 8)) 3)⟩,
  ⟨some 7, none, (.call { callee := (.value (.func 26)), args := #[(.tmp 3), (.tmp 6)], argTypes := #[30, 3] })⟩,
  ⟨some 2, none, (.assign (.tmp 7))⟩] [2]
noncomputable def F28 : CC := (.seq F28_r0 (.seq F28_r1 .ret))
noncomputable def F28_inf : Nat → RI
  | 0 => ⟨[0], [], []⟩
  | 1 => ⟨[2], [], []⟩
  | _ => ⟨[], [], []⟩
noncomputable def F28_c : Code := Try.f28.body.getD .skip
theorem F28_b : Try.f28.body = some F28_c := by kernel_rfl
theorem F28_rs : Try.f28.results.toList = ([.tmp 2] : List ResultVar) := by kernel_rfl
theorem F28_n : Try.f28.ntmps = 8 := by kernel_rfl
theorem F28_ok : toCC [] 8 F28_inf F28_c = some F28 := by kernel_rfl
theorem F28_in {args : List AV} {G : Hp} {post : AV → Hp → Prop} (ha : args.all AV.plain = true) (hn : args.length ≤ 8) (h : BDs args → awp Try.prog [] F28 (AEnds Try.prog [.tmp 2] post) (initT args) G) : ACalls Try.prog 28 args G post :=
  acalls_cc Try.func28 F28_b F28_rs F28_n F28_ok mixed ha hn h

/- 29 ostiary/ostiarylaw01.step -/
@[simp] noncomputable def F29_r0 : CC := .reg [⟨some 5, none, (.box 59 (.tmp 2))⟩,
  ⟨some 6, none, (.assign (.const (.slice none 0 0)))⟩,
  ⟨some 7, none, (.assign (.const (.bool false)))⟩] [0, 1, 5]
@[simp] noncomputable def F29_r1 : CC := .reg [⟨some 16, none, (.fieldAddr 59 (.tmp 5) 3)⟩,
  ⟨some 17, none, (.load 23 (.tmp 16))⟩,
  ⟨some 18, none, (.call { callee := (.builtin .len), args := #[(.tmp 17)], argTypes := #[23] })⟩,
  ⟨some 19, none, (.binOp .gtr 3 (.tmp 18) (.const (.int .i64 5)) 3)⟩] [0, 1, 5, 19]
@[simp] noncomputable def F29_r2 : CC := .reg [⟨some 20, none, (.fieldAddr 59 (.tmp 5) 3)⟩,
  ⟨some 21, none, (.load 23 (.tmp 20))⟩,
  ⟨some 22, none, (.slice 23 (.tmp 21) none (some (.const (.int .i64 5))) none)⟩,
  ⟨some 23, none, (.fieldAddr 59 (.tmp 5) 3)⟩,
  ⟨none, none, (.store 23 (.tmp 23) (.tmp 22))⟩] [0, 1, 5]
@[simp] noncomputable def F29_r3 : CC := .reg [⟨some 24, none, (.fieldAddr 59 (.tmp 5) 4)⟩,
  ⟨some 25, none, (.load 32 (.tmp 24))⟩,
  ⟨some 26, none, (.call { callee := (.builtin .len), args := #[(.tmp 25)], argTypes := #[32] })⟩,
  ⟨some 27, none, (.binOp .gtr 3 (.tmp 26) (.const (.int .i64 20)) 3)⟩] [0, 1, 5, 27]
@[simp] noncomputable def F29_r4 : CC := .reg [⟨some 28, none, (.fieldAddr 59 (.tmp 5) 4)⟩,
  ⟨some 29, none, (.load 32 (.tmp 28))⟩,
  ⟨some 30, none, (.slice 32 (.tmp 29) none (some (.const (.int .i64 20))) none)⟩,
  ⟨some 31, none, (.fieldAddr 59 (.tmp 5) 4)⟩,
  ⟨none, none, (.store 32 (.tmp 31) (.tmp 30))⟩] [0, 1, 5]
@[simp] noncomputable def F29_r5 : CC := .reg [⟨some 32, none, (.fieldAddr 59 (.tmp 5) 0)⟩,
  ⟨some 33, none, (.load 3 (.tmp 32))⟩] [0, 1, 5, 33]
@[simp] noncomputable def F29_r6 : CC := .reg [⟨some 35, none, (.binOp .eql 3 (.tmp 33) (.const (.int .i64 0)) 3)⟩,
  ⟨some 34, none, (.assign (.tmp 35))⟩] [0, 1, 5, 33, 34]
@[simp] noncomputable def F29_r7 : CC := .reg [⟨some 36, none, (.move (.tmp 0))⟩,
  ⟨some 37, none, (.fieldAddr 59 (.tmp 5) 1)⟩,
  ⟨some 38, none, (.load 3 (.tmp 37))⟩,
  ⟨some 39, none, (.fieldAddr 59 (.tmp 5) 3)⟩,
  ⟨some 40, none, (.load 23 (.tmp 39))⟩,
  ⟨some 41, none, (.call { callee := (.value (.func 11)), args := #[(.tmp 36), (.tmp 38), (.tmp 40)], argTypes := #[24, 3, 23] })⟩,
  ⟨some 8, none, (.assign (.tmp 41))⟩] [1, 5, 8]
@[simp] noncomputable def F29_r8 : CC := .reg [⟨some 42, none, (.fieldAddr 59 (.tmp 5) 1)⟩,
  ⟨some 43, none, (.load 3 (.tmp 42))⟩,
  ⟨some 44, none, (.call { callee := (.value (.func 10)), args := #[(.tmp 43)], argTypes := #[3] })⟩,
  ⟨some 45, none, (.unOp .not 4 (.tmp 44))⟩] [1, 5, 8, 45]
@[simp] noncomputable def F29_r9 : CC := .reg [⟨some 46, none, (.move (.tmp 1))⟩,
  ⟨some 47, none, (.move (.tmp 8))⟩,
  ⟨some 48, none, (.binOp .eql 27 (.tmp 47) (.const (.int .i64 1)) 27)⟩,
  ⟨some 6, none, (.assign (.tmp 46))⟩,
  ⟨some 7, none, (.assign (.tmp 48))⟩] [6, 7]
@[simp] noncomputable def F29_r10 : CC := .reg [⟨some 49, none, (.fieldAddr 59 (.tmp 5) 3)⟩,
  ⟨some 50, none, (.load 23 (.tmp 49))⟩,
  ⟨some 51, none, (.call { callee := (.builtin .len), args := #[(.tmp 50)], argTypes := #[23] })⟩,
  ⟨some 52, none, (.move (.const (.int .i64 0)))⟩] [1, 5, 8, 50, 51, 52]
@[simp] noncomputable def F29_r11 : CC := .reg [⟨some 53, none, (.binOp .lss 3 (.tmp 52) (.tmp 51) 3)⟩] [1, 5, 8, 50, 51, 52, 53]
@[simp] noncomputable def F29_r12 : CC := .reg [⟨some 54, none, (.indexAddr 23 (.tmp 50) (.tmp 52))⟩,
  ⟨some 55, none, (.load 29 (.tmp 54))⟩,
  ⟨some 10, none, (.assign (.tmp 55))⟩] [1, 5, 8, 10, 50, 51, 52]
@[simp] noncomputable def F29_r13 : CC := .reg [⟨some 57, none, (.move (.tmp 1))⟩,
  ⟨some 58, none, (.fieldAddr 59 (.tmp 5) 1)⟩,
  ⟨some 59, none, (.load 3 (.tmp 58))⟩,
  ⟨some 60, none, (.move (.tmp 10))⟩,
  ⟨some 61, none, (.call { callee := (.value (.func 16)), args := #[(.tmp 59), (.tmp 60)], argTypes := #[3, 29] })⟩,
  ⟨some 62, none, (.call { callee := (.value (.func 36)), args := #[(.tmp 57), (.tmp 61)], argTypes := #[22, 22] })⟩,
  ⟨some 56, none, (.move (.tmp 62))⟩,
  ⟨some 63, none, (.extract (.tmp 56) 0)⟩,
  ⟨some 64, none, (.extract (.tmp 56) 1)⟩,
  ⟨some 1, none, (.assign (.tmp 63))⟩] [1, 5, 8, 50, 51, 52]
@[simp] noncomputable def F29_r14 : CC := .reg [⟨some 65, none, (.binOp .add 3 (.tmp 52) (.const (.int .i64 1)) 3)⟩,
  ⟨some 52, none, (.move (.tmp 65))⟩] [1, 5, 8, 50, 51, 52]
noncomputable def F29_l0 : CC := (.seq F29_r11 (.seq (.cond (.tmp 53) .skip (.exit 1)) (.seq (.block 2 (.seq F29_r12 F29_r13)) F29_r14)))
@[simp] noncomputable def F29_r15 : CC := .reg [⟨some 66, none, (.move (.tmp 1))⟩,
  ⟨some 67, none, (.move (.tmp 8))⟩,
  ⟨some 68, none, (.binOp .eql 27 (.tmp 67) (.const (.int .i64 0)) 27)⟩,
  ⟨some 6, none, (.assign (.tmp 66))⟩,
  ⟨some 7, none, (.assign (.tmp 68))⟩] [6, 7]
@[simp] noncomputable def F29_r16 : CC := .reg [⟨some 70, none, (.binOp .eql 3 (.tmp 33) (.const (.int .i64 1)) 3)⟩,
  ⟨some 69, none, (.assign (.tmp 70))⟩] [0, 1, 5, 33, 69]
@[simp] noncomputable def F29_r17 : CC := .drw [⟨0, ⟨some 71, none, (.move (.tmp 0))⟩, [], []⟩,
  ⟨1, ⟨some 72, none, (.fieldAddr 59 (.tmp 5) 4)⟩, [], []⟩,
  ⟨2, ⟨some 73, none, (.load 32 (.tmp 72))⟩, [], []⟩,
  ⟨3, ⟨some 74, none, (.fieldAddr 59 (.tmp 5) 4)⟩, [], []⟩,
  ⟨4, ⟨some 75, none, (.load 32 (.tmp 74))⟩, [], []⟩,
  ⟨5, ⟨some 76, none, (.call { callee := (.builtin .len), args := #[(.tmp 75)], argTypes := #[32] })⟩, [], []⟩,
  ⟨6, ⟨some 77, none, (.binOp .quo 3 (.tmp 76) (.const (.int .i64 2)) 3)⟩, [], []⟩,
  ⟨7, ⟨some 78, none, (.slice 32 (.tmp 73) none (some (.tmp 77)) none)⟩, [], []⟩,
  ⟨8, ⟨some 79, none, (.fieldAddr 59 (.tmp 5) 4)⟩, [], []⟩,
  ⟨9, ⟨some 80, none, (.load 32 (.tmp 79))⟩, [], []⟩,
  ⟨10, ⟨some 81, none, (.fieldAddr 59 (.tmp 5) 4)⟩, [], []⟩,
  ⟨11, ⟨some 82, none, (.load 32 (.tmp 81))⟩, [], []⟩,
  ⟨12, ⟨some 83, none, (.call { callee := (.builtin .len), args := #[(.tmp 82)], argTypes := #[32] })⟩, [], []⟩,
  ⟨13, ⟨some 84, none, (.binOp .quo 3 (.tmp 83) (.const (.int .i64 2)) 3)⟩, [], []⟩,
  ⟨14, ⟨some 85, none, (.slice 32 (.tmp 80) (some (.tmp 84)) none none)⟩, [], []⟩,
  ⟨15, ⟨some 86, none, (.buildSlice 65 2 #[(0, (.tmp 78)), (1, (.tmp 85))])⟩, [], []⟩,
  ⟨16, ⟨some 87, none, (.call { callee := (.value (.func 23)), args := #[(.tmp 71), (.tmp 86)], argTypes := #[24, 65] })⟩, [], []⟩,
  ⟨17, ⟨some 11, none, (.assign (.tmp 87))⟩, [], []⟩] [71, 72, 73, 74, 75, 76, 77, 78, 79, 80, 81, 82, 83, 84, 85, 86, 87, 11] [1, 5, 11]
@[simp] noncomputable def F29_r18 : CC := .reg [⟨some 89, none, (.move (.tmp 1))⟩,
  ⟨some 90, none, (.fieldAddr 59 (.tmp 5) 4)⟩,
  ⟨some 91, none, (.load 32 (.tmp 90))⟩,
  ⟨some 92, none, (.call { callee := (.value (.func 24)), args := #[(.tmp 91)], argTypes := #[32] })⟩,
  ⟨some 93, none, (.call { callee := (.value (.func 36)), args := #[(.tmp 89), (.tmp 92)], argTypes := #[22, 22] })⟩,
  ⟨some 88, none, (.move (.tmp 93))⟩,
  ⟨some 94, none, (.extract (.tmp 88) 0)⟩,
  ⟨some 95, none, (.extract (.tmp 88) 1)⟩,
  ⟨some 1, none, (.assign (.tmp 94))⟩] [1, 11]
@[simp] noncomputable def F29_r19 : CC := .reg [⟨some 96, none, (.move (.tmp 1))⟩,
  ⟨some 97, none, (.move (.tmp 11))⟩,
  ⟨some 98, none, (.binOp .eql 27 (.tmp 97) (.const (.int .i64 0)) 27)⟩,
  ⟨some 6, none, (.assign (.tmp 96))⟩,
  ⟨some 7, none, (.assign (.tmp 98))⟩] [6, 7]
@[simp] noncomputable def F29_r20 : CC := .reg [⟨some 100, none, (.binOp .eql 3 (.tmp 33) (.const (.int .i64 2)) 3)⟩,
  ⟨some 99, none, (.assign (.tmp 100))⟩] [0, 1, 5, 33, 99]
@[simp] noncomputable def F29_r21 : CC := .reg [⟨some 12, none, (.assign (.const (.int .i64 0)))⟩] [0, 1, 12]
@[simp] noncomputable def F29_r22 : CC := .reg [⟨some 101, none, (.move (.tmp 1))⟩,
  ⟨some 102, none, (.call { callee := (.builtin .len), args := #[(.tmp 101)], argTypes := #[22] })⟩,
  ⟨some 103, none, (.move (.tmp 12))⟩,
  ⟨some 104, none, (.binOp .add 3 (.tmp 102) (.tmp 103) 3)⟩,
  ⟨some 105, none, (.binOp .rem 3 (.tmp 104) (.const (.int .i64 8)) 3)⟩,
  ⟨some 106, none, (.binOp .neq 3 (.tmp 105) (.const (.int .i64 0)) 3)⟩] [0, 1, 12, 106]
@[simp] noncomputable def F29_r23 : CC := .reg [⟨some 107, none, (.move (.tmp 12))⟩,
  ⟨some 108, none, (.binOp .add 3 (.tmp 107) (.const (.int .i64 1)) 3)⟩,
  ⟨some 12, none, (.assign (.tmp 108))⟩] [0, 1, 12]
noncomputable def F29_l1 : CC := (.seq (.seq F29_r22 (.cond (.tmp 106) .skip (.exit 3))) (.block 4 F29_r23))
@[simp] noncomputable def F29_r24 : CC := .reg [⟨some 110, none, (.move (.tmp 1))⟩,
  ⟨some 111, none, (.move (.tmp 12))⟩,
  ⟨some 112, none, (.makeSlice 22 (.tmp 111) (.tmp 111))⟩,
  ⟨some 113, none, (.call { callee := (.value (.func 36)), args := #[(.tmp 110), (.tmp 112)], argTypes := #[22, 22] })⟩,
  ⟨some 109, none, (.move (.tmp 113))⟩,
  ⟨some 114, none, (.extract (.tmp 109) 0)⟩,
  ⟨some 115, none, (.extract (.tmp 109) 1)⟩,
  ⟨some 1, none, (.assign (.tmp 114))⟩] [0, 1, 12]
@[simp] noncomputable def F29_r25 : CC := .reg [⟨some 116, none, (.move (.tmp 1))⟩,
  ⟨some 117, none, (.move (.tmp 0))⟩,
  ⟨some 118, none, (.call { callee := (.value (.func 30)), args := #[(.tmp 117)], argTypes := #[24] })⟩,
  ⟨some 119, none, (.move (.tmp 12))⟩,
  ⟨some 120, none, (.binOp .eql 3 (.tmp 118) (.tmp 119) 3)⟩,
  ⟨some 6, none, (.assign (.tmp 116))⟩,
  ⟨some 7, none, (.assign (.tmp 120))⟩] [6, 7]
@[simp] noncomputable def F29_r26 : CC := .reg [⟨some 122, none, (.binOp .eql 3 (.tmp 33) (.const (.int .i64 3)) 3)⟩,
  ⟨some 121, none, (.assign (.tmp 122))⟩] [0, 1, 5, 121]
@[simp] noncomputable def F29_r27 : CC := .reg [⟨some 13, none, (.assign (.const (.int .u64 0)))⟩] [0, 1, 5, 13]
@[simp] noncomputable def F29_r28 : CC := .reg [⟨some 123, none, (.fieldAddr 59 (.tmp 5) 3)⟩,
  ⟨some 124, none, (.load 23 (.tmp 123))⟩,
  ⟨some 125, none, (.call { callee := (.builtin .len), args := #[(.tmp 124)], argTypes := #[23] })⟩,
  ⟨some 126, none, (.binOp .gtr 3 (.tmp 125) (.const (.int .i64 0)) 3)⟩] [0, 1, 5, 13, 126]
@[simp] noncomputable def F29_r29 : CC := .reg [⟨some 127, none, (.fieldAddr 59 (.tmp 5) 3)⟩,
  ⟨some 128, none, (.load 23 (.tmp 127))⟩,
  ⟨some 129, none, (.indexAddr 23 (.tmp 128) (.const (.int .i64 0)))⟩,
  ⟨some 130, none, (.load 29 (.tmp 129))⟩,
  ⟨some 13, none, (.assign (.tmp 130))⟩] [0, 1, 5, 13]
@[simp] noncomputable def F29_r30 : CC := .reg [⟨some 131, none, (.move (.tmp 0))⟩,
  ⟨some 132, none, (.fieldAddr 59 (.tmp 5) 2)⟩,
  ⟨some 133, none, (.load 3 (.tmp 132))⟩,
  ⟨some 134, none, (.fieldAddr 59 (.tmp 5) 1)⟩,
  ⟨some 135, none, (.load 3 (.tmp 134))⟩,
  ⟨some 136, none, (.move (.tmp 13))⟩,
  ⟨some 137, none, (.call { callee := (.value (.func 31)), args := #[(.tmp 131), (.tmp 133), (.tmp 135), (.tmp 136)], argTypes := #[24, 3, 3, 29] })⟩,
  ⟨some 14, none, (.assign (.tmp 137))⟩] [1, 5, 13, 14]
@[simp] noncomputable def F29_r31 : CC := .reg [⟨some 138, none, (.fieldAddr 59 (.tmp 5) 1)⟩,
  ⟨some 139, none, (.load 3 (.tmp 138))⟩,
  ⟨some 140, none, (.call { callee := (.value (.func 10)), args := #[(.tmp 139)], argTypes := #[3] })⟩,
  ⟨some 141, none, (.unOp .not 4 (.tmp 140))⟩] [1, 5, 13, 14, 141]
@[simp] noncomputable def F29_r32 : CC := .reg [⟨some 142, none, (.move (.tmp 1))⟩,
  ⟨some 143, none, (.move (.tmp 14))⟩,
  ⟨some 144, none, (.binOp .eql 27 (.tmp 143) (.const (.int .i64 1)) 27)⟩,
  ⟨some 6, none, (.assign (.tmp 142))⟩,
  ⟨some 7, none, (.assign (.tmp 144))⟩] [6, 7]
@[simp] noncomputable def F29_r33 : CC := .reg [⟨some 145, none, (.fieldAddr 59 (.tmp 5) 2)⟩,
  ⟨some 146, none, (.load 3 (.tmp 145))⟩,
  ⟨some 147, none, (.binOp .lss 3 (.tmp 146) (.const (.int .i64 0)) 3)⟩,
  ⟨some 148, none, (.move (.tmp 147))⟩,
  ⟨some 149, some (148, false), (.fieldAddr 59 (.tmp 5) 2)⟩,
  ⟨some 150, some (148, false), (.load 3 (.tmp 149))⟩,
  ⟨some 151, some (148, false), (.move (.tmp 1))⟩,
  ⟨some 152, some (148, false), (.call { callee := (.builtin .len), args := #[(.tmp 151)], argTypes := #[22] })⟩,
  ⟨some 153, some (148, false), (.binOp .gtr 3 (.tmp 150) (.tmp 152) 3)⟩,
  ⟨some 154, none, (.pick (.tmp 148) (.const (.bool true)) (.tmp 153))⟩,
  ⟨some 155, none, (.move (.tmp 154))⟩,
  ⟨some 156, some (155, false), (.fieldAddr 59 (.tmp 5) 1)⟩,
  ⟨some 157, some (155, false), (.load 3 (.tmp 156))⟩,
  ⟨some 158, some (155, false), (.move (.tmp 1))⟩,
  ⟨some 159, some (155, false), (.call { callee := (.builtin .len), args := #[(.tmp 158)], argTypes := #[22] })⟩,
  ⟨some 160, some (155, false), (.fieldAddr 59 (.tmp 5) 2)⟩,
  ⟨some 161, some (155, false), (.load 3 (.tmp 160))⟩,
  ⟨some 162, some (155, false), (.binOp .sub 3 (.tmp 159) (.tmp 161) 3)⟩,
  ⟨some 163, some (155, false), (.binOp .gtr 3 (.tmp 157) (.tmp 162) 3)⟩,
  ⟨some 164, none, (.pick (.tmp 155) (.const (.bool true)) (.tmp 163))⟩] [1, 5, 13, 14, 164]
@[simp] noncomputable def F29_r34 : CC := .reg [⟨some 165, none, (.move (.tmp 1))⟩,
  ⟨some 166, none, (.move (.tmp 14))⟩,
  ⟨some 167, none, (.binOp .eql 27 (.tmp 166) (.const (.int .i64 7)) 27)⟩,
  ⟨some 6, none, (.assign (.tmp 165))⟩,
  ⟨some 7, none, (.assign (.tmp 167))⟩] [6, 7]
@[simp] noncomputable def F29_r35 : CC := .reg [⟨some 168, none, (.buildSlice 22 0 #[])⟩,
  ⟨some 169, none, (.move (.tmp 1))⟩,
  ⟨some 170, none, (.fieldAddr 59 (.tmp 5) 2)⟩,
  ⟨some 171, none, (.load 3 (.tmp 170))⟩,
  ⟨some 172, none, (.slice 22 (.tmp 169) none (some (.tmp 171)) none)⟩,
  ⟨some 173, none, (.call { callee := (.builtin .append), args := #[(.tmp 168), (.tmp 172)], argTypes := #[22, 22] })⟩,
  ⟨some 15, none, (.assign (.tmp 173))⟩] [1, 5, 13, 14, 15]
@[simp] noncomputable def F29_r36 : CC := .reg [⟨some 174, none, (.move (.tmp 15))⟩,
  ⟨some 175, none, (.fieldAddr 59 (.tmp 5) 1)⟩,
  ⟨some 176, none, (.load 3 (.tmp 175))⟩,
  ⟨some 177, none, (.move (.tmp 13))⟩,
  ⟨some 178, none, (.call { callee := (.value (.func 16)), args := #[(.tmp 176), (.tmp 177)], argTypes := #[3, 29] })⟩,
  ⟨some 179, none, (.call { callee := (.builtin .append), args := #[(.tmp 174), (.tmp 178)], argTypes := #[22, 22] })⟩,
  ⟨some 15, none, (.assign (.tmp 179))⟩] [1, 5, 14, 15]
@[simp] noncomputable def F29_r37 : CC := .reg [⟨some 180, none, (.move (.tmp 15))⟩,
  ⟨some 181, none, (.move (.tmp 1))⟩,
  ⟨some 182, none, (.fieldAddr 59 (.tmp 5) 2)⟩,
  ⟨some 183, none, (.load 3 (.tmp 182))⟩,
  ⟨some 184, none, (.fieldAddr 59 (.tmp 5) 1)⟩,
  ⟨some 185, none, (.load 3 (.tmp 184))⟩,
  ⟨some 186, none, (.binOp .add 3 (.tmp 183) (.tmp 185) 3)⟩,
  ⟨some 187, none, (.slice 22 (.tmp 181) (some (.tmp 186)) none none)⟩,
  ⟨some 188, none, (.call { callee := (.builtin .append), args := #[(.tmp 180), (.tmp 187)], argTypes := #[22, 22] })⟩,
  ⟨some 189, none, (.move (.tmp 14))⟩,
  ⟨some 190, none, (.binOp .eql 27 (.tmp 189) (.const (.int .i64 0)) 27)⟩,
  ⟨some 6, none, (.assign (.tmp 188))⟩,
  ⟨some 7, none, (.assign (.tmp 190))⟩] [6, 7]
@[simp] noncomputable def F29_r38 : CC := .reg [⟨some 191, none, (.move (.tmp 1))⟩,
  ⟨some 6, none, (.assign (.tmp 191))⟩,
  ⟨some 7, none, (.assign (.const (.bool true)))⟩] [6, 7]
noncomputable def F29 : CC := (.seq F29_r0 (.seq (.seq F29_r1 (.cond (.tmp 19) F29_r2 .skip)) (.seq (.seq F29_r3 (.cond (.tmp 27) F29_r4 .skip)) (.seq (.seq F29_r5 (.block 0 (.seq F29_r6 (.cond (.tmp 34) (.seq F29_r7 (.seq (.seq F29_r8 (.cond (.tmp 45) (.seq F29_r9 .ret) .skip)) (.seq (.seq F29_r10 (.block 1 (.loop F29_l0))) (.seq F29_r15 .ret)))) (.seq F29_r16 (.cond (.tmp 69) (.seq F29_r17 (.seq F29_r18 (.seq F29_r19 .ret))) (.seq F29_r20 (.cond (.tmp 99) (.seq F29_r21 (.seq (.block 3 (.loop F29_l1)) (.seq F29_r24 (.seq F29_r25 .ret)))) (.seq F29_r26 (.cond (.tmp 121) (.seq F29_r27 (.seq (.seq F29_r28 (.cond (.tmp 126) F29_r29 .skip)) (.seq F29_r30 (.seq (.seq F29_r31 (.cond (.tmp 141) (.seq F29_r32 .ret) .skip)) (.seq (.seq F29_r33 (.cond (.tmp 164) (.seq F29_r34 .ret) .skip)) (.seq F29_r35 (.seq F29_r36 (.seq F29_r37 .ret)))))))) .skip)))))))))) (.seq F29_r38 .ret)))))
noncomputable def F29_inf : Nat → RI
  | 0 => ⟨[0, 1, 5], [], []⟩
  | 1 => ⟨[0, 1, 5, 19], [], []⟩
  | 2 => ⟨[0, 1, 5], [], []⟩
  | 3 => ⟨[0, 1, 5, 27], [], []⟩
  | 4 => ⟨[0, 1, 5], [], []⟩
  | 5 => ⟨[0, 1, 5, 33], [], []⟩
  | 6 => ⟨[0, 1, 5, 33, 34], [], []⟩
  | 7 => ⟨[1, 5, 8], [], []⟩
  | 8 => ⟨[1, 5, 8, 45], [], []⟩
  | 9 => ⟨[6, 7], [], []⟩
  | 10 => ⟨[1, 5, 8, 50, 51, 52], [], []⟩
  | 11 => ⟨[1, 5, 8, 50, 51, 52, 53], [], []⟩
  | 12 => ⟨[1, 5, 8, 10, 50, 51, 52], [], []⟩
  | 13 => ⟨[1, 5, 8, 50, 51, 52], [], []⟩
  | 14 => ⟨[1, 5, 8, 50, 51, 52], [], []⟩
  | 15 => ⟨[6, 7], [], []⟩
  | 16 => ⟨[0, 1, 5, 33, 69], [], []⟩
  | 17 => ⟨[1, 5, 11], [0, 0, 2, 0, 8, 24, 56, 126, 0, 256, 0, 1024, 3072, 7168, 16128, 32766, 65535, 131071], [(0, []), (1, []), (2, []), (3, []), (4, []), (5, []), (6, []), (7, []), (8, []), (9, []), (10, []), (11, []), (12, []), (13, []), (14, []), (15, []), (16, []), (17, [])]⟩
  | 18 => ⟨[1, 11], [], []⟩
  | 19 => ⟨[6, 7], [], []⟩
  | 20 => ⟨[0, 1, 5, 33, 99], [], []⟩
  | 21 => ⟨[0, 1, 12], [], []⟩
  | 22 => ⟨[0, 1, 12, 106], [], []⟩
  | 23 => ⟨[0, 1, 12], [], []⟩
  | 24 => ⟨[0, 1, 12], [], []⟩
  | 25 => ⟨[6, 7], [], []⟩
  | 26 => ⟨[0, 1, 5, 121], [], []⟩
  | 27 => ⟨[0, 1, 5, 13], [], []⟩
  | 28 => ⟨[0, 1, 5, 13, 126], [], []⟩
  | 29 => ⟨[0, 1, 5, 13], [], []⟩
  | 30 => ⟨[1, 5, 13, 14], [], []⟩
  | 31 => ⟨[1, 5, 13, 14, 141], [], []⟩
  | 32 => ⟨[6, 7], [], []⟩
  | 33 => ⟨[1, 5, 13, 14, 164], [], []⟩
  | 34 => ⟨[6, 7], [], []⟩
  | 35 => ⟨[1, 5, 13, 14, 15], [], []⟩
  | 36 => ⟨[1, 5, 14, 15], [], []⟩
  | 37 => ⟨[6, 7], [], []⟩
  | 38 => ⟨[6, 7], [], []⟩
  | _ => ⟨[], [], []⟩
noncomputable def F29_c : Code := Try.f29.body.getD .skip
theorem F29_b : Try.f29.body = some F29_c := by kernel_rfl
theorem F29_rs : Try.f29.results.toList = ([.tmp 6, .tmp 7] : List ResultVar) := by kernel_rfl
theorem F29_n : Try.f29.ntmps = 192 := by kernel_rfl
theorem F29_ok : toCC [] 192 F29_inf F29_c = some F29 := by kernel_rfl
theorem F29_in {args : List AV} {G : Hp} {post : AV → Hp → Prop} (ha : args.all AV.plain = true) (hn : args.length ≤ 192) (h : BDs args → awp Try.prog [] F29 (AEnds Try.prog [.tmp 6, .tmp 7] post) (initT args) G) : ACalls Try.prog 29 args G post :=
  acalls_cc Try.func29 F29_b F29_rs F29_n F29_ok mixed ha hn h

/- 30 (*ostiary/bits.Out).Fill -/
@[simp] noncomputable def F30_r0 : CC := .reg [⟨some 2, none, (.assign (.const (.int .i64 0)))⟩] [0]
@[simp] noncomputable def F30_r1 : CC := .reg [⟨some 4, none, (.move (.tmp 0))⟩,
  ⟨some 5, none, (.binOp .eql 24 (.tmp 4) (.const (.pointer none)) 24)⟩] [0, 5]
@[simp] noncomputable def F30_r2 : CC := .reg [⟨some 2, none, (.assign (.const (.int .i64 0)))⟩] [2]
@[simp] noncomputable def F30_r3 : CC := .reg [⟨some 6, none, (.move (.tmp 0))⟩,
  ⟨some 7, none, (.nilCheck (.tmp 6))⟩,
  ⟨some 8, none, (.fieldAddr 67 (.tmp 7) 1)⟩,
  ⟨some 9, none, (.load 3 (.tmp 8))⟩,
  ⟨some 10, none, (.binOp .rem 3 (.tmp 9) (.const (.int .i64 8)) 3)⟩,
  ⟨some 11, none, (.binOp .sub 3 (.const (.int .i64 8)) (.tmp 10) 3)⟩,
  ⟨some 12, none, (.binOp .rem 3 (.tmp 11) (.const (.int .i64 8)) 3)⟩,
  ⟨some 3, none, (.assign (.tmp 12))⟩] [0, 3]
@[simp] noncomputable def F30_r4 : CC := .reg [⟨some 13, none, (.move (.tmp 0))⟩,
  ⟨some 14, none, (.nilCheck (.tmp 13))⟩,
  ⟨some 15, none, (.fieldAddr 67 (.tmp 14) 1)⟩,
  ⟨some 16, none, (.load 3 (.tmp 15))⟩,
  ⟨some 17, none, (.move (.tmp 3))⟩,
  ⟨some 18, none, (.binOp .add 3 (.tmp 16) (.tmp 17) 3)⟩,
  ⟨some 19, none, (.nilCheck (.tmp 13))⟩,
  ⟨some 20, none, (.fieldAddr 67 (.tmp 19) 1)⟩,
  ⟨none, none, (.store 3 (.tmp 20) (.tmp 18))⟩] [3]
@[simp] noncomputable def F30_r5 : CC := .reg [⟨some 21, none, (.move (.tmp 3))⟩,
  ⟨some 2, none, (.assign (.tmp 21))⟩] [2]
noncomputable def F30 : CC := (.seq F30_r0 (.seq (.seq F30_r1 (.cond (.tmp 5) (.seq F30_r2 .ret) .skip)) (.seq F30_r3 (.seq F30_r4 (.seq F30_r5 .ret)))))
noncomputable def F30_inf : Nat → RI
  | 0 => ⟨[0], [], []⟩
  | 1 => ⟨[0, 5], [], []⟩
  | 2 => ⟨[2], [], []⟩
  | 3 => ⟨[0, 3], [], []⟩
  | 4 => ⟨[3], [], []⟩
  | 5 => ⟨[2], [], []⟩
  | _ => ⟨[], [], []⟩
noncomputable def F30_c : Code := Try.f30.body.getD .skip
theorem F30_b : Try.f30.body = some F30_c := by kernel_rfl
theorem F30_rs : Try.f30.results.toList = ([.tmp 2] : List ResultVar) := by kernel_rfl
theorem F30_n : Try.f30.ntmps = 22 := by kernel_rfl
theorem F30_ok : toCC [] 22 F30_inf F30_c = some F30 := by kernel_rfl
theorem F30_in {args : List AV} {G : Hp} {post : AV → Hp → Prop} (ha : args.all AV.plain = true) (hn : args.length ≤ 22) (h : BDs args → awp Try.prog [] F30 (AEnds Try.prog [.tmp 2] post) (initT args) G) : ACalls Try.prog 30 args G post :=
  acalls_cc Try.func30 F30_b F30_rs F30_n F30_ok mixed ha hn h

/- 31 (*ostiary/bits.Out).Set -/
@[simp] noncomputable def F31_r0 : CC := .reg [⟨some 8, none, (.assign (.const (.int .i64 0)))⟩] [0, 1, 2, 3]
@[simp] noncomputable def F31_r1 : CC := .reg [⟨some 13, none, (.move (.tmp 0))⟩,
  ⟨some 14, none, (.binOp .eql 24 (.tmp 13) (.const (.pointer none)) 24)⟩,
  ⟨some 12, none, (.assign (.tmp 14))⟩] [0, 1, 2, 3, 12]
@[simp] noncomputable def F31_r2 : CC := .reg [⟨some 8, none, (.assign (.const (.int .i64 11)))⟩] [8]
@[simp] noncomputable def F31_r3 : CC := .reg [⟨some 16, none, (.move (.tmp 2))⟩,
  ⟨some 17, none, (.binOp .lss 3 (.tmp 16) (.const (.int .i64 1)) 3)⟩,
  ⟨some 18, none, (.move (.tmp 17))⟩,
  ⟨some 19, some (18, false), (.move (.tmp 2))⟩,
  ⟨some 20, some (18, false), (.binOp .gtr 3 (.tmp 19) (.const (.int .i64 64)) 3)⟩,
  ⟨some 21, none, (.pick (.tmp 18) (.const (.bool true)) (.tmp 20))⟩,
  ⟨some 15, none, (.assign (.tmp 21))⟩] [0, 1, 2, 3, 15]
@[simp] noncomputable def F31_r4 : CC := .reg [⟨some 8, none, (.assign (.const (.int .i64 1)))⟩] [8]
@[simp] noncomputable def F31_r5 : CC := .reg [⟨some 23, none, (.move (.tmp 1))⟩,
  ⟨some 24, none, (.binOp .lss 3 (.tmp 23) (.const (.int .i64 0)) 3)⟩,
  ⟨some 25, none, (.move (.tmp 24))⟩,
  ⟨some 26, some (25, false), (.move (.tmp 1))⟩,
  ⟨some 27, some (25, false), (.move (.tmp 0))⟩,
  ⟨some 28, some (25, false), (.nilCheck (.tmp 27))⟩,
  ⟨some 29, some (25, false), (.fieldAddr 67 (.tmp 28) 1)⟩,
  ⟨some 30, some (25, false), (.load 3 (.tmp 29))⟩,
  ⟨some 31, some (25, false), (.binOp .gtr 3 (.tmp 26) (.tmp 30) 3)⟩,
  ⟨some 32, none, (.pick (.tmp 25) (.const (.bool true)) (.tmp 31))⟩,
  ⟨some 33, none, (.move (.tmp 32))⟩,
  ⟨some 34, some (33, false), (.move (.tmp 2))⟩,
  ⟨some 35, some (33, false), (.move (.tmp 0))⟩,
  ⟨some 36, some (33, false), (.nilCheck (.tmp 35))⟩,
  ⟨some 37, some (33, false), (.fieldAddr 67 (.tmp 36) 1)⟩,
  ⟨some 38, some (33, false), (.load 3 (.tmp 37))⟩,
  ⟨some 39, some (33, false), (.move (.tmp 1))⟩,
  ⟨some 40, some (33, false), (.binOp .sub 3 (.tmp 38) (.tmp 39) 3)⟩,
  ⟨some 41, some (33, false), (.binOp .gtr 3 (.tmp 34) (.tmp 40) 3)⟩,
  ⟨some 42, none, (.pick (.tmp 33) (.const (.bool true)) (.tmp 41))⟩,
  ⟨some 22, none, (.assign (.tmp 42))⟩] [0, 1, 2, 3, 22]
@[simp] noncomputable def F31_r6 : CC := .reg [⟨some 8, none, (.assign (.const (.int .i64 7)))⟩] [8]
@[simp] noncomputable def F31_r7 : CC := .reg [⟨some 43, none, (.move (.tmp 2))⟩,
  ⟨some 44, none, (.move (.const (.int .i64 0)))⟩] [0, 1, 2, 3, 43, 44]
@[simp] noncomputable def F31_r8 : CC := .reg [⟨some 45, none, (.binOp .lss 3 (.tmp 44) (.tmp 43) 3)⟩] [0, 1, 2, 3, 43, 44, 45]
@[simp] noncomputable def F31_r9 : CC := .reg [⟨some 46, none, (.move (.tmp 44))⟩,
  ⟨some 9, none, (.assign (.tmp 46))⟩] [0, 1, 2, 3, 9, 43, 44]
@[simp] noncomputable def F31_r10 : CC := .reg [⟨some 47, none, (.move (.tmp 1))⟩,
  ⟨some 48, none, (.move (.tmp 9))⟩,
  ⟨some 49, none, (.binOp .add 3 (.tmp 47) (.tmp 48) 3)⟩,
  ⟨some 10, none, (.assign (.tmp 49))⟩] [0, 1, 2, 3, 9, 10, 43, 44]
@[simp] noncomputable def F31_r11 : CC := .reg [⟨some 50, none, (.move (.tmp 3))⟩,
  ⟨some 51, none, (.move (.tmp 2))⟩,
  ⟨some 52, none, (.binOp .sub 3 (.tmp 51) (.const (.int .i64 1)) 3)⟩,
  ⟨some 53, none, (.move (.tmp 9))⟩,
  ⟨some 54, none, (.binOp .sub 3 (.tmp 52) (.tmp 53) 3)⟩,
  ⟨some 55, none, (.binOp .shr 29 (.tmp 50) (.tmp 54) 3)⟩,
  ⟨some 56, none, (.binOp .and 29 (.tmp 55) (.const (.int .u64 1)) 29)⟩,
  ⟨some 57, none, (.convert 29 5 (.tmp 56))⟩,
  ⟨some 58, none, (.move (.tmp 10))⟩,
  ⟨some 59, none, (.binOp .rem 3 (.tmp 58) (.const (.int .i64 8)) 3)⟩,
  ⟨some 60, none, (.binOp .sub 3 (.const (.int .i64 7)) (.tmp 59) 3)⟩,
  ⟨some 61, none, (.binOp .shl 5 (.tmp 57) (.tmp 60) 3)⟩,
  ⟨some 11, none, (.assign (.tmp 61))⟩] [0, 1, 2, 3, 10, 11, 43, 44]
@[simp] noncomputable def F31_r12 : CC := .drw [⟨0, ⟨some 62, none, (.move (.tmp 0))⟩, [], []⟩,
  ⟨1, ⟨some 63, none, (.nilCheck (.tmp 62))⟩, [], []⟩,
  ⟨2, ⟨some 64, none, (.fieldAddr 67 (.tmp 63) 0)⟩, [], []⟩,
  ⟨3, ⟨some 65, none, (.load 32 (.tmp 64))⟩, [], []⟩,
  ⟨4, ⟨some 66, none, (.move (.tmp 10))⟩, [], []⟩,
  ⟨5, ⟨some 67, none, (.binOp .quo 3 (.tmp 66) (.const (.int .i64 8)) 3)⟩, [], []⟩,
  ⟨6, ⟨some 68, none, (.move (.tmp 0))⟩, [], []⟩,
  ⟨7, ⟨some 69, none, (.nilCheck (.tmp 68))⟩, [], []⟩,
  ⟨8, ⟨some 70, none, (.fieldAddr 67 (.tmp 69) 0)⟩, [], []⟩,
  ⟨9, ⟨some 71, none, (.load 32 (.tmp 70))⟩, [], []⟩,
  ⟨10, ⟨some 72, none, (.move (.tmp 10))⟩, [], []⟩,
  ⟨11, ⟨some 73, none, (.binOp .quo 3 (.tmp 72) (.const (.int .i64 8)) 3)⟩, [], []⟩,
  ⟨12, ⟨some 74, none, (.indexAddr 32 (.tmp 71) (.tmp 73))⟩, [], []⟩,
  ⟨13, ⟨some 75, none, (.load 5 (.tmp 74))⟩, [], []⟩,
  ⟨14, ⟨some 76, none, (.move (.tmp 10))⟩, [], []⟩,
  ⟨15, ⟨some 77, none, (.binOp .rem 3 (.tmp 76) (.const (.int .i64 8)) 3)⟩, [], []⟩,
  ⟨16, ⟨some 78, none, (.binOp .sub 3 (.const (.int .i64 7)) (.tmp 77) 3)⟩, [], []⟩,
  ⟨17, ⟨some 79, none, (.binOp .shl 5 (.const (.int .u8 1)) (.tmp 78) 3)⟩, [], []⟩,
  ⟨18, ⟨some 80, none, (.binOp .andNot 5 (.tmp 75) (.tmp 79) 5)⟩, [], []⟩,
  ⟨19, ⟨some 81, none, (.move (.tmp 11))⟩, [], []⟩,
  ⟨20, ⟨some 82, none, (.binOp .or 5 (.tmp 80) (.tmp 81) 5)⟩, [], []⟩,
  ⟨21, ⟨some 83, none, (.indexAddr 32 (.tmp 65) (.tmp 67))⟩, [], []⟩,
  ⟨22, ⟨none, none, (.store 5 (.tmp 83) (.tmp 82))⟩, [], []⟩] [62, 63, 64, 65, 66, 67, 68, 69, 70, 71, 72, 73, 74, 75, 76, 77, 78, 79, 80, 81, 82, 83] [0, 1, 2, 3, 43, 44]
@[simp] noncomputable def F31_r13 : CC := .reg [⟨some 84, none, (.binOp .add 3 (.tmp 44) (.const (.int .i64 1)) 3)⟩,
  ⟨some 44, none, (.move (.tmp 84))⟩] [0, 1, 2, 3, 43, 44]
noncomputable def F31_l0 : CC := (.seq F31_r8 (.seq (.cond (.tmp 45) .skip (.exit 1)) (.seq (.block 2 (.seq F31_r9 (.seq F31_r10 (.seq F31_r11 F31_r12)))) F31_r13)))
@[simp] noncomputable def F31_r14 : CC := .reg [⟨some 8, none, (.assign (.const (.int .i64 0)))⟩] [8]
noncomputable def F31 : CC := (.seq F31_r0 (.seq (.block 0 (.seq F31_r1 (.cond (.tmp 12) (.seq F31_r2 .ret) (.seq F31_r3 (.cond (.tmp 15) (.seq F31_r4 .ret) (.seq F31_r5 (.cond (.tmp 22) (.seq F31_r6 .ret) .skip))))))) (.seq (.seq F31_r7 (.block 1 (.loop F31_l0))) (.seq F31_r14 .ret))))
noncomputable def F31_inf : Nat → RI
  | 0 => ⟨[0, 1, 2, 3], [], []⟩
  | 1 => ⟨[0, 1, 2, 3, 12], [], []⟩
  | 2 => ⟨[8], [], []⟩
  | 3 => ⟨[0, 1, 2, 3, 15], [], []⟩
  | 4 => ⟨[8], [], []⟩
  | 5 => ⟨[0, 1, 2, 3, 22], [], []⟩
  | 6 => ⟨[8], [], []⟩
  | 7 => ⟨[0, 1, 2, 3, 43, 44], [], []⟩
  | 8 => ⟨[0, 1, 2, 3, 43, 44, 45], [], []⟩
  | 9 => ⟨[0, 1, 2, 3, 9, 43, 44], [], []⟩
  | 10 => ⟨[0, 1, 2, 3, 9, 10, 43, 44], [], []⟩
  | 11 => ⟨[0, 1, 2, 3, 10, 11, 43, 44], [], []⟩
  | 12 => ⟨[0, 1, 2, 3, 43, 44], [0, 1, 3, 7, 0, 16, 0, 64, 192, 448, 0, 1024, 4032, 8128, 0, 16384, 49152, 114688, 262080, 0, 1048512, 2097151, 4194303], [(0, []), (1, []), (2, []), (3, []), (4, []), (5, []), (6, []), (7, []), (8, []), (9, []), (10, []), (11, []), (12, []), (13, []), (14, []), (15, []), (16, []), (17, []), (18, []), (19, []), (20, []), (21, []), (22, [])]⟩
  | 13 => ⟨[0, 1, 2, 3, 43, 44], [], []⟩
  | 14 => ⟨[8], [], []⟩
  | _ => ⟨[], [], []⟩
noncomputable def F31_c : Code := Try.f31.body.getD .skip
theorem F31_b : Try.f31.body = some F31_c := by kernel_rfl
theorem F31_rs : Try.f31.results.toList = ([.tmp 8] : List ResultVar) := by kernel_rfl
theorem F31_n : Try.f31.ntmps = 85 := by kernel_rfl
theorem F31_ok : toCC [] 85 F31_inf F31_c = some F31 := by kernel_rfl
theorem F31_in {args : List AV} {G : Hp} {post : AV → Hp → Prop} (ha : args.all AV.plain = true) (hn : args.length ≤ 85) (h : BDs args → awp Try.prog [] F31 (AEnds Try.prog [.tmp 8] post) (initT args) G) : ACalls Try.prog 31 args G post :=
  acalls_cc Try.func31 F31_b F31_rs F31_n F31_ok mixed ha hn h

/- 32 (*ostiary/bits.Out).room -/
@[simp] noncomputable def F32_r0 : CC := .reg [⟨some 4, none, (.assign (.const (.bool false)))⟩] [0, 1]
@[simp] noncomputable def F32_r1 : CC := .reg [⟨some 5, none, (.move (.tmp 1))⟩,
  ⟨some 6, none, (.move (.tmp 0))⟩,
  ⟨some 7, none, (.nilCheck (.tmp 6))⟩,
  ⟨some 8, none, (.fieldAddr 67 (.tmp 7) 1)⟩,
  ⟨some 9, none, (.load 3 (.tmp 8))⟩,
  ⟨some 10, none, (.binOp .sub 3 (.const (.int .i64 524288)) (.tmp 9) 3)⟩,
  ⟨some 11, none, (.binOp .leq 3 (.tmp 5) (.tmp 10) 3)⟩,
  ⟨some 4, none, (.assign (.tmp 11))⟩] [4]
noncomputable def F32 : CC := (.seq F32_r0 (.seq F32_r1 .ret))
noncomputable def F32_inf : Nat → RI
  | 0 => ⟨[0, 1], [], []⟩
  | 1 => ⟨[4], [], []⟩
  | _ => ⟨[], [], []⟩
noncomputable def F32_c : Code := Try.f32.body.getD .skip
theorem F32_b : Try.f32.body = some F32_c := by kernel_rfl
theorem F32_rs : Try.f32.results.toList = ([.tmp 4] : List ResultVar) := by kernel_rfl
theorem F32_n : Try.f32.ntmps = 12 := by kernel_rfl
theorem F32_ok : toCC [] 12 F32_inf F32_c = some F32 := by kernel_rfl
theorem F32_in {args : List AV} {G : Hp} {post : AV → Hp → Prop} (ha : args.all AV.plain = true) (hn : args.length ≤ 12) (h : BDs args → awp Try.prog [] F32 (AEnds Try.prog [.tmp 4] post) (initT args) G) : ACalls Try.prog 32 args G post :=
  acalls_cc Try.func32 F32_b F32_rs F32_n F32_ok mixed ha hn h

/- 33 (*ostiary/bits.Out).put -/
@[simp] noncomputable def F33_r0 : CC := .reg [⟨some 4, none, (.move (.tmp 0))⟩,
  ⟨some 5, none, (.nilCheck (.tmp 4))⟩,
  ⟨some 6, none, (.fieldAddr 67 (.tmp 5) 1)⟩,
  ⟨some 7, none, (.load 3 (.tmp 6))⟩,
  ⟨some 8, none, (.binOp .rem 3 (.tmp 7) (.const (.int .i64 8)) 3)⟩,
  ⟨some 9, none, (.binOp .eql 3 (.tmp 8) (.const (.int .i64 0)) 3)⟩] [0, 1, 9]
@[simp] noncomputable def F33_r1 : CC := .reg [⟨some 10, none, (.move (.tmp 0))⟩,
  ⟨some 11, none, (.move (.tmp 0))⟩,
  ⟨some 12, none, (.nilCheck (.tmp 11))⟩,
  ⟨some 13, none, (.fieldAddr 67 (.tmp 12) 0)⟩,
  ⟨some 14, none, (.load 32 (.tmp 13))⟩,
  ⟨some 15, none, (.buildSlice 32 1 #[(0, (.const (.int .u8 0)))])⟩,
  ⟨some 16, none, (.call { callee := (.builtin .append), args := #[(.tmp 14), (.tmp 15)], argTypes := #[32, 32] })⟩,
  ⟨some 17, none, (.nilCheck (.tmp 10))⟩,
  ⟨some 18, none, (.fieldAddr 67 (.tmp 17) 0)⟩,
  ⟨none, none, (.store 32 (.tmp 18) (.tmp 16))⟩] [0, 1]
@[simp] noncomputable def F33_r2 : CC := .drw [⟨0, ⟨some 19, none, (.move (.tmp 0))⟩, [], []⟩,
  ⟨1, ⟨some 20, none, (.nilCheck (.tmp 19))⟩, [], []⟩,
  ⟨2, ⟨some 21, none, (.fieldAddr 67 (.tmp 20) 0)⟩, [], []⟩,
  ⟨3, ⟨some 22, none, (.load 32 (.tmp 21))⟩, [], []⟩,
  ⟨4, ⟨some 23, none, (.move (.tmp 0))⟩, [], []⟩,
  ⟨5, ⟨some 24, none, (.nilCheck (.tmp 23))⟩, [], []⟩,
  ⟨6, ⟨some 25, none, (.fieldAddr 67 (.tmp 24) 1)⟩, [], []⟩,
  ⟨7, ⟨some 26, none, (.load 3 (.tmp 25))⟩, [], []⟩,
  ⟨8, ⟨some 27, none, (.binOp .quo 3 (.tmp 26) (.const (.int .i64 8)) 3)⟩, [], []⟩,
  ⟨9, ⟨some 28, none, (.indexAddr 32 (.tmp 22) (.tmp 27))⟩, [], []⟩,
  ⟨10, ⟨some 29, none, (.load 5 (.tmp 28))⟩, [], []⟩,
  ⟨11, ⟨some 30, none, (.move (.tmp 1))⟩, [], []⟩,
  ⟨12, ⟨some 31, none, (.move (.tmp 0))⟩, [], []⟩,
  ⟨13, ⟨some 32, none, (.nilCheck (.tmp 31))⟩, [], []⟩,
  ⟨14, ⟨some 33, none, (.fieldAddr 67 (.tmp 32) 1)⟩, [], []⟩,
  ⟨15, ⟨some 34, none, (.load 3 (.tmp 33))⟩, [], []⟩,
  ⟨16, ⟨some 35, none, (.binOp .rem 3 (.tmp 34) (.const (.int .i64 8)) 3)⟩, [], []⟩,
  ⟨17, ⟨some 36, none, (.binOp .sub 3 (.const (.int .i64 7)) (.tmp 35) 3)⟩, [], []⟩,
  ⟨18, ⟨some 37, none, (.binOp .shl 5 (.tmp 30) (.tmp 36) 3)⟩, [], []⟩,
  ⟨19, ⟨some 38, none, (.binOp .or 5 (.tmp 29) (.tmp 37) 5)⟩, [], []⟩,
  ⟨20, ⟨some 39, none, (.indexAddr 32 (.tmp 22) (.tmp 27))⟩, [], []⟩,
  ⟨21, ⟨none, none, (.store 5 (.tmp 39) (.tmp 38))⟩, [], []⟩] [19, 20, 21, 22, 23, 24, 25, 26, 27, 28, 29, 30, 31, 32, 33, 34, 35, 36, 37, 38, 39] [0]
@[simp] noncomputable def F33_r3 : CC := .reg [⟨some 40, none, (.move (.tmp 0))⟩,
  ⟨some 41, none, (.nilCheck (.tmp 40))⟩,
  ⟨some 42, none, (.fieldAddr 67 (.tmp 41) 1)⟩,
  ⟨some 43, none, (.load 3 (.tmp 42))⟩,
  ⟨some 44, none, (.binOp .add 3 (.tmp 43) (.const (.int .i64 1)) 3)⟩,
  ⟨some 45, none, (.nilCheck (.tmp 40))⟩,
  ⟨some 46, none, (.fieldAddr 67 (.tmp 45) 1)⟩,
  ⟨none, none, (.store 3 (.tmp 46) (.tmp 44))⟩] []
noncomputable def F33 : CC := (.seq (.seq F33_r0 (.cond (.tmp 9) F33_r1 .skip)) (.seq F33_r2 F33_r3))
noncomputable def F33_inf : Nat → RI
  | 0 => ⟨[0, 1, 9], [], []⟩
  | 1 => ⟨[0, 1], [], []⟩
  | 2 => ⟨[0], [0, 1, 3, 7, 0, 16, 48, 112, 240, 511, 1023, 0, 0, 4096, 12288, 28672, 61440, 126976, 260096, 524287, 1048575, 2097151], [(0, []), (1, []), (2, []), (3, []), (4, []), (5, []), (6, []), (7, []), (8, []), (9, []), (10, []), (11, []), (12, []), (13, []), (14, []), (15, []), (16, []), (17, []), (18, []), (19, []), (20, []), (21, [])]⟩
  | 3 => ⟨[], [], []⟩
  | _ => ⟨[], [], []⟩
noncomputable def F33_c : Code := Try.f33.body.getD .skip
theorem F33_b : Try.f33.body = some F33_c := by kernel_rfl
theorem F33_rs : Try.f33.results.toList = ([] : List ResultVar) := by kernel_rfl
theorem F33_n : Try.f33.ntmps = 47 := by kernel_rfl
theorem F33_ok : toCC [] 47 F33_inf F33_c = some F33 := by kernel_rfl
theorem F33_in {args : List AV} {G : Hp} {post : AV → Hp → Prop} (ha : args.all AV.plain = true) (hn : args.length ≤ 47) (h : BDs args → awp Try.prog [] F33 (AEnds Try.prog [] post) (initT args) G) : ACalls Try.prog 33 args G post :=
  acalls_cc Try.func33 F33_b F33_rs F33_n F33_ok mixed ha hn h

/- 34 bytes.Clone -/
@[simp] noncomputable def F34_r0 : CC := .reg [⟨some 2, none, (.assign (.const (.slice none 0 0)))⟩] [0]
@[simp] noncomputable def F34_r1 : CC := .reg [⟨some 3, none, (.move (.tmp 0))⟩,
  ⟨some 4, none, (.binOp .eql 32 (.tmp 3) (.const (.slice none 0 0)) 32)⟩] [0, 4]
@[simp] noncomputable def F34_r2 : CC := .reg [⟨some 2, none, (.assign (.const (.slice none 0 0)))⟩] [2]
@[simp] noncomputable def F34_r3 : CC := .reg [⟨some 5, none, (.buildSlice 32 0 #[])⟩,
  ⟨some 6, none, (.move (.tmp 0))⟩,
  ⟨some 7, none, (.call { callee := (.builtin .append), args := #[(.tmp 5), (.tmp 6)], argTypes := #[32, 32] })⟩,
  ⟨some 2, none, (.assign (.tmp 7))⟩] [2]
noncomputable def F34 : CC := (.seq F34_r0 (.seq (.seq F34_r1 (.cond (.tmp 4) (.seq F34_r2 .ret) .skip)) (.seq F34_r3 .ret)))
noncomputable def F34_inf : Nat → RI
  | 0 => ⟨[0], [], []⟩
  | 1 => ⟨[0, 4], [], []⟩
  | 2 => ⟨[2], [], []⟩
  | 3 => ⟨[2], [], []⟩
  | _ => ⟨[], [], []⟩
noncomputable def F34_c : Code := Try.f34.body.getD .skip
theorem F34_b : Try.f34.body = some F34_c := by kernel_rfl
theorem F34_rs : Try.f34.results.toList = ([.tmp 2] : List ResultVar) := by kernel_rfl
theorem F34_n : Try.f34.ntmps = 8 := by kernel_rfl
theorem F34_ok : toCC [] 8 F34_inf F34_c = some F34 := by kernel_rfl
theorem F34_in {args : List AV} {G : Hp} {post : AV → Hp → Prop} (ha : args.all AV.plain = true) (hn : args.length ≤ 8) (h : BDs args → awp Try.prog [] F34 (AEnds Try.prog [.tmp 2] post) (initT args) G) : ACalls Try.prog 34 args G post :=
  acalls_cc Try.func34 F34_b F34_rs F34_n F34_ok mixed ha hn h

/- 35 (*ostiary/bits.In).has -/
@[simp] noncomputable def F35_r0 : CC := .reg [⟨some 4, none, (.assign (.const (.bool false)))⟩] [0, 1]
@[simp] noncomputable def F35_r1 : CC := .reg [⟨some 5, none, (.move (.tmp 0))⟩,
  ⟨some 6, none, (.binOp .eql 30 (.tmp 5) (.const (.pointer none)) 30)⟩,
  ⟨some 7, none, (.move (.tmp 6))⟩,
  ⟨some 8, some (7, false), (.move (.tmp 0))⟩,
  ⟨some 9, some (7, false), (.nilCheck (.tmp 8))⟩,
  ⟨some 10, some (7, false), (.fieldAddr 71 (.tmp 9) 2)⟩,
  ⟨some 11, some (7, false), (.load 27 (.tmp 10))⟩,
  ⟨some 12, some (7, false), (.binOp .neq 27 (.tmp 11) (.const (.int .i64 0)) 27)⟩,
  ⟨some 13, none, (.pick (.tmp 7) (.const (.bool true)) (.tmp 12))⟩] [0, 1, 13]
@[simp] noncomputable def F35_r2 : CC := .reg [⟨some 4, none, (.assign (.const (.bool false)))⟩] [4]
@[simp] noncomputable def F35_r3 : CC := .reg [⟨some 15, none, (.move (.tmp 1))⟩,
  ⟨some 16, none, (.binOp .lss 3 (.tmp 15) (.const (.int .i64 0)) 3)⟩,
  ⟨some 14, none, (.assign (.tmp 16))⟩] [0, 1, 14]
@[simp] noncomputable def F35_r4 : CC := .reg [⟨some 17, none, (.move (.tmp 0))⟩,
  ⟨some 18, none, (.nilCheck (.tmp 17))⟩,
  ⟨some 19, none, (.fieldAddr 71 (.tmp 18) 2)⟩,
  ⟨none, none, (.store 27 (.tmp 19) (.const (.int .i64 1)))⟩] [0]
@[simp] noncomputable def F35_r5 : CC := .drw [⟨0, ⟨some 21, none, (.move (.tmp 1))⟩, [], []⟩,
  ⟨1, ⟨some 22, none, (.move (.tmp 0))⟩, [], []⟩,
  ⟨2, ⟨some 23, none, (.nilCheck (.tmp 22))⟩, [], []⟩,
  ⟨3, ⟨some 24, none, (.fieldAddr 71 (.tmp 23) 0)⟩, [], []⟩,
  ⟨4, ⟨some 25, none, (.load 32 (.tmp 24))⟩, [], []⟩,
  ⟨5, ⟨some 26, none, (.call { callee := (.builtin .len), args := #[(.tmp 25)], argTypes := #[32] })⟩, [], []⟩,
  ⟨6, ⟨some 27, none, (.binOp .mul 3 (.const (.int .i64 8)) (.tmp 26) 3)⟩, [], []⟩,
  ⟨7, ⟨some 28, none, (.move (.tmp 0))⟩, [], []⟩,
  ⟨8, ⟨some 29, none, (.nilCheck (.tmp 28))⟩, [], []⟩,
  ⟨9, ⟨some 30, none, (.fieldAddr 71 (.tmp 29) 1)⟩, [], []⟩,
  ⟨10, ⟨some 31, none, (.load 3 (.tmp 30))⟩, [], []⟩,
  ⟨11, ⟨some 32, none, (.binOp .sub 3 (.tmp 27) (.tmp 31) 3)⟩, [], []⟩,
  ⟨12, ⟨some 33, none, (.binOp .gtr 3 (.tmp 21) (.tmp 32) 3)⟩, [], []⟩,
  ⟨13, ⟨some 20, none, (.assign (.tmp 33))⟩, [], []⟩] [21, 22, 23, 24, 25, 26, 27, 28, 29, 30, 31, 32, 33, 20] [0, 20]
@[simp] noncomputable def F35_r6 : CC := .reg [⟨some 34, none, (.move (.tmp 0))⟩,
  ⟨some 35, none, (.nilCheck (.tmp 34))⟩,
  ⟨some 36, none, (.fieldAddr 71 (.tmp 35) 2)⟩,
  ⟨none, none, (.store 27 (.tmp 36) (.const (.int .i64 7)))⟩] [0]
@[simp] noncomputable def F35_r7 : CC := .reg [⟨some 37, none, (.move (.tmp 0))⟩,
  ⟨some 38, none, (.nilCheck (.tmp 37))⟩,
  ⟨some 39, none, (.fieldAddr 71 (.tmp 38) 2)⟩,
  ⟨some 40, none, (.load 27 (.tmp 39))⟩,
  ⟨some 41, none, (.binOp .eql 27 (.tmp 40) (.const (.int .i64 0)) 27)⟩,
  ⟨some 4, none, (.assign (.tmp 41))⟩] [4]
noncomputable def F35 : CC := (.seq F35_r0 (.seq (.seq F35_r1 (.cond (.tmp 13) (.seq F35_r2 .ret) .skip)) (.seq (.block 0 (.seq F35_r3 (.cond (.tmp 14) F35_r4 (.seq F35_r5 (.cond (.tmp 20) F35_r6 .skip))))) (.seq F35_r7 .ret))))
noncomputable def F35_inf : Nat → RI
  | 0 => ⟨[0, 1], [], []⟩
  | 1 => ⟨[0, 1, 13], [], []⟩
  | 2 => ⟨[4], [], []⟩
  | 3 => ⟨[0, 1, 14], [], []⟩
  | 4 => ⟨[0], [], []⟩
  | 5 => ⟨[0, 20], [0, 0, 2, 6, 14, 30, 62, 0, 128, 384, 896, 2046, 4095, 8191], [(0, []), (1, []), (2, []), (3, []), (4, []), (5, []), (6, []), (7, []), (8, []), (9, []), (10, []), (11, []), (12, []), (13, [])]⟩
  | 6 => ⟨[0], [], []⟩
  | 7 => ⟨[4], [], []⟩
  | _ => ⟨[], [], []⟩
noncomputable def F35_c : Code := Try.f35.body.getD .skip
theorem F35_b : Try.f35.body = some F35_c := by kernel_rfl
theorem F35_rs : Try.f35.results.toList = ([.tmp 4] : List ResultVar) := by kernel_rfl
theorem F35_n : Try.f35.ntmps = 42 := by kernel_rfl
theorem F35_ok : toCC [] 42 F35_inf F35_c = some F35 := by kernel_rfl
theorem F35_in {args : List AV} {G : Hp} {post : AV → Hp → Prop} (ha : args.all AV.plain = true) (hn : args.length ≤ 42) (h : BDs args → awp Try.prog [] F35 (AEnds Try.prog [.tmp 4] post) (initT args) G) : ACalls Try.prog 35 args G post :=
  acalls_cc Try.func35 F35_b F35_rs F35_n F35_ok mixed ha hn h

/- 36 ostiary/ostiaryref01.Behind -/
@[simp] noncomputable def F36_r0 : CC := .reg [⟨some 4, none, (.assign (.const (.slice none 0 0)))⟩,
  ⟨some 5, none, (.assign (.const (.bool false)))⟩] [0, 1]
@[simp] noncomputable def F36_r1 : CC := .reg [⟨some 6, none, (.move (.tmp 1))⟩,
  ⟨some 7, none, (.call { callee := (.builtin .len), args := #[(.tmp 6)], argTypes := #[22] })⟩,
  ⟨some 8, none, (.move (.tmp 0))⟩,
  ⟨some 9, none, (.call { callee := (.builtin .len), args := #[(.tmp 8)], argTypes := #[22] })⟩,
  ⟨some 10, none, (.binOp .sub 3 (.const (.int .i64 524288)) (.tmp 9) 3)⟩,
  ⟨some 11, none, (.binOp .gtr 3 (.tmp 7) (.tmp 10) 3)⟩] [0, 1, 11]
@[simp] noncomputable def F36_r2 : CC := .reg [⟨some 12, none, (.move (.tmp 0))⟩,
  ⟨some 4, none, (.assign (.tmp 12))⟩,
  ⟨some 5, none, (.assign (.const (.bool false)))⟩] [4, 5]
@[simp] noncomputable def F36_r3 : CC := .reg [⟨some 13, none, (.buildSlice 22 0 #[])⟩,
  ⟨some 14, none, (.move (.tmp 0))⟩,
  ⟨some 15, none, (.call { callee := (.builtin .append), args := #[(.tmp 13), (.tmp 14)], argTypes := #[22, 22] })⟩,
  ⟨some 16, none, (.move (.tmp 1))⟩,
  ⟨some 17, none, (.call { callee := (.builtin .append), args := #[(.tmp 15), (.tmp 16)], argTypes := #[22, 22] })⟩,
  ⟨some 4, none, (.assign (.tmp 17))⟩,
  ⟨some 5, none, (.assign (.const (.bool true)))⟩] [4, 5]
noncomputable def F36 : CC := (.seq F36_r0 (.seq (.seq F36_r1 (.cond (.tmp 11) (.seq F36_r2 .ret) .skip)) (.seq F36_r3 .ret)))
noncomputable def F36_inf : Nat → RI
  | 0 => ⟨[0, 1], [], []⟩
  | 1 => ⟨[0, 1, 11], [], []⟩
  | 2 => ⟨[4, 5], [], []⟩
  | 3 => ⟨[4, 5], [], []⟩
  | _ => ⟨[], [], []⟩
noncomputable def F36_c : Code := Try.f36.body.getD .skip
theorem F36_b : Try.f36.body = some F36_c := by kernel_rfl
theorem F36_rs : Try.f36.results.toList = ([.tmp 4, .tmp 5] : List ResultVar) := by kernel_rfl
theorem F36_n : Try.f36.ntmps = 18 := by kernel_rfl
theorem F36_ok : toCC [] 18 F36_inf F36_c = some F36 := by kernel_rfl
theorem F36_in {args : List AV} {G : Hp} {post : AV → Hp → Prop} (ha : args.all AV.plain = true) (hn : args.length ≤ 18) (h : BDs args → awp Try.prog [] F36 (AEnds Try.prog [.tmp 4, .tmp 5] post) (initT args) G) : ACalls Try.prog 36 args G post :=
  acalls_cc Try.func36 F36_b F36_rs F36_n F36_ok mixed ha hn h
end Go.Proofs.Ytdpppigniaafnaa
