import Derived.Test.YtfllkpdhkeiofaaC0K
set_option linter.unusedVariables false
set_option linter.unusedSimpArgs false
set_option maxRecDepth 100000
namespace Go.Proofs.Ytfllkpdhkeiofaa
open Go Go.Al

/- 3 ostiary/ostiarylaw20.PipeCounts -/
@[simp] noncomputable def F3_r0 : CC := .reg [⟨some 4, none, (.assign (.const (.bool false)))⟩] [0, 1]
@[simp] noncomputable def F3_r1 : CC := .reg [⟨some 15, none, (.move (.tmp 0))⟩,
  ⟨some 16, none, (.binOp .rem 3 (.tmp 15) (.const (.int .i64 20)) 3)⟩,
  ⟨some 0, none, (.assign (.tmp 16))⟩] [0, 1]
@[simp] noncomputable def F3_r2 : CC := .reg [⟨some 17, none, (.move (.tmp 0))⟩,
  ⟨some 18, none, (.call { callee := (.value (.func 7)), args := #[(.tmp 17)], argTypes := #[3] })⟩,
  ⟨some 5, none, (.assign (.tmp 18))⟩] [1, 5]
@[simp] noncomputable def F3_r3 : CC := .reg [⟨some 6, none, (.assign (.const (.slice none 0 0)))⟩] [1, 5, 6]
@[simp] noncomputable def F3_r4 : CC := .reg [⟨some 19, none, (.move (.tmp 1))⟩,
  ⟨some 20, none, (.call { callee := (.builtin .len), args := #[(.tmp 19)], argTypes := #[22] })⟩,
  ⟨some 21, none, (.move (.const (.int .i64 0)))⟩] [5, 6, 19, 20, 21]
@[simp] noncomputable def F3_r5 : CC := .reg [⟨some 22, none, (.binOp .lss 3 (.tmp 21) (.tmp 20) 3)⟩] [5, 6, 19, 20, 21, 22]
@[simp] noncomputable def F3_r6 : CC := .reg [⟨some 23, none, (.move (.tmp 21))⟩,
  ⟨some 24, none, (.indexAddr 22 (.tmp 19) (.tmp 21))⟩,
  ⟨some 25, none, (.load 27 (.tmp 24))⟩,
  ⟨some 8, none, (.alloc 27)⟩,
  ⟨some 7, none, (.assign (.tmp 23))⟩,
  ⟨none, none, (.store 27 (.tmp 8) (.tmp 25))⟩] [5, 6, 7, 8, 19, 20, 21]
@[simp] noncomputable def F3_r7 : CC := .reg [⟨some 26, none, (.move (.tmp 7))⟩,
  ⟨some 27, none, (.binOp .geq 3 (.tmp 26) (.const (.int .i64 50)) 3)⟩] [5, 6, 8, 19, 20, 21, 27]
@[simp] noncomputable def F3_r8 : CC := .reg [⟨some 28, none, (.fieldAddr 27 (.tmp 8) 0)⟩,
  ⟨some 29, none, (.load 3 (.tmp 28))⟩] [5, 6, 8, 19, 20, 21, 29]
@[simp] noncomputable def F3_r9 : CC := .reg [⟨some 31, none, (.binOp .eql 3 (.tmp 29) (.const (.int .i64 0)) 3)⟩,
  ⟨some 30, none, (.assign (.tmp 31))⟩] [5, 6, 8, 19, 20, 21, 29, 30]
@[simp] noncomputable def F3_r10 : CC := .reg [⟨some 32, none, (.binOp .eql 3 (.tmp 29) (.const (.int .i64 1)) 3)⟩,
  ⟨some 30, none, (.assign (.tmp 32))⟩] [5, 6, 8, 19, 20, 21, 29, 30]
@[simp] noncomputable def F3_r11 : CC := .reg [⟨some 33, none, (.fieldAddr 27 (.tmp 8) 3)⟩,
  ⟨some 34, none, (.load 25 (.tmp 33))⟩,
  ⟨some 35, none, (.call { callee := (.builtin .len), args := #[(.tmp 34)], argTypes := #[25] })⟩,
  ⟨some 36, none, (.binOp .gtr 3 (.tmp 35) (.const (.int .i64 6)) 3)⟩] [5, 6, 8, 19, 20, 21, 36]
@[simp] noncomputable def F3_r12 : CC := .reg [⟨some 37, none, (.fieldAddr 27 (.tmp 8) 3)⟩,
  ⟨some 38, none, (.load 25 (.tmp 37))⟩,
  ⟨some 39, none, (.slice 25 (.tmp 38) none (some (.const (.int .i64 6))) none)⟩,
  ⟨some 40, none, (.fieldAddr 27 (.tmp 8) 3)⟩,
  ⟨none, none, (.store 25 (.tmp 40) (.tmp 39))⟩] [5, 6, 8, 19, 20, 21]
@[simp] noncomputable def F3_r13 : CC := .reg [⟨some 41, none, (.move (.tmp 6))⟩,
  ⟨some 42, none, (.fieldAddr 27 (.tmp 8) 3)⟩,
  ⟨some 43, none, (.load 25 (.tmp 42))⟩,
  ⟨some 44, none, (.call { callee := (.builtin .append), args := #[(.tmp 41), (.tmp 43)], argTypes := #[25, 25] })⟩,
  ⟨some 6, none, (.assign (.tmp 44))⟩] [5, 6, 8, 19, 20, 21]
@[simp] noncomputable def F3_r14 : CC := .reg [⟨some 45, none, (.move (.tmp 5))⟩,
  ⟨some 46, none, (.fieldAddr 27 (.tmp 8) 3)⟩,
  ⟨some 47, none, (.load 25 (.tmp 46))⟩,
  ⟨some 48, none, (.call { callee := (.value (.func 8)), args := #[(.tmp 45), (.tmp 47)], argTypes := #[23, 25] })⟩] [5, 6, 19, 20, 21]
@[simp] noncomputable def F3_r15 : CC := .reg [⟨some 50, none, (.binOp .eql 3 (.tmp 29) (.const (.int .i64 2)) 3)⟩,
  ⟨some 49, none, (.assign (.tmp 50))⟩] [5, 6, 8, 19, 20, 21, 29, 49]
@[simp] noncomputable def F3_r16 : CC := .reg [⟨some 51, none, (.binOp .eql 3 (.tmp 29) (.const (.int .i64 3)) 3)⟩,
  ⟨some 49, none, (.assign (.tmp 51))⟩] [5, 6, 8, 19, 20, 21, 29, 49]
@[simp] noncomputable def F3_r17 : CC := .reg [⟨some 53, none, (.move (.tmp 5))⟩,
  ⟨some 54, none, (.fieldAddr 27 (.tmp 8) 1)⟩,
  ⟨some 55, none, (.load 3 (.tmp 54))⟩,
  ⟨some 56, none, (.call { callee := (.value (.func 9)), args := #[(.tmp 53), (.tmp 55)], argTypes := #[23, 3] })⟩,
  ⟨some 52, none, (.move (.tmp 56))⟩,
  ⟨some 57, none, (.extract (.tmp 52) 0)⟩,
  ⟨some 58, none, (.extract (.tmp 52) 1)⟩,
  ⟨some 9, none, (.assign (.tmp 57))⟩,
  ⟨some 10, none, (.assign (.tmp 58))⟩] [5, 6, 9, 10, 19, 20, 21]
@[simp] noncomputable def F3_r18 : CC := .reg [⟨some 59, none, (.move (.tmp 10))⟩,
  ⟨some 60, none, (.move (.tmp 59))⟩,
  ⟨some 61, some (60, true), (.move (.tmp 9))⟩,
  ⟨some 62, some (60, true), (.move (.tmp 6))⟩,
  ⟨some 63, some (60, true), (.call { callee := (.value (.func 10)), args := #[(.tmp 61), (.tmp 62)], argTypes := #[3, 25] })⟩,
  ⟨some 64, some (60, true), (.unOp .not 4 (.tmp 63))⟩,
  ⟨some 65, none, (.pick (.tmp 60) (.tmp 64) (.const (.bool false)))⟩] [5, 6, 19, 20, 21, 65]
@[simp] noncomputable def F3_r19 : CC := .reg [⟨some 4, none, (.assign (.const (.bool false)))⟩] [4]
@[simp] noncomputable def F3_r20 : CC := .reg [⟨some 67, none, (.binOp .eql 3 (.tmp 29) (.const (.int .i64 4)) 3)⟩,
  ⟨some 66, none, (.assign (.tmp 67))⟩] [5, 6, 8, 19, 20, 21, 29, 66]
@[simp] noncomputable def F3_r21 : CC := .reg [⟨some 68, none, (.move (.tmp 5))⟩,
  ⟨some 69, none, (.fieldAddr 27 (.tmp 8) 1)⟩,
  ⟨some 70, none, (.load 3 (.tmp 69))⟩,
  ⟨some 71, none, (.call { callee := (.value (.func 11)), args := #[(.tmp 68), (.tmp 70)], argTypes := #[23, 3] })⟩] [5, 6, 19, 20, 21]
@[simp] noncomputable def F3_r22 : CC := .reg [⟨some 73, none, (.binOp .eql 3 (.tmp 29) (.const (.int .i64 5)) 3)⟩,
  ⟨some 72, none, (.assign (.tmp 73))⟩] [5, 6, 8, 19, 20, 21, 72]
@[simp] noncomputable def F3_r23 : CC := .reg [⟨some 74, none, (.move (.tmp 5))⟩,
  ⟨some 75, none, (.fieldAddr 27 (.tmp 8) 1)⟩,
  ⟨some 76, none, (.load 3 (.tmp 75))⟩,
  ⟨some 77, none, (.fieldAddr 27 (.tmp 8) 2)⟩,
  ⟨some 78, none, (.load 3 (.tmp 77))⟩,
  ⟨some 79, none, (.buildSlice 25 2 #[(0, (.tmp 76)), (1, (.tmp 78))])⟩,
  ⟨some 80, none, (.call { callee := (.value (.func 12)), args := #[(.tmp 74), (.tmp 79)], argTypes := #[23, 25] })⟩] [5, 6, 19, 20, 21]
@[simp] noncomputable def F3_r24 : CC := .reg [⟨some 81, none, (.binOp .add 3 (.tmp 21) (.const (.int .i64 1)) 3)⟩,
  ⟨some 21, none, (.move (.tmp 81))⟩] [5, 6, 19, 20, 21]
noncomputable def F3_l0 : CC := (.seq F3_r5 (.seq (.cond (.tmp 22) .skip (.exit 0)) (.seq (.block 1 (.seq F3_r6 (.seq (.seq F3_r7 (.cond (.tmp 27) (.exit 0) .skip)) (.seq F3_r8 (.block 2 (.seq (.seq F3_r9 (.cond (.tmp 30) .skip F3_r10)) (.cond (.tmp 30) (.seq (.seq F3_r11 (.cond (.tmp 36) F3_r12 .skip)) (.seq F3_r13 F3_r14)) (.seq (.seq F3_r15 (.cond (.tmp 49) .skip F3_r16)) (.cond (.tmp 49) (.seq F3_r17 (.seq F3_r18 (.cond (.tmp 65) (.seq F3_r19 .ret) .skip))) (.seq F3_r20 (.cond (.tmp 66) F3_r21 (.seq F3_r22 (.cond (.tmp 72) F3_r23 .skip))))))))))))) F3_r24)))
@[simp] noncomputable def F3_r25 : CC := .reg [⟨some 83, none, (.move (.tmp 5))⟩,
  ⟨some 84, none, (.call { callee := (.value (.func 13)), args := #[(.tmp 83)], argTypes := #[23] })⟩,
  ⟨some 82, none, (.move (.tmp 84))⟩,
  ⟨some 85, none, (.extract (.tmp 82) 0)⟩,
  ⟨some 86, none, (.extract (.tmp 82) 1)⟩,
  ⟨some 87, none, (.extract (.tmp 82) 2)⟩,
  ⟨some 88, none, (.extract (.tmp 82) 3)⟩,
  ⟨some 11, none, (.assign (.tmp 85))⟩,
  ⟨some 12, none, (.assign (.tmp 86))⟩,
  ⟨some 13, none, (.assign (.tmp 87))⟩,
  ⟨some 14, none, (.assign (.tmp 88))⟩] [5, 11, 12, 13, 14]
@[simp] noncomputable def F3_r26 : CC := .reg [⟨some 89, none, (.move (.tmp 11))⟩,
  ⟨some 90, none, (.move (.tmp 13))⟩,
  ⟨some 91, none, (.binOp .add 3 (.tmp 89) (.tmp 90) 3)⟩,
  ⟨some 92, none, (.move (.tmp 12))⟩,
  ⟨some 93, none, (.move (.tmp 14))⟩,
  ⟨some 94, none, (.binOp .add 3 (.tmp 92) (.tmp 93) 3)⟩,
  ⟨some 95, none, (.move (.tmp 5))⟩,
  ⟨some 96, none, (.call { callee := (.value (.func 14)), args := #[(.tmp 95)], argTypes := #[23] })⟩,
  ⟨some 97, none, (.binOp .add 3 (.tmp 94) (.tmp 96) 3)⟩,
  ⟨some 98, none, (.binOp .eql 3 (.tmp 91) (.tmp 97) 3)⟩,
  ⟨some 99, none, (.move (.tmp 98))⟩,
  ⟨some 100, some (99, true), (.call { callee := (.value (.func 15)), args := #[], argTypes := #[] })⟩,
  ⟨some 101, none, (.pick (.tmp 99) (.tmp 100) (.const (.bool false)))⟩,
  ⟨some 4, none, (.assign (.tmp 101))⟩] [4]
noncomputable def F3 : CC := (.seq F3_r0 (.seq F3_r1 (.seq F3_r2 (.seq F3_r3 (.seq (.seq F3_r4 (.block 0 (.loop F3_l0))) (.seq F3_r25 (.seq F3_r26 .ret)))))))
noncomputable def F3_inf : Nat → RI
  | 0 => ⟨[0, 1], [], []⟩
  | 1 => ⟨[0, 1], [], []⟩
  | 2 => ⟨[1, 5], [], []⟩
  | 3 => ⟨[1, 5, 6], [], []⟩
  | 4 => ⟨[5, 6, 19, 20, 21], [], []⟩
  | 5 => ⟨[5, 6, 19, 20, 21, 22], [], []⟩
  | 6 => ⟨[5, 6, 7, 8, 19, 20, 21], [], []⟩
  | 7 => ⟨[5, 6, 8, 19, 20, 21, 27], [], []⟩
  | 8 => ⟨[5, 6, 8, 19, 20, 21, 29], [], []⟩
  | 9 => ⟨[5, 6, 8, 19, 20, 21, 29, 30], [], []⟩
  | 10 => ⟨[5, 6, 8, 19, 20, 21, 29, 30], [], []⟩
  | 11 => ⟨[5, 6, 8, 19, 20, 21, 36], [], []⟩
  | 12 => ⟨[5, 6, 8, 19, 20, 21], [], []⟩
  | 13 => ⟨[5, 6, 8, 19, 20, 21], [], []⟩
  | 14 => ⟨[5, 6, 19, 20, 21], [], []⟩
  | 15 => ⟨[5, 6, 8, 19, 20, 21, 29, 49], [], []⟩
  | 16 => ⟨[5, 6, 8, 19, 20, 21, 29, 49], [], []⟩
  | 17 => ⟨[5, 6, 9, 10, 19, 20, 21], [], []⟩
  | 18 => ⟨[5, 6, 19, 20, 21, 65], [], []⟩
  | 19 => ⟨[4], [], []⟩
  | 20 => ⟨[5, 6, 8, 19, 20, 21, 29, 66], [], []⟩
  | 21 => ⟨[5, 6, 19, 20, 21], [], []⟩
  | 22 => ⟨[5, 6, 8, 19, 20, 21, 72], [], []⟩
  | 23 => ⟨[5, 6, 19, 20, 21], [], []⟩
  | 24 => ⟨[5, 6, 19, 20, 21], [], []⟩
  | 25 => ⟨[5, 11, 12, 13, 14], [], []⟩
  | 26 => ⟨[4], [], []⟩
  | _ => ⟨[], [], []⟩
noncomputable def F3_c : Code := Try.f3.body.getD .skip
theorem F3_b : Try.f3.body = some F3_c := by kernel_rfl
theorem F3_rs : Try.f3.results.toList = ([.tmp 4] : List ResultVar) := by kernel_rfl
theorem F3_n : Try.f3.ntmps = 102 := by kernel_rfl
theorem F3_ok : toCC [] 102 F3_inf F3_c = some F3 := by kernel_rfl
theorem F3_in {args : List AV} {G : Hp} {post : AV → Hp → Prop} (ha : args.all AV.plain = true) (hn : args.length ≤ 102) (h : BDs args → awp Try.prog [] F3 (AEnds Try.prog [.tmp 4] post) (initT args) G) : ACalls Try.prog 3 args G post :=
  acalls_cc Try.func3 F3_b F3_rs F3_n F3_ok mixed ha hn h

/- 4 ostiary/ostiarylaw20.PipeOrder -/
@[simp] noncomputable def F4_r0 : CC := .reg [⟨some 4, none, (.assign (.const (.bool false)))⟩] [0, 1]
@[simp] noncomputable def F4_r1 : CC := .reg [⟨some 12, none, (.move (.tmp 1))⟩,
  ⟨some 13, none, (.call { callee := (.builtin .len), args := #[(.tmp 12)], argTypes := #[25] })⟩,
  ⟨some 14, none, (.binOp .gtr 3 (.tmp 13) (.const (.int .i64 60)) 3)⟩] [0, 1, 14]
@[simp] noncomputable def F4_r2 : CC := .reg [⟨some 15, none, (.move (.tmp 1))⟩,
  ⟨some 16, none, (.slice 25 (.tmp 15) none (some (.const (.int .i64 60))) none)⟩,
  ⟨some 1, none, (.assign (.tmp 16))⟩] [0, 1]
@[simp] noncomputable def F4_r3 : CC := .reg [⟨some 17, none, (.move (.tmp 0))⟩,
  ⟨some 18, none, (.binOp .and 3 (.tmp 17) (.const (.int .i64 31)) 3)⟩,
  ⟨some 0, none, (.assign (.tmp 18))⟩] [0, 1]
@[simp] noncomputable def F4_r4 : CC := .reg [⟨some 19, none, (.move (.tmp 0))⟩,
  ⟨some 20, none, (.call { callee := (.value (.func 7)), args := #[(.tmp 19)], argTypes := #[3] })⟩,
  ⟨some 5, none, (.assign (.tmp 20))⟩] [0, 1, 5]
@[simp] noncomputable def F4_r5 : CC := .reg [⟨some 21, none, (.move (.tmp 5))⟩,
  ⟨some 22, none, (.move (.tmp 1))⟩,
  ⟨some 23, none, (.call { callee := (.value (.func 8)), args := #[(.tmp 21), (.tmp 22)], argTypes := #[23, 25] })⟩,
  ⟨some 6, none, (.assign (.tmp 23))⟩] [0, 1, 5, 6]
@[simp] noncomputable def F4_r6 : CC := .reg [⟨some 24, none, (.move (.tmp 0))⟩,
  ⟨some 25, none, (.binOp .lss 3 (.tmp 24) (.const (.int .i64 1)) 3)⟩] [0, 1, 5, 6, 25]
@[simp] noncomputable def F4_r7 : CC := .reg [⟨some 0, none, (.assign (.const (.int .i64 1)))⟩] [0, 1, 5, 6]
@[simp] noncomputable def F4_r8 : CC := .reg [⟨some 26, none, (.move (.tmp 6))⟩,
  ⟨some 27, none, (.move (.tmp 0))⟩,
  ⟨some 28, none, (.binOp .gtr 3 (.tmp 26) (.tmp 27) 3)⟩,
  ⟨some 29, none, (.move (.tmp 28))⟩,
  ⟨some 30, some (29, false), (.move (.tmp 6))⟩,
  ⟨some 31, some (29, false), (.move (.tmp 1))⟩,
  ⟨some 32, some (29, false), (.call { callee := (.builtin .len), args := #[(.tmp 31)], argTypes := #[25] })⟩,
  ⟨some 33, some (29, false), (.binOp .gtr 3 (.tmp 30) (.tmp 32) 3)⟩,
  ⟨some 34, none, (.pick (.tmp 29) (.const (.bool true)) (.tmp 33))⟩,
  ⟨some 35, none, (.move (.tmp 34))⟩,
  ⟨some 36, some (35, false), (.move (.tmp 6))⟩,
  ⟨some 37, some (35, false), (.move (.tmp 0))⟩,
  ⟨some 38, some (35, false), (.binOp .lss 3 (.tmp 36) (.tmp 37) 3)⟩,
  ⟨some 39, some (35, false), (.move (.tmp 38))⟩,
  ⟨some 40, some (39, true), (.move (.tmp 6))⟩,
  ⟨some 41, some (39, true), (.move (.tmp 1))⟩,
  ⟨some 42, some (39, true), (.call { callee := (.builtin .len), args := #[(.tmp 41)], argTypes := #[25] })⟩,
  ⟨some 43, some (39, true), (.binOp .lss 3 (.tmp 40) (.tmp 42) 3)⟩,
  ⟨some 44, some (35, false), (.pick (.tmp 39) (.tmp 43) (.const (.bool false)))⟩,
  ⟨some 45, none, (.pick (.tmp 35) (.const (.bool true)) (.tmp 44))⟩] [1, 5, 6, 45]
@[simp] noncomputable def F4_r9 : CC := .reg [⟨some 4, none, (.assign (.const (.bool false)))⟩] [4]
@[simp] noncomputable def F4_r10 : CC := .reg [⟨some 7, none, (.assign (.const (.int .i64 0)))⟩] [1, 5, 6, 7]
@[simp] noncomputable def F4_r11 : CC := .reg [⟨some 46, none, (.move (.tmp 7))⟩,
  ⟨some 47, none, (.move (.tmp 6))⟩,
  ⟨some 48, none, (.binOp .lss 3 (.tmp 46) (.tmp 47) 3)⟩] [1, 5, 6, 7, 48]
@[simp] noncomputable def F4_r13 : CC := .reg [⟨some 52, none, (.move (.tmp 5))⟩,
  ⟨some 53, none, (.call { callee := (.value (.func 9)), args := #[(.tmp 52), (.const (.int .i64 0))], argTypes := #[23, 3] })⟩,
  ⟨some 51, none, (.move (.tmp 53))⟩,
  ⟨some 54, none, (.extract (.tmp 51) 0)⟩,
  ⟨some 55, none, (.extract (.tmp 51) 1)⟩,
  ⟨some 8, none, (.assign (.tmp 54))⟩,
  ⟨some 9, none, (.assign (.tmp 55))⟩] [1, 5, 6, 7, 8, 9]
@[simp] noncomputable def F4_r14 : CC := .reg [⟨some 56, none, (.move (.tmp 9))⟩,
  ⟨some 57, none, (.unOp .not 4 (.tmp 56))⟩,
  ⟨some 58, none, (.move (.tmp 57))⟩,
  ⟨some 59, some (58, false), (.move (.tmp 8))⟩,
  ⟨some 60, some (58, false), (.move (.tmp 1))⟩,
  ⟨some 61, some (58, false), (.move (.tmp 7))⟩,
  ⟨some 62, some (58, false), (.indexAddr 25 (.tmp 60) (.tmp 61))⟩,
  ⟨some 63, some (58, false), (.load 3 (.tmp 62))⟩,
  ⟨some 64, some (58, false), (.binOp .neq 3 (.tmp 59) (.tmp 63) 3)⟩,
  ⟨some 65, none, (.pick (.tmp 58) (.const (.bool true)) (.tmp 64))⟩] [1, 5, 6, 7, 65]
@[simp] noncomputable def F4_r15 : CC := .reg [⟨some 4, none, (.assign (.const (.bool false)))⟩] [4]
@[simp] noncomputable def F4_r12 : CC := .reg [⟨some 49, none, (.move (.tmp 7))⟩,
  ⟨some 50, none, (.binOp .add 3 (.tmp 49) (.const (.int .i64 1)) 3)⟩,
  ⟨some 7, none, (.assign (.tmp 50))⟩] [1, 5, 6, 7]
noncomputable def F4_l0 : CC := (.seq (.seq F4_r11 (.cond (.tmp 48) .skip (.exit 0))) (.seq (.block 1 (.seq F4_r13 (.seq F4_r14 (.cond (.tmp 65) (.seq F4_r15 .ret) .skip)))) F4_r12))
@[simp] noncomputable def F4_r16 : CC := .reg [⟨some 67, none, (.move (.tmp 5))⟩,
  ⟨some 68, none, (.call { callee := (.value (.func 9)), args := #[(.tmp 67), (.const (.int .i64 0))], argTypes := #[23, 3] })⟩,
  ⟨some 66, none, (.move (.tmp 68))⟩,
  ⟨some 69, none, (.extract (.tmp 66) 0)⟩,
  ⟨some 70, none, (.extract (.tmp 66) 1)⟩,
  ⟨some 10, none, (.assign (.tmp 69))⟩,
  ⟨some 11, none, (.assign (.tmp 70))⟩] [5, 11]
@[simp] noncomputable def F4_r17 : CC := .reg [⟨some 71, none, (.move (.tmp 11))⟩,
  ⟨some 72, none, (.unOp .not 4 (.tmp 71))⟩,
  ⟨some 73, none, (.move (.tmp 72))⟩,
  ⟨some 74, some (73, true), (.move (.tmp 5))⟩,
  ⟨some 75, some (73, true), (.call { callee := (.value (.func 14)), args := #[(.tmp 74)], argTypes := #[23] })⟩,
  ⟨some 76, some (73, true), (.binOp .eql 3 (.tmp 75) (.const (.int .i64 0)) 3)⟩,
  ⟨some 77, none, (.pick (.tmp 73) (.tmp 76) (.const (.bool false)))⟩,
  ⟨some 78, none, (.move (.tmp 77))⟩,
  ⟨some 79, some (78, true), (.call { callee := (.value (.func 15)), args := #[], argTypes := #[] })⟩,
  ⟨some 80, none, (.pick (.tmp 78) (.tmp 79) (.const (.bool false)))⟩,
  ⟨some 4, none, (.assign (.tmp 80))⟩] [4]
noncomputable def F4 : CC := (.seq F4_r0 (.seq (.seq F4_r1 (.cond (.tmp 14) F4_r2 .skip)) (.seq F4_r3 (.seq F4_r4 (.seq F4_r5 (.seq (.seq F4_r6 (.cond (.tmp 25) F4_r7 .skip)) (.seq (.seq F4_r8 (.cond (.tmp 45) (.seq F4_r9 .ret) .skip)) (.seq (.seq F4_r10 (.block 0 (.loop F4_l0))) (.seq F4_r16 (.seq F4_r17 .ret))))))))))
noncomputable def F4_inf : Nat → RI
  | 0 => ⟨[0, 1], [], []⟩
  | 1 => ⟨[0, 1, 14], [], []⟩
  | 2 => ⟨[0, 1], [], []⟩
  | 3 => ⟨[0, 1], [], []⟩
  | 4 => ⟨[0, 1, 5], [], []⟩
  | 5 => ⟨[0, 1, 5, 6], [], []⟩
  | 6 => ⟨[0, 1, 5, 6, 25], [], []⟩
  | 7 => ⟨[0, 1, 5, 6], [], []⟩
  | 8 => ⟨[1, 5, 6, 45], [], []⟩
  | 9 => ⟨[4], [], []⟩
  | 10 => ⟨[1, 5, 6, 7], [], []⟩
  | 11 => ⟨[1, 5, 6, 7, 48], [], []⟩
  | 13 => ⟨[1, 5, 6, 7, 8, 9], [], []⟩
  | 14 => ⟨[1, 5, 6, 7, 65], [], []⟩
  | 15 => ⟨[4], [], []⟩
  | 12 => ⟨[1, 5, 6, 7], [], []⟩
  | 16 => ⟨[5, 11], [], []⟩
  | 17 => ⟨[4], [], []⟩
  | _ => ⟨[], [], []⟩
noncomputable def F4_c : Code := Try.f4.body.getD .skip
theorem F4_b : Try.f4.body = some F4_c := by kernel_rfl
theorem F4_rs : Try.f4.results.toList = ([.tmp 4] : List ResultVar) := by kernel_rfl
theorem F4_n : Try.f4.ntmps = 81 := by kernel_rfl
theorem F4_ok : toCC [] 81 F4_inf F4_c = some F4 := by kernel_rfl
theorem F4_in {args : List AV} {G : Hp} {post : AV → Hp → Prop} (ha : args.all AV.plain = true) (hn : args.length ≤ 81) (h : BDs args → awp Try.prog [] F4 (AEnds Try.prog [.tmp 4] post) (initT args) G) : ACalls Try.prog 4 args G post :=
  acalls_cc Try.func4 F4_b F4_rs F4_n F4_ok mixed ha hn h

/- 5 ostiary/ostiarylaw20.PipePlays -/
@[simp] noncomputable def F5_r0 : CC := .reg [⟨some 4, none, (.assign (.const (.bool false)))⟩] [0, 1]
@[simp] noncomputable def F5_r1 : CC := .reg [⟨some 14, none, (.move (.tmp 0))⟩,
  ⟨some 15, none, (.binOp .rem 3 (.tmp 14) (.const (.int .i64 20)) 3)⟩,
  ⟨some 0, none, (.assign (.tmp 15))⟩] [0, 1]
@[simp] noncomputable def F5_r2 : CC := .reg [⟨some 16, none, (.move (.tmp 0))⟩,
  ⟨some 17, none, (.call { callee := (.value (.func 7)), args := #[(.tmp 16)], argTypes := #[3] })⟩,
  ⟨some 18, none, (.move (.tmp 0))⟩,
  ⟨some 19, none, (.call { callee := (.value (.func 16)), args := #[(.tmp 18)], argTypes := #[3] })⟩,
  ⟨some 6, none, (.alloc 39)⟩,
  ⟨some 5, none, (.assign (.tmp 17))⟩,
  ⟨none, none, (.store 39 (.tmp 6) (.tmp 19))⟩] [1, 5, 6]
@[simp] noncomputable def F5_r3 : CC := .reg [⟨some 7, none, (.assign (.const (.bool true)))⟩] [1, 5, 6, 7]
@[simp] noncomputable def F5_r4 : CC := .reg [⟨some 20, none, (.move (.tmp 1))⟩,
  ⟨some 21, none, (.call { callee := (.builtin .len), args := #[(.tmp 20)], argTypes := #[22] })⟩,
  ⟨some 22, none, (.move (.const (.int .i64 0)))⟩] [5, 6, 7, 20, 21, 22]
@[simp] noncomputable def F5_r5 : CC := .reg [⟨some 23, none, (.binOp .lss 3 (.tmp 22) (.tmp 21) 3)⟩] [5, 6, 7, 20, 21, 22, 23]
@[simp] noncomputable def F5_r6 : CC := .reg [⟨some 24, none, (.move (.tmp 22))⟩,
  ⟨some 25, none, (.indexAddr 22 (.tmp 20) (.tmp 22))⟩,
  ⟨some 26, none, (.load 27 (.tmp 25))⟩,
  ⟨some 9, none, (.alloc 27)⟩,
  ⟨some 8, none, (.assign (.tmp 24))⟩,
  ⟨none, none, (.store 27 (.tmp 9) (.tmp 26))⟩] [5, 6, 7, 8, 9, 20, 21, 22]
@[simp] noncomputable def F5_r7 : CC := .reg [⟨some 27, none, (.move (.tmp 8))⟩,
  ⟨some 28, none, (.binOp .geq 3 (.tmp 27) (.const (.int .i64 50)) 3)⟩,
  ⟨some 29, none, (.move (.tmp 28))⟩,
  ⟨some 30, some (29, false), (.move (.tmp 7))⟩,
  ⟨some 31, some (29, false), (.unOp .not 4 (.tmp 30))⟩,
  ⟨some 32, none, (.pick (.tmp 29) (.const (.bool true)) (.tmp 31))⟩] [5, 6, 7, 9, 20, 21, 22, 32]
@[simp] noncomputable def F5_r8 : CC := .reg [⟨some 34, none, (.move (.tmp 5))⟩,
  ⟨some 35, none, (.load 39 (.tmp 6))⟩,
  ⟨some 36, none, (.load 27 (.tmp 9))⟩,
  ⟨some 37, none, (.call { callee := (.value (.func 17)), args := #[(.tmp 34), (.tmp 35), (.tmp 36)], argTypes := #[23, 39, 27] })⟩,
  ⟨some 33, none, (.move (.tmp 37))⟩,
  ⟨some 38, none, (.extract (.tmp 33) 0)⟩,
  ⟨some 39, none, (.extract (.tmp 33) 1)⟩,
  ⟨none, none, (.store 39 (.tmp 6) (.tmp 38))⟩,
  ⟨some 7, none, (.assign (.tmp 39))⟩] [5, 6, 7, 20, 21, 22]
@[simp] noncomputable def F5_r9 : CC := .reg [⟨some 41, none, (.move (.tmp 5))⟩,
  ⟨some 42, none, (.call { callee := (.value (.func 13)), args := #[(.tmp 41)], argTypes := #[23] })⟩,
  ⟨some 40, none, (.move (.tmp 42))⟩,
  ⟨some 43, none, (.extract (.tmp 40) 0)⟩,
  ⟨some 44, none, (.extract (.tmp 40) 1)⟩,
  ⟨some 45, none, (.extract (.tmp 40) 2)⟩,
  ⟨some 46, none, (.extract (.tmp 40) 3)⟩,
  ⟨some 10, none, (.assign (.tmp 43))⟩,
  ⟨some 11, none, (.assign (.tmp 44))⟩,
  ⟨some 12, none, (.assign (.tmp 45))⟩,
  ⟨some 13, none, (.assign (.tmp 46))⟩] [5, 6, 7, 10, 11, 12, 13, 20, 21, 22]
@[simp] noncomputable def F5_r10 : CC := .drw [⟨0, ⟨some 47, none, (.move (.tmp 7))⟩, [], []⟩,
  ⟨1, ⟨some 48, none, (.move (.tmp 47))⟩, [], []⟩,
  ⟨2, ⟨some 49, some (48, true), (.move (.tmp 5))⟩, [], []⟩,
  ⟨4, ⟨some 51, some (48, true), (.fieldAddr 39 (.tmp 6) 0)⟩, [], []⟩,
  ⟨5, ⟨some 52, some (48, true), (.load 25 (.tmp 51))⟩, [], []⟩,
  ⟨6, ⟨some 53, some (48, true), (.call { callee := (.builtin .len), args := #[(.tmp 52)], argTypes := #[25] })⟩, [], []⟩,
  ⟨3, ⟨some 50, some (48, true), (.call { callee := (.value (.func 14)), args := #[(.tmp 49)], argTypes := #[23] })⟩, [5], [⟨some 52, some (48, true), (.load 25 (.tmp 51))⟩]⟩,
  ⟨7, ⟨some 54, some (48, true), (.binOp .eql 3 (.tmp 50) (.tmp 53) 3)⟩, [], []⟩,
  ⟨8, ⟨some 55, none, (.pick (.tmp 48) (.tmp 54) (.const (.bool false)))⟩, [], []⟩,
  ⟨9, ⟨some 56, none, (.move (.tmp 55))⟩, [], []⟩,
  ⟨10, ⟨some 57, some (56, true), (.move (.tmp 5))⟩, [], []⟩,
  ⟨12, ⟨some 59, some (56, true), (.fieldAddr 39 (.tmp 6) 0)⟩, [], []⟩,
  ⟨13, ⟨some 60, some (56, true), (.load 25 (.tmp 59))⟩, [], []⟩,
  ⟨11, ⟨some 58, some (56, true), (.call { callee := (.value (.func 19)), args := #[(.tmp 57)], argTypes := #[23] })⟩, [13], [⟨some 60, some (56, true), (.load 25 (.tmp 59))⟩]⟩,
  ⟨14, ⟨some 61, some (56, true), (.call { callee := (.value (.func 18)), args := #[(.tmp 58), (.tmp 60)], argTypes := #[25, 25] })⟩, [], []⟩,
  ⟨15, ⟨some 62, none, (.pick (.tmp 56) (.tmp 61) (.const (.bool false)))⟩, [], []⟩,
  ⟨16, ⟨some 63, none, (.move (.tmp 62))⟩, [], []⟩,
  ⟨17, ⟨some 64, some (63, true), (.move (.tmp 10))⟩, [], []⟩,
  ⟨18, ⟨some 65, some (63, true), (.fieldAddr 39 (.tmp 6) 2)⟩, [], []⟩,
  ⟨19, ⟨some 66, some (63, true), (.load 3 (.tmp 65))⟩, [], []⟩,
  ⟨20, ⟨some 67, some (63, true), (.binOp .eql 3 (.tmp 64) (.tmp 66) 3)⟩, [], []⟩,
  ⟨21, ⟨some 68, none, (.pick (.tmp 63) (.tmp 67) (.const (.bool false)))⟩, [], []⟩,
  ⟨22, ⟨some 69, none, (.move (.tmp 68))⟩, [], []⟩,
  ⟨23, ⟨some 70, some (69, true), (.move (.tmp 11))⟩, [], []⟩,
  ⟨24, ⟨some 71, some (69, true), (.fieldAddr 39 (.tmp 6) 3)⟩, [], []⟩,
  ⟨25, ⟨some 72, some (69, true), (.load 3 (.tmp 71))⟩, [], []⟩,
  ⟨26, ⟨some 73, some (69, true), (.binOp .eql 3 (.tmp 70) (.tmp 72) 3)⟩, [], []⟩,
  ⟨27, ⟨some 74, none, (.pick (.tmp 69) (.tmp 73) (.const (.bool false)))⟩, [], []⟩,
  ⟨28, ⟨some 75, none, (.move (.tmp 74))⟩, [], []⟩,
  ⟨29, ⟨some 76, some (75, true), (.move (.tmp 12))⟩, [], []⟩,
  ⟨30, ⟨some 77, some (75, true), (.fieldAddr 39 (.tmp 6) 4)⟩, [], []⟩,
  ⟨31, ⟨some 78, some (75, true), (.load 3 (.tmp 77))⟩, [], []⟩,
  ⟨32, ⟨some 79, some (75, true), (.binOp .eql 3 (.tmp 76) (.tmp 78) 3)⟩, [], []⟩,
  ⟨33, ⟨some 80, none, (.pick (.tmp 75) (.tmp 79) (.const (.bool false)))⟩, [], []⟩,
  ⟨34, ⟨some 81, none, (.move (.tmp 80))⟩, [], []⟩,
  ⟨35, ⟨some 82, some (81, true), (.move (.tmp 13))⟩, [], []⟩,
  ⟨36, ⟨some 83, some (81, true), (.fieldAddr 39 (.tmp 6) 5)⟩, [], []⟩,
  ⟨37, ⟨some 84, some (81, true), (.load 3 (.tmp 83))⟩, [], []⟩,
  ⟨38, ⟨some 85, some (81, true), (.binOp .eql 3 (.tmp 82) (.tmp 84) 3)⟩, [], []⟩,
  ⟨39, ⟨some 86, none, (.pick (.tmp 81) (.tmp 85) (.const (.bool false)))⟩, [], []⟩,
  ⟨40, ⟨some 7, none, (.assign (.tmp 86))⟩, [], []⟩] [47, 48, 49, 51, 52, 53, 50, 54, 55, 56, 57, 59, 60, 58, 61, 62, 63, 64, 65, 66, 67, 68, 69, 70, 71, 72, 73, 74, 75, 76, 77, 78, 79, 80, 81, 82, 83, 84, 85, 86, 7] [5, 6, 7, 20, 21, 22]
@[simp] noncomputable def F5_r11 : CC := .reg [⟨some 87, none, (.binOp .add 3 (.tmp 22) (.const (.int .i64 1)) 3)⟩,
  ⟨some 22, none, (.move (.tmp 87))⟩] [5, 6, 7, 20, 21, 22]
noncomputable def F5_l0 : CC := (.seq F5_r5 (.seq (.cond (.tmp 23) .skip (.exit 0)) (.seq (.block 1 (.seq F5_r6 (.seq (.seq F5_r7 (.cond (.tmp 32) (.exit 0) .skip)) (.seq F5_r8 (.seq F5_r9 F5_r10))))) F5_r11)))
@[simp] noncomputable def F5_r12 : CC := .reg [⟨some 88, none, (.move (.tmp 7))⟩,
  ⟨some 89, none, (.move (.tmp 88))⟩,
  ⟨some 90, some (89, true), (.call { callee := (.value (.func 15)), args := #[], argTypes := #[] })⟩,
  ⟨some 91, none, (.pick (.tmp 89) (.tmp 90) (.const (.bool false)))⟩,
  ⟨some 4, none, (.assign (.tmp 91))⟩] [4]
noncomputable def F5 : CC := (.seq F5_r0 (.seq F5_r1 (.seq F5_r2 (.seq F5_r3 (.seq (.seq F5_r4 (.block 0 (.loop F5_l0))) (.seq F5_r12 .ret))))))
noncomputable def F5_inf : Nat → RI
  | 0 => ⟨[0, 1], [], []⟩
  | 1 => ⟨[0, 1], [], []⟩
  | 2 => ⟨[1, 5, 6], [], []⟩
  | 3 => ⟨[1, 5, 6, 7], [], []⟩
  | 4 => ⟨[5, 6, 7, 20, 21, 22], [], []⟩
  | 5 => ⟨[5, 6, 7, 20, 21, 22, 23], [], []⟩
  | 6 => ⟨[5, 6, 7, 8, 9, 20, 21, 22], [], []⟩
  | 7 => ⟨[5, 6, 7, 9, 20, 21, 22, 32], [], []⟩
  | 8 => ⟨[5, 6, 7, 20, 21, 22], [], []⟩
  | 9 => ⟨[5, 6, 7, 10, 11, 12, 13, 20, 21, 22], [], []⟩
  | 10 => ⟨[5, 6, 7, 20, 21, 22], [0, 1, 3, 7, 3, 19, 51, 127, 255, 511, 1023, 2047, 1023, 5119, 16383, 32767, 65535, 131071, 131071, 393215, 1048575, 2097151, 4194303, 8388607, 8388607, 25165823, 67108863, 134217727, 268435455, 536870911, 536870911, 1610612735, 4294967295, 8589934591, 17179869183, 34359738367, 34359738367, 103079215103, 274877906943, 549755813887, 1099511627775], [(0, []), (1, []), (2, []), (4, []), (5, []), (6, []), (3, [5]), (7, []), (8, []), (9, []), (10, []), (12, []), (13, []), (11, [13]), (14, []), (15, []), (16, []), (17, []), (18, []), (19, []), (20, []), (21, []), (22, []), (23, []), (24, []), (25, []), (26, []), (27, []), (28, []), (29, []), (30, []), (31, []), (32, []), (33, []), (34, []), (35, []), (36, []), (37, []), (38, []), (39, []), (40, [])]⟩
  | 11 => ⟨[5, 6, 7, 20, 21, 22], [], []⟩
  | 12 => ⟨[4], [], []⟩
  | _ => ⟨[], [], []⟩
noncomputable def F5_c : Code := Try.f5.body.getD .skip
theorem F5_b : Try.f5.body = some F5_c := by kernel_rfl
theorem F5_rs : Try.f5.results.toList = ([.tmp 4] : List ResultVar) := by kernel_rfl
theorem F5_n : Try.f5.ntmps = 92 := by kernel_rfl
theorem F5_ok : toCC [] 92 F5_inf F5_c = some F5 := by kernel_rfl
theorem F5_in {args : List AV} {G : Hp} {post : AV → Hp → Prop} (ha : args.all AV.plain = true) (hn : args.length ≤ 92) (h : BDs args → awp Try.prog [] F5 (AEnds Try.prog [.tmp 4] post) (initT args) G) : ACalls Try.prog 5 args G post :=
  acalls_cc Try.func5 F5_b F5_rs F5_n F5_ok mixed ha hn h

/- 6 ostiary/ostiarylaw20.PipeNil -/
@[simp] noncomputable def F6_r0 : CC := .reg [⟨some 2, none, (.assign (.const (.bool false)))⟩] [0]
@[simp] noncomputable def F6_r1 : CC := .reg [⟨some 3, none, (.assign (.const (.pointer none)))⟩] [0, 3]
@[simp] noncomputable def F6_r2 : CC := .reg [⟨some 13, none, (.move (.tmp 3))⟩,
  ⟨some 14, none, (.move (.tmp 0))⟩,
  ⟨some 15, none, (.call { callee := (.value (.func 9)), args := #[(.tmp 13), (.tmp 14)], argTypes := #[23, 3] })⟩,
  ⟨some 12, none, (.move (.tmp 15))⟩,
  ⟨some 16, none, (.extract (.tmp 12) 0)⟩,
  ⟨some 17, none, (.extract (.tmp 12) 1)⟩,
  ⟨some 4, none, (.assign (.tmp 16))⟩,
  ⟨some 5, none, (.assign (.tmp 17))⟩] [0, 3, 5]
@[simp] noncomputable def F6_r3 : CC := .reg [⟨some 19, none, (.move (.tmp 3))⟩,
  ⟨some 20, none, (.move (.tmp 0))⟩,
  ⟨some 21, none, (.call { callee := (.value (.func 20)), args := #[(.tmp 19), (.tmp 20)], argTypes := #[23, 3] })⟩,
  ⟨some 18, none, (.move (.tmp 21))⟩,
  ⟨some 22, none, (.extract (.tmp 18) 0)⟩,
  ⟨some 23, none, (.extract (.tmp 18) 1)⟩,
  ⟨some 6, none, (.assign (.tmp 22))⟩,
  ⟨some 7, none, (.assign (.tmp 23))⟩] [0, 3, 5, 7]
@[simp] noncomputable def F6_r4 : CC := .reg [⟨some 25, none, (.move (.tmp 3))⟩,
  ⟨some 26, none, (.call { callee := (.value (.func 13)), args := #[(.tmp 25)], argTypes := #[23] })⟩,
  ⟨some 24, none, (.move (.tmp 26))⟩,
  ⟨some 27, none, (.extract (.tmp 24) 0)⟩,
  ⟨some 28, none, (.extract (.tmp 24) 1)⟩,
  ⟨some 29, none, (.extract (.tmp 24) 2)⟩,
  ⟨some 30, none, (.extract (.tmp 24) 3)⟩,
  ⟨some 8, none, (.assign (.tmp 27))⟩,
  ⟨some 9, none, (.assign (.tmp 28))⟩,
  ⟨some 10, none, (.assign (.tmp 29))⟩,
  ⟨some 11, none, (.assign (.tmp 30))⟩] [0, 3, 5, 7, 8, 9, 10, 11]
@[simp] noncomputable def F6_r5 : CC := .reg [⟨some 31, none, (.move (.tmp 3))⟩,
  ⟨some 32, none, (.move (.tmp 0))⟩,
  ⟨some 33, none, (.buildSlice 25 1 #[(0, (.tmp 32))])⟩,
  ⟨some 34, none, (.call { callee := (.value (.func 8)), args := #[(.tmp 31), (.tmp 33)], argTypes := #[23, 25] })⟩,
  ⟨some 35, none, (.binOp .eql 3 (.tmp 34) (.const (.int .i64 0)) 3)⟩,
  ⟨some 36, none, (.move (.tmp 35))⟩,
  ⟨some 37, some (36, true), (.move (.tmp 5))⟩,
  ⟨some 38, some (36, true), (.unOp .not 4 (.tmp 37))⟩,
  ⟨some 39, none, (.pick (.tmp 36) (.tmp 38) (.const (.bool false)))⟩,
  ⟨some 40, none, (.move (.tmp 39))⟩,
  ⟨some 41, some (40, true), (.move (.tmp 7))⟩,
  ⟨some 42, some (40, true), (.unOp .not 4 (.tmp 41))⟩,
  ⟨some 43, none, (.pick (.tmp 40) (.tmp 42) (.const (.bool false)))⟩,
  ⟨some 44, none, (.move (.tmp 43))⟩,
  ⟨some 45, some (44, true), (.move (.tmp 3))⟩,
  ⟨some 46, some (44, true), (.move (.tmp 0))⟩,
  ⟨some 47, some (44, true), (.call { callee := (.value (.func 11)), args := #[(.tmp 45), (.tmp 46)], argTypes := #[23, 3] })⟩,
  ⟨some 48, some (44, true), (.unOp .not 4 (.tmp 47))⟩,
  ⟨some 49, none, (.pick (.tmp 44) (.tmp 48) (.const (.bool false)))⟩,
  ⟨some 50, none, (.move (.tmp 49))⟩,
  ⟨some 51, some (50, true), (.move (.tmp 3))⟩,
  ⟨some 52, some (50, true), (.move (.tmp 0))⟩,
  ⟨some 53, some (50, true), (.buildSlice 25 1 #[(0, (.tmp 52))])⟩,
  ⟨some 54, some (50, true), (.call { callee := (.value (.func 12)), args := #[(.tmp 51), (.tmp 53)], argTypes := #[23, 25] })⟩,
  ⟨some 55, some (50, true), (.binOp .eql 3 (.tmp 54) (.const (.int .i64 0)) 3)⟩,
  ⟨some 56, none, (.pick (.tmp 50) (.tmp 55) (.const (.bool false)))⟩,
  ⟨some 57, none, (.move (.tmp 56))⟩,
  ⟨some 58, some (57, true), (.move (.tmp 3))⟩,
  ⟨some 59, some (57, true), (.call { callee := (.value (.func 14)), args := #[(.tmp 58)], argTypes := #[23] })⟩,
  ⟨some 60, some (57, true), (.binOp .eql 3 (.tmp 59) (.const (.int .i64 0)) 3)⟩,
  ⟨some 61, none, (.pick (.tmp 57) (.tmp 60) (.const (.bool false)))⟩,
  ⟨some 62, none, (.move (.tmp 61))⟩,
  ⟨some 63, some (62, true), (.move (.tmp 3))⟩,
  ⟨some 64, some (62, true), (.call { callee := (.value (.func 19)), args := #[(.tmp 63)], argTypes := #[23] })⟩,
  ⟨some 65, some (62, true), (.call { callee := (.builtin .len), args := #[(.tmp 64)], argTypes := #[25] })⟩,
  ⟨some 66, some (62, true), (.binOp .eql 3 (.tmp 65) (.const (.int .i64 0)) 3)⟩,
  ⟨some 67, none, (.pick (.tmp 62) (.tmp 66) (.const (.bool false)))⟩,
  ⟨some 68, none, (.move (.tmp 67))⟩,
  ⟨some 69, some (68, true), (.move (.tmp 8))⟩,
  ⟨some 70, some (68, true), (.move (.tmp 9))⟩,
  ⟨some 71, some (68, true), (.binOp .add 3 (.tmp 69) (.tmp 70) 3)⟩,
  ⟨some 72, some (68, true), (.move (.tmp 10))⟩,
  ⟨some 73, some (68, true), (.binOp .add 3 (.tmp 71) (.tmp 72) 3)⟩,
  ⟨some 74, some (68, true), (.move (.tmp 11))⟩,
  ⟨some 75, some (68, true), (.binOp .add 3 (.tmp 73) (.tmp 74) 3)⟩,
  ⟨some 76, some (68, true), (.binOp .eql 3 (.tmp 75) (.const (.int .i64 0)) 3)⟩,
  ⟨some 77, none, (.pick (.tmp 68) (.tmp 76) (.const (.bool false)))⟩,
  ⟨some 78, none, (.move (.tmp 77))⟩,
  ⟨some 79, some (78, true), (.call { callee := (.value (.func 15)), args := #[], argTypes := #[] })⟩,
  ⟨some 80, none, (.pick (.tmp 78) (.tmp 79) (.const (.bool false)))⟩,
  ⟨some 2, none, (.assign (.tmp 80))⟩] [2]
noncomputable def F6 : CC := (.seq F6_r0 (.seq F6_r1 (.seq F6_r2 (.seq F6_r3 (.seq F6_r4 (.seq F6_r5 .ret))))))
noncomputable def F6_inf : Nat → RI
  | 0 => ⟨[0], [], []⟩
  | 1 => ⟨[0, 3], [], []⟩
  | 2 => ⟨[0, 3, 5], [], []⟩
  | 3 => ⟨[0, 3, 5, 7], [], []⟩
  | 4 => ⟨[0, 3, 5, 7, 8, 9, 10, 11], [], []⟩
  | 5 => ⟨[2], [], []⟩
  | _ => ⟨[], [], []⟩
noncomputable def F6_c : Code := Try.f6.body.getD .skip
theorem F6_b : Try.f6.body = some F6_c := by kernel_rfl
theorem F6_rs : Try.f6.results.toList = ([.tmp 2] : List ResultVar) := by kernel_rfl
theorem F6_n : Try.f6.ntmps = 81 := by kernel_rfl
theorem F6_ok : toCC [] 81 F6_inf F6_c = some F6 := by kernel_rfl
theorem F6_in {args : List AV} {G : Hp} {post : AV → Hp → Prop} (ha : args.all AV.plain = true) (hn : args.length ≤ 81) (h : BDs args → awp Try.prog [] F6 (AEnds Try.prog [.tmp 2] post) (initT args) G) : ACalls Try.prog 6 args G post :=
  acalls_cc Try.func6 F6_b F6_rs F6_n F6_ok mixed ha hn h

/- 7 ostiary/pipe.New[int] -/
@[simp] noncomputable def F7_r0 : CC := .reg [⟨some 2, none, (.assign (.const (.pointer none)))⟩] [0]
@[simp] noncomputable def F7_r1 : CC := .reg [⟨some 3, none, (.move (.tmp 0))⟩,
  ⟨some 4, none, (.call { callee := (.builtin .max), args := #[(.tmp 3), (.const (.int .i64 1))], argTypes := #[3, 3] })⟩,
  ⟨some 5, none, (.call { callee := (.builtin .min), args := #[(.tmp 4), (.const (.int .i64 4096))], argTypes := #[3, 3] })⟩,
  ⟨some 6, none, (.call { callee := (.value (.func 21)), args := #[(.tmp 5)], argTypes := #[3] })⟩,
  ⟨some 7, none, (.build 48 #[(0, (.tmp 6))])⟩,
  ⟨some 8, none, (.build 50 #[(0, (.tmp 7))])⟩,
  ⟨some 9, none, (.box 50 (.tmp 8))⟩,
  ⟨some 2, none, (.assign (.tmp 9))⟩] [2]
noncomputable def F7 : CC := (.seq F7_r0 (.seq F7_r1 .ret))
noncomputable def F7_inf : Nat → RI
  | 0 => ⟨[0], [], []⟩
  | 1 => ⟨[2], [], []⟩
  | _ => ⟨[], [], []⟩
noncomputable def F7_c : Code := Try.f7.body.getD .skip
theorem F7_b : Try.f7.body = some F7_c := by kernel_rfl
theorem F7_rs : Try.f7.results.toList = ([.tmp 2] : List ResultVar) := by kernel_rfl
theorem F7_n : Try.f7.ntmps = 10 := by kernel_rfl
theorem F7_ok : toCC [9] 10 F7_inf F7_c = some F7 := by kernel_rfl
theorem F7_in {args : List AV} {G : Hp} {post : AV → Hp → Prop} (ha : args.all AV.plain = true) (hn : args.length ≤ 10) (h : BDs args → awp Try.prog [9] F7 (AEnds Try.prog [.tmp 2] post) (initT args) G) : ACalls Try.prog 7 args G post :=
  acalls_cc Try.func7 F7_b F7_rs F7_n F7_ok mixed ha hn h

/- 8 (*ostiary/pipe.Pipe[int]).Send -/
@[simp] noncomputable def F8_r0 : CC := .reg [⟨some 4, none, (.assign (.const (.int .i64 0)))⟩] [0, 1]
@[simp] noncomputable def F8_r1 : CC := .reg [⟨some 8, none, (.move (.tmp 0))⟩,
  ⟨some 9, none, (.binOp .eql 23 (.tmp 8) (.const (.pointer none)) 23)⟩] [0, 1, 9]
@[simp] noncomputable def F8_r2 : CC := .reg [⟨some 4, none, (.assign (.const (.int .i64 0)))⟩] [4]
@[simp] noncomputable def F8_r3 : CC := .reg [⟨some 5, none, (.assign (.const (.int .i64 0)))⟩] [0, 1, 5]
@[simp] noncomputable def F8_r4 : CC := .reg [⟨some 10, none, (.move (.tmp 1))⟩,
  ⟨some 11, none, (.call { callee := (.builtin .len), args := #[(.tmp 10)], argTypes := #[25] })⟩,
  ⟨some 12, none, (.move (.const (.int .i64 0)))⟩] [0, 5, 10, 11, 12]
@[simp] noncomputable def F8_r5 : CC := .reg [⟨some 13, none, (.binOp .lss 3 (.tmp 12) (.tmp 11) 3)⟩] [0, 5, 10, 11, 12, 13]
@[simp] noncomputable def F8_r6 : CC := .reg [⟨some 14, none, (.indexAddr 25 (.tmp 10) (.tmp 12))⟩,
  ⟨some 15, none, (.load 3 (.tmp 14))⟩,
  ⟨some 7, none, (.assign (.tmp 15))⟩] [0, 5, 7, 10, 11, 12]
@[simp] noncomputable def F8_r7 : CC := .reg [⟨some 16, none, (.move (.tmp 0))⟩,
  ⟨some 17, none, (.nilCheck (.tmp 16))⟩,
  ⟨some 18, none, (.fieldAddr 50 (.tmp 17) 1)⟩,
  ⟨some 19, none, (.load 3 (.tmp 18))⟩,
  ⟨some 20, none, (.binOp .add 3 (.tmp 19) (.const (.int .i64 1)) 3)⟩,
  ⟨some 21, none, (.nilCheck (.tmp 16))⟩,
  ⟨some 22, none, (.fieldAddr 50 (.tmp 21) 1)⟩,
  ⟨none, none, (.store 3 (.tmp 22) (.tmp 20))⟩] [0, 5, 7, 10, 11, 12]
@[simp] noncomputable def F8_r8 : CC := .reg [⟨some 23, none, (.move (.tmp 0))⟩,
  ⟨some 24, none, (.nilCheck (.tmp 23))⟩,
  ⟨some 25, none, (.fieldAddr 50 (.tmp 24) 0)⟩,
  ⟨some 26, none, (.fieldAddr 48 (.tmp 25) 0)⟩,
  ⟨some 27, none, (.load 45 (.tmp 26))⟩,
  ⟨some 28, none, (.move (.tmp 7))⟩,
  ⟨some 29, none, (.buildSlice 25 1 #[(0, (.tmp 28))])⟩,
  ⟨some 30, none, (.call { callee := (.value (.func 22)), args := #[(.tmp 27), (.tmp 29)], argTypes := #[45, 25] })⟩] [0, 5, 10, 11, 12, 30]
@[simp] noncomputable def F8_r9 : CC := .reg [⟨some 31, none, (.move (.tmp 5))⟩,
  ⟨some 32, none, (.binOp .add 3 (.tmp 31) (.const (.int .i64 1)) 3)⟩,
  ⟨some 5, none, (.assign (.tmp 32))⟩] [0, 5, 10, 11, 12]
@[simp] noncomputable def F8_r10 : CC := .reg [⟨some 33, none, (.move (.tmp 0))⟩,
  ⟨some 34, none, (.nilCheck (.tmp 33))⟩,
  ⟨some 35, none, (.fieldAddr 50 (.tmp 34) 4)⟩,
  ⟨some 36, none, (.load 3 (.tmp 35))⟩,
  ⟨some 37, none, (.binOp .add 3 (.tmp 36) (.const (.int .i64 1)) 3)⟩,
  ⟨some 38, none, (.nilCheck (.tmp 33))⟩,
  ⟨some 39, none, (.fieldAddr 50 (.tmp 38) 4)⟩,
  ⟨none, none, (.store 3 (.tmp 39) (.tmp 37))⟩] [0, 5, 10, 11, 12]
@[simp] noncomputable def F8_r11 : CC := .reg [⟨some 40, none, (.binOp .add 3 (.tmp 12) (.const (.int .i64 1)) 3)⟩,
  ⟨some 12, none, (.move (.tmp 40))⟩] [0, 5, 10, 11, 12]
noncomputable def F8_l0 : CC := (.seq F8_r5 (.seq (.cond (.tmp 13) .skip (.exit 0)) (.seq (.block 1 (.seq F8_r6 (.seq F8_r7 (.seq F8_r8 (.cond (.tmp 30) F8_r9 F8_r10))))) F8_r11)))
@[simp] noncomputable def F8_r12 : CC := .reg [⟨some 41, none, (.move (.tmp 5))⟩,
  ⟨some 4, none, (.assign (.tmp 41))⟩] [4]
noncomputable def F8 : CC := (.seq F8_r0 (.seq (.seq F8_r1 (.cond (.tmp 9) (.seq F8_r2 .ret) .skip)) (.seq F8_r3 (.seq (.seq F8_r4 (.block 0 (.loop F8_l0))) (.seq F8_r12 .ret)))))
noncomputable def F8_inf : Nat → RI
  | 0 => ⟨[0, 1], [], []⟩
  | 1 => ⟨[0, 1, 9], [], []⟩
  | 2 => ⟨[4], [], []⟩
  | 3 => ⟨[0, 1, 5], [], []⟩
  | 4 => ⟨[0, 5, 10, 11, 12], [], []⟩
  | 5 => ⟨[0, 5, 10, 11, 12, 13], [], []⟩
  | 6 => ⟨[0, 5, 7, 10, 11, 12], [], []⟩
  | 7 => ⟨[0, 5, 7, 10, 11, 12], [], []⟩
  | 8 => ⟨[0, 5, 10, 11, 12, 30], [], []⟩
  | 9 => ⟨[0, 5, 10, 11, 12], [], []⟩
  | 10 => ⟨[0, 5, 10, 11, 12], [], []⟩
  | 11 => ⟨[0, 5, 10, 11, 12], [], []⟩
  | 12 => ⟨[4], [], []⟩
  | _ => ⟨[], [], []⟩
noncomputable def F8_c : Code := Try.f8.body.getD .skip
theorem F8_b : Try.f8.body = some F8_c := by kernel_rfl
theorem F8_rs : Try.f8.results.toList = ([.tmp 4] : List ResultVar) := by kernel_rfl
theorem F8_n : Try.f8.ntmps = 42 := by kernel_rfl
theorem F8_ok : toCC [] 42 F8_inf F8_c = some F8 := by kernel_rfl
theorem F8_in {args : List AV} {G : Hp} {post : AV → Hp → Prop} (ha : args.all AV.plain = true) (hn : args.length ≤ 42) (h : BDs args → awp Try.prog [] F8 (AEnds Try.prog [.tmp 4] post) (initT args) G) : ACalls Try.prog 8 args G post :=
  acalls_cc Try.func8 F8_b F8_rs F8_n F8_ok mixed ha hn h

/- 9 (*ostiary/pipe.Pipe[int]).Take -/
@[simp] noncomputable def F9_r0 : CC := .reg [⟨some 4, none, (.assign (.const (.int .i64 0)))⟩,
  ⟨some 5, none, (.assign (.const (.bool false)))⟩] [0, 1]
@[simp] noncomputable def F9_r1 : CC := .reg [⟨some 9, none, (.move (.tmp 0))⟩,
  ⟨some 10, none, (.binOp .eql 23 (.tmp 9) (.const (.pointer none)) 23)⟩] [0, 1, 10]
@[simp] noncomputable def F9_r2 : CC := .reg [⟨some 6, none, (.assign (.const (.int .i64 0)))⟩] [6]
@[simp] noncomputable def F9_r3 : CC := .reg [⟨some 11, none, (.move (.tmp 6))⟩,
  ⟨some 4, none, (.assign (.tmp 11))⟩,
  ⟨some 5, none, (.assign (.const (.bool false)))⟩] [4, 5]
@[simp] noncomputable def F9_r4 : CC := .reg [⟨some 13, none, (.move (.tmp 0))⟩,
  ⟨some 14, none, (.nilCheck (.tmp 13))⟩,
  ⟨some 15, none, (.fieldAddr 50 (.tmp 14) 0)⟩,
  ⟨some 16, none, (.fieldAddr 48 (.tmp 15) 0)⟩,
  ⟨some 17, none, (.load 45 (.tmp 16))⟩,
  ⟨some 18, none, (.move (.tmp 1))⟩,
  ⟨some 19, none, (.call { callee := (.value (.func 23)), args := #[(.tmp 17), (.tmp 18)], argTypes := #[45, 3] })⟩,
  ⟨some 12, none, (.move (.tmp 19))⟩,
  ⟨some 20, none, (.extract (.tmp 12) 0)⟩,
  ⟨some 21, none, (.extract (.tmp 12) 1)⟩,
  ⟨some 7, none, (.assign (.tmp 20))⟩,
  ⟨some 8, none, (.assign (.tmp 21))⟩] [0, 7, 8]
@[simp] noncomputable def F9_r5 : CC := .reg [⟨some 22, none, (.move (.tmp 8))⟩] [0, 7, 8, 22]
@[simp] noncomputable def F9_r6 : CC := .reg [⟨some 23, none, (.move (.tmp 0))⟩,
  ⟨some 24, none, (.nilCheck (.tmp 23))⟩,
  ⟨some 25, none, (.fieldAddr 50 (.tmp 24) 2)⟩,
  ⟨some 26, none, (.load 3 (.tmp 25))⟩,
  ⟨some 27, none, (.binOp .add 3 (.tmp 26) (.const (.int .i64 1)) 3)⟩,
  ⟨some 28, none, (.nilCheck (.tmp 23))⟩,
  ⟨some 29, none, (.fieldAddr 50 (.tmp 28) 2)⟩,
  ⟨none, none, (.store 3 (.tmp 29) (.tmp 27))⟩] [7, 8]
@[simp] noncomputable def F9_r7 : CC := .reg [⟨some 30, none, (.move (.tmp 7))⟩,
  ⟨some 31, none, (.move (.tmp 8))⟩,
  ⟨some 4, none, (.assign (.tmp 30))⟩,
  ⟨some 5, none, (.assign (.tmp 31))⟩] [4, 5]
noncomputable def F9 : CC := (.seq F9_r0 (.seq (.seq F9_r1 (.cond (.tmp 10) (.seq F9_r2 (.seq F9_r3 .ret)) .skip)) (.seq F9_r4 (.seq (.seq F9_r5 (.cond (.tmp 22) F9_r6 .skip)) (.seq F9_r7 .ret)))))
noncomputable def F9_inf : Nat → RI
  | 0 => ⟨[0, 1], [], []⟩
  | 1 => ⟨[0, 1, 10], [], []⟩
  | 2 => ⟨[6], [], []⟩
  | 3 => ⟨[4, 5], [], []⟩
  | 4 => ⟨[0, 7, 8], [], []⟩
  | 5 => ⟨[0, 7, 8, 22], [], []⟩
  | 6 => ⟨[7, 8], [], []⟩
  | 7 => ⟨[4, 5], [], []⟩
  | _ => ⟨[], [], []⟩
noncomputable def F9_c : Code := Try.f9.body.getD .skip
theorem F9_b : Try.f9.body = some F9_c := by kernel_rfl
theorem F9_rs : Try.f9.results.toList = ([.tmp 4, .tmp 5] : List ResultVar) := by kernel_rfl
theorem F9_n : Try.f9.ntmps = 32 := by kernel_rfl
theorem F9_ok : toCC [] 32 F9_inf F9_c = some F9 := by kernel_rfl
theorem F9_in {args : List AV} {G : Hp} {post : AV → Hp → Prop} (ha : args.all AV.plain = true) (hn : args.length ≤ 32) (h : BDs args → awp Try.prog [] F9 (AEnds Try.prog [.tmp 4, .tmp 5] post) (initT args) G) : ACalls Try.prog 9 args G post :=
  acalls_cc Try.func9 F9_b F9_rs F9_n F9_ok mixed ha hn h

/- 10 ostiary/ostiarylaw20.in -/
@[simp] noncomputable def F10_r0 : CC := .reg [⟨some 4, none, (.assign (.const (.bool false)))⟩] [0, 1]
@[simp] noncomputable def F10_r1 : CC := .reg [⟨some 7, none, (.move (.tmp 1))⟩,
  ⟨some 8, none, (.call { callee := (.builtin .len), args := #[(.tmp 7)], argTypes := #[25] })⟩,
  ⟨some 9, none, (.move (.const (.int .i64 0)))⟩] [0, 7, 8, 9]
@[simp] noncomputable def F10_r2 : CC := .reg [⟨some 10, none, (.binOp .lss 3 (.tmp 9) (.tmp 8) 3)⟩] [0, 7, 8, 9, 10]
@[simp] noncomputable def F10_r3 : CC := .reg [⟨some 11, none, (.indexAddr 25 (.tmp 7) (.tmp 9))⟩,
  ⟨some 12, none, (.load 3 (.tmp 11))⟩,
  ⟨some 6, none, (.assign (.tmp 12))⟩] [0, 6, 7, 8, 9]
@[simp] noncomputable def F10_r4 : CC := .reg [⟨some 13, none, (.move (.tmp 6))⟩,
  ⟨some 14, none, (.move (.tmp 0))⟩,
  ⟨some 15, none, (.binOp .eql 3 (.tmp 13) (.tmp 14) 3)⟩] [0, 7, 8, 9, 15]
@[simp] noncomputable def F10_r5 : CC := .reg [⟨some 4, none, (.assign (.const (.bool true)))⟩] [4]
@[simp] noncomputable def F10_r6 : CC := .reg [⟨some 16, none, (.binOp .add 3 (.tmp 9) (.const (.int .i64 1)) 3)⟩,
  ⟨some 9, none, (.move (.tmp 16))⟩] [0, 7, 8, 9]
noncomputable def F10_l0 : CC := (.seq F10_r2 (.seq (.cond (.tmp 10) .skip (.exit 0)) (.seq (.block 1 (.seq F10_r3 (.seq F10_r4 (.cond (.tmp 15) (.seq F10_r5 .ret) .skip)))) F10_r6)))
@[simp] noncomputable def F10_r7 : CC := .reg [⟨some 4, none, (.assign (.const (.bool false)))⟩] [4]
noncomputable def F10 : CC := (.seq F10_r0 (.seq (.seq F10_r1 (.block 0 (.loop F10_l0))) (.seq F10_r7 .ret)))
noncomputable def F10_inf : Nat → RI
  | 0 => ⟨[0, 1], [], []⟩
  | 1 => ⟨[0, 7, 8, 9], [], []⟩
  | 2 => ⟨[0, 7, 8, 9, 10], [], []⟩
  | 3 => ⟨[0, 6, 7, 8, 9], [], []⟩
  | 4 => ⟨[0, 7, 8, 9, 15], [], []⟩
  | 5 => ⟨[4], [], []⟩
  | 6 => ⟨[0, 7, 8, 9], [], []⟩
  | 7 => ⟨[4], [], []⟩
  | _ => ⟨[], [], []⟩
noncomputable def F10_c : Code := Try.f10.body.getD .skip
theorem F10_b : Try.f10.body = some F10_c := by kernel_rfl
theorem F10_rs : Try.f10.results.toList = ([.tmp 4] : List ResultVar) := by kernel_rfl
theorem F10_n : Try.f10.ntmps = 17 := by kernel_rfl
theorem F10_ok : toCC [] 17 F10_inf F10_c = some F10 := by kernel_rfl
theorem F10_in {args : List AV} {G : Hp} {post : AV → Hp → Prop} (ha : args.all AV.plain = true) (hn : args.length ≤ 17) (h : BDs args → awp Try.prog [] F10 (AEnds Try.prog [.tmp 4] post) (initT args) G) : ACalls Try.prog 10 args G post :=
  acalls_cc Try.func10 F10_b F10_rs F10_n F10_ok mixed ha hn h

/- 11 (*ostiary/pipe.Pipe[int]).Twice -/
@[simp] noncomputable def F11_r0 : CC := .reg [⟨some 4, none, (.assign (.const (.bool false)))⟩] [0, 1]
@[simp] noncomputable def F11_r1 : CC := .reg [⟨some 8, none, (.move (.tmp 0))⟩,
  ⟨some 9, none, (.move (.tmp 1))⟩,
  ⟨some 10, none, (.call { callee := (.value (.func 20)), args := #[(.tmp 8), (.tmp 9)], argTypes := #[23, 3] })⟩,
  ⟨some 7, none, (.move (.tmp 10))⟩,
  ⟨some 11, none, (.extract (.tmp 7) 0)⟩,
  ⟨some 12, none, (.extract (.tmp 7) 1)⟩,
  ⟨some 5, none, (.assign (.tmp 11))⟩,
  ⟨some 6, none, (.assign (.tmp 12))⟩] [0, 5, 6]
@[simp] noncomputable def F11_r2 : CC := .reg [⟨some 13, none, (.move (.tmp 6))⟩,
  ⟨some 14, none, (.unOp .not 4 (.tmp 13))⟩,
  ⟨some 15, none, (.move (.tmp 14))⟩,
  ⟨some 16, some (15, false), (.move (.tmp 0))⟩,
  ⟨some 17, some (15, false), (.nilCheck (.tmp 16))⟩,
  ⟨some 18, some (15, false), (.fieldAddr 50 (.tmp 17) 0)⟩,
  ⟨some 19, some (15, false), (.fieldAddr 48 (.tmp 18) 0)⟩,
  ⟨some 20, some (15, false), (.load 45 (.tmp 19))⟩,
  ⟨some 21, some (15, false), (.move (.tmp 5))⟩,
  ⟨some 22, some (15, false), (.buildSlice 25 1 #[(0, (.tmp 21))])⟩,
  ⟨some 23, some (15, false), (.call { callee := (.value (.func 22)), args := #[(.tmp 20), (.tmp 22)], argTypes := #[45, 25] })⟩,
  ⟨some 24, some (15, false), (.unOp .not 4 (.tmp 23))⟩,
  ⟨some 25, none, (.pick (.tmp 15) (.const (.bool true)) (.tmp 24))⟩] [0, 25]
@[simp] noncomputable def F11_r3 : CC := .reg [⟨some 4, none, (.assign (.const (.bool false)))⟩] [4]
@[simp] noncomputable def F11_r4 : CC := .reg [⟨some 26, none, (.move (.tmp 0))⟩,
  ⟨some 27, none, (.nilCheck (.tmp 26))⟩,
  ⟨some 28, none, (.fieldAddr 50 (.tmp 27) 3)⟩,
  ⟨some 29, none, (.load 3 (.tmp 28))⟩,
  ⟨some 30, none, (.binOp .add 3 (.tmp 29) (.const (.int .i64 1)) 3)⟩,
  ⟨some 31, none, (.nilCheck (.tmp 26))⟩,
  ⟨some 32, none, (.fieldAddr 50 (.tmp 31) 3)⟩,
  ⟨none, none, (.store 3 (.tmp 32) (.tmp 30))⟩] []
@[simp] noncomputable def F11_r5 : CC := .reg [⟨some 4, none, (.assign (.const (.bool true)))⟩] [4]
noncomputable def F11 : CC := (.seq F11_r0 (.seq F11_r1 (.seq (.seq F11_r2 (.cond (.tmp 25) (.seq F11_r3 .ret) .skip)) (.seq F11_r4 (.seq F11_r5 .ret)))))
noncomputable def F11_inf : Nat → RI
  | 0 => ⟨[0, 1], [], []⟩
  | 1 => ⟨[0, 5, 6], [], []⟩
  | 2 => ⟨[0, 25], [], []⟩
  | 3 => ⟨[4], [], []⟩
  | 4 => ⟨[], [], []⟩
  | 5 => ⟨[4], [], []⟩
  | _ => ⟨[], [], []⟩
noncomputable def F11_c : Code := Try.f11.body.getD .skip
theorem F11_b : Try.f11.body = some F11_c := by kernel_rfl
theorem F11_rs : Try.f11.results.toList = ([.tmp 4] : List ResultVar) := by kernel_rfl
theorem F11_n : Try.f11.ntmps = 33 := by kernel_rfl
theorem F11_ok : toCC [] 33 F11_inf F11_c = some F11 := by kernel_rfl
theorem F11_in {args : List AV} {G : Hp} {post : AV → Hp → Prop} (ha : args.all AV.plain = true) (hn : args.length ≤ 33) (h : BDs args → awp Try.prog [] F11 (AEnds Try.prog [.tmp 4] post) (initT args) G) : ACalls Try.prog 11 args G post :=
  acalls_cc Try.func11 F11_b F11_rs F11_n F11_ok mixed ha hn h

/- 12 (*ostiary/pipe.Pipe[int]).Lose -/
@[simp] noncomputable def F12_r0 : CC := .reg [⟨some 4, none, (.assign (.const (.int .i64 0)))⟩] [0, 1]
@[simp] noncomputable def F12_r1 : CC := .reg [⟨some 10, none, (.move (.tmp 0))⟩,
  ⟨some 11, none, (.binOp .eql 23 (.tmp 10) (.const (.pointer none)) 23)⟩] [0, 1, 11]
@[simp] noncomputable def F12_r2 : CC := .reg [⟨some 4, none, (.assign (.const (.int .i64 0)))⟩] [4]
@[simp] noncomputable def F12_r3 : CC := .reg [⟨some 5, none, (.assign (.const (.int .i64 0)))⟩] [0, 1, 5]
@[simp] noncomputable def F12_r4 : CC := .reg [⟨some 12, none, (.move (.tmp 1))⟩,
  ⟨some 13, none, (.call { callee := (.builtin .len), args := #[(.tmp 12)], argTypes := #[25] })⟩,
  ⟨some 14, none, (.move (.const (.int .i64 0)))⟩] [0, 5, 12, 13, 14]
@[simp] noncomputable def F12_r5 : CC := .reg [⟨some 15, none, (.binOp .lss 3 (.tmp 14) (.tmp 13) 3)⟩] [0, 5, 12, 13, 14, 15]
@[simp] noncomputable def F12_r6 : CC := .reg [⟨some 16, none, (.indexAddr 25 (.tmp 12) (.tmp 14))⟩,
  ⟨some 17, none, (.load 3 (.tmp 16))⟩,
  ⟨some 7, none, (.assign (.tmp 17))⟩] [0, 5, 7, 12, 13, 14]
@[simp] noncomputable def F12_r7 : CC := .reg [⟨some 19, none, (.move (.tmp 0))⟩,
  ⟨some 20, none, (.nilCheck (.tmp 19))⟩,
  ⟨some 21, none, (.fieldAddr 50 (.tmp 20) 0)⟩,
  ⟨some 22, none, (.fieldAddr 48 (.tmp 21) 0)⟩,
  ⟨some 23, none, (.load 45 (.tmp 22))⟩,
  ⟨some 24, none, (.move (.tmp 7))⟩,
  ⟨some 25, none, (.call { callee := (.value (.func 23)), args := #[(.tmp 23), (.tmp 24)], argTypes := #[45, 3] })⟩,
  ⟨some 18, none, (.move (.tmp 25))⟩,
  ⟨some 26, none, (.extract (.tmp 18) 0)⟩,
  ⟨some 27, none, (.extract (.tmp 18) 1)⟩,
  ⟨some 8, none, (.assign (.tmp 26))⟩,
  ⟨some 9, none, (.assign (.tmp 27))⟩] [0, 5, 9, 12, 13, 14]
@[simp] noncomputable def F12_r8 : CC := .reg [⟨some 28, none, (.move (.tmp 9))⟩] [0, 5, 12, 13, 14, 28]
@[simp] noncomputable def F12_r9 : CC := .reg [⟨some 29, none, (.move (.tmp 5))⟩,
  ⟨some 30, none, (.binOp .add 3 (.tmp 29) (.const (.int .i64 1)) 3)⟩,
  ⟨some 5, none, (.assign (.tmp 30))⟩] [0, 5, 12, 13, 14]
@[simp] noncomputable def F12_r10 : CC := .reg [⟨some 31, none, (.binOp .add 3 (.tmp 14) (.const (.int .i64 1)) 3)⟩,
  ⟨some 14, none, (.move (.tmp 31))⟩] [0, 5, 12, 13, 14]
noncomputable def F12_l0 : CC := (.seq F12_r5 (.seq (.cond (.tmp 15) .skip (.exit 0)) (.seq (.block 1 (.seq F12_r6 (.seq F12_r7 (.seq F12_r8 (.cond (.tmp 28) F12_r9 .skip))))) F12_r10)))
@[simp] noncomputable def F12_r11 : CC := .reg [⟨some 32, none, (.move (.tmp 0))⟩,
  ⟨some 33, none, (.nilCheck (.tmp 32))⟩,
  ⟨some 34, none, (.fieldAddr 50 (.tmp 33) 4)⟩,
  ⟨some 35, none, (.load 3 (.tmp 34))⟩,
  ⟨some 36, none, (.move (.tmp 5))⟩,
  ⟨some 37, none, (.binOp .add 3 (.tmp 35) (.tmp 36) 3)⟩,
  ⟨some 38, none, (.nilCheck (.tmp 32))⟩,
  ⟨some 39, none, (.fieldAddr 50 (.tmp 38) 4)⟩,
  ⟨none, none, (.store 3 (.tmp 39) (.tmp 37))⟩] [5]
@[simp] noncomputable def F12_r12 : CC := .reg [⟨some 40, none, (.move (.tmp 5))⟩,
  ⟨some 4, none, (.assign (.tmp 40))⟩] [4]
noncomputable def F12 : CC := (.seq F12_r0 (.seq (.seq F12_r1 (.cond (.tmp 11) (.seq F12_r2 .ret) .skip)) (.seq F12_r3 (.seq (.seq F12_r4 (.block 0 (.loop F12_l0))) (.seq F12_r11 (.seq F12_r12 .ret))))))
noncomputable def F12_inf : Nat → RI
  | 0 => ⟨[0, 1], [], []⟩
  | 1 => ⟨[0, 1, 11], [], []⟩
  | 2 => ⟨[4], [], []⟩
  | 3 => ⟨[0, 1, 5], [], []⟩
  | 4 => ⟨[0, 5, 12, 13, 14], [], []⟩
  | 5 => ⟨[0, 5, 12, 13, 14, 15], [], []⟩
  | 6 => ⟨[0, 5, 7, 12, 13, 14], [], []⟩
  | 7 => ⟨[0, 5, 9, 12, 13, 14], [], []⟩
  | 8 => ⟨[0, 5, 12, 13, 14, 28], [], []⟩
  | 9 => ⟨[0, 5, 12, 13, 14], [], []⟩
  | 10 => ⟨[0, 5, 12, 13, 14], [], []⟩
  | 11 => ⟨[5], [], []⟩
  | 12 => ⟨[4], [], []⟩
  | _ => ⟨[], [], []⟩
noncomputable def F12_c : Code := Try.f12.body.getD .skip
theorem F12_b : Try.f12.body = some F12_c := by kernel_rfl
theorem F12_rs : Try.f12.results.toList = ([.tmp 4] : List ResultVar) := by kernel_rfl
theorem F12_n : Try.f12.ntmps = 41 := by kernel_rfl
theorem F12_ok : toCC [] 41 F12_inf F12_c = some F12 := by kernel_rfl
theorem F12_in {args : List AV} {G : Hp} {post : AV → Hp → Prop} (ha : args.all AV.plain = true) (hn : args.length ≤ 41) (h : BDs args → awp Try.prog [] F12 (AEnds Try.prog [.tmp 4] post) (initT args) G) : ACalls Try.prog 12 args G post :=
  acalls_cc Try.func12 F12_b F12_rs F12_n F12_ok mixed ha hn h

/- 13 (*ostiary/pipe.Pipe[int]).Counts -/
@[simp] noncomputable def F13_r0 : CC := .reg [⟨some 2, none, (.assign (.const (.int .i64 0)))⟩,
  ⟨some 3, none, (.assign (.const (.int .i64 0)))⟩,
  ⟨some 4, none, (.assign (.const (.int .i64 0)))⟩,
  ⟨some 5, none, (.assign (.const (.int .i64 0)))⟩] [0]
@[simp] noncomputable def F13_r1 : CC := .reg [⟨some 6, none, (.move (.tmp 0))⟩,
  ⟨some 7, none, (.binOp .eql 23 (.tmp 6) (.const (.pointer none)) 23)⟩] [0, 7]
@[simp] noncomputable def F13_r2 : CC := .reg [⟨some 2, none, (.assign (.const (.int .i64 0)))⟩,
  ⟨some 3, none, (.assign (.const (.int .i64 0)))⟩,
  ⟨some 4, none, (.assign (.const (.int .i64 0)))⟩,
  ⟨some 5, none, (.assign (.const (.int .i64 0)))⟩] [2, 3, 4, 5]
@[simp] noncomputable def F13_r3 : CC := .drw [⟨0, ⟨some 8, none, (.move (.tmp 0))⟩, [], []⟩,
  ⟨1, ⟨some 9, none, (.nilCheck (.tmp 8))⟩, [], []⟩,
  ⟨2, ⟨some 10, none, (.fieldAddr 50 (.tmp 9) 1)⟩, [], []⟩,
  ⟨3, ⟨some 11, none, (.load 3 (.tmp 10))⟩, [], []⟩,
  ⟨4, ⟨some 12, none, (.move (.tmp 0))⟩, [], []⟩,
  ⟨5, ⟨some 13, none, (.nilCheck (.tmp 12))⟩, [], []⟩,
  ⟨6, ⟨some 14, none, (.fieldAddr 50 (.tmp 13) 2)⟩, [], []⟩,
  ⟨7, ⟨some 15, none, (.load 3 (.tmp 14))⟩, [], []⟩,
  ⟨8, ⟨some 16, none, (.move (.tmp 0))⟩, [], []⟩,
  ⟨9, ⟨some 17, none, (.nilCheck (.tmp 16))⟩, [], []⟩,
  ⟨10, ⟨some 18, none, (.fieldAddr 50 (.tmp 17) 3)⟩, [], []⟩,
  ⟨11, ⟨some 19, none, (.load 3 (.tmp 18))⟩, [], []⟩,
  ⟨12, ⟨some 20, none, (.move (.tmp 0))⟩, [], []⟩,
  ⟨13, ⟨some 21, none, (.nilCheck (.tmp 20))⟩, [], []⟩,
  ⟨14, ⟨some 22, none, (.fieldAddr 50 (.tmp 21) 4)⟩, [], []⟩,
  ⟨15, ⟨some 23, none, (.load 3 (.tmp 22))⟩, [], []⟩,
  ⟨16, ⟨some 2, none, (.assign (.tmp 11))⟩, [], []⟩,
  ⟨17, ⟨some 3, none, (.assign (.tmp 15))⟩, [], []⟩,
  ⟨18, ⟨some 4, none, (.assign (.tmp 19))⟩, [], []⟩,
  ⟨19, ⟨some 5, none, (.assign (.tmp 23))⟩, [], []⟩] [8, 9, 10, 11, 12, 13, 14, 15, 16, 17, 18, 19, 20, 21, 22, 23, 2, 3, 4, 5] [2, 3, 4, 5]
noncomputable def F13 : CC := (.seq F13_r0 (.seq (.seq F13_r1 (.cond (.tmp 7) (.seq F13_r2 .ret) .skip)) (.seq F13_r3 .ret)))
noncomputable def F13_inf : Nat → RI
  | 0 => ⟨[0], [], []⟩
  | 1 => ⟨[0, 7], [], []⟩
  | 2 => ⟨[2, 3, 4, 5], [], []⟩
  | 3 => ⟨[2, 3, 4, 5], [0, 1, 3, 7, 0, 16, 48, 112, 0, 256, 768, 1792, 0, 4096, 12288, 28672, 15, 65791, 200703, 524287], [(0, []), (1, []), (2, []), (3, []), (4, []), (5, []), (6, []), (7, []), (8, []), (9, []), (10, []), (11, []), (12, []), (13, []), (14, []), (15, []), (16, []), (17, []), (18, []), (19, [])]⟩
  | _ => ⟨[], [], []⟩
noncomputable def F13_c : Code := Try.f13.body.getD .skip
theorem F13_b : Try.f13.body = some F13_c := by kernel_rfl
theorem F13_rs : Try.f13.results.toList = ([.tmp 2, .tmp 3, .tmp 4, .tmp 5] : List ResultVar) := by kernel_rfl
theorem F13_n : Try.f13.ntmps = 24 := by kernel_rfl
theorem F13_ok : toCC [] 24 F13_inf F13_c = some F13 := by kernel_rfl
theorem F13_in {args : List AV} {G : Hp} {post : AV → Hp → Prop} (ha : args.all AV.plain = true) (hn : args.length ≤ 24) (h : BDs args → awp Try.prog [] F13 (AEnds Try.prog [.tmp 2, .tmp 3, .tmp 4, .tmp 5] post) (initT args) G) : ACalls Try.prog 13 args G post :=
  acalls_cc Try.func13 F13_b F13_rs F13_n F13_ok mixed ha hn h

/- 14 (*ostiary/pipe.Pipe[int]).Len -/
@[simp] noncomputable def F14_r0 : CC := .reg [⟨some 2, none, (.assign (.const (.int .i64 0)))⟩] [0]
@[simp] noncomputable def F14_r1 : CC := .reg [⟨some 3, none, (.move (.tmp 0))⟩,
  ⟨some 4, none, (.binOp .eql 23 (.tmp 3) (.const (.pointer none)) 23)⟩] [0, 4]
@[simp] noncomputable def F14_r2 : CC := .reg [⟨some 2, none, (.assign (.const (.int .i64 0)))⟩] [2]
@[simp] noncomputable def F14_r3 : CC := .reg [⟨some 5, none, (.move (.tmp 0))⟩,
  ⟨some 6, none, (.nilCheck (.tmp 5))⟩,
  ⟨some 7, none, (.fieldAddr 50 (.tmp 6) 0)⟩,
  ⟨some 8, none, (.fieldAddr 48 (.tmp 7) 0)⟩,
  ⟨some 9, none, (.load 45 (.tmp 8))⟩,
  ⟨some 10, none, (.call { callee := (.value (.func 24)), args := #[(.tmp 9)], argTypes := #[45] })⟩,
  ⟨some 2, none, (.assign (.tmp 10))⟩] [2]
noncomputable def F14 : CC := (.seq F14_r0 (.seq (.seq F14_r1 (.cond (.tmp 4) (.seq F14_r2 .ret) .skip)) (.seq F14_r3 .ret)))
noncomputable def F14_inf : Nat → RI
  | 0 => ⟨[0], [], []⟩
  | 1 => ⟨[0, 4], [], []⟩
  | 2 => ⟨[2], [], []⟩
  | 3 => ⟨[2], [], []⟩
  | _ => ⟨[], [], []⟩
noncomputable def F14_c : Code := Try.f14.body.getD .skip
theorem F14_b : Try.f14.body = some F14_c := by kernel_rfl
theorem F14_rs : Try.f14.results.toList = ([.tmp 2] : List ResultVar) := by kernel_rfl
theorem F14_n : Try.f14.ntmps = 11 := by kernel_rfl
theorem F14_ok : toCC [] 11 F14_inf F14_c = some F14 := by kernel_rfl
theorem F14_in {args : List AV} {G : Hp} {post : AV → Hp → Prop} (ha : args.all AV.plain = true) (hn : args.length ≤ 11) (h : BDs args → awp Try.prog [] F14 (AEnds Try.prog [.tmp 2] post) (initT args) G) : ACalls Try.prog 14 args G post :=
  acalls_cc Try.func14 F14_b F14_rs F14_n F14_ok mixed ha hn h
end Go.Proofs.Ytfllkpdhkeiofaa
