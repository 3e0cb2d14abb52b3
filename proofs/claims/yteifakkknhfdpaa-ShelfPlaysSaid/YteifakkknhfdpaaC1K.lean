import Derived.Test.YteifakkknhfdpaaC0K
set_option linter.unusedVariables false
set_option linter.unusedSimpArgs false
set_option maxRecDepth 100000
namespace Go.Proofs.Yteifakkknhfdpaa
open Go Go.Al

/- 3 ostiary/ostiarylaw02.ShelfNext -/
@[simp] noncomputable def F3_r0 : CC := .reg [⟨some 2, none, (.assign (.const (.bool false)))⟩] [0]
@[simp] noncomputable def F3_r1 : CC := .reg [⟨some 15, none, (.move (.tmp 0))⟩,
  ⟨some 16, none, (.call { callee := (.builtin .len), args := #[(.tmp 15)], argTypes := #[22] })⟩,
  ⟨some 17, none, (.binOp .gtr 3 (.tmp 16) (.const (.int .i64 40)) 3)⟩] [0, 17]
@[simp] noncomputable def F3_r2 : CC := .reg [⟨some 18, none, (.move (.tmp 0))⟩,
  ⟨some 19, none, (.slice 22 (.tmp 18) none (some (.const (.int .i64 40))) none)⟩,
  ⟨some 0, none, (.assign (.tmp 19))⟩] [0]
@[simp] noncomputable def F3_r3 : CC := .reg [⟨some 20, none, (.call { callee := (.value (.func 8)), args := #[(.const (.int .i64 64))], argTypes := #[3] })⟩,
  ⟨some 3, none, (.assign (.tmp 20))⟩] [0, 3]
@[simp] noncomputable def F3_r4 : CC := .reg [⟨some 21, none, (.move (.tmp 0))⟩,
  ⟨some 22, none, (.call { callee := (.builtin .len), args := #[(.tmp 21)], argTypes := #[22] })⟩,
  ⟨some 23, none, (.move (.const (.int .i64 0)))⟩] [0, 3, 21, 22, 23]
@[simp] noncomputable def F3_r5 : CC := .reg [⟨some 24, none, (.binOp .lss 3 (.tmp 23) (.tmp 22) 3)⟩] [0, 3, 21, 22, 23, 24]
@[simp] noncomputable def F3_r6 : CC := .reg [⟨some 25, none, (.indexAddr 22 (.tmp 21) (.tmp 23))⟩,
  ⟨some 26, none, (.load 3 (.tmp 25))⟩,
  ⟨some 5, none, (.assign (.tmp 26))⟩] [0, 3, 5, 21, 22, 23]
@[simp] noncomputable def F3_r7 : CC := .reg [⟨some 27, none, (.move (.tmp 3))⟩,
  ⟨some 28, none, (.move (.tmp 5))⟩,
  ⟨some 29, none, (.move (.tmp 5))⟩,
  ⟨some 30, none, (.binOp .rem 3 (.tmp 29) (.const (.int .i64 1000)) 3)⟩,
  ⟨some 31, none, (.binOp .mul 3 (.const (.int .i64 2)) (.tmp 30) 3)⟩,
  ⟨some 32, none, (.call { callee := (.value (.func 9)), args := #[(.tmp 27), (.tmp 28), (.tmp 31)], argTypes := #[23, 3, 3] })⟩,
  ⟨some 33, none, (.binOp .neq 25 (.tmp 32) (.const (.int .i64 0)) 25)⟩] [0, 3, 21, 22, 23, 33]
@[simp] noncomputable def F3_r8 : CC := .reg [⟨some 2, none, (.assign (.const (.bool false)))⟩] [2]
@[simp] noncomputable def F3_r9 : CC := .reg [⟨some 34, none, (.binOp .add 3 (.tmp 23) (.const (.int .i64 1)) 3)⟩,
  ⟨some 23, none, (.move (.tmp 34))⟩] [0, 3, 21, 22, 23]
noncomputable def F3_l0 : CC := (.seq F3_r5 (.seq (.cond (.tmp 24) .skip (.exit 0)) (.seq (.block 1 (.seq F3_r6 (.seq F3_r7 (.cond (.tmp 33) (.seq F3_r8 .ret) .skip)))) F3_r9)))
@[simp] noncomputable def F3_r10 : CC := .reg [⟨some 35, none, (.move (.tmp 3))⟩,
  ⟨some 36, none, (.call { callee := (.value (.func 10)), args := #[(.tmp 35)], argTypes := #[23] })⟩,
  ⟨some 6, none, (.assign (.tmp 36))⟩] [0, 3, 6]
@[simp] noncomputable def F3_r11 : CC := .reg [⟨some 37, none, (.move (.tmp 6))⟩,
  ⟨some 38, none, (.call { callee := (.builtin .len), args := #[(.tmp 37)], argTypes := #[22] })⟩,
  ⟨some 39, none, (.binOp .eql 3 (.tmp 38) (.const (.int .i64 0)) 3)⟩] [0, 3, 6, 39]
@[simp] noncomputable def F3_r12 : CC := .reg [⟨some 40, none, (.move (.tmp 0))⟩,
  ⟨some 41, none, (.call { callee := (.builtin .len), args := #[(.tmp 40)], argTypes := #[22] })⟩,
  ⟨some 42, none, (.binOp .eql 3 (.tmp 41) (.const (.int .i64 0)) 3)⟩,
  ⟨some 43, none, (.move (.tmp 42))⟩,
  ⟨some 44, some (43, true), (.call { callee := (.value (.func 11)), args := #[], argTypes := #[] })⟩,
  ⟨some 45, none, (.pick (.tmp 43) (.tmp 44) (.const (.bool false)))⟩,
  ⟨some 2, none, (.assign (.tmp 45))⟩] [2]
@[simp] noncomputable def F3_r13 : CC := .reg [⟨some 46, none, (.move (.tmp 6))⟩,
  ⟨some 47, none, (.indexAddr 22 (.tmp 46) (.const (.int .i64 0)))⟩,
  ⟨some 48, none, (.load 3 (.tmp 47))⟩,
  ⟨some 7, none, (.assign (.tmp 48))⟩] [3, 6, 7]
@[simp] noncomputable def F3_r14 : CC := .reg [⟨some 8, none, (.assign (.const (.int .i64 1)))⟩] [3, 6, 7, 8]
@[simp] noncomputable def F3_r15 : CC := .reg [⟨some 49, none, (.move (.tmp 8))⟩,
  ⟨some 50, none, (.move (.tmp 6))⟩,
  ⟨some 51, none, (.call { callee := (.builtin .len), args := #[(.tmp 50)], argTypes := #[22] })⟩,
  ⟨some 52, none, (.binOp .lss 3 (.tmp 49) (.tmp 51) 3)⟩] [3, 6, 7, 8, 52]
@[simp] noncomputable def F3_r17 : CC := .reg [⟨some 56, none, (.move (.tmp 3))⟩,
  ⟨some 57, none, (.move (.tmp 7))⟩,
  ⟨some 58, none, (.call { callee := (.value (.func 12)), args := #[(.tmp 56), (.tmp 57)], argTypes := #[23, 3] })⟩,
  ⟨some 55, none, (.move (.tmp 58))⟩,
  ⟨some 59, none, (.extract (.tmp 55) 0)⟩,
  ⟨some 60, none, (.extract (.tmp 55) 1)⟩,
  ⟨some 61, none, (.extract (.tmp 55) 2)⟩,
  ⟨some 9, none, (.assign (.tmp 59))⟩,
  ⟨some 10, none, (.assign (.tmp 60))⟩,
  ⟨some 11, none, (.assign (.tmp 61))⟩] [3, 6, 8, 9, 10, 11]
@[simp] noncomputable def F3_r18 : CC := .reg [⟨some 62, none, (.move (.tmp 11))⟩,
  ⟨some 63, none, (.unOp .not 4 (.tmp 62))⟩,
  ⟨some 64, none, (.move (.tmp 63))⟩,
  ⟨some 65, some (64, false), (.move (.tmp 9))⟩,
  ⟨some 66, some (64, false), (.move (.tmp 6))⟩,
  ⟨some 67, some (64, false), (.move (.tmp 8))⟩,
  ⟨some 68, some (64, false), (.indexAddr 22 (.tmp 66) (.tmp 67))⟩,
  ⟨some 69, some (64, false), (.load 3 (.tmp 68))⟩,
  ⟨some 70, some (64, false), (.binOp .neq 3 (.tmp 65) (.tmp 69) 3)⟩,
  ⟨some 71, none, (.pick (.tmp 64) (.const (.bool true)) (.tmp 70))⟩,
  ⟨some 72, none, (.move (.tmp 71))⟩,
  ⟨some 73, some (72, false), (.move (.tmp 10))⟩,
  ⟨some 74, some (72, false), (.move (.tmp 9))⟩,
  ⟨some 75, some (72, false), (.binOp .rem 3 (.tmp 74) (.const (.int .i64 1000)) 3)⟩,
  ⟨some 76, some (72, false), (.binOp .mul 3 (.const (.int .i64 2)) (.tmp 75) 3)⟩,
  ⟨some 77, some (72, false), (.binOp .neq 3 (.tmp 73) (.tmp 76) 3)⟩,
  ⟨some 78, none, (.pick (.tmp 72) (.const (.bool true)) (.tmp 77))⟩] [3, 6, 8, 9, 78]
@[simp] noncomputable def F3_r19 : CC := .reg [⟨some 2, none, (.assign (.const (.bool false)))⟩] [2]
@[simp] noncomputable def F3_r20 : CC := .reg [⟨some 79, none, (.move (.tmp 9))⟩,
  ⟨some 7, none, (.assign (.tmp 79))⟩] [3, 6, 7, 8]
@[simp] noncomputable def F3_r16 : CC := .reg [⟨some 53, none, (.move (.tmp 8))⟩,
  ⟨some 54, none, (.binOp .add 3 (.tmp 53) (.const (.int .i64 1)) 3)⟩,
  ⟨some 8, none, (.assign (.tmp 54))⟩] [3, 6, 7, 8]
noncomputable def F3_l1 : CC := (.seq (.seq F3_r15 (.cond (.tmp 52) .skip (.exit 2))) (.seq (.block 3 (.seq F3_r17 (.seq (.seq F3_r18 (.cond (.tmp 78) (.seq F3_r19 .ret) .skip)) F3_r20))) F3_r16))
@[simp] noncomputable def F3_r21 : CC := .reg [⟨some 81, none, (.move (.tmp 3))⟩,
  ⟨some 82, none, (.move (.tmp 7))⟩,
  ⟨some 83, none, (.call { callee := (.value (.func 12)), args := #[(.tmp 81), (.tmp 82)], argTypes := #[23, 3] })⟩,
  ⟨some 80, none, (.move (.tmp 83))⟩,
  ⟨some 84, none, (.extract (.tmp 80) 0)⟩,
  ⟨some 85, none, (.extract (.tmp 80) 1)⟩,
  ⟨some 86, none, (.extract (.tmp 80) 2)⟩,
  ⟨some 12, none, (.assign (.tmp 84))⟩,
  ⟨some 13, none, (.assign (.tmp 85))⟩,
  ⟨some 14, none, (.assign (.tmp 86))⟩] [14]
@[simp] noncomputable def F3_r22 : CC := .reg [⟨some 87, none, (.move (.tmp 14))⟩,
  ⟨some 88, none, (.unOp .not 4 (.tmp 87))⟩,
  ⟨some 89, none, (.move (.tmp 88))⟩,
  ⟨some 90, some (89, true), (.call { callee := (.value (.func 11)), args := #[], argTypes := #[] })⟩,
  ⟨some 91, none, (.pick (.tmp 89) (.tmp 90) (.const (.bool false)))⟩,
  ⟨some 2, none, (.assign (.tmp 91))⟩] [2]
noncomputable def F3 : CC := (.seq F3_r0 (.seq (.seq F3_r1 (.cond (.tmp 17) F3_r2 .skip)) (.seq F3_r3 (.seq (.seq F3_r4 (.block 0 (.loop F3_l0))) (.seq F3_r10 (.seq (.seq F3_r11 (.cond (.tmp 39) (.seq F3_r12 .ret) .skip)) (.seq F3_r13 (.seq (.seq F3_r14 (.block 2 (.loop F3_l1))) (.seq F3_r21 (.seq F3_r22 .ret))))))))))
noncomputable def F3_inf : Nat → RI
  | 0 => ⟨[0], [], []⟩
  | 1 => ⟨[0, 17], [], []⟩
  | 2 => ⟨[0], [], []⟩
  | 3 => ⟨[0, 3], [], []⟩
  | 4 => ⟨[0, 3, 21, 22, 23], [], []⟩
  | 5 => ⟨[0, 3, 21, 22, 23, 24], [], []⟩
  | 6 => ⟨[0, 3, 5, 21, 22, 23], [], []⟩
  | 7 => ⟨[0, 3, 21, 22, 23, 33], [], []⟩
  | 8 => ⟨[2], [], []⟩
  | 9 => ⟨[0, 3, 21, 22, 23], [], []⟩
  | 10 => ⟨[0, 3, 6], [], []⟩
  | 11 => ⟨[0, 3, 6, 39], [], []⟩
  | 12 => ⟨[2], [], []⟩
  | 13 => ⟨[3, 6, 7], [], []⟩
  | 14 => ⟨[3, 6, 7, 8], [], []⟩
  | 15 => ⟨[3, 6, 7, 8, 52], [], []⟩
  | 17 => ⟨[3, 6, 8, 9, 10, 11], [], []⟩
  | 18 => ⟨[3, 6, 8, 9, 78], [], []⟩
  | 19 => ⟨[2], [], []⟩
  | 20 => ⟨[3, 6, 7, 8], [], []⟩
  | 16 => ⟨[3, 6, 7, 8], [], []⟩
  | 21 => ⟨[14], [], []⟩
  | 22 => ⟨[2], [], []⟩
  | _ => ⟨[], [], []⟩
noncomputable def F3_c : Code := Try.f3.body.getD .skip
theorem F3_b : Try.f3.body = some F3_c := by kernel_rfl
theorem F3_rs : Try.f3.results.toList = ([.tmp 2] : List ResultVar) := by kernel_rfl
theorem F3_n : Try.f3.ntmps = 92 := by kernel_rfl
theorem F3_ok : toCC [] 92 F3_inf F3_c = some F3 := by kernel_rfl
theorem F3_in {args : List AV} {G : Hp} {post : AV → Hp → Prop} (ha : args.all AV.plain = true) (hn : args.length ≤ 92) (h : BDs args → awp Try.prog [] F3 (AEnds Try.prog [.tmp 2] post) (initT args) G) : ACalls Try.prog 3 args G post :=
  acalls_cc Try.func3 F3_b F3_rs F3_n F3_ok mixed ha hn h

/- 4 ostiary/ostiarylaw02.ShelfLast -/
@[simp] noncomputable def F4_r0 : CC := .reg [⟨some 4, none, (.assign (.const (.bool false)))⟩] [0, 1]
@[simp] noncomputable def F4_r1 : CC := .reg [⟨some 16, none, (.call { callee := (.value (.func 8)), args := #[(.const (.int .i64 64))], argTypes := #[3] })⟩,
  ⟨some 17, none, (.call { callee := (.value (.func 8)), args := #[(.const (.int .i64 64))], argTypes := #[3] })⟩,
  ⟨some 5, none, (.assign (.tmp 16))⟩,
  ⟨some 6, none, (.assign (.tmp 17))⟩] [0, 1, 5, 6]
@[simp] noncomputable def F4_r2 : CC := .reg [⟨some 18, none, (.move (.tmp 0))⟩,
  ⟨some 19, none, (.call { callee := (.builtin .len), args := #[(.tmp 18)], argTypes := #[22] })⟩,
  ⟨some 7, none, (.assign (.tmp 19))⟩] [0, 1, 5, 6, 7]
@[simp] noncomputable def F4_r3 : CC := .reg [⟨some 20, none, (.move (.tmp 1))⟩,
  ⟨some 21, none, (.call { callee := (.builtin .len), args := #[(.tmp 20)], argTypes := #[22] })⟩,
  ⟨some 22, none, (.move (.tmp 7))⟩,
  ⟨some 23, none, (.binOp .lss 3 (.tmp 21) (.tmp 22) 3)⟩] [0, 1, 5, 6, 7, 23]
@[simp] noncomputable def F4_r4 : CC := .reg [⟨some 24, none, (.move (.tmp 1))⟩,
  ⟨some 25, none, (.call { callee := (.builtin .len), args := #[(.tmp 24)], argTypes := #[22] })⟩,
  ⟨some 7, none, (.assign (.tmp 25))⟩] [0, 1, 5, 6, 7]
@[simp] noncomputable def F4_r5 : CC := .reg [⟨some 26, none, (.move (.tmp 7))⟩,
  ⟨some 27, none, (.binOp .gtr 3 (.tmp 26) (.const (.int .i64 40)) 3)⟩] [0, 1, 5, 6, 7, 27]
@[simp] noncomputable def F4_r6 : CC := .reg [⟨some 7, none, (.assign (.const (.int .i64 40)))⟩] [0, 1, 5, 6, 7]
@[simp] noncomputable def F4_r7 : CC := .reg [⟨some 8, none, (.assign (.const (.int .i64 0)))⟩] [0, 1, 5, 6, 7, 8]
@[simp] noncomputable def F4_r8 : CC := .reg [⟨some 28, none, (.move (.tmp 8))⟩,
  ⟨some 29, none, (.move (.tmp 7))⟩,
  ⟨some 30, none, (.binOp .lss 3 (.tmp 28) (.tmp 29) 3)⟩] [0, 1, 5, 6, 7, 8, 30]
@[simp] noncomputable def F4_r10 : CC := .reg [⟨some 9, none, (.assign (.const (.bool false)))⟩] [0, 1, 5, 6, 7, 8, 9]
@[simp] noncomputable def F4_r11 : CC := .reg [⟨some 33, none, (.move (.tmp 0))⟩,
  ⟨some 34, none, (.move (.tmp 8))⟩,
  ⟨some 35, none, (.slice 22 (.tmp 33) none (some (.tmp 34)) none)⟩,
  ⟨some 36, none, (.call { callee := (.builtin .len), args := #[(.tmp 35)], argTypes := #[22] })⟩,
  ⟨some 37, none, (.move (.const (.int .i64 0)))⟩] [0, 1, 5, 6, 7, 8, 9, 35, 36, 37]
@[simp] noncomputable def F4_r12 : CC := .reg [⟨some 38, none, (.binOp .lss 3 (.tmp 37) (.tmp 36) 3)⟩] [0, 1, 5, 6, 7, 8, 9, 35, 36, 37, 38]
@[simp] noncomputable def F4_r13 : CC := .reg [⟨some 39, none, (.indexAddr 22 (.tmp 35) (.tmp 37))⟩,
  ⟨some 40, none, (.load 3 (.tmp 39))⟩,
  ⟨some 11, none, (.assign (.tmp 40))⟩] [0, 1, 5, 6, 7, 8, 9, 11, 35, 36, 37]
@[simp] noncomputable def F4_r14 : CC := .reg [⟨some 41, none, (.move (.tmp 9))⟩,
  ⟨some 42, none, (.move (.tmp 41))⟩,
  ⟨some 43, some (42, false), (.move (.tmp 11))⟩,
  ⟨some 44, some (42, false), (.move (.tmp 0))⟩,
  ⟨some 45, some (42, false), (.move (.tmp 8))⟩,
  ⟨some 46, some (42, false), (.indexAddr 22 (.tmp 44) (.tmp 45))⟩,
  ⟨some 47, some (42, false), (.load 3 (.tmp 46))⟩,
  ⟨some 48, some (42, false), (.binOp .eql 3 (.tmp 43) (.tmp 47) 3)⟩,
  ⟨some 49, none, (.pick (.tmp 42) (.const (.bool true)) (.tmp 48))⟩,
  ⟨some 9, none, (.assign (.tmp 49))⟩] [0, 1, 5, 6, 7, 8, 9, 35, 36, 37]
@[simp] noncomputable def F4_r15 : CC := .reg [⟨some 50, none, (.binOp .add 3 (.tmp 37) (.const (.int .i64 1)) 3)⟩,
  ⟨some 37, none, (.move (.tmp 50))⟩] [0, 1, 5, 6, 7, 8, 9, 35, 36, 37]
noncomputable def F4_l0 : CC := (.seq F4_r12 (.seq (.cond (.tmp 38) .skip (.exit 2)) (.seq (.block 3 (.seq F4_r13 F4_r14)) F4_r15)))
@[simp] noncomputable def F4_r16 : CC := .reg [⟨some 51, none, (.move (.tmp 9))⟩] [0, 1, 5, 6, 7, 8, 51]
@[simp] noncomputable def F4_r17 : CC := .reg [⟨some 52, none, (.call { callee := (.value (.func 11)), args := #[], argTypes := #[] })⟩,
  ⟨some 4, none, (.assign (.tmp 52))⟩] [4]
@[simp] noncomputable def F4_r9 : CC := .reg [⟨some 31, none, (.move (.tmp 8))⟩,
  ⟨some 32, none, (.binOp .add 3 (.tmp 31) (.const (.int .i64 1)) 3)⟩,
  ⟨some 8, none, (.assign (.tmp 32))⟩] [0, 1, 5, 6, 7, 8]
noncomputable def F4_l1 : CC := (.seq (.seq F4_r8 (.cond (.tmp 30) .skip (.exit 0))) (.seq (.block 1 (.seq F4_r10 (.seq (.seq F4_r11 (.block 2 (.loop F4_l0))) (.seq F4_r16 (.cond (.tmp 51) (.seq F4_r17 .ret) .skip))))) F4_r9))
@[simp] noncomputable def F4_r18 : CC := .reg [⟨some 12, none, (.assign (.const (.int .i64 0)))⟩] [0, 1, 5, 6, 7, 12]
@[simp] noncomputable def F4_r19 : CC := .reg [⟨some 53, none, (.move (.tmp 12))⟩,
  ⟨some 54, none, (.move (.tmp 7))⟩,
  ⟨some 55, none, (.binOp .lss 3 (.tmp 53) (.tmp 54) 3)⟩] [0, 1, 5, 6, 7, 12, 55]
@[simp] noncomputable def F4_r21 : CC := .drw [⟨0, ⟨some 58, none, (.move (.tmp 5))⟩, [], []⟩,
  ⟨1, ⟨some 59, none, (.move (.tmp 0))⟩, [], []⟩,
  ⟨2, ⟨some 60, none, (.move (.tmp 12))⟩, [], []⟩,
  ⟨3, ⟨some 61, none, (.indexAddr 22 (.tmp 59) (.tmp 60))⟩, [], []⟩,
  ⟨4, ⟨some 62, none, (.load 3 (.tmp 61))⟩, [], []⟩,
  ⟨5, ⟨some 63, none, (.move (.tmp 1))⟩, [], []⟩,
  ⟨6, ⟨some 64, none, (.move (.tmp 12))⟩, [], []⟩,
  ⟨7, ⟨some 65, none, (.indexAddr 22 (.tmp 63) (.tmp 64))⟩, [], []⟩,
  ⟨8, ⟨some 66, none, (.load 3 (.tmp 65))⟩, [], []⟩,
  ⟨9, ⟨some 67, none, (.call { callee := (.value (.func 9)), args := #[(.tmp 58), (.tmp 62), (.tmp 66)], argTypes := #[23, 3, 3] })⟩, [], []⟩,
  ⟨10, ⟨some 68, none, (.binOp .neq 25 (.tmp 67) (.const (.int .i64 0)) 25)⟩, [], []⟩,
  ⟨11, ⟨some 69, none, (.move (.tmp 68))⟩, [], []⟩,
  ⟨12, ⟨some 70, some (69, false), (.move (.tmp 6))⟩, [], []⟩,
  ⟨13, ⟨some 71, some (69, false), (.move (.tmp 0))⟩, [], []⟩,
  ⟨14, ⟨some 72, some (69, false), (.move (.tmp 7))⟩, [], []⟩,
  ⟨15, ⟨some 73, some (69, false), (.binOp .sub 3 (.tmp 72) (.const (.int .i64 1)) 3)⟩, [], []⟩,
  ⟨16, ⟨some 74, some (69, false), (.move (.tmp 12))⟩, [], []⟩,
  ⟨17, ⟨some 75, some (69, false), (.binOp .sub 3 (.tmp 73) (.tmp 74) 3)⟩, [], []⟩,
  ⟨18, ⟨some 76, some (69, false), (.indexAddr 22 (.tmp 71) (.tmp 75))⟩, [], []⟩,
  ⟨19, ⟨some 77, some (69, false), (.load 3 (.tmp 76))⟩, [], []⟩,
  ⟨20, ⟨some 78, some (69, false), (.move (.tmp 1))⟩, [], []⟩,
  ⟨21, ⟨some 79, some (69, false), (.move (.tmp 7))⟩, [], []⟩,
  ⟨22, ⟨some 80, some (69, false), (.binOp .sub 3 (.tmp 79) (.const (.int .i64 1)) 3)⟩, [], []⟩,
  ⟨23, ⟨some 81, some (69, false), (.move (.tmp 12))⟩, [], []⟩,
  ⟨24, ⟨some 82, some (69, false), (.binOp .sub 3 (.tmp 80) (.tmp 81) 3)⟩, [], []⟩,
  ⟨25, ⟨some 83, some (69, false), (.indexAddr 22 (.tmp 78) (.tmp 82))⟩, [], []⟩,
  ⟨26, ⟨some 84, some (69, false), (.load 3 (.tmp 83))⟩, [], []⟩,
  ⟨27, ⟨some 85, some (69, false), (.call { callee := (.value (.func 9)), args := #[(.tmp 70), (.tmp 77), (.tmp 84)], argTypes := #[23, 3, 3] })⟩, [], []⟩,
  ⟨28, ⟨some 86, some (69, false), (.binOp .neq 25 (.tmp 85) (.const (.int .i64 0)) 25)⟩, [], []⟩,
  ⟨29, ⟨some 87, none, (.pick (.tmp 69) (.const (.bool true)) (.tmp 86))⟩, [], []⟩] [58, 59, 60, 61, 62, 63, 64, 65, 66, 67, 68, 69, 70, 71, 72, 73, 74, 75, 76, 77, 78, 79, 80, 81, 82, 83, 84, 85, 86, 87] [0, 1, 5, 6, 7, 12, 87]
@[simp] noncomputable def F4_r22 : CC := .reg [⟨some 4, none, (.assign (.const (.bool false)))⟩] [4]
@[simp] noncomputable def F4_r20 : CC := .reg [⟨some 56, none, (.move (.tmp 12))⟩,
  ⟨some 57, none, (.binOp .add 3 (.tmp 56) (.const (.int .i64 1)) 3)⟩,
  ⟨some 12, none, (.assign (.tmp 57))⟩] [0, 1, 5, 6, 7, 12]
noncomputable def F4_l2 : CC := (.seq (.seq F4_r19 (.cond (.tmp 55) .skip (.exit 4))) (.seq (.block 5 (.seq F4_r21 (.cond (.tmp 87) (.seq F4_r22 .ret) .skip))) F4_r20))
@[simp] noncomputable def F4_r23 : CC := .reg [⟨some 88, none, (.move (.tmp 5))⟩,
  ⟨some 89, none, (.call { callee := (.value (.func 10)), args := #[(.tmp 88)], argTypes := #[23] })⟩,
  ⟨some 90, none, (.move (.tmp 6))⟩,
  ⟨some 91, none, (.call { callee := (.value (.func 10)), args := #[(.tmp 90)], argTypes := #[23] })⟩,
  ⟨some 13, none, (.assign (.tmp 89))⟩,
  ⟨some 14, none, (.assign (.tmp 91))⟩] [5, 6, 7, 13, 14]
@[simp] noncomputable def F4_r24 : CC := .reg [⟨some 15, none, (.assign (.const (.int .i64 1)))⟩] [5, 6, 7, 13, 14, 15]
@[simp] noncomputable def F4_r25 : CC := .reg [⟨some 92, none, (.move (.tmp 15))⟩,
  ⟨some 93, none, (.move (.tmp 13))⟩,
  ⟨some 94, none, (.call { callee := (.builtin .len), args := #[(.tmp 93)], argTypes := #[22] })⟩,
  ⟨some 95, none, (.binOp .lss 3 (.tmp 92) (.tmp 94) 3)⟩] [5, 6, 7, 13, 14, 15, 95]
@[simp] noncomputable def F4_r27 : CC := .drw [⟨0, ⟨some 98, none, (.move (.tmp 13))⟩, [], []⟩,
  ⟨1, ⟨some 99, none, (.move (.tmp 15))⟩, [], []⟩,
  ⟨2, ⟨some 100, none, (.indexAddr 22 (.tmp 98) (.tmp 99))⟩, [], []⟩,
  ⟨3, ⟨some 101, none, (.load 3 (.tmp 100))⟩, [], []⟩,
  ⟨4, ⟨some 102, none, (.move (.tmp 13))⟩, [], []⟩,
  ⟨5, ⟨some 103, none, (.move (.tmp 15))⟩, [], []⟩,
  ⟨6, ⟨some 104, none, (.binOp .sub 3 (.tmp 103) (.const (.int .i64 1)) 3)⟩, [], []⟩,
  ⟨7, ⟨some 105, none, (.indexAddr 22 (.tmp 102) (.tmp 104))⟩, [], []⟩,
  ⟨8, ⟨some 106, none, (.load 3 (.tmp 105))⟩, [], []⟩,
  ⟨9, ⟨some 107, none, (.binOp .leq 3 (.tmp 101) (.tmp 106) 3)⟩, [], []⟩] [98, 99, 100, 101, 102, 103, 104, 105, 106, 107] [5, 6, 7, 13, 14, 15, 107]
@[simp] noncomputable def F4_r28 : CC := .reg [⟨some 4, none, (.assign (.const (.bool false)))⟩] [4]
@[simp] noncomputable def F4_r26 : CC := .reg [⟨some 96, none, (.move (.tmp 15))⟩,
  ⟨some 97, none, (.binOp .add 3 (.tmp 96) (.const (.int .i64 1)) 3)⟩,
  ⟨some 15, none, (.assign (.tmp 97))⟩] [5, 6, 7, 13, 14, 15]
noncomputable def F4_l3 : CC := (.seq (.seq F4_r25 (.cond (.tmp 95) .skip (.exit 6))) (.seq (.block 7 (.seq F4_r27 (.cond (.tmp 107) (.seq F4_r28 .ret) .skip))) F4_r26))
@[simp] noncomputable def F4_r29 : CC := .reg [⟨some 108, none, (.move (.tmp 13))⟩,
  ⟨some 109, none, (.call { callee := (.builtin .len), args := #[(.tmp 108)], argTypes := #[22] })⟩,
  ⟨some 110, none, (.move (.tmp 7))⟩,
  ⟨some 111, none, (.binOp .eql 3 (.tmp 109) (.tmp 110) 3)⟩,
  ⟨some 112, none, (.move (.tmp 111))⟩,
  ⟨some 113, some (112, true), (.move (.tmp 13))⟩,
  ⟨some 114, some (112, true), (.move (.tmp 14))⟩,
  ⟨some 115, some (112, true), (.call { callee := (.value (.func 13)), args := #[(.tmp 113), (.tmp 114)], argTypes := #[22, 22] })⟩,
  ⟨some 116, none, (.pick (.tmp 112) (.tmp 115) (.const (.bool false)))⟩,
  ⟨some 117, none, (.move (.tmp 116))⟩,
  ⟨some 118, some (117, true), (.move (.tmp 5))⟩,
  ⟨some 119, some (117, true), (.call { callee := (.value (.func 14)), args := #[(.tmp 118)], argTypes := #[23] })⟩,
  ⟨some 120, some (117, true), (.move (.tmp 6))⟩,
  ⟨some 121, some (117, true), (.call { callee := (.value (.func 14)), args := #[(.tmp 120)], argTypes := #[23] })⟩,
  ⟨some 122, some (117, true), (.call { callee := (.value (.func 13)), args := #[(.tmp 119), (.tmp 121)], argTypes := #[22, 22] })⟩,
  ⟨some 123, none, (.pick (.tmp 117) (.tmp 122) (.const (.bool false)))⟩,
  ⟨some 124, none, (.move (.tmp 123))⟩,
  ⟨some 125, some (124, true), (.call { callee := (.value (.func 11)), args := #[], argTypes := #[] })⟩,
  ⟨some 126, none, (.pick (.tmp 124) (.tmp 125) (.const (.bool false)))⟩,
  ⟨some 4, none, (.assign (.tmp 126))⟩] [4]
noncomputable def F4 : CC := (.seq F4_r0 (.seq F4_r1 (.seq F4_r2 (.seq (.seq F4_r3 (.cond (.tmp 23) F4_r4 .skip)) (.seq (.seq F4_r5 (.cond (.tmp 27) F4_r6 .skip)) (.seq (.seq F4_r7 (.block 0 (.loop F4_l1))) (.seq (.seq F4_r18 (.block 4 (.loop F4_l2))) (.seq F4_r23 (.seq (.seq F4_r24 (.block 6 (.loop F4_l3))) (.seq F4_r29 .ret))))))))))
noncomputable def F4_inf : Nat → RI
  | 0 => ⟨[0, 1], [], []⟩
  | 1 => ⟨[0, 1, 5, 6], [], []⟩
  | 2 => ⟨[0, 1, 5, 6, 7], [], []⟩
  | 3 => ⟨[0, 1, 5, 6, 7, 23], [], []⟩
  | 4 => ⟨[0, 1, 5, 6, 7], [], []⟩
  | 5 => ⟨[0, 1, 5, 6, 7, 27], [], []⟩
  | 6 => ⟨[0, 1, 5, 6, 7], [], []⟩
  | 7 => ⟨[0, 1, 5, 6, 7, 8], [], []⟩
  | 8 => ⟨[0, 1, 5, 6, 7, 8, 30], [], []⟩
  | 10 => ⟨[0, 1, 5, 6, 7, 8, 9], [], []⟩
  | 11 => ⟨[0, 1, 5, 6, 7, 8, 9, 35, 36, 37], [], []⟩
  | 12 => ⟨[0, 1, 5, 6, 7, 8, 9, 35, 36, 37, 38], [], []⟩
  | 13 => ⟨[0, 1, 5, 6, 7, 8, 9, 11, 35, 36, 37], [], []⟩
  | 14 => ⟨[0, 1, 5, 6, 7, 8, 9, 35, 36, 37], [], []⟩
  | 15 => ⟨[0, 1, 5, 6, 7, 8, 9, 35, 36, 37], [], []⟩
  | 16 => ⟨[0, 1, 5, 6, 7, 8, 51], [], []⟩
  | 17 => ⟨[4], [], []⟩
  | 9 => ⟨[0, 1, 5, 6, 7, 8], [], []⟩
  | 18 => ⟨[0, 1, 5, 6, 7, 12], [], []⟩
  | 19 => ⟨[0, 1, 5, 6, 7, 12, 55], [], []⟩
  | 21 => ⟨[0, 1, 5, 6, 7, 12, 87], [0, 0, 0, 6, 14, 0, 0, 96, 224, 511, 1023, 2047, 4095, 4095, 4095, 20479, 4095, 118783, 258047, 520191, 4095, 4095, 2101247, 4095, 14684159, 32509951, 66064383, 134217727, 268435455, 536870911], [(0, []), (1, []), (2, []), (3, []), (4, []), (5, []), (6, []), (7, []), (8, []), (9, []), (10, []), (11, []), (12, []), (13, []), (14, []), (15, []), (16, []), (17, []), (18, []), (19, []), (20, []), (21, []), (22, []), (23, []), (24, []), (25, []), (26, []), (27, []), (28, []), (29, [])]⟩
  | 22 => ⟨[4], [], []⟩
  | 20 => ⟨[0, 1, 5, 6, 7, 12], [], []⟩
  | 23 => ⟨[5, 6, 7, 13, 14], [], []⟩
  | 24 => ⟨[5, 6, 7, 13, 14, 15], [], []⟩
  | 25 => ⟨[5, 6, 7, 13, 14, 15, 95], [], []⟩
  | 27 => ⟨[5, 6, 7, 13, 14, 15, 107], [0, 0, 3, 7, 0, 0, 32, 112, 240, 511], [(0, []), (1, []), (2, []), (3, []), (4, []), (5, []), (6, []), (7, []), (8, []), (9, [])]⟩
  | 28 => ⟨[4], [], []⟩
  | 26 => ⟨[5, 6, 7, 13, 14, 15], [], []⟩
  | 29 => ⟨[4], [], []⟩
  | _ => ⟨[], [], []⟩
noncomputable def F4_c : Code := Try.f4.body.getD .skip
theorem F4_b : Try.f4.body = some F4_c := by kernel_rfl
theorem F4_rs : Try.f4.results.toList = ([.tmp 4] : List ResultVar) := by kernel_rfl
theorem F4_n : Try.f4.ntmps = 127 := by kernel_rfl
theorem F4_ok : toCC [] 127 F4_inf F4_c = some F4 := by kernel_rfl
theorem F4_in {args : List AV} {G : Hp} {post : AV → Hp → Prop} (ha : args.all AV.plain = true) (hn : args.length ≤ 127) (h : BDs args → awp Try.prog [] F4 (AEnds Try.prog [.tmp 4] post) (initT args) G) : ACalls Try.prog 4 args G post :=
  acalls_cc Try.func4 F4_b F4_rs F4_n F4_ok mixed ha hn h

/- 5 ostiary/ostiarylaw02.ShelfRing -/
@[simp] noncomputable def F5_r0 : CC := .reg [⟨some 4, none, (.assign (.const (.bool false)))⟩] [0, 1]
@[simp] noncomputable def F5_r1 : CC := .reg [⟨some 12, none, (.move (.tmp 0))⟩,
  ⟨some 13, none, (.binOp .rem 3 (.tmp 12) (.const (.int .i64 12)) 3)⟩,
  ⟨some 0, none, (.assign (.tmp 13))⟩] [0, 1]
@[simp] noncomputable def F5_r2 : CC := .reg [⟨some 14, none, (.move (.tmp 0))⟩,
  ⟨some 15, none, (.call { callee := (.value (.func 15)), args := #[(.tmp 14)], argTypes := #[3] })⟩,
  ⟨some 5, none, (.assign (.tmp 15))⟩] [0, 1, 5]
@[simp] noncomputable def F5_r3 : CC := .reg [⟨some 16, none, (.move (.tmp 0))⟩,
  ⟨some 17, none, (.binOp .lss 3 (.tmp 16) (.const (.int .i64 0)) 3)⟩] [0, 1, 5, 17]
@[simp] noncomputable def F5_r4 : CC := .reg [⟨some 0, none, (.assign (.const (.int .i64 0)))⟩] [0, 1, 5]
@[simp] noncomputable def F5_r5 : CC := .reg [⟨some 6, none, (.assign (.const (.slice none 0 0)))⟩] [0, 1, 5, 6]
@[simp] noncomputable def F5_r6 : CC := .reg [⟨some 7, none, (.assign (.const (.bool true)))⟩] [0, 1, 5, 6, 7]
@[simp] noncomputable def F5_r7 : CC := .reg [⟨some 18, none, (.move (.tmp 1))⟩,
  ⟨some 19, none, (.call { callee := (.builtin .len), args := #[(.tmp 18)], argTypes := #[33] })⟩,
  ⟨some 20, none, (.move (.const (.int .i64 0)))⟩] [0, 5, 6, 7, 18, 19, 20]
@[simp] noncomputable def F5_r8 : CC := .reg [⟨some 21, none, (.binOp .lss 3 (.tmp 20) (.tmp 19) 3)⟩] [0, 5, 6, 7, 18, 19, 20, 21]
@[simp] noncomputable def F5_r9 : CC := .reg [⟨some 22, none, (.move (.tmp 20))⟩,
  ⟨some 23, none, (.indexAddr 33 (.tmp 18) (.tmp 20))⟩,
  ⟨some 24, none, (.load 37 (.tmp 23))⟩,
  ⟨some 9, none, (.alloc 37)⟩,
  ⟨some 8, none, (.assign (.tmp 22))⟩,
  ⟨none, none, (.store 37 (.tmp 9) (.tmp 24))⟩] [0, 5, 6, 7, 8, 9, 18, 19, 20]
@[simp] noncomputable def F5_r10 : CC := .reg [⟨some 25, none, (.move (.tmp 8))⟩,
  ⟨some 26, none, (.binOp .geq 3 (.tmp 25) (.const (.int .i64 40)) 3)⟩,
  ⟨some 27, none, (.move (.tmp 26))⟩,
  ⟨some 28, some (27, false), (.move (.tmp 7))⟩,
  ⟨some 29, some (27, false), (.unOp .not 4 (.tmp 28))⟩,
  ⟨some 30, none, (.pick (.tmp 27) (.const (.bool true)) (.tmp 29))⟩] [0, 5, 6, 7, 9, 18, 19, 20, 30]
@[simp] noncomputable def F5_r11 : CC := .reg [⟨some 32, none, (.move (.tmp 5))⟩,
  ⟨some 33, none, (.move (.tmp 6))⟩,
  ⟨some 34, none, (.move (.tmp 0))⟩,
  ⟨some 35, none, (.load 37 (.tmp 9))⟩,
  ⟨some 36, none, (.call { callee := (.value (.func 16)), args := #[(.tmp 32), (.tmp 33), (.tmp 34), (.tmp 35)], argTypes := #[34, 22, 3, 37] })⟩,
  ⟨some 31, none, (.move (.tmp 36))⟩,
  ⟨some 37, none, (.extract (.tmp 31) 0)⟩,
  ⟨some 38, none, (.extract (.tmp 31) 1)⟩,
  ⟨some 6, none, (.assign (.tmp 37))⟩,
  ⟨some 7, none, (.assign (.tmp 38))⟩] [0, 5, 6, 7, 18, 19, 20]
@[simp] noncomputable def F5_r12 : CC := .reg [⟨some 39, none, (.move (.tmp 5))⟩,
  ⟨some 40, none, (.call { callee := (.value (.func 17)), args := #[(.tmp 39)], argTypes := #[34] })⟩,
  ⟨some 10, none, (.assign (.tmp 40))⟩] [0, 5, 6, 7, 10, 18, 19, 20]
@[simp] noncomputable def F5_r13 : CC := .reg [⟨some 41, none, (.move (.tmp 7))⟩,
  ⟨some 42, none, (.move (.tmp 41))⟩,
  ⟨some 43, some (42, true), (.move (.tmp 5))⟩,
  ⟨some 44, some (42, true), (.call { callee := (.value (.func 18)), args := #[(.tmp 43)], argTypes := #[34] })⟩,
  ⟨some 45, some (42, true), (.move (.tmp 6))⟩,
  ⟨some 46, some (42, true), (.call { callee := (.builtin .len), args := #[(.tmp 45)], argTypes := #[22] })⟩,
  ⟨some 47, some (42, true), (.binOp .eql 3 (.tmp 44) (.tmp 46) 3)⟩,
  ⟨some 48, none, (.pick (.tmp 42) (.tmp 47) (.const (.bool false)))⟩,
  ⟨some 49, none, (.move (.tmp 48))⟩,
  ⟨some 50, some (49, true), (.move (.tmp 10))⟩,
  ⟨some 51, some (49, true), (.move (.tmp 6))⟩,
  ⟨some 52, some (49, true), (.call { callee := (.value (.func 13)), args := #[(.tmp 50), (.tmp 51)], argTypes := #[22, 22] })⟩,
  ⟨some 53, none, (.pick (.tmp 49) (.tmp 52) (.const (.bool false)))⟩,
  ⟨some 7, none, (.assign (.tmp 53))⟩] [0, 5, 6, 7, 10, 18, 19, 20]
@[simp] noncomputable def F5_r14 : CC := .reg [⟨some 54, none, (.move (.tmp 10))⟩,
  ⟨some 55, none, (.call { callee := (.builtin .len), args := #[(.tmp 54)], argTypes := #[22] })⟩,
  ⟨some 56, none, (.move (.const (.int .i64 0)))⟩] [0, 5, 6, 7, 10, 18, 19, 20, 55, 56]
@[simp] noncomputable def F5_r15 : CC := .reg [⟨some 57, none, (.binOp .lss 3 (.tmp 56) (.tmp 55) 3)⟩] [0, 5, 6, 7, 10, 18, 19, 20, 55, 56, 57]
@[simp] noncomputable def F5_r16 : CC := .reg [⟨some 58, none, (.move (.tmp 56))⟩,
  ⟨some 11, none, (.assign (.tmp 58))⟩] [0, 5, 6, 7, 10, 11, 18, 19, 20, 55, 56]
@[simp] noncomputable def F5_r17 : CC := .reg [⟨some 59, none, (.move (.tmp 10))⟩,
  ⟨some 60, none, (.move (.tmp 11))⟩,
  ⟨some 61, none, (.indexAddr 22 (.tmp 59) (.tmp 60))⟩,
  ⟨none, none, (.store 3 (.tmp 61) (.const (.int .i64 77)))⟩] [0, 5, 6, 7, 10, 18, 19, 20, 55, 56]
@[simp] noncomputable def F5_r18 : CC := .reg [⟨some 62, none, (.binOp .add 3 (.tmp 56) (.const (.int .i64 1)) 3)⟩,
  ⟨some 56, none, (.move (.tmp 62))⟩] [0, 5, 6, 7, 10, 18, 19, 20, 55, 56]
noncomputable def F5_l0 : CC := (.seq F5_r15 (.seq (.cond (.tmp 57) .skip (.exit 2)) (.seq (.block 3 (.seq F5_r16 F5_r17)) F5_r18)))
@[simp] noncomputable def F5_r19 : CC := .reg [⟨some 63, none, (.binOp .add 3 (.tmp 20) (.const (.int .i64 1)) 3)⟩,
  ⟨some 20, none, (.move (.tmp 63))⟩] [0, 5, 6, 7, 18, 19, 20]
noncomputable def F5_l1 : CC := (.seq F5_r8 (.seq (.cond (.tmp 21) .skip (.exit 0)) (.seq (.block 1 (.seq F5_r9 (.seq (.seq F5_r10 (.cond (.tmp 30) (.exit 0) .skip)) (.seq F5_r11 (.seq F5_r12 (.seq F5_r13 (.seq F5_r14 (.block 2 (.loop F5_l0))))))))) F5_r19)))
@[simp] noncomputable def F5_r20 : CC := .reg [⟨some 64, none, (.move (.tmp 7))⟩,
  ⟨some 65, none, (.move (.tmp 64))⟩,
  ⟨some 66, some (65, true), (.move (.tmp 5))⟩,
  ⟨some 67, some (65, true), (.call { callee := (.value (.func 17)), args := #[(.tmp 66)], argTypes := #[34] })⟩,
  ⟨some 68, some (65, true), (.move (.tmp 6))⟩,
  ⟨some 69, some (65, true), (.call { callee := (.value (.func 13)), args := #[(.tmp 67), (.tmp 68)], argTypes := #[22, 22] })⟩,
  ⟨some 70, none, (.pick (.tmp 65) (.tmp 69) (.const (.bool false)))⟩,
  ⟨some 71, none, (.move (.tmp 70))⟩,
  ⟨some 72, some (71, true), (.call { callee := (.value (.func 11)), args := #[], argTypes := #[] })⟩,
  ⟨some 73, none, (.pick (.tmp 71) (.tmp 72) (.const (.bool false)))⟩,
  ⟨some 4, none, (.assign (.tmp 73))⟩] [4]
noncomputable def F5 : CC := (.seq F5_r0 (.seq F5_r1 (.seq F5_r2 (.seq (.seq F5_r3 (.cond (.tmp 17) F5_r4 .skip)) (.seq F5_r5 (.seq F5_r6 (.seq (.seq F5_r7 (.block 0 (.loop F5_l1))) (.seq F5_r20 .ret))))))))
noncomputable def F5_inf : Nat → RI
  | 0 => ⟨[0, 1], [], []⟩
  | 1 => ⟨[0, 1], [], []⟩
  | 2 => ⟨[0, 1, 5], [], []⟩
  | 3 => ⟨[0, 1, 5, 17], [], []⟩
  | 4 => ⟨[0, 1, 5], [], []⟩
  | 5 => ⟨[0, 1, 5, 6], [], []⟩
  | 6 => ⟨[0, 1, 5, 6, 7], [], []⟩
  | 7 => ⟨[0, 5, 6, 7, 18, 19, 20], [], []⟩
  | 8 => ⟨[0, 5, 6, 7, 18, 19, 20, 21], [], []⟩
  | 9 => ⟨[0, 5, 6, 7, 8, 9, 18, 19, 20], [], []⟩
  | 10 => ⟨[0, 5, 6, 7, 9, 18, 19, 20, 30], [], []⟩
  | 11 => ⟨[0, 5, 6, 7, 18, 19, 20], [], []⟩
  | 12 => ⟨[0, 5, 6, 7, 10, 18, 19, 20], [], []⟩
  | 13 => ⟨[0, 5, 6, 7, 10, 18, 19, 20], [], []⟩
  | 14 => ⟨[0, 5, 6, 7, 10, 18, 19, 20, 55, 56], [], []⟩
  | 15 => ⟨[0, 5, 6, 7, 10, 18, 19, 20, 55, 56, 57], [], []⟩
  | 16 => ⟨[0, 5, 6, 7, 10, 11, 18, 19, 20, 55, 56], [], []⟩
  | 17 => ⟨[0, 5, 6, 7, 10, 18, 19, 20, 55, 56], [], []⟩
  | 18 => ⟨[0, 5, 6, 7, 10, 18, 19, 20, 55, 56], [], []⟩
  | 19 => ⟨[0, 5, 6, 7, 18, 19, 20], [], []⟩
  | 20 => ⟨[4], [], []⟩
  | _ => ⟨[], [], []⟩
noncomputable def F5_c : Code := Try.f5.body.getD .skip
theorem F5_b : Try.f5.body = some F5_c := by kernel_rfl
theorem F5_rs : Try.f5.results.toList = ([.tmp 4] : List ResultVar) := by kernel_rfl
theorem F5_n : Try.f5.ntmps = 74 := by kernel_rfl
theorem F5_ok : toCC [] 74 F5_inf F5_c = some F5 := by kernel_rfl
theorem F5_in {args : List AV} {G : Hp} {post : AV → Hp → Prop} (ha : args.all AV.plain = true) (hn : args.length ≤ 74) (h : BDs args → awp Try.prog [] F5 (AEnds Try.prog [.tmp 4] post) (initT args) G) : ACalls Try.prog 5 args G post :=
  acalls_cc Try.func5 F5_b F5_rs F5_n F5_ok mixed ha hn h

/- 6 ostiary/ostiarylaw02.ShelfNil -/
@[simp] noncomputable def F6_r0 : CC := .reg [⟨some 4, none, (.assign (.const (.bool false)))⟩] [0, 1]
@[simp] noncomputable def F6_r1 : CC := .reg [⟨some 5, none, (.assign (.const (.pointer none)))⟩] [0, 1, 5]
@[simp] noncomputable def F6_r2 : CC := .reg [⟨some 6, none, (.assign (.const (.pointer none)))⟩] [0, 1, 5, 6]
@[simp] noncomputable def F6_r3 : CC := .reg [⟨some 21, none, (.move (.tmp 5))⟩,
  ⟨some 22, none, (.move (.tmp 0))⟩,
  ⟨some 23, none, (.call { callee := (.value (.func 19)), args := #[(.tmp 21), (.tmp 22)], argTypes := #[34, 3] })⟩,
  ⟨some 20, none, (.move (.tmp 23))⟩,
  ⟨some 24, none, (.extract (.tmp 20) 0)⟩,
  ⟨some 25, none, (.extract (.tmp 20) 1)⟩,
  ⟨some 7, none, (.assign (.tmp 24))⟩,
  ⟨some 8, none, (.assign (.tmp 25))⟩] [0, 1, 5, 6, 8]
@[simp] noncomputable def F6_r4 : CC := .reg [⟨some 27, none, (.move (.tmp 5))⟩,
  ⟨some 28, none, (.call { callee := (.value (.func 20)), args := #[(.tmp 27)], argTypes := #[34] })⟩,
  ⟨some 26, none, (.move (.tmp 28))⟩,
  ⟨some 29, none, (.extract (.tmp 26) 0)⟩,
  ⟨some 30, none, (.extract (.tmp 26) 1)⟩,
  ⟨some 9, none, (.assign (.tmp 29))⟩,
  ⟨some 10, none, (.assign (.tmp 30))⟩] [0, 1, 5, 6, 8, 10]
@[simp] noncomputable def F6_r5 : CC := .reg [⟨some 32, none, (.move (.tmp 5))⟩,
  ⟨some 33, none, (.move (.tmp 0))⟩,
  ⟨some 34, none, (.call { callee := (.value (.func 21)), args := #[(.tmp 32), (.tmp 33)], argTypes := #[34, 3] })⟩,
  ⟨some 31, none, (.move (.tmp 34))⟩,
  ⟨some 35, none, (.extract (.tmp 31) 0)⟩,
  ⟨some 36, none, (.extract (.tmp 31) 1)⟩,
  ⟨some 11, none, (.assign (.tmp 35))⟩,
  ⟨some 12, none, (.assign (.tmp 36))⟩] [0, 1, 5, 6, 8, 10, 12]
@[simp] noncomputable def F6_r6 : CC := .reg [⟨some 38, none, (.move (.tmp 5))⟩,
  ⟨some 39, none, (.move (.tmp 0))⟩,
  ⟨some 40, none, (.call { callee := (.value (.func 22)), args := #[(.tmp 38), (.tmp 39)], argTypes := #[34, 3] })⟩,
  ⟨some 37, none, (.move (.tmp 40))⟩,
  ⟨some 41, none, (.extract (.tmp 37) 0)⟩,
  ⟨some 42, none, (.extract (.tmp 37) 1)⟩,
  ⟨some 13, none, (.assign (.tmp 41))⟩,
  ⟨some 14, none, (.assign (.tmp 42))⟩] [0, 1, 5, 6, 8, 10, 12, 14]
@[simp] noncomputable def F6_r7 : CC := .reg [⟨some 44, none, (.move (.tmp 6))⟩,
  ⟨some 45, none, (.move (.tmp 1))⟩,
  ⟨some 46, none, (.call { callee := (.value (.func 23)), args := #[(.tmp 44), (.tmp 45)], argTypes := #[23, 3] })⟩,
  ⟨some 43, none, (.move (.tmp 46))⟩,
  ⟨some 47, none, (.extract (.tmp 43) 0)⟩,
  ⟨some 48, none, (.extract (.tmp 43) 1)⟩,
  ⟨some 15, none, (.assign (.tmp 47))⟩,
  ⟨some 16, none, (.assign (.tmp 48))⟩] [0, 1, 5, 6, 8, 10, 12, 14, 16]
@[simp] noncomputable def F6_r8 : CC := .reg [⟨some 50, none, (.move (.tmp 6))⟩,
  ⟨some 51, none, (.move (.tmp 1))⟩,
  ⟨some 52, none, (.call { callee := (.value (.func 12)), args := #[(.tmp 50), (.tmp 51)], argTypes := #[23, 3] })⟩,
  ⟨some 49, none, (.move (.tmp 52))⟩,
  ⟨some 53, none, (.extract (.tmp 49) 0)⟩,
  ⟨some 54, none, (.extract (.tmp 49) 1)⟩,
  ⟨some 55, none, (.extract (.tmp 49) 2)⟩,
  ⟨some 17, none, (.assign (.tmp 53))⟩,
  ⟨some 18, none, (.assign (.tmp 54))⟩,
  ⟨some 19, none, (.assign (.tmp 55))⟩] [0, 1, 5, 6, 8, 10, 12, 14, 16, 17, 18, 19]
@[simp] noncomputable def F6_r9 : CC := .reg [⟨some 56, none, (.move (.tmp 5))⟩,
  ⟨some 57, none, (.move (.tmp 0))⟩,
  ⟨some 58, none, (.buildSlice 22 1 #[(0, (.tmp 57))])⟩,
  ⟨some 59, none, (.call { callee := (.value (.func 24)), args := #[(.tmp 56), (.tmp 58)], argTypes := #[34, 22] })⟩,
  ⟨some 60, none, (.unOp .not 4 (.tmp 59))⟩,
  ⟨some 61, none, (.move (.tmp 60))⟩,
  ⟨some 62, some (61, true), (.move (.tmp 8))⟩,
  ⟨some 63, some (61, true), (.unOp .not 4 (.tmp 62))⟩,
  ⟨some 64, none, (.pick (.tmp 61) (.tmp 63) (.const (.bool false)))⟩,
  ⟨some 65, none, (.move (.tmp 64))⟩,
  ⟨some 66, some (65, true), (.move (.tmp 10))⟩,
  ⟨some 67, some (65, true), (.unOp .not 4 (.tmp 66))⟩,
  ⟨some 68, none, (.pick (.tmp 65) (.tmp 67) (.const (.bool false)))⟩,
  ⟨some 69, none, (.move (.tmp 68))⟩,
  ⟨some 70, some (69, true), (.move (.tmp 12))⟩,
  ⟨some 71, some (69, true), (.unOp .not 4 (.tmp 70))⟩,
  ⟨some 72, none, (.pick (.tmp 69) (.tmp 71) (.const (.bool false)))⟩,
  ⟨some 73, none, (.move (.tmp 72))⟩,
  ⟨some 74, some (73, true), (.move (.tmp 14))⟩,
  ⟨some 75, some (73, true), (.unOp .not 4 (.tmp 74))⟩,
  ⟨some 76, none, (.pick (.tmp 73) (.tmp 75) (.const (.bool false)))⟩,
  ⟨some 77, none, (.move (.tmp 76))⟩,
  ⟨some 78, some (77, true), (.move (.tmp 5))⟩,
  ⟨some 79, some (77, true), (.call { callee := (.value (.func 18)), args := #[(.tmp 78)], argTypes := #[34] })⟩,
  ⟨some 80, some (77, true), (.binOp .eql 3 (.tmp 79) (.const (.int .i64 0)) 3)⟩,
  ⟨some 81, none, (.pick (.tmp 77) (.tmp 80) (.const (.bool false)))⟩,
  ⟨some 82, none, (.move (.tmp 81))⟩,
  ⟨some 83, some (82, true), (.move (.tmp 5))⟩,
  ⟨some 84, some (82, true), (.call { callee := (.value (.func 17)), args := #[(.tmp 83)], argTypes := #[34] })⟩,
  ⟨some 85, some (82, true), (.call { callee := (.builtin .len), args := #[(.tmp 84)], argTypes := #[22] })⟩,
  ⟨some 86, some (82, true), (.binOp .eql 3 (.tmp 85) (.const (.int .i64 0)) 3)⟩,
  ⟨some 87, none, (.pick (.tmp 82) (.tmp 86) (.const (.bool false)))⟩,
  ⟨some 88, none, (.move (.tmp 87))⟩,
  ⟨some 89, some (88, true), (.move (.tmp 6))⟩,
  ⟨some 90, some (88, true), (.move (.tmp 1))⟩,
  ⟨some 91, some (88, true), (.move (.tmp 0))⟩,
  ⟨some 92, some (88, true), (.call { callee := (.value (.func 9)), args := #[(.tmp 89), (.tmp 90), (.tmp 91)], argTypes := #[23, 3, 3] })⟩,
  ⟨some 93, some (88, true), (.binOp .eql 25 (.tmp 92) (.const (.int .i64 11)) 25)⟩,
  ⟨some 94, none, (.pick (.tmp 88) (.tmp 93) (.const (.bool false)))⟩,
  ⟨some 95, none, (.move (.tmp 94))⟩,
  ⟨some 96, some (95, true), (.move (.tmp 16))⟩,
  ⟨some 97, some (95, true), (.unOp .not 4 (.tmp 96))⟩,
  ⟨some 98, none, (.pick (.tmp 95) (.tmp 97) (.const (.bool false)))⟩,
  ⟨some 99, none, (.move (.tmp 98))⟩,
  ⟨some 100, some (99, true), (.move (.tmp 17))⟩,
  ⟨some 101, some (99, true), (.move (.tmp 1))⟩,
  ⟨some 102, some (99, true), (.binOp .eql 3 (.tmp 100) (.tmp 101) 3)⟩,
  ⟨some 103, none, (.pick (.tmp 99) (.tmp 102) (.const (.bool false)))⟩,
  ⟨some 104, none, (.move (.tmp 103))⟩,
  ⟨some 105, some (104, true), (.move (.tmp 18))⟩,
  ⟨some 106, some (104, true), (.binOp .eql 3 (.tmp 105) (.const (.int .i64 0)) 3)⟩,
  ⟨some 107, none, (.pick (.tmp 104) (.tmp 106) (.const (.bool false)))⟩,
  ⟨some 108, none, (.move (.tmp 107))⟩,
  ⟨some 109, some (108, true), (.move (.tmp 19))⟩,
  ⟨some 110, some (108, true), (.unOp .not 4 (.tmp 109))⟩,
  ⟨some 111, none, (.pick (.tmp 108) (.tmp 110) (.const (.bool false)))⟩,
  ⟨some 112, none, (.move (.tmp 111))⟩,
  ⟨some 113, some (112, true), (.move (.tmp 6))⟩,
  ⟨some 114, some (112, true), (.move (.tmp 1))⟩,
  ⟨some 115, some (112, true), (.buildSlice 22 1 #[(0, (.tmp 114))])⟩,
  ⟨some 116, some (112, true), (.call { callee := (.value (.func 25)), args := #[(.tmp 113), (.tmp 115)], argTypes := #[23, 22] })⟩,
  ⟨some 117, some (112, true), (.binOp .eql 3 (.tmp 116) (.const (.int .i64 0)) 3)⟩,
  ⟨some 118, none, (.pick (.tmp 112) (.tmp 117) (.const (.bool false)))⟩,
  ⟨some 119, none, (.move (.tmp 118))⟩,
  ⟨some 120, some (119, true), (.move (.tmp 6))⟩,
  ⟨some 121, some (119, true), (.call { callee := (.value (.func 26)), args := #[(.tmp 120)], argTypes := #[23] })⟩,
  ⟨some 122, some (119, true), (.binOp .eql 3 (.tmp 121) (.const (.int .i64 0)) 3)⟩,
  ⟨some 123, none, (.pick (.tmp 119) (.tmp 122) (.const (.bool false)))⟩,
  ⟨some 124, none, (.move (.tmp 123))⟩,
  ⟨some 125, some (124, true), (.move (.tmp 6))⟩,
  ⟨some 126, some (124, true), (.call { callee := (.value (.func 10)), args := #[(.tmp 125)], argTypes := #[23] })⟩,
  ⟨some 127, some (124, true), (.call { callee := (.builtin .len), args := #[(.tmp 126)], argTypes := #[22] })⟩,
  ⟨some 128, some (124, true), (.binOp .eql 3 (.tmp 127) (.const (.int .i64 0)) 3)⟩,
  ⟨some 129, none, (.pick (.tmp 124) (.tmp 128) (.const (.bool false)))⟩,
  ⟨some 130, none, (.move (.tmp 129))⟩,
  ⟨some 131, some (130, true), (.move (.tmp 6))⟩,
  ⟨some 132, some (130, true), (.call { callee := (.value (.func 14)), args := #[(.tmp 131)], argTypes := #[23] })⟩,
  ⟨some 133, some (130, true), (.call { callee := (.builtin .len), args := #[(.tmp 132)], argTypes := #[22] })⟩,
  ⟨some 134, some (130, true), (.binOp .eql 3 (.tmp 133) (.const (.int .i64 0)) 3)⟩,
  ⟨some 135, none, (.pick (.tmp 130) (.tmp 134) (.const (.bool false)))⟩,
  ⟨some 136, none, (.move (.tmp 135))⟩,
  ⟨some 137, some (136, true), (.call { callee := (.value (.func 11)), args := #[], argTypes := #[] })⟩,
  ⟨some 138, none, (.pick (.tmp 136) (.tmp 137) (.const (.bool false)))⟩,
  ⟨some 4, none, (.assign (.tmp 138))⟩] [4]
noncomputable def F6 : CC := (.seq F6_r0 (.seq F6_r1 (.seq F6_r2 (.seq F6_r3 (.seq F6_r4 (.seq F6_r5 (.seq F6_r6 (.seq F6_r7 (.seq F6_r8 (.seq F6_r9 .ret))))))))))
noncomputable def F6_inf : Nat → RI
  | 0 => ⟨[0, 1], [], []⟩
  | 1 => ⟨[0, 1, 5], [], []⟩
  | 2 => ⟨[0, 1, 5, 6], [], []⟩
  | 3 => ⟨[0, 1, 5, 6, 8], [], []⟩
  | 4 => ⟨[0, 1, 5, 6, 8, 10], [], []⟩
  | 5 => ⟨[0, 1, 5, 6, 8, 10, 12], [], []⟩
  | 6 => ⟨[0, 1, 5, 6, 8, 10, 12, 14], [], []⟩
  | 7 => ⟨[0, 1, 5, 6, 8, 10, 12, 14, 16], [], []⟩
  | 8 => ⟨[0, 1, 5, 6, 8, 10, 12, 14, 16, 17, 18, 19], [], []⟩
  | 9 => ⟨[4], [], []⟩
  | _ => ⟨[], [], []⟩
noncomputable def F6_c : Code := Try.f6.body.getD .skip
theorem F6_b : Try.f6.body = some F6_c := by kernel_rfl
theorem F6_rs : Try.f6.results.toList = ([.tmp 4] : List ResultVar) := by kernel_rfl
theorem F6_n : Try.f6.ntmps = 139 := by kernel_rfl
theorem F6_ok : toCC [] 139 F6_inf F6_c = some F6 := by kernel_rfl
theorem F6_in {args : List AV} {G : Hp} {post : AV → Hp → Prop} (ha : args.all AV.plain = true) (hn : args.length ≤ 139) (h : BDs args → awp Try.prog [] F6 (AEnds Try.prog [.tmp 4] post) (initT args) G) : ACalls Try.prog 6 args G post :=
  acalls_cc Try.func6 F6_b F6_rs F6_n F6_ok mixed ha hn h

/- 7 ostiary/ostiarylaw02.ShelfPlays -/
@[simp] noncomputable def F7_r0 : CC := .reg [⟨some 4, none, (.assign (.const (.bool false)))⟩] [0, 1]
@[simp] noncomputable def F7_r1 : CC := .reg [⟨some 16, none, (.move (.tmp 0))⟩,
  ⟨some 17, none, (.binOp .rem 3 (.tmp 16) (.const (.int .i64 12)) 3)⟩,
  ⟨some 0, none, (.assign (.tmp 17))⟩] [0, 1]
@[simp] noncomputable def F7_r2 : CC := .reg [⟨some 18, none, (.move (.tmp 0))⟩,
  ⟨some 19, none, (.call { callee := (.value (.func 27)), args := #[(.tmp 18)], argTypes := #[3] })⟩,
  ⟨some 5, none, (.assign (.tmp 19))⟩] [0, 1, 5]
@[simp] noncomputable def F7_r3 : CC := .reg [⟨some 20, none, (.move (.tmp 0))⟩,
  ⟨some 21, none, (.binOp .lss 3 (.tmp 20) (.const (.int .i64 0)) 3)⟩] [0, 1, 5, 21]
@[simp] noncomputable def F7_r4 : CC := .reg [⟨some 0, none, (.assign (.const (.int .i64 0)))⟩] [0, 1, 5]
@[simp] noncomputable def F7_r5 : CC := .reg [⟨some 6, none, (.assign (.const (.slice none 0 0)))⟩] [0, 1, 5, 6]
@[simp] noncomputable def F7_r6 : CC := .reg [⟨some 7, none, (.assign (.const (.bool true)))⟩] [0, 1, 5, 6, 7]
@[simp] noncomputable def F7_r7 : CC := .reg [⟨some 22, none, (.move (.tmp 1))⟩,
  ⟨some 23, none, (.call { callee := (.builtin .len), args := #[(.tmp 22)], argTypes := #[33] })⟩,
  ⟨some 24, none, (.move (.const (.int .i64 0)))⟩] [0, 5, 6, 7, 22, 23, 24]
@[simp] noncomputable def F7_r8 : CC := .reg [⟨some 25, none, (.binOp .lss 3 (.tmp 24) (.tmp 23) 3)⟩] [0, 5, 6, 7, 22, 23, 24, 25]
@[simp] noncomputable def F7_r9 : CC := .reg [⟨some 26, none, (.move (.tmp 24))⟩,
  ⟨some 27, none, (.indexAddr 33 (.tmp 22) (.tmp 24))⟩,
  ⟨some 28, none, (.load 37 (.tmp 27))⟩,
  ⟨some 9, none, (.alloc 37)⟩,
  ⟨some 8, none, (.assign (.tmp 26))⟩,
  ⟨none, none, (.store 37 (.tmp 9) (.tmp 28))⟩] [0, 5, 6, 7, 8, 9, 22, 23, 24]
@[simp] noncomputable def F7_r10 : CC := .reg [⟨some 29, none, (.move (.tmp 8))⟩,
  ⟨some 30, none, (.binOp .geq 3 (.tmp 29) (.const (.int .i64 40)) 3)⟩,
  ⟨some 31, none, (.move (.tmp 30))⟩,
  ⟨some 32, some (31, false), (.move (.tmp 7))⟩,
  ⟨some 33, some (31, false), (.unOp .not 4 (.tmp 32))⟩,
  ⟨some 34, none, (.pick (.tmp 31) (.const (.bool true)) (.tmp 33))⟩] [0, 5, 6, 7, 9, 22, 23, 24, 34]
@[simp] noncomputable def F7_r11 : CC := .reg [⟨some 35, none, (.fieldAddr 37 (.tmp 9) 4)⟩,
  ⟨some 36, none, (.load 9 (.tmp 35))⟩,
  ⟨some 37, none, (.call { callee := (.builtin .len), args := #[(.tmp 36)], argTypes := #[9] })⟩,
  ⟨some 38, none, (.binOp .gtr 3 (.tmp 37) (.const (.int .i64 6)) 3)⟩] [0, 5, 6, 9, 22, 23, 24, 38]
@[simp] noncomputable def F7_r12 : CC := .reg [⟨some 39, none, (.fieldAddr 37 (.tmp 9) 4)⟩,
  ⟨some 40, none, (.load 9 (.tmp 39))⟩,
  ⟨some 41, none, (.slice 9 (.tmp 40) none (some (.const (.int .i64 6))) none)⟩,
  ⟨some 42, none, (.fieldAddr 37 (.tmp 9) 4)⟩,
  ⟨none, none, (.store 9 (.tmp 42) (.tmp 41))⟩] [0, 5, 6, 9, 22, 23, 24]
@[simp] noncomputable def F7_r13 : CC := .reg [⟨some 43, none, (.fieldAddr 37 (.tmp 9) 0)⟩,
  ⟨some 44, none, (.load 3 (.tmp 43))⟩,
  ⟨some 45, none, (.binOp .eql 3 (.tmp 44) (.const (.int .i64 4)) 3)⟩] [0, 5, 6, 9, 22, 23, 24, 45]
@[simp] noncomputable def F7_r14 : CC := .reg [⟨some 10, none, (.assign (.const (.slice none 0 0)))⟩,
  ⟨some 11, none, (.assign (.const (.slice none 0 0)))⟩] [0, 5, 6, 9, 10, 11, 22, 23, 24]
@[simp] noncomputable def F7_r15 : CC := .reg [⟨some 46, none, (.move (.tmp 6))⟩,
  ⟨some 47, none, (.call { callee := (.builtin .len), args := #[(.tmp 46)], argTypes := #[50] })⟩,
  ⟨some 48, none, (.move (.const (.int .i64 0)))⟩] [0, 5, 9, 10, 11, 22, 23, 24, 46, 47, 48]
@[simp] noncomputable def F7_r16 : CC := .reg [⟨some 49, none, (.binOp .lss 3 (.tmp 48) (.tmp 47) 3)⟩] [0, 5, 9, 10, 11, 22, 23, 24, 46, 47, 48, 49]
@[simp] noncomputable def F7_r17 : CC := .reg [⟨some 50, none, (.indexAddr 50 (.tmp 46) (.tmp 48))⟩,
  ⟨some 51, none, (.load 52 (.tmp 50))⟩,
  ⟨some 13, none, (.alloc 52)⟩,
  ⟨none, none, (.store 52 (.tmp 13) (.tmp 51))⟩] [0, 5, 9, 10, 11, 13, 22, 23, 24, 46, 47, 48]
@[simp] noncomputable def F7_r18 : CC := .reg [⟨some 52, none, (.fieldAddr 52 (.tmp 13) 1)⟩,
  ⟨some 53, none, (.load 3 (.tmp 52))⟩,
  ⟨some 54, none, (.fieldAddr 37 (.tmp 9) 2)⟩,
  ⟨some 55, none, (.load 3 (.tmp 54))⟩,
  ⟨some 56, none, (.binOp .lss 3 (.tmp 53) (.tmp 55) 3)⟩] [0, 5, 9, 10, 11, 13, 22, 23, 24, 46, 47, 48, 56]
@[simp] noncomputable def F7_r19 : CC := .reg [⟨some 57, none, (.move (.tmp 10))⟩,
  ⟨some 58, none, (.load 52 (.tmp 13))⟩,
  ⟨some 59, none, (.buildSlice 50 1 #[(0, (.tmp 58))])⟩,
  ⟨some 60, none, (.call { callee := (.builtin .append), args := #[(.tmp 57), (.tmp 59)], argTypes := #[50, 50] })⟩,
  ⟨some 10, none, (.assign (.tmp 60))⟩] [0, 5, 9, 10, 11, 22, 23, 24, 46, 47, 48]
@[simp] noncomputable def F7_r20 : CC := .reg [⟨some 61, none, (.move (.tmp 11))⟩,
  ⟨some 62, none, (.load 52 (.tmp 13))⟩,
  ⟨some 63, none, (.buildSlice 50 1 #[(0, (.tmp 62))])⟩,
  ⟨some 64, none, (.call { callee := (.builtin .append), args := #[(.tmp 61), (.tmp 63)], argTypes := #[50, 50] })⟩,
  ⟨some 11, none, (.assign (.tmp 64))⟩] [0, 5, 9, 10, 11, 22, 23, 24, 46, 47, 48]
@[simp] noncomputable def F7_r21 : CC := .reg [⟨some 65, none, (.binOp .add 3 (.tmp 48) (.const (.int .i64 1)) 3)⟩,
  ⟨some 48, none, (.move (.tmp 65))⟩] [0, 5, 9, 10, 11, 22, 23, 24, 46, 47, 48]
noncomputable def F7_l0 : CC := (.seq (.seq F7_r16 .fz) (.seq (.cond (.tmp 49) .skip (.exit 2)) (.seq (.block 3 (.seq F7_r17 (.seq F7_r18 (.cond (.tmp 56) F7_r19 F7_r20)))) F7_r21)))
@[simp] noncomputable def F7_r22 : CC := .reg [⟨some 66, none, (.move (.tmp 5))⟩,
  ⟨some 67, none, (.fieldAddr 37 (.tmp 9) 2)⟩,
  ⟨some 68, none, (.load 3 (.tmp 67))⟩,
  ⟨some 69, none, (.call { callee := (.value (.func 28)), args := #[(.tmp 66), (.tmp 68)], argTypes := #[48, 3] })⟩,
  ⟨some 70, none, (.move (.tmp 10))⟩,
  ⟨some 71, none, (.call { callee := (.value (.func 29)), args := #[(.tmp 70)], argTypes := #[50] })⟩,
  ⟨some 72, none, (.call { callee := (.value (.func 13)), args := #[(.tmp 69), (.tmp 71)], argTypes := #[22, 22] })⟩,
  ⟨some 7, none, (.assign (.tmp 72))⟩] [0, 5, 7, 11, 22, 23, 24]
@[simp] noncomputable def F7_r23 : CC := .reg [⟨some 73, none, (.move (.tmp 11))⟩,
  ⟨some 6, none, (.assign (.tmp 73))⟩] [0, 5, 6, 7, 22, 23, 24]
@[simp] noncomputable def F7_r24 : CC := .reg [⟨some 75, none, (.move (.tmp 5))⟩,
  ⟨some 76, none, (.move (.tmp 6))⟩,
  ⟨some 77, none, (.move (.tmp 0))⟩,
  ⟨some 78, none, (.load 37 (.tmp 9))⟩,
  ⟨some 79, none, (.call { callee := (.value (.func 30)), args := #[(.tmp 75), (.tmp 76), (.tmp 77), (.tmp 78)], argTypes := #[48, 50, 3, 37] })⟩,
  ⟨some 74, none, (.move (.tmp 79))⟩,
  ⟨some 80, none, (.extract (.tmp 74) 0)⟩,
  ⟨some 81, none, (.extract (.tmp 74) 1)⟩,
  ⟨some 6, none, (.assign (.tmp 80))⟩,
  ⟨some 7, none, (.assign (.tmp 81))⟩] [0, 5, 6, 7, 22, 23, 24]
@[simp] noncomputable def F7_r25 : CC := .reg [⟨some 82, none, (.move (.tmp 5))⟩,
  ⟨some 83, none, (.call { callee := (.value (.func 31)), args := #[(.tmp 82)], argTypes := #[48] })⟩,
  ⟨some 14, none, (.assign (.tmp 83))⟩] [0, 5, 6, 7, 14, 22, 23, 24]
@[simp] noncomputable def F7_r26 : CC := .reg [⟨some 84, none, (.move (.tmp 7))⟩,
  ⟨some 85, none, (.move (.tmp 84))⟩,
  ⟨some 86, some (85, true), (.move (.tmp 5))⟩,
  ⟨some 87, some (85, true), (.call { callee := (.value (.func 32)), args := #[(.tmp 86)], argTypes := #[48] })⟩,
  ⟨some 88, some (85, true), (.move (.tmp 6))⟩,
  ⟨some 89, some (85, true), (.call { callee := (.builtin .len), args := #[(.tmp 88)], argTypes := #[50] })⟩,
  ⟨some 90, some (85, true), (.binOp .eql 3 (.tmp 87) (.tmp 89) 3)⟩,
  ⟨some 91, none, (.pick (.tmp 85) (.tmp 90) (.const (.bool false)))⟩,
  ⟨some 92, none, (.move (.tmp 91))⟩,
  ⟨some 93, some (92, true), (.move (.tmp 14))⟩,
  ⟨some 94, some (92, true), (.call { callee := (.builtin .len), args := #[(.tmp 93)], argTypes := #[57] })⟩,
  ⟨some 95, some (92, true), (.move (.tmp 6))⟩,
  ⟨some 96, some (92, true), (.call { callee := (.builtin .len), args := #[(.tmp 95)], argTypes := #[50] })⟩,
  ⟨some 97, some (92, true), (.binOp .eql 3 (.tmp 94) (.tmp 96) 3)⟩,
  ⟨some 98, none, (.pick (.tmp 92) (.tmp 97) (.const (.bool false)))⟩,
  ⟨some 99, none, (.move (.tmp 98))⟩,
  ⟨some 100, some (99, true), (.move (.tmp 5))⟩,
  ⟨some 101, some (99, true), (.call { callee := (.value (.func 33)), args := #[(.tmp 100)], argTypes := #[48] })⟩,
  ⟨some 102, some (99, true), (.move (.tmp 6))⟩,
  ⟨some 103, some (99, true), (.call { callee := (.value (.func 29)), args := #[(.tmp 102)], argTypes := #[50] })⟩,
  ⟨some 104, some (99, true), (.call { callee := (.value (.func 13)), args := #[(.tmp 101), (.tmp 103)], argTypes := #[22, 22] })⟩,
  ⟨some 105, none, (.pick (.tmp 99) (.tmp 104) (.const (.bool false)))⟩,
  ⟨some 7, none, (.assign (.tmp 105))⟩] [0, 5, 6, 7, 14, 22, 23, 24]
@[simp] noncomputable def F7_r27 : CC := .reg [⟨some 106, none, (.move (.tmp 14))⟩,
  ⟨some 107, none, (.call { callee := (.builtin .len), args := #[(.tmp 106)], argTypes := #[57] })⟩,
  ⟨some 108, none, (.move (.const (.int .i64 0)))⟩] [0, 5, 6, 7, 14, 22, 23, 24, 107, 108]
@[simp] noncomputable def F7_r28 : CC := .reg [⟨some 109, none, (.binOp .lss 3 (.tmp 108) (.tmp 107) 3)⟩] [0, 5, 6, 7, 14, 22, 23, 24, 107, 108, 109]
@[simp] noncomputable def F7_r29 : CC := .reg [⟨some 110, none, (.move (.tmp 108))⟩,
  ⟨some 15, none, (.assign (.tmp 110))⟩] [0, 5, 6, 7, 14, 15, 22, 23, 24, 107, 108]
@[simp] noncomputable def F7_r30 : CC := .drw [⟨0, ⟨some 111, none, (.move (.tmp 7))⟩, [], []⟩,
  ⟨1, ⟨some 112, none, (.move (.tmp 111))⟩, [], []⟩,
  ⟨2, ⟨some 113, some (112, true), (.move (.tmp 14))⟩, [], []⟩,
  ⟨3, ⟨some 114, some (112, true), (.move (.tmp 15))⟩, [], []⟩,
  ⟨4, ⟨some 115, some (112, true), (.indexAddr 57 (.tmp 113) (.tmp 114))⟩, [], []⟩,
  ⟨5, ⟨some 116, some (112, true), (.load 9 (.tmp 115))⟩, [], []⟩,
  ⟨6, ⟨some 117, some (112, true), (.move (.tmp 6))⟩, [], []⟩,
  ⟨7, ⟨some 118, some (112, true), (.move (.tmp 15))⟩, [], []⟩,
  ⟨8, ⟨some 119, some (112, true), (.indexAddr 50 (.tmp 117) (.tmp 118))⟩, [], []⟩,
  ⟨9, ⟨some 120, some (112, true), (.fieldAddr 52 (.tmp 119) 0)⟩, [], []⟩,
  ⟨10, ⟨some 121, some (112, true), (.load 9 (.tmp 120))⟩, [], []⟩,
  ⟨11, ⟨some 122, some (112, true), (.binOp .eql 9 (.tmp 116) (.tmp 121) 9)⟩, [], []⟩,
  ⟨12, ⟨some 123, none, (.pick (.tmp 112) (.tmp 122) (.const (.bool false)))⟩, [], []⟩,
  ⟨13, ⟨some 7, none, (.assign (.tmp 123))⟩, [], []⟩] [111, 112, 113, 114, 115, 116, 117, 118, 119, 120, 121, 122, 123, 7] [0, 5, 6, 7, 14, 15, 22, 23, 24, 107, 108]
@[simp] noncomputable def F7_r31 : CC := .reg [⟨some 124, none, (.move (.tmp 14))⟩,
  ⟨some 125, none, (.move (.tmp 15))⟩,
  ⟨some 126, none, (.indexAddr 57 (.tmp 124) (.tmp 125))⟩,
  ⟨none, none, (.store 9 (.tmp 126) (.const (.string { data := #[122, 122] })))⟩] [0, 5, 6, 7, 14, 22, 23, 24, 107, 108]
@[simp] noncomputable def F7_r32 : CC := .reg [⟨some 127, none, (.binOp .add 3 (.tmp 108) (.const (.int .i64 1)) 3)⟩,
  ⟨some 108, none, (.move (.tmp 127))⟩] [0, 5, 6, 7, 14, 22, 23, 24, 107, 108]
noncomputable def F7_l1 : CC := (.seq F7_r28 (.seq (.cond (.tmp 109) .skip (.exit 4)) (.seq (.block 5 (.seq F7_r29 (.seq F7_r30 F7_r31))) F7_r32)))
@[simp] noncomputable def F7_r33 : CC := .reg [⟨some 128, none, (.binOp .add 3 (.tmp 24) (.const (.int .i64 1)) 3)⟩,
  ⟨some 24, none, (.move (.tmp 128))⟩] [0, 5, 6, 7, 22, 23, 24]
noncomputable def F7_l2 : CC := (.seq F7_r8 (.seq (.cond (.tmp 25) .skip (.exit 0)) (.seq (.block 1 (.seq F7_r9 (.seq (.seq F7_r10 (.cond (.tmp 34) (.exit 0) .skip)) (.seq (.seq F7_r11 (.cond (.tmp 38) F7_r12 .skip)) (.seq (.seq F7_r13 (.cond (.tmp 45) (.seq F7_r14 (.seq (.seq F7_r15 (.block 2 (.loop F7_l0))) (.seq F7_r22 F7_r23))) F7_r24)) (.seq F7_r25 (.seq F7_r26 (.seq F7_r27 (.block 4 (.loop F7_l1)))))))))) F7_r33)))
@[simp] noncomputable def F7_r34 : CC := .reg [⟨some 129, none, (.move (.tmp 7))⟩,
  ⟨some 130, none, (.move (.tmp 129))⟩,
  ⟨some 131, some (130, true), (.move (.tmp 5))⟩,
  ⟨some 132, some (130, true), (.call { callee := (.value (.func 32)), args := #[(.tmp 131)], argTypes := #[48] })⟩,
  ⟨some 133, some (130, true), (.move (.tmp 6))⟩,
  ⟨some 134, some (130, true), (.call { callee := (.builtin .len), args := #[(.tmp 133)], argTypes := #[50] })⟩,
  ⟨some 135, some (130, true), (.binOp .eql 3 (.tmp 132) (.tmp 134) 3)⟩,
  ⟨some 136, none, (.pick (.tmp 130) (.tmp 135) (.const (.bool false)))⟩,
  ⟨some 137, none, (.move (.tmp 136))⟩,
  ⟨some 138, some (137, true), (.call { callee := (.value (.func 11)), args := #[], argTypes := #[] })⟩,
  ⟨some 139, none, (.pick (.tmp 137) (.tmp 138) (.const (.bool false)))⟩,
  ⟨some 4, none, (.assign (.tmp 139))⟩] [4]
noncomputable def F7 : CC := (.seq F7_r0 (.seq F7_r1 (.seq F7_r2 (.seq (.seq F7_r3 (.cond (.tmp 21) F7_r4 .skip)) (.seq F7_r5 (.seq F7_r6 (.seq (.seq F7_r7 (.block 0 (.loop F7_l2))) (.seq F7_r34 .ret))))))))
noncomputable def F7_inf : Nat → RI
  | 0 => ⟨[0, 1], [], []⟩
  | 1 => ⟨[0, 1], [], []⟩
  | 2 => ⟨[0, 1, 5], [], []⟩
  | 3 => ⟨[0, 1, 5, 21], [], []⟩
  | 4 => ⟨[0, 1, 5], [], []⟩
  | 5 => ⟨[0, 1, 5, 6], [], []⟩
  | 6 => ⟨[0, 1, 5, 6, 7], [], []⟩
  | 7 => ⟨[0, 5, 6, 7, 22, 23, 24], [], []⟩
  | 8 => ⟨[0, 5, 6, 7, 22, 23, 24, 25], [], []⟩
  | 9 => ⟨[0, 5, 6, 7, 8, 9, 22, 23, 24], [], []⟩
  | 10 => ⟨[0, 5, 6, 7, 9, 22, 23, 24, 34], [], []⟩
  | 11 => ⟨[0, 5, 6, 9, 22, 23, 24, 38], [], []⟩
  | 12 => ⟨[0, 5, 6, 9, 22, 23, 24], [], []⟩
  | 13 => ⟨[0, 5, 6, 9, 22, 23, 24, 45], [], []⟩
  | 14 => ⟨[0, 5, 6, 9, 10, 11, 22, 23, 24], [], []⟩
  | 15 => ⟨[0, 5, 9, 10, 11, 22, 23, 24, 46, 47, 48], [], []⟩
  | 16 => ⟨[0, 5, 9, 10, 11, 22, 23, 24, 46, 47, 48, 49], [], [(0, [])]⟩
  | 17 => ⟨[0, 5, 9, 10, 11, 13, 22, 23, 24, 46, 47, 48], [], []⟩
  | 18 => ⟨[0, 5, 9, 10, 11, 13, 22, 23, 24, 46, 47, 48, 56], [], []⟩
  | 19 => ⟨[0, 5, 9, 10, 11, 22, 23, 24, 46, 47, 48], [], []⟩
  | 20 => ⟨[0, 5, 9, 10, 11, 22, 23, 24, 46, 47, 48], [], []⟩
  | 21 => ⟨[0, 5, 9, 10, 11, 22, 23, 24, 46, 47, 48], [], []⟩
  | 22 => ⟨[0, 5, 7, 11, 22, 23, 24], [], []⟩
  | 23 => ⟨[0, 5, 6, 7, 22, 23, 24], [], []⟩
  | 24 => ⟨[0, 5, 6, 7, 22, 23, 24], [], []⟩
  | 25 => ⟨[0, 5, 6, 7, 14, 22, 23, 24], [], []⟩
  | 26 => ⟨[0, 5, 6, 7, 14, 22, 23, 24], [], []⟩
  | 27 => ⟨[0, 5, 6, 7, 14, 22, 23, 24, 107, 108], [], []⟩
  | 28 => ⟨[0, 5, 6, 7, 14, 22, 23, 24, 107, 108, 109], [], []⟩
  | 29 => ⟨[0, 5, 6, 7, 14, 15, 22, 23, 24, 107, 108], [], []⟩
  | 30 => ⟨[0, 5, 6, 7, 14, 15, 22, 23, 24, 107, 108], [0, 1, 3, 3, 15, 31, 3, 3, 195, 451, 963, 2047, 4095, 8191], [(0, []), (1, []), (2, []), (3, []), (4, []), (5, []), (6, []), (7, []), (8, []), (9, []), (10, []), (11, []), (12, []), (13, [])]⟩
  | 31 => ⟨[0, 5, 6, 7, 14, 22, 23, 24, 107, 108], [], []⟩
  | 32 => ⟨[0, 5, 6, 7, 14, 22, 23, 24, 107, 108], [], []⟩
  | 33 => ⟨[0, 5, 6, 7, 22, 23, 24], [], []⟩
  | 34 => ⟨[4], [], []⟩
  | _ => ⟨[], [], []⟩
noncomputable def F7_c : Code := Try.f7.body.getD .skip
theorem F7_b : Try.f7.body = some F7_c := by kernel_rfl
theorem F7_rs : Try.f7.results.toList = ([.tmp 4] : List ResultVar) := by kernel_rfl
theorem F7_n : Try.f7.ntmps = 140 := by kernel_rfl
theorem F7_ok : toCC [] 140 F7_inf F7_c = some F7 := by kernel_rfl
theorem F7_in {args : List AV} {G : Hp} {post : AV → Hp → Prop} (ha : args.all AV.plain = true) (hn : args.length ≤ 140) (h : BDs args → awp Try.prog [] F7 (AEnds Try.prog [.tmp 4] post) (initT args) G) : ACalls Try.prog 7 args G post :=
  acalls_cc Try.func7 F7_b F7_rs F7_n F7_ok mixed ha hn h

/- 8 ostiary/shelf.NewShelf[int,int] -/
@[simp] noncomputable def F8_r0 : CC := .reg [⟨some 2, none, (.assign (.const (.pointer none)))⟩] [0]
@[simp] noncomputable def F8_r1 : CC := .reg [⟨some 3, none, (.move (.tmp 0))⟩,
  ⟨some 4, none, (.call { callee := (.builtin .max), args := #[(.tmp 3), (.const (.int .i64 0))], argTypes := #[3, 3] })⟩,
  ⟨some 5, none, (.build 61 #[(1, (.tmp 4))])⟩,
  ⟨some 6, none, (.box 61 (.tmp 5))⟩,
  ⟨some 2, none, (.assign (.tmp 6))⟩] [2]
noncomputable def F8 : CC := (.seq F8_r0 (.seq F8_r1 .ret))
noncomputable def F8_inf : Nat → RI
  | 0 => ⟨[0], [], []⟩
  | 1 => ⟨[2], [], []⟩
  | _ => ⟨[], [], []⟩
noncomputable def F8_c : Code := Try.f8.body.getD .skip
theorem F8_b : Try.f8.body = some F8_c := by kernel_rfl
theorem F8_rs : Try.f8.results.toList = ([.tmp 2] : List ResultVar) := by kernel_rfl
theorem F8_n : Try.f8.ntmps = 7 := by kernel_rfl
theorem F8_ok : toCC [6] 7 F8_inf F8_c = some F8 := by kernel_rfl
theorem F8_in {args : List AV} {G : Hp} {post : AV → Hp → Prop} (ha : args.all AV.plain = true) (hn : args.length ≤ 7) (h : BDs args → awp Try.prog [6] F8 (AEnds Try.prog [.tmp 2] post) (initT args) G) : ACalls Try.prog 8 args G post :=
  acalls_cc Try.func8 F8_b F8_rs F8_n F8_ok mixed ha hn h

/- 9 (*ostiary/shelf.Shelf[int, int]).Set -/
@[simp] noncomputable def F9_r0 : CC := .reg [⟨some 6, none, (.assign (.const (.int .i64 0)))⟩] [0, 1, 2]
@[simp] noncomputable def F9_r1 : CC := .reg [⟨some 9, none, (.move (.tmp 0))⟩,
  ⟨some 10, none, (.binOp .eql 23 (.tmp 9) (.const (.pointer none)) 23)⟩] [0, 1, 2, 10]
@[simp] noncomputable def F9_r2 : CC := .reg [⟨some 6, none, (.assign (.const (.int .i64 11)))⟩] [6]
@[simp] noncomputable def F9_r3 : CC := .reg [⟨some 12, none, (.move (.tmp 0))⟩,
  ⟨some 13, none, (.move (.tmp 1))⟩,
  ⟨some 14, none, (.call { callee := (.value (.func 34)), args := #[(.tmp 12), (.tmp 13)], argTypes := #[23, 3] })⟩,
  ⟨some 11, none, (.move (.tmp 14))⟩,
  ⟨some 15, none, (.extract (.tmp 11) 0)⟩,
  ⟨some 16, none, (.extract (.tmp 11) 1)⟩,
  ⟨some 7, none, (.assign (.tmp 15))⟩,
  ⟨some 8, none, (.assign (.tmp 16))⟩] [0, 1, 2, 7, 8]
@[simp] noncomputable def F9_r5 : CC := .reg [⟨some 31, none, (.move (.tmp 8))⟩,
  ⟨some 30, none, (.assign (.tmp 31))⟩] [0, 1, 2, 7, 30]
@[simp] noncomputable def F9_r6 : CC := .reg [⟨some 32, none, (.move (.tmp 0))⟩,
  ⟨some 33, none, (.nilCheck (.tmp 32))⟩,
  ⟨some 34, none, (.fieldAddr 61 (.tmp 33) 0)⟩,
  ⟨some 35, none, (.load 59 (.tmp 34))⟩,
  ⟨some 36, none, (.move (.tmp 7))⟩,
  ⟨some 37, none, (.move (.tmp 2))⟩,
  ⟨some 38, none, (.indexAddr 59 (.tmp 35) (.tmp 36))⟩,
  ⟨some 39, none, (.fieldAddr 63 (.tmp 38) 1)⟩,
  ⟨none, none, (.store 3 (.tmp 39) (.tmp 37))⟩] []
@[simp] noncomputable def F9_r7 : CC := .drw [⟨0, ⟨some 41, none, (.move (.tmp 0))⟩, [], []⟩,
  ⟨1, ⟨some 42, none, (.nilCheck (.tmp 41))⟩, [], []⟩,
  ⟨2, ⟨some 43, none, (.fieldAddr 61 (.tmp 42) 0)⟩, [], []⟩,
  ⟨3, ⟨some 44, none, (.load 59 (.tmp 43))⟩, [], []⟩,
  ⟨4, ⟨some 45, none, (.call { callee := (.builtin .len), args := #[(.tmp 44)], argTypes := #[59] })⟩, [], []⟩,
  ⟨5, ⟨some 46, none, (.move (.tmp 0))⟩, [], []⟩,
  ⟨6, ⟨some 47, none, (.nilCheck (.tmp 46))⟩, [], []⟩,
  ⟨7, ⟨some 48, none, (.fieldAddr 61 (.tmp 47) 1)⟩, [], []⟩,
  ⟨8, ⟨some 49, none, (.load 3 (.tmp 48))⟩, [], []⟩,
  ⟨9, ⟨some 50, none, (.binOp .geq 3 (.tmp 45) (.tmp 49) 3)⟩, [], []⟩,
  ⟨10, ⟨some 40, none, (.assign (.tmp 50))⟩, [], []⟩] [41, 42, 43, 44, 45, 46, 47, 48, 49, 50, 40] [0, 1, 2, 7, 40]
@[simp] noncomputable def F9_r8 : CC := .reg [⟨some 6, none, (.assign (.const (.int .i64 4)))⟩] [6]
@[simp] noncomputable def F9_r4 : CC := .reg [⟨some 17, none, (.move (.tmp 0))⟩,
  ⟨some 18, none, (.move (.tmp 0))⟩,
  ⟨some 19, none, (.nilCheck (.tmp 18))⟩,
  ⟨some 20, none, (.fieldAddr 61 (.tmp 19) 0)⟩,
  ⟨some 21, none, (.load 59 (.tmp 20))⟩,
  ⟨some 22, none, (.move (.tmp 7))⟩,
  ⟨some 23, none, (.move (.tmp 1))⟩,
  ⟨some 24, none, (.move (.tmp 2))⟩,
  ⟨some 25, none, (.build 63 #[(0, (.tmp 23)), (1, (.tmp 24))])⟩,
  ⟨some 26, none, (.buildSlice 59 1 #[(0, (.tmp 25))])⟩,
  ⟨some 27, none, (.call { callee := (.value (.func 35)), args := #[(.tmp 21), (.tmp 22), (.tmp 26)], argTypes := #[59, 3, 59] })⟩,
  ⟨some 28, none, (.nilCheck (.tmp 17))⟩,
  ⟨some 29, none, (.fieldAddr 61 (.tmp 28) 0)⟩,
  ⟨none, none, (.store 59 (.tmp 29) (.tmp 27))⟩] []
@[simp] noncomputable def F9_r9 : CC := .reg [⟨some 6, none, (.assign (.const (.int .i64 0)))⟩] [6]
noncomputable def F9 : CC := (.seq F9_r0 (.seq (.seq F9_r1 (.cond (.tmp 10) (.seq F9_r2 .ret) .skip)) (.seq F9_r3 (.seq (.block 0 (.seq F9_r5 (.cond (.tmp 30) F9_r6 (.seq F9_r7 (.cond (.tmp 40) (.seq F9_r8 .ret) F9_r4))))) (.seq F9_r9 .ret)))))
noncomputable def F9_inf : Nat → RI
  | 0 => ⟨[0, 1, 2], [], []⟩
  | 1 => ⟨[0, 1, 2, 10], [], []⟩
  | 2 => ⟨[6], [], []⟩
  | 3 => ⟨[0, 1, 2, 7, 8], [], []⟩
  | 5 => ⟨[0, 1, 2, 7, 30], [], []⟩
  | 6 => ⟨[], [], []⟩
  | 7 => ⟨[0, 1, 2, 7, 40], [0, 1, 3, 7, 15, 0, 32, 96, 224, 511, 1023], [(0, []), (1, []), (2, []), (3, []), (4, []), (5, []), (6, []), (7, []), (8, []), (9, []), (10, [])]⟩
  | 8 => ⟨[6], [], []⟩
  | 4 => ⟨[], [], []⟩
  | 9 => ⟨[6], [], []⟩
  | _ => ⟨[], [], []⟩
noncomputable def F9_c : Code := Try.f9.body.getD .skip
theorem F9_b : Try.f9.body = some F9_c := by kernel_rfl
theorem F9_rs : Try.f9.results.toList = ([.tmp 6] : List ResultVar) := by kernel_rfl
theorem F9_n : Try.f9.ntmps = 51 := by kernel_rfl
theorem F9_ok : toCC [] 51 F9_inf F9_c = some F9 := by kernel_rfl
theorem F9_in {args : List AV} {G : Hp} {post : AV → Hp → Prop} (ha : args.all AV.plain = true) (hn : args.length ≤ 51) (h : BDs args → awp Try.prog [] F9 (AEnds Try.prog [.tmp 6] post) (initT args) G) : ACalls Try.prog 9 args G post :=
  acalls_cc Try.func9 F9_b F9_rs F9_n F9_ok mixed ha hn h

/- 10 (*ostiary/shelf.Shelf[int, int]).Keys -/
@[simp] noncomputable def F10_r0 : CC := .reg [⟨some 2, none, (.assign (.const (.slice none 0 0)))⟩] [0]
@[simp] noncomputable def F10_r1 : CC := .reg [⟨some 3, none, (.assign (.const (.slice none 0 0)))⟩] [0, 3]
@[simp] noncomputable def F10_r2 : CC := .reg [⟨some 5, none, (.move (.tmp 0))⟩,
  ⟨some 6, none, (.call { callee := (.value (.func 26)), args := #[(.tmp 5)], argTypes := #[23] })⟩,
  ⟨some 7, none, (.move (.const (.int .i64 0)))⟩] [0, 3, 6, 7]
@[simp] noncomputable def F10_r3 : CC := .reg [⟨some 8, none, (.binOp .lss 3 (.tmp 7) (.tmp 6) 3)⟩] [0, 3, 6, 7, 8]
@[simp] noncomputable def F10_r4 : CC := .reg [⟨some 9, none, (.move (.tmp 7))⟩,
  ⟨some 4, none, (.assign (.tmp 9))⟩] [0, 3, 4, 6, 7]
@[simp] noncomputable def F10_r5 : CC := .reg [⟨some 10, none, (.move (.tmp 3))⟩,
  ⟨some 11, none, (.move (.tmp 0))⟩,
  ⟨some 12, none, (.nilCheck (.tmp 11))⟩,
  ⟨some 13, none, (.fieldAddr 61 (.tmp 12) 0)⟩,
  ⟨some 14, none, (.load 59 (.tmp 13))⟩,
  ⟨some 15, none, (.move (.tmp 4))⟩,
  ⟨some 16, none, (.indexAddr 59 (.tmp 14) (.tmp 15))⟩,
  ⟨some 17, none, (.fieldAddr 63 (.tmp 16) 0)⟩,
  ⟨some 18, none, (.load 3 (.tmp 17))⟩,
  ⟨some 19, none, (.buildSlice 22 1 #[(0, (.tmp 18))])⟩,
  ⟨some 20, none, (.call { callee := (.builtin .append), args := #[(.tmp 10), (.tmp 19)], argTypes := #[22, 22] })⟩,
  ⟨some 3, none, (.assign (.tmp 20))⟩] [0, 3, 6, 7]
@[simp] noncomputable def F10_r6 : CC := .reg [⟨some 21, none, (.binOp .add 3 (.tmp 7) (.const (.int .i64 1)) 3)⟩,
  ⟨some 7, none, (.move (.tmp 21))⟩] [0, 3, 6, 7]
noncomputable def F10_l0 : CC := (.seq F10_r3 (.seq (.cond (.tmp 8) .skip (.exit 0)) (.seq (.block 1 (.seq F10_r4 F10_r5)) F10_r6)))
@[simp] noncomputable def F10_r7 : CC := .reg [⟨some 22, none, (.move (.tmp 3))⟩,
  ⟨some 2, none, (.assign (.tmp 22))⟩] [2]
noncomputable def F10 : CC := (.seq F10_r0 (.seq F10_r1 (.seq (.seq F10_r2 (.block 0 (.loop F10_l0))) (.seq F10_r7 .ret))))
noncomputable def F10_inf : Nat → RI
  | 0 => ⟨[0], [], []⟩
  | 1 => ⟨[0, 3], [], []⟩
  | 2 => ⟨[0, 3, 6, 7], [], []⟩
  | 3 => ⟨[0, 3, 6, 7, 8], [], []⟩
  | 4 => ⟨[0, 3, 4, 6, 7], [], []⟩
  | 5 => ⟨[0, 3, 6, 7], [], []⟩
  | 6 => ⟨[0, 3, 6, 7], [], []⟩
  | 7 => ⟨[2], [], []⟩
  | _ => ⟨[], [], []⟩
noncomputable def F10_c : Code := Try.f10.body.getD .skip
theorem F10_b : Try.f10.body = some F10_c := by kernel_rfl
theorem F10_rs : Try.f10.results.toList = ([.tmp 2] : List ResultVar) := by kernel_rfl
theorem F10_n : Try.f10.ntmps = 23 := by kernel_rfl
theorem F10_ok : toCC [] 23 F10_inf F10_c = some F10 := by kernel_rfl
theorem F10_in {args : List AV} {G : Hp} {post : AV → Hp → Prop} (ha : args.all AV.plain = true) (hn : args.length ≤ 23) (h : BDs args → awp Try.prog [] F10 (AEnds Try.prog [.tmp 2] post) (initT args) G) : ACalls Try.prog 10 args G post :=
  acalls_cc Try.func10 F10_b F10_rs F10_n F10_ok mixed ha hn h

/- 11 ostiary/ostiarylaw02.awake -/
@[simp] noncomputable def F11_r0 : CC := .reg [⟨some 0, none, (.assign (.const (.bool false)))⟩] []
@[simp] noncomputable def F11_r1 : CC := .reg [⟨some 14, none, (.call { callee := (.value (.func 15)), args := #[(.const (.int .i64 2))], argTypes := #[3] })⟩,
  ⟨some 1, none, (.assign (.tmp 14))⟩] [1]
@[simp] noncomputable def F11_r2 : CC := .reg [⟨some 15, none, (.move (.tmp 1))⟩,
  ⟨some 16, none, (.buildSlice 22 2 #[(0, (.const (.int .i64 1))), (1, (.const (.int .i64 2)))])⟩,
  ⟨some 17, none, (.call { callee := (.value (.func 24)), args := #[(.tmp 15), (.tmp 16)], argTypes := #[34, 22] })⟩,
  ⟨some 2, none, (.assign (.tmp 17))⟩] [1, 2]
@[simp] noncomputable def F11_r3 : CC := .reg [⟨some 19, none, (.move (.tmp 1))⟩,
  ⟨some 20, none, (.call { callee := (.value (.func 19)), args := #[(.tmp 19), (.const (.int .i64 3))], argTypes := #[34, 3] })⟩,
  ⟨some 18, none, (.move (.tmp 20))⟩,
  ⟨some 21, none, (.extract (.tmp 18) 0)⟩,
  ⟨some 22, none, (.extract (.tmp 18) 1)⟩,
  ⟨some 3, none, (.assign (.tmp 21))⟩,
  ⟨some 4, none, (.assign (.tmp 22))⟩] [1, 2, 3, 4]
@[simp] noncomputable def F11_r4 : CC := .reg [⟨some 24, none, (.move (.tmp 1))⟩,
  ⟨some 25, none, (.call { callee := (.value (.func 21)), args := #[(.tmp 24), (.const (.int .i64 0))], argTypes := #[34, 3] })⟩,
  ⟨some 23, none, (.move (.tmp 25))⟩,
  ⟨some 26, none, (.extract (.tmp 23) 0)⟩,
  ⟨some 27, none, (.extract (.tmp 23) 1)⟩,
  ⟨some 5, none, (.assign (.tmp 26))⟩,
  ⟨some 6, none, (.assign (.tmp 27))⟩] [2, 3, 4, 5, 6]
@[simp] noncomputable def F11_r5 : CC := .reg [⟨some 28, none, (.call { callee := (.value (.func 36)), args := #[(.const (.int .i64 9))], argTypes := #[3] })⟩,
  ⟨some 7, none, (.assign (.tmp 28))⟩] [2, 3, 4, 5, 6, 7]
@[simp] noncomputable def F11_r6 : CC := .reg [⟨some 29, none, (.move (.tmp 7))⟩,
  ⟨some 30, none, (.call { callee := (.value (.func 37)), args := #[(.tmp 29), (.const (.int .i64 5)), (.const (.string { data := #[97] }))], argTypes := #[65, 3, 9] })⟩,
  ⟨some 31, none, (.move (.tmp 7))⟩,
  ⟨some 32, none, (.call { callee := (.value (.func 37)), args := #[(.tmp 31), (.const (.int .i64 3)), (.const (.string { data := #[98] }))], argTypes := #[65, 3, 9] })⟩,
  ⟨some 8, none, (.assign (.tmp 30))⟩,
  ⟨some 9, none, (.assign (.tmp 32))⟩] [2, 3, 4, 5, 6, 7, 8, 9]
@[simp] noncomputable def F11_r7 : CC := .reg [⟨some 34, none, (.move (.tmp 7))⟩,
  ⟨some 35, none, (.call { callee := (.value (.func 38)), args := #[(.tmp 34), (.const (.int .i64 3))], argTypes := #[65, 3] })⟩,
  ⟨some 33, none, (.move (.tmp 35))⟩,
  ⟨some 36, none, (.extract (.tmp 33) 0)⟩,
  ⟨some 37, none, (.extract (.tmp 33) 1)⟩,
  ⟨some 38, none, (.extract (.tmp 33) 2)⟩,
  ⟨some 10, none, (.assign (.tmp 36))⟩,
  ⟨some 11, none, (.assign (.tmp 37))⟩,
  ⟨some 12, none, (.assign (.tmp 38))⟩] [2, 3, 4, 5, 6, 7, 8, 9, 10, 11, 12]
@[simp] noncomputable def F11_r8 : CC := .reg [⟨some 39, none, (.move (.tmp 7))⟩,
  ⟨some 40, none, (.call { callee := (.value (.func 39)), args := #[(.tmp 39)], argTypes := #[65] })⟩,
  ⟨some 13, none, (.assign (.tmp 40))⟩] [2, 3, 4, 5, 6, 8, 9, 10, 11, 12, 13]
@[simp] noncomputable def F11_r9 : CC := .reg [⟨some 41, none, (.move (.tmp 2))⟩,
  ⟨some 42, none, (.move (.tmp 41))⟩,
  ⟨some 43, some (42, true), (.move (.tmp 3))⟩,
  ⟨some 44, some (42, true), (.binOp .eql 3 (.tmp 43) (.const (.int .i64 1)) 3)⟩,
  ⟨some 45, none, (.pick (.tmp 42) (.tmp 44) (.const (.bool false)))⟩,
  ⟨some 46, none, (.move (.tmp 45))⟩,
  ⟨some 47, some (46, true), (.move (.tmp 4))⟩,
  ⟨some 48, none, (.pick (.tmp 46) (.tmp 47) (.const (.bool false)))⟩,
  ⟨some 49, none, (.move (.tmp 48))⟩,
  ⟨some 50, some (49, true), (.move (.tmp 5))⟩,
  ⟨some 51, some (49, true), (.binOp .eql 3 (.tmp 50) (.const (.int .i64 2)) 3)⟩,
  ⟨some 52, none, (.pick (.tmp 49) (.tmp 51) (.const (.bool false)))⟩,
  ⟨some 53, none, (.move (.tmp 52))⟩,
  ⟨some 54, some (53, true), (.move (.tmp 6))⟩,
  ⟨some 55, none, (.pick (.tmp 53) (.tmp 54) (.const (.bool false)))⟩,
  ⟨some 56, none, (.move (.tmp 55))⟩,
  ⟨some 57, some (56, true), (.move (.tmp 8))⟩,
  ⟨some 58, some (56, true), (.binOp .eql 25 (.tmp 57) (.const (.int .i64 0)) 25)⟩,
  ⟨some 59, none, (.pick (.tmp 56) (.tmp 58) (.const (.bool false)))⟩,
  ⟨some 60, none, (.move (.tmp 59))⟩,
  ⟨some 61, some (60, true), (.move (.tmp 9))⟩,
  ⟨some 62, some (60, true), (.binOp .eql 25 (.tmp 61) (.const (.int .i64 0)) 25)⟩,
  ⟨some 63, none, (.pick (.tmp 60) (.tmp 62) (.const (.bool false)))⟩,
  ⟨some 64, none, (.move (.tmp 63))⟩,
  ⟨some 65, some (64, true), (.move (.tmp 10))⟩,
  ⟨some 66, some (64, true), (.binOp .eql 3 (.tmp 65) (.const (.int .i64 5)) 3)⟩,
  ⟨some 67, none, (.pick (.tmp 64) (.tmp 66) (.const (.bool false)))⟩,
  ⟨some 68, none, (.move (.tmp 67))⟩,
  ⟨some 69, some (68, true), (.move (.tmp 11))⟩,
  ⟨some 70, some (68, true), (.binOp .eql 9 (.tmp 69) (.const (.string { data := #[97] })) 9)⟩,
  ⟨some 71, none, (.pick (.tmp 68) (.tmp 70) (.const (.bool false)))⟩,
  ⟨some 72, none, (.move (.tmp 71))⟩,
  ⟨some 73, some (72, true), (.move (.tmp 12))⟩,
  ⟨some 74, none, (.pick (.tmp 72) (.tmp 73) (.const (.bool false)))⟩,
  ⟨some 75, none, (.move (.tmp 74))⟩,
  ⟨some 76, some (75, true), (.move (.tmp 13))⟩,
  ⟨some 77, some (75, true), (.call { callee := (.builtin .len), args := #[(.tmp 76)], argTypes := #[22] })⟩,
  ⟨some 78, some (75, true), (.binOp .eql 3 (.tmp 77) (.const (.int .i64 2)) 3)⟩,
  ⟨some 79, none, (.pick (.tmp 75) (.tmp 78) (.const (.bool false)))⟩,
  ⟨some 80, none, (.move (.tmp 79))⟩,
  ⟨some 81, some (80, true), (.move (.tmp 13))⟩,
  ⟨some 82, some (80, true), (.indexAddr 22 (.tmp 81) (.const (.int .i64 0)))⟩,
  ⟨some 83, some (80, true), (.load 3 (.tmp 82))⟩,
  ⟨some 84, some (80, true), (.binOp .eql 3 (.tmp 83) (.const (.int .i64 3)) 3)⟩,
  ⟨some 85, none, (.pick (.tmp 80) (.tmp 84) (.const (.bool false)))⟩,
  ⟨some 0, none, (.assign (.tmp 85))⟩] [0]
noncomputable def F11 : CC := (.seq F11_r0 (.seq F11_r1 (.seq F11_r2 (.seq F11_r3 (.seq F11_r4 (.seq F11_r5 (.seq F11_r6 (.seq F11_r7 (.seq F11_r8 (.seq F11_r9 .ret))))))))))
noncomputable def F11_inf : Nat → RI
  | 0 => ⟨[], [], []⟩
  | 1 => ⟨[1], [], []⟩
  | 2 => ⟨[1, 2], [], []⟩
  | 3 => ⟨[1, 2, 3, 4], [], []⟩
  | 4 => ⟨[2, 3, 4, 5, 6], [], []⟩
  | 5 => ⟨[2, 3, 4, 5, 6, 7], [], []⟩
  | 6 => ⟨[2, 3, 4, 5, 6, 7, 8, 9], [], []⟩
  | 7 => ⟨[2, 3, 4, 5, 6, 7, 8, 9, 10, 11, 12], [], []⟩
  | 8 => ⟨[2, 3, 4, 5, 6, 8, 9, 10, 11, 12, 13], [], []⟩
  | 9 => ⟨[0], [], []⟩
  | _ => ⟨[], [], []⟩
noncomputable def F11_c : Code := Try.f11.body.getD .skip
theorem F11_b : Try.f11.body = some F11_c := by kernel_rfl
theorem F11_rs : Try.f11.results.toList = ([.tmp 0] : List ResultVar) := by kernel_rfl
theorem F11_n : Try.f11.ntmps = 86 := by kernel_rfl
theorem F11_ok : toCC [] 86 F11_inf F11_c = some F11 := by kernel_rfl
theorem F11_in {args : List AV} {G : Hp} {post : AV → Hp → Prop} (ha : args.all AV.plain = true) (hn : args.length ≤ 86) (h : BDs args → awp Try.prog [] F11 (AEnds Try.prog [.tmp 0] post) (initT args) G) : ACalls Try.prog 11 args G post :=
  acalls_cc Try.func11 F11_b F11_rs F11_n F11_ok mixed ha hn h

/- 12 (*ostiary/shelf.Shelf[int, int]).Next -/
@[simp] noncomputable def F12_r0 : CC := .reg [⟨some 4, none, (.assign (.const (.int .i64 0)))⟩,
  ⟨some 5, none, (.assign (.const (.int .i64 0)))⟩,
  ⟨some 6, none, (.assign (.const (.bool false)))⟩] [0, 1]
@[simp] noncomputable def F12_r1 : CC := .reg [⟨some 10, none, (.move (.tmp 0))⟩,
  ⟨some 11, none, (.binOp .neq 23 (.tmp 10) (.const (.pointer none)) 23)⟩] [0, 1, 11]
@[simp] noncomputable def F12_r2 : CC := .reg [⟨some 13, none, (.move (.tmp 0))⟩,
  ⟨some 14, none, (.move (.tmp 1))⟩,
  ⟨some 15, none, (.call { callee := (.value (.func 34)), args := #[(.tmp 13), (.tmp 14)], argTypes := #[23, 3] })⟩,
  ⟨some 12, none, (.move (.tmp 15))⟩,
  ⟨some 16, none, (.extract (.tmp 12) 0)⟩,
  ⟨some 17, none, (.extract (.tmp 12) 1)⟩,
  ⟨some 7, none, (.assign (.tmp 16))⟩,
  ⟨some 8, none, (.assign (.tmp 17))⟩] [0, 1, 7, 8]
@[simp] noncomputable def F12_r3 : CC := .reg [⟨some 18, none, (.move (.tmp 8))⟩] [0, 1, 7, 18]
@[simp] noncomputable def F12_r4 : CC := .reg [⟨some 19, none, (.move (.tmp 7))⟩,
  ⟨some 20, none, (.binOp .add 3 (.tmp 19) (.const (.int .i64 1)) 3)⟩,
  ⟨some 7, none, (.assign (.tmp 20))⟩] [0, 1, 7]
@[simp] noncomputable def F12_r5 : CC := .reg [⟨some 21, none, (.move (.tmp 7))⟩,
  ⟨some 22, none, (.move (.tmp 0))⟩,
  ⟨some 23, none, (.nilCheck (.tmp 22))⟩,
  ⟨some 24, none, (.fieldAddr 61 (.tmp 23) 0)⟩,
  ⟨some 25, none, (.load 59 (.tmp 24))⟩,
  ⟨some 26, none, (.call { callee := (.builtin .len), args := #[(.tmp 25)], argTypes := #[59] })⟩,
  ⟨some 27, none, (.binOp .lss 3 (.tmp 21) (.tmp 26) 3)⟩] [0, 1, 7, 27]
@[simp] noncomputable def F12_r6 : CC := .drw [⟨0, ⟨some 28, none, (.move (.tmp 0))⟩, [], []⟩,
  ⟨1, ⟨some 29, none, (.nilCheck (.tmp 28))⟩, [], []⟩,
  ⟨2, ⟨some 30, none, (.fieldAddr 61 (.tmp 29) 0)⟩, [], []⟩,
  ⟨3, ⟨some 31, none, (.load 59 (.tmp 30))⟩, [], []⟩,
  ⟨4, ⟨some 32, none, (.move (.tmp 7))⟩, [], []⟩,
  ⟨5, ⟨some 33, none, (.indexAddr 59 (.tmp 31) (.tmp 32))⟩, [], []⟩,
  ⟨6, ⟨some 34, none, (.fieldAddr 63 (.tmp 33) 0)⟩, [], []⟩,
  ⟨7, ⟨some 35, none, (.load 3 (.tmp 34))⟩, [], []⟩,
  ⟨8, ⟨some 36, none, (.move (.tmp 0))⟩, [], []⟩,
  ⟨9, ⟨some 37, none, (.nilCheck (.tmp 36))⟩, [], []⟩,
  ⟨10, ⟨some 38, none, (.fieldAddr 61 (.tmp 37) 0)⟩, [], []⟩,
  ⟨11, ⟨some 39, none, (.load 59 (.tmp 38))⟩, [], []⟩,
  ⟨12, ⟨some 40, none, (.move (.tmp 7))⟩, [], []⟩,
  ⟨13, ⟨some 41, none, (.indexAddr 59 (.tmp 39) (.tmp 40))⟩, [], []⟩,
  ⟨14, ⟨some 42, none, (.fieldAddr 63 (.tmp 41) 1)⟩, [], []⟩,
  ⟨15, ⟨some 43, none, (.load 3 (.tmp 42))⟩, [], []⟩,
  ⟨16, ⟨some 4, none, (.assign (.tmp 35))⟩, [], []⟩,
  ⟨17, ⟨some 5, none, (.assign (.tmp 43))⟩, [], []⟩,
  ⟨18, ⟨some 6, none, (.assign (.const (.bool true)))⟩, [], []⟩] [28, 29, 30, 31, 32, 33, 34, 35, 36, 37, 38, 39, 40, 41, 42, 43, 4, 5, 6] [4, 5, 6]
@[simp] noncomputable def F12_r7 : CC := .reg [⟨some 9, none, (.assign (.const (.int .i64 0)))⟩] [1, 9]
@[simp] noncomputable def F12_r8 : CC := .reg [⟨some 44, none, (.move (.tmp 1))⟩,
  ⟨some 45, none, (.move (.tmp 9))⟩,
  ⟨some 4, none, (.assign (.tmp 44))⟩,
  ⟨some 5, none, (.assign (.tmp 45))⟩,
  ⟨some 6, none, (.assign (.const (.bool false)))⟩] [4, 5, 6]
noncomputable def F12 : CC := (.seq F12_r0 (.seq (.seq F12_r1 (.cond (.tmp 11) (.seq F12_r2 (.seq (.seq F12_r3 (.cond (.tmp 18) F12_r4 .skip)) (.seq F12_r5 (.cond (.tmp 27) (.seq F12_r6 .ret) .skip)))) .skip)) (.seq F12_r7 (.seq F12_r8 .ret))))
noncomputable def F12_inf : Nat → RI
  | 0 => ⟨[0, 1], [], []⟩
  | 1 => ⟨[0, 1, 11], [], []⟩
  | 2 => ⟨[0, 1, 7, 8], [], []⟩
  | 3 => ⟨[0, 1, 7, 18], [], []⟩
  | 4 => ⟨[0, 1, 7], [], []⟩
  | 5 => ⟨[0, 1, 7, 27], [], []⟩
  | 6 => ⟨[4, 5, 6], [0, 1, 3, 7, 0, 31, 63, 127, 0, 256, 768, 1792, 0, 7936, 16128, 32512, 255, 131071, 262143], [(0, []), (1, []), (2, []), (3, []), (4, []), (5, []), (6, []), (7, []), (8, []), (9, []), (10, []), (11, []), (12, []), (13, []), (14, []), (15, []), (16, []), (17, []), (18, [])]⟩
  | 7 => ⟨[1, 9], [], []⟩
  | 8 => ⟨[4, 5, 6], [], []⟩
  | _ => ⟨[], [], []⟩
noncomputable def F12_c : Code := Try.f12.body.getD .skip
theorem F12_b : Try.f12.body = some F12_c := by kernel_rfl
theorem F12_rs : Try.f12.results.toList = ([.tmp 4, .tmp 5, .tmp 6] : List ResultVar) := by kernel_rfl
theorem F12_n : Try.f12.ntmps = 46 := by kernel_rfl
theorem F12_ok : toCC [] 46 F12_inf F12_c = some F12 := by kernel_rfl
theorem F12_in {args : List AV} {G : Hp} {post : AV → Hp → Prop} (ha : args.all AV.plain = true) (hn : args.length ≤ 46) (h : BDs args → awp Try.prog [] F12 (AEnds Try.prog [.tmp 4, .tmp 5, .tmp 6] post) (initT args) G) : ACalls Try.prog 12 args G post :=
  acalls_cc Try.func12 F12_b F12_rs F12_n F12_ok mixed ha hn h

/- 13 ostiary/ostiaryref02.Same -/
@[simp] noncomputable def F13_r0 : CC := .reg [⟨some 4, none, (.assign (.const (.bool false)))⟩] [0, 1]
@[simp] noncomputable def F13_r1 : CC := .reg [⟨some 6, none, (.move (.tmp 0))⟩,
  ⟨some 7, none, (.call { callee := (.builtin .len), args := #[(.tmp 6)], argTypes := #[22] })⟩,
  ⟨some 8, none, (.move (.tmp 1))⟩,
  ⟨some 9, none, (.call { callee := (.builtin .len), args := #[(.tmp 8)], argTypes := #[22] })⟩,
  ⟨some 10, none, (.binOp .neq 3 (.tmp 7) (.tmp 9) 3)⟩] [0, 1, 10]
@[simp] noncomputable def F13_r2 : CC := .reg [⟨some 4, none, (.assign (.const (.bool false)))⟩] [4]
@[simp] noncomputable def F13_r3 : CC := .reg [⟨some 11, none, (.move (.tmp 0))⟩,
  ⟨some 12, none, (.call { callee := (.builtin .len), args := #[(.tmp 11)], argTypes := #[22] })⟩,
  ⟨some 13, none, (.move (.const (.int .i64 0)))⟩] [0, 1, 12, 13]
@[simp] noncomputable def F13_r4 : CC := .reg [⟨some 14, none, (.binOp .lss 3 (.tmp 13) (.tmp 12) 3)⟩] [0, 1, 12, 13, 14]
@[simp] noncomputable def F13_r5 : CC := .reg [⟨some 15, none, (.move (.tmp 13))⟩,
  ⟨some 5, none, (.assign (.tmp 15))⟩] [0, 1, 5, 12, 13]
@[simp] noncomputable def F13_r6 : CC := .drw [⟨0, ⟨some 16, none, (.move (.tmp 0))⟩, [], []⟩,
  ⟨1, ⟨some 17, none, (.move (.tmp 5))⟩, [], []⟩,
  ⟨2, ⟨some 18, none, (.indexAddr 22 (.tmp 16) (.tmp 17))⟩, [], []⟩,
  ⟨3, ⟨some 19, none, (.load 3 (.tmp 18))⟩, [], []⟩,
  ⟨4, ⟨some 20, none, (.move (.tmp 1))⟩, [], []⟩,
  ⟨5, ⟨some 21, none, (.move (.tmp 5))⟩, [], []⟩,
  ⟨6, ⟨some 22, none, (.indexAddr 22 (.tmp 20) (.tmp 21))⟩, [], []⟩,
  ⟨7, ⟨some 23, none, (.load 3 (.tmp 22))⟩, [], []⟩,
  ⟨8, ⟨some 24, none, (.binOp .neq 3 (.tmp 19) (.tmp 23) 3)⟩, [], []⟩] [16, 17, 18, 19, 20, 21, 22, 23, 24] [0, 1, 12, 13, 24]
@[simp] noncomputable def F13_r7 : CC := .reg [⟨some 4, none, (.assign (.const (.bool false)))⟩] [4]
@[simp] noncomputable def F13_r8 : CC := .reg [⟨some 25, none, (.binOp .add 3 (.tmp 13) (.const (.int .i64 1)) 3)⟩,
  ⟨some 13, none, (.move (.tmp 25))⟩] [0, 1, 12, 13]
noncomputable def F13_l0 : CC := (.seq F13_r4 (.seq (.cond (.tmp 14) .skip (.exit 0)) (.seq (.block 1 (.seq F13_r5 (.seq F13_r6 (.cond (.tmp 24) (.seq F13_r7 .ret) .skip)))) F13_r8)))
@[simp] noncomputable def F13_r9 : CC := .reg [⟨some 4, none, (.assign (.const (.bool true)))⟩] [4]
noncomputable def F13 : CC := (.seq F13_r0 (.seq (.seq F13_r1 (.cond (.tmp 10) (.seq F13_r2 .ret) .skip)) (.seq (.seq F13_r3 (.block 0 (.loop F13_l0))) (.seq F13_r9 .ret))))
noncomputable def F13_inf : Nat → RI
  | 0 => ⟨[0, 1], [], []⟩
  | 1 => ⟨[0, 1, 10], [], []⟩
  | 2 => ⟨[4], [], []⟩
  | 3 => ⟨[0, 1, 12, 13], [], []⟩
  | 4 => ⟨[0, 1, 12, 13, 14], [], []⟩
  | 5 => ⟨[0, 1, 5, 12, 13], [], []⟩
  | 6 => ⟨[0, 1, 12, 13, 24], [0, 0, 3, 7, 0, 0, 48, 112, 255], [(0, []), (1, []), (2, []), (3, []), (4, []), (5, []), (6, []), (7, []), (8, [])]⟩
  | 7 => ⟨[4], [], []⟩
  | 8 => ⟨[0, 1, 12, 13], [], []⟩
  | 9 => ⟨[4], [], []⟩
  | _ => ⟨[], [], []⟩
noncomputable def F13_c : Code := Try.f13.body.getD .skip
theorem F13_b : Try.f13.body = some F13_c := by kernel_rfl
theorem F13_rs : Try.f13.results.toList = ([.tmp 4] : List ResultVar) := by kernel_rfl
theorem F13_n : Try.f13.ntmps = 26 := by kernel_rfl
theorem F13_ok : toCC [] 26 F13_inf F13_c = some F13 := by kernel_rfl
theorem F13_in {args : List AV} {G : Hp} {post : AV → Hp → Prop} (ha : args.all AV.plain = true) (hn : args.length ≤ 26) (h : BDs args → awp Try.prog [] F13 (AEnds Try.prog [.tmp 4] post) (initT args) G) : ACalls Try.prog 13 args G post :=
  acalls_cc Try.func13 F13_b F13_rs F13_n F13_ok mixed ha hn h

/- 14 (*ostiary/shelf.Shelf[int, int]).Vals -/
@[simp] noncomputable def F14_r0 : CC := .reg [⟨some 2, none, (.assign (.const (.slice none 0 0)))⟩] [0]
@[simp] noncomputable def F14_r1 : CC := .reg [⟨some 3, none, (.assign (.const (.slice none 0 0)))⟩] [0, 3]
@[simp] noncomputable def F14_r2 : CC := .reg [⟨some 5, none, (.move (.tmp 0))⟩,
  ⟨some 6, none, (.call { callee := (.value (.func 26)), args := #[(.tmp 5)], argTypes := #[23] })⟩,
  ⟨some 7, none, (.move (.const (.int .i64 0)))⟩] [0, 3, 6, 7]
@[simp] noncomputable def F14_r3 : CC := .reg [⟨some 8, none, (.binOp .lss 3 (.tmp 7) (.tmp 6) 3)⟩] [0, 3, 6, 7, 8]
@[simp] noncomputable def F14_r4 : CC := .reg [⟨some 9, none, (.move (.tmp 7))⟩,
  ⟨some 4, none, (.assign (.tmp 9))⟩] [0, 3, 4, 6, 7]
@[simp] noncomputable def F14_r5 : CC := .reg [⟨some 10, none, (.move (.tmp 3))⟩,
  ⟨some 11, none, (.move (.tmp 0))⟩,
  ⟨some 12, none, (.nilCheck (.tmp 11))⟩,
  ⟨some 13, none, (.fieldAddr 61 (.tmp 12) 0)⟩,
  ⟨some 14, none, (.load 59 (.tmp 13))⟩,
  ⟨some 15, none, (.move (.tmp 4))⟩,
  ⟨some 16, none, (.indexAddr 59 (.tmp 14) (.tmp 15))⟩,
  ⟨some 17, none, (.fieldAddr 63 (.tmp 16) 1)⟩,
  ⟨some 18, none, (.load 3 (.tmp 17))⟩,
  ⟨some 19, none, (.buildSlice 22 1 #[(0, (.tmp 18))])⟩,
  ⟨some 20, none, (.call { callee := (.builtin .append), args := #[(.tmp 10), (.tmp 19)], argTypes := #[22, 22] })⟩,
  ⟨some 3, none, (.assign (.tmp 20))⟩] [0, 3, 6, 7]
@[simp] noncomputable def F14_r6 : CC := .reg [⟨some 21, none, (.binOp .add 3 (.tmp 7) (.const (.int .i64 1)) 3)⟩,
  ⟨some 7, none, (.move (.tmp 21))⟩] [0, 3, 6, 7]
noncomputable def F14_l0 : CC := (.seq F14_r3 (.seq (.cond (.tmp 8) .skip (.exit 0)) (.seq (.block 1 (.seq F14_r4 F14_r5)) F14_r6)))
@[simp] noncomputable def F14_r7 : CC := .reg [⟨some 22, none, (.move (.tmp 3))⟩,
  ⟨some 2, none, (.assign (.tmp 22))⟩] [2]
noncomputable def F14 : CC := (.seq F14_r0 (.seq F14_r1 (.seq (.seq F14_r2 (.block 0 (.loop F14_l0))) (.seq F14_r7 .ret))))
noncomputable def F14_inf : Nat → RI
  | 0 => ⟨[0], [], []⟩
  | 1 => ⟨[0, 3], [], []⟩
  | 2 => ⟨[0, 3, 6, 7], [], []⟩
  | 3 => ⟨[0, 3, 6, 7, 8], [], []⟩
  | 4 => ⟨[0, 3, 4, 6, 7], [], []⟩
  | 5 => ⟨[0, 3, 6, 7], [], []⟩
  | 6 => ⟨[0, 3, 6, 7], [], []⟩
  | 7 => ⟨[2], [], []⟩
  | _ => ⟨[], [], []⟩
noncomputable def F14_c : Code := Try.f14.body.getD .skip
theorem F14_b : Try.f14.body = some F14_c := by kernel_rfl
theorem F14_rs : Try.f14.results.toList = ([.tmp 2] : List ResultVar) := by kernel_rfl
theorem F14_n : Try.f14.ntmps = 23 := by kernel_rfl
theorem F14_ok : toCC [] 23 F14_inf F14_c = some F14 := by kernel_rfl
theorem F14_in {args : List AV} {G : Hp} {post : AV → Hp → Prop} (ha : args.all AV.plain = true) (hn : args.length ≤ 23) (h : BDs args → awp Try.prog [] F14 (AEnds Try.prog [.tmp 2] post) (initT args) G) : ACalls Try.prog 14 args G post :=
  acalls_cc Try.func14 F14_b F14_rs F14_n F14_ok mixed ha hn h
end Go.Proofs.Yteifakkknhfdpaa
