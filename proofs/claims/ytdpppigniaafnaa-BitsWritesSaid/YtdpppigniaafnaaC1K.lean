import Derived.Test.YtdpppigniaafnaaC0K
set_option linter.unusedVariables false
set_option linter.unusedSimpArgs false
set_option maxRecDepth 100000
namespace Go.Proofs.Ytdpppigniaafnaa
open Go Go.Al

/- 3 ostiary/ostiarylaw01.BitsBack -/
@[simp] noncomputable def F3_r0 : CC := .reg [⟨some 4, none, (.assign (.const (.bool false)))⟩] [0, 1]
@[simp] noncomputable def F3_r1 : CC := .reg [⟨some 11, none, (.call { callee := (.value (.func 9)), args := #[(.const (.slice none 0 0))], argTypes := #[65] })⟩,
  ⟨some 5, none, (.assign (.tmp 11))⟩] [0, 1, 5]
@[simp] noncomputable def F3_r2 : CC := .reg [⟨some 12, none, (.move (.tmp 0))⟩,
  ⟨some 13, none, (.call { callee := (.builtin .len), args := #[(.tmp 12)], argTypes := #[22] })⟩,
  ⟨some 14, none, (.move (.const (.int .i64 0)))⟩] [0, 1, 5, 12, 13, 14]
@[simp] noncomputable def F3_r3 : CC := .reg [⟨some 15, none, (.binOp .lss 3 (.tmp 14) (.tmp 13) 3)⟩] [0, 1, 5, 12, 13, 14, 15]
@[simp] noncomputable def F3_r4 : CC := .reg [⟨some 16, none, (.move (.tmp 14))⟩,
  ⟨some 17, none, (.indexAddr 22 (.tmp 12) (.tmp 14))⟩,
  ⟨some 18, none, (.load 3 (.tmp 17))⟩,
  ⟨some 6, none, (.assign (.tmp 16))⟩,
  ⟨some 7, none, (.assign (.tmp 18))⟩] [0, 1, 5, 6, 7, 12, 13, 14]
@[simp] noncomputable def F3_r5 : CC := .reg [⟨some 19, none, (.move (.tmp 6))⟩,
  ⟨some 20, none, (.move (.tmp 1))⟩,
  ⟨some 21, none, (.call { callee := (.builtin .len), args := #[(.tmp 20)], argTypes := #[23] })⟩,
  ⟨some 22, none, (.binOp .lss 3 (.tmp 19) (.tmp 21) 3)⟩,
  ⟨some 23, none, (.move (.tmp 22))⟩,
  ⟨some 24, some (23, true), (.move (.tmp 6))⟩,
  ⟨some 25, some (23, true), (.binOp .lss 3 (.tmp 24) (.const (.int .i64 30)) 3)⟩,
  ⟨some 26, none, (.pick (.tmp 23) (.tmp 25) (.const (.bool false)))⟩,
  ⟨some 27, none, (.move (.tmp 26))⟩,
  ⟨some 28, some (27, true), (.move (.tmp 7))⟩,
  ⟨some 29, some (27, true), (.call { callee := (.value (.func 10)), args := #[(.tmp 28)], argTypes := #[3] })⟩,
  ⟨some 30, none, (.pick (.tmp 27) (.tmp 29) (.const (.bool false)))⟩,
  ⟨some 31, none, (.move (.tmp 30))⟩,
  ⟨some 32, some (31, true), (.move (.tmp 5))⟩,
  ⟨some 33, some (31, true), (.move (.tmp 7))⟩,
  ⟨some 34, some (31, true), (.move (.tmp 1))⟩,
  ⟨some 35, some (31, true), (.move (.tmp 6))⟩,
  ⟨some 36, some (31, true), (.indexAddr 23 (.tmp 34) (.tmp 35))⟩,
  ⟨some 37, some (31, true), (.load 29 (.tmp 36))⟩,
  ⟨some 38, some (31, true), (.buildSlice 23 1 #[(0, (.tmp 37))])⟩,
  ⟨some 39, some (31, true), (.call { callee := (.value (.func 11)), args := #[(.tmp 32), (.tmp 33), (.tmp 38)], argTypes := #[24, 3, 23] })⟩,
  ⟨some 40, some (31, true), (.binOp .neq 27 (.tmp 39) (.const (.int .i64 0)) 27)⟩,
  ⟨some 41, none, (.pick (.tmp 31) (.tmp 40) (.const (.bool false)))⟩] [0, 1, 5, 12, 13, 14, 41]
@[simp] noncomputable def F3_r6 : CC := .reg [⟨some 4, none, (.assign (.const (.bool false)))⟩] [4]
@[simp] noncomputable def F3_r7 : CC := .reg [⟨some 42, none, (.binOp .add 3 (.tmp 14) (.const (.int .i64 1)) 3)⟩,
  ⟨some 14, none, (.move (.tmp 42))⟩] [0, 1, 5, 12, 13, 14]
noncomputable def F3_l0 : CC := (.seq F3_r3 (.seq (.cond (.tmp 15) .skip (.exit 0)) (.seq (.block 1 (.seq F3_r4 (.seq F3_r5 (.cond (.tmp 41) (.seq F3_r6 .ret) .skip)))) F3_r7)))
@[simp] noncomputable def F3_r8 : CC := .reg [⟨some 43, none, (.move (.tmp 5))⟩,
  ⟨some 44, none, (.call { callee := (.value (.func 13)), args := #[(.tmp 43)], argTypes := #[24] })⟩,
  ⟨some 45, none, (.call { callee := (.value (.func 12)), args := #[(.tmp 44)], argTypes := #[32] })⟩,
  ⟨some 8, none, (.assign (.tmp 45))⟩] [0, 1, 8]
@[simp] noncomputable def F3_r9 : CC := .reg [⟨some 46, none, (.move (.tmp 0))⟩,
  ⟨some 47, none, (.call { callee := (.builtin .len), args := #[(.tmp 46)], argTypes := #[22] })⟩,
  ⟨some 48, none, (.move (.const (.int .i64 0)))⟩] [1, 8, 46, 47, 48]
@[simp] noncomputable def F3_r10 : CC := .reg [⟨some 49, none, (.binOp .lss 3 (.tmp 48) (.tmp 47) 3)⟩] [1, 8, 46, 47, 48, 49]
@[simp] noncomputable def F3_r11 : CC := .reg [⟨some 50, none, (.move (.tmp 48))⟩,
  ⟨some 51, none, (.indexAddr 22 (.tmp 46) (.tmp 48))⟩,
  ⟨some 52, none, (.load 3 (.tmp 51))⟩,
  ⟨some 9, none, (.assign (.tmp 50))⟩,
  ⟨some 10, none, (.assign (.tmp 52))⟩] [1, 8, 9, 10, 46, 47, 48]
@[simp] noncomputable def F3_r12 : CC := .drw [⟨0, ⟨some 53, none, (.move (.tmp 9))⟩, [], []⟩,
  ⟨1, ⟨some 54, none, (.move (.tmp 1))⟩, [], []⟩,
  ⟨2, ⟨some 55, none, (.call { callee := (.builtin .len), args := #[(.tmp 54)], argTypes := #[23] })⟩, [], []⟩,
  ⟨3, ⟨some 56, none, (.binOp .lss 3 (.tmp 53) (.tmp 55) 3)⟩, [], []⟩,
  ⟨4, ⟨some 57, none, (.move (.tmp 56))⟩, [], []⟩,
  ⟨5, ⟨some 58, some (57, true), (.move (.tmp 9))⟩, [], []⟩,
  ⟨6, ⟨some 59, some (57, true), (.binOp .lss 3 (.tmp 58) (.const (.int .i64 30)) 3)⟩, [], []⟩,
  ⟨7, ⟨some 60, none, (.pick (.tmp 57) (.tmp 59) (.const (.bool false)))⟩, [], []⟩,
  ⟨8, ⟨some 61, none, (.move (.tmp 60))⟩, [], []⟩,
  ⟨9, ⟨some 62, some (61, true), (.move (.tmp 10))⟩, [], []⟩,
  ⟨10, ⟨some 63, some (61, true), (.call { callee := (.value (.func 10)), args := #[(.tmp 62)], argTypes := #[3] })⟩, [], []⟩,
  ⟨11, ⟨some 64, none, (.pick (.tmp 61) (.tmp 63) (.const (.bool false)))⟩, [], []⟩,
  ⟨12, ⟨some 65, none, (.move (.tmp 64))⟩, [], []⟩,
  ⟨13, ⟨some 66, some (65, true), (.move (.tmp 8))⟩, [], []⟩,
  ⟨14, ⟨some 67, some (65, true), (.move (.tmp 10))⟩, [], []⟩,
  ⟨16, ⟨some 69, some (65, true), (.move (.tmp 10))⟩, [], []⟩,
  ⟨17, ⟨some 70, some (65, true), (.move (.tmp 1))⟩, [], []⟩,
  ⟨18, ⟨some 71, some (65, true), (.move (.tmp 9))⟩, [], []⟩,
  ⟨19, ⟨some 72, some (65, true), (.indexAddr 23 (.tmp 70) (.tmp 71))⟩, [], []⟩,
  ⟨20, ⟨some 73, some (65, true), (.load 29 (.tmp 72))⟩, [], []⟩,
  ⟨15, ⟨some 68, some (65, true), (.call { callee := (.value (.func 14)), args := #[(.tmp 66), (.tmp 67)], argTypes := #[30, 3] })⟩, [20], [⟨some 73, some (65, true), (.load 29 (.tmp 72))⟩]⟩,
  ⟨21, ⟨some 74, some (65, true), (.call { callee := (.value (.func 16)), args := #[(.tmp 69), (.tmp 73)], argTypes := #[3, 29] })⟩, [], []⟩,
  ⟨22, ⟨some 75, some (65, true), (.call { callee := (.value (.func 15)), args := #[(.tmp 74)], argTypes := #[22] })⟩, [], []⟩,
  ⟨23, ⟨some 76, some (65, true), (.binOp .neq 29 (.tmp 68) (.tmp 75) 29)⟩, [], []⟩,
  ⟨24, ⟨some 77, none, (.pick (.tmp 65) (.tmp 76) (.const (.bool false)))⟩, [], []⟩] [53, 54, 55, 56, 57, 58, 59, 60, 61, 62, 63, 64, 65, 66, 67, 69, 70, 71, 72, 73, 68, 74, 75, 76, 77] [1, 8, 46, 47, 48, 77]
@[simp] noncomputable def F3_r13 : CC := .reg [⟨some 4, none, (.assign (.const (.bool false)))⟩] [4]
@[simp] noncomputable def F3_r14 : CC := .reg [⟨some 78, none, (.binOp .add 3 (.tmp 48) (.const (.int .i64 1)) 3)⟩,
  ⟨some 48, none, (.move (.tmp 78))⟩] [1, 8, 46, 47, 48]
noncomputable def F3_l1 : CC := (.seq F3_r10 (.seq (.cond (.tmp 49) .skip (.exit 2)) (.seq (.block 3 (.seq F3_r11 (.seq F3_r12 (.cond (.tmp 77) (.seq F3_r13 .ret) .skip)))) F3_r14)))
@[simp] noncomputable def F3_r15 : CC := .reg [⟨some 79, none, (.move (.tmp 8))⟩,
  ⟨some 80, none, (.call { callee := (.value (.func 17)), args := #[(.tmp 79)], argTypes := #[30] })⟩,
  ⟨some 81, none, (.binOp .eql 27 (.tmp 80) (.const (.int .i64 0)) 27)⟩,
  ⟨some 82, none, (.move (.tmp 81))⟩,
  ⟨some 83, some (82, true), (.move (.tmp 8))⟩,
  ⟨some 84, some (82, true), (.call { callee := (.value (.func 18)), args := #[(.tmp 83)], argTypes := #[30] })⟩,
  ⟨some 85, some (82, true), (.binOp .lss 3 (.tmp 84) (.const (.int .i64 8)) 3)⟩,
  ⟨some 86, none, (.pick (.tmp 82) (.tmp 85) (.const (.bool false)))⟩,
  ⟨some 87, none, (.move (.tmp 86))⟩,
  ⟨some 88, some (87, true), (.call { callee := (.value (.func 19)), args := #[], argTypes := #[] })⟩,
  ⟨some 89, none, (.pick (.tmp 87) (.tmp 88) (.const (.bool false)))⟩,
  ⟨some 4, none, (.assign (.tmp 89))⟩] [4]
noncomputable def F3 : CC := (.seq F3_r0 (.seq F3_r1 (.seq (.seq F3_r2 (.block 0 (.loop F3_l0))) (.seq F3_r8 (.seq (.seq F3_r9 (.block 2 (.loop F3_l1))) (.seq F3_r15 .ret))))))
noncomputable def F3_inf : Nat → RI
  | 0 => ⟨[0, 1], [], []⟩
  | 1 => ⟨[0, 1, 5], [], []⟩
  | 2 => ⟨[0, 1, 5, 12, 13, 14], [], []⟩
  | 3 => ⟨[0, 1, 5, 12, 13, 14, 15], [], []⟩
  | 4 => ⟨[0, 1, 5, 6, 7, 12, 13, 14], [], []⟩
  | 5 => ⟨[0, 1, 5, 12, 13, 14, 41], [], []⟩
  | 6 => ⟨[4], [], []⟩
  | 7 => ⟨[0, 1, 5, 12, 13, 14], [], []⟩
  | 8 => ⟨[0, 1, 8], [], []⟩
  | 9 => ⟨[1, 8, 46, 47, 48], [], []⟩
  | 10 => ⟨[1, 8, 46, 47, 48, 49], [], []⟩
  | 11 => ⟨[1, 8, 9, 10, 46, 47, 48], [], []⟩
  | 12 => ⟨[1, 8, 46, 47, 48, 77], [0, 0, 2, 7, 15, 31, 63, 127, 255, 511, 1023, 2047, 4095, 8191, 8191, 32767, 8191, 8191, 8191, 401407, 925695, 2097151, 4194303, 8388607, 16777215], [(0, []), (1, []), (2, []), (3, []), (4, []), (5, []), (6, []), (7, []), (8, []), (9, []), (10, []), (11, []), (12, []), (13, []), (14, []), (16, []), (17, []), (18, []), (19, []), (20, []), (15, [20]), (21, []), (22, []), (23, []), (24, [])]⟩
  | 13 => ⟨[4], [], []⟩
  | 14 => ⟨[1, 8, 46, 47, 48], [], []⟩
  | 15 => ⟨[4], [], []⟩
  | _ => ⟨[], [], []⟩
noncomputable def F3_c : Code := Try.f3.body.getD .skip
theorem F3_b : Try.f3.body = some F3_c := by kernel_rfl
theorem F3_rs : Try.f3.results.toList = ([.tmp 4] : List ResultVar) := by kernel_rfl
theorem F3_n : Try.f3.ntmps = 90 := by kernel_rfl
theorem F3_ok : toCC [] 90 F3_inf F3_c = some F3 := by kernel_rfl
theorem F3_in {args : List AV} {G : Hp} {post : AV → Hp → Prop} (ha : args.all AV.plain = true) (hn : args.length ≤ 90) (h : BDs args → awp Try.prog [] F3 (AEnds Try.prog [.tmp 4] post) (initT args) G) : ACalls Try.prog 3 args G post :=
  acalls_cc Try.func3 F3_b F3_rs F3_n F3_ok mixed ha hn h

/- 4 ostiary/ostiarylaw01.BitsSplit -/
@[simp] noncomputable def F4_r0 : CC := .reg [⟨some 8, none, (.assign (.const (.bool false)))⟩] [0, 1, 2, 3]
@[simp] noncomputable def F4_r1 : CC := .reg [⟨some 14, none, (.move (.tmp 0))⟩,
  ⟨some 15, none, (.call { callee := (.builtin .len), args := #[(.tmp 14)], argTypes := #[32] })⟩,
  ⟨some 16, none, (.binOp .gtr 3 (.tmp 15) (.const (.int .i64 40)) 3)⟩] [0, 1, 2, 3, 16]
@[simp] noncomputable def F4_r2 : CC := .reg [⟨some 17, none, (.move (.tmp 0))⟩,
  ⟨some 18, none, (.slice 32 (.tmp 17) none (some (.const (.int .i64 40))) none)⟩,
  ⟨some 0, none, (.assign (.tmp 18))⟩] [0, 1, 2, 3]
@[simp] noncomputable def F4_r3 : CC := .reg [⟨some 19, none, (.move (.tmp 1))⟩,
  ⟨some 20, none, (.binOp .lss 3 (.tmp 19) (.const (.int .i64 0)) 3)⟩,
  ⟨some 21, none, (.move (.tmp 20))⟩,
  ⟨some 22, some (21, false), (.move (.tmp 1))⟩,
  ⟨some 23, some (21, false), (.move (.tmp 0))⟩,
  ⟨some 24, some (21, false), (.call { callee := (.builtin .len), args := #[(.tmp 23)], argTypes := #[32] })⟩,
  ⟨some 25, some (21, false), (.binOp .mul 3 (.const (.int .i64 8)) (.tmp 24) 3)⟩,
  ⟨some 26, some (21, false), (.binOp .gtr 3 (.tmp 22) (.tmp 25) 3)⟩,
  ⟨some 27, none, (.pick (.tmp 21) (.const (.bool true)) (.tmp 26))⟩,
  ⟨some 28, none, (.move (.tmp 27))⟩,
  ⟨some 29, some (28, false), (.move (.tmp 2))⟩,
  ⟨some 30, some (28, false), (.call { callee := (.value (.func 10)), args := #[(.tmp 29)], argTypes := #[3] })⟩,
  ⟨some 31, some (28, false), (.unOp .not 4 (.tmp 30))⟩,
  ⟨some 32, none, (.pick (.tmp 28) (.const (.bool true)) (.tmp 31))⟩,
  ⟨some 33, none, (.move (.tmp 32))⟩,
  ⟨some 34, some (33, false), (.move (.tmp 3))⟩,
  ⟨some 35, some (33, false), (.call { callee := (.value (.func 10)), args := #[(.tmp 34)], argTypes := #[3] })⟩,
  ⟨some 36, some (33, false), (.unOp .not 4 (.tmp 35))⟩,
  ⟨some 37, none, (.pick (.tmp 33) (.const (.bool true)) (.tmp 36))⟩,
  ⟨some 38, none, (.move (.tmp 37))⟩,
  ⟨some 39, some (38, false), (.move (.tmp 2))⟩,
  ⟨some 40, some (38, false), (.move (.tmp 3))⟩,
  ⟨some 41, some (38, false), (.binOp .add 3 (.tmp 39) (.tmp 40) 3)⟩,
  ⟨some 42, some (38, false), (.binOp .gtr 3 (.tmp 41) (.const (.int .i64 64)) 3)⟩,
  ⟨some 43, none, (.pick (.tmp 38) (.const (.bool true)) (.tmp 42))⟩,
  ⟨some 44, none, (.move (.tmp 43))⟩,
  ⟨some 45, some (44, false), (.move (.tmp 2))⟩,
  ⟨some 46, some (44, false), (.move (.tmp 3))⟩,
  ⟨some 47, some (44, false), (.binOp .add 3 (.tmp 45) (.tmp 46) 3)⟩,
  ⟨some 48, some (44, false), (.move (.tmp 0))⟩,
  ⟨some 49, some (44, false), (.call { callee := (.builtin .len), args := #[(.tmp 48)], argTypes := #[32] })⟩,
  ⟨some 50, some (44, false), (.binOp .mul 3 (.const (.int .i64 8)) (.tmp 49) 3)⟩,
  ⟨some 51, some (44, false), (.move (.tmp 1))⟩,
  ⟨some 52, some (44, false), (.binOp .sub 3 (.tmp 50) (.tmp 51) 3)⟩,
  ⟨some 53, some (44, false), (.binOp .gtr 3 (.tmp 47) (.tmp 52) 3)⟩,
  ⟨some 54, none, (.pick (.tmp 44) (.const (.bool true)) (.tmp 53))⟩] [0, 1, 2, 3, 54]
@[simp] noncomputable def F4_r4 : CC := .reg [⟨some 55, none, (.call { callee := (.value (.func 19)), args := #[], argTypes := #[] })⟩,
  ⟨some 8, none, (.assign (.tmp 55))⟩] [8]
@[simp] noncomputable def F4_r5 : CC := .reg [⟨some 56, none, (.move (.tmp 0))⟩,
  ⟨some 57, none, (.call { callee := (.value (.func 12)), args := #[(.tmp 56)], argTypes := #[32] })⟩,
  ⟨some 58, none, (.move (.tmp 0))⟩,
  ⟨some 59, none, (.call { callee := (.value (.func 12)), args := #[(.tmp 58)], argTypes := #[32] })⟩,
  ⟨some 9, none, (.assign (.tmp 57))⟩,
  ⟨some 10, none, (.assign (.tmp 59))⟩] [1, 2, 3, 9, 10]
@[simp] noncomputable def F4_r6 : CC := .reg [⟨some 60, none, (.move (.tmp 9))⟩,
  ⟨some 61, none, (.move (.tmp 1))⟩,
  ⟨some 62, none, (.call { callee := (.value (.func 20)), args := #[(.tmp 60), (.tmp 61)], argTypes := #[30, 3] })⟩] [1, 2, 3, 9, 10]
@[simp] noncomputable def F4_r7 : CC := .reg [⟨some 63, none, (.move (.tmp 10))⟩,
  ⟨some 64, none, (.move (.tmp 1))⟩,
  ⟨some 65, none, (.call { callee := (.value (.func 20)), args := #[(.tmp 63), (.tmp 64)], argTypes := #[30, 3] })⟩] [2, 3, 9, 10]
@[simp] noncomputable def F4_r8 : CC := .reg [⟨some 66, none, (.move (.tmp 9))⟩,
  ⟨some 67, none, (.move (.tmp 2))⟩,
  ⟨some 68, none, (.move (.tmp 3))⟩,
  ⟨some 69, none, (.binOp .add 3 (.tmp 67) (.tmp 68) 3)⟩,
  ⟨some 70, none, (.call { callee := (.value (.func 14)), args := #[(.tmp 66), (.tmp 69)], argTypes := #[30, 3] })⟩,
  ⟨some 11, none, (.assign (.tmp 70))⟩] [2, 3, 9, 10, 11]
@[simp] noncomputable def F4_r9 : CC := .reg [⟨some 71, none, (.move (.tmp 10))⟩,
  ⟨some 72, none, (.move (.tmp 2))⟩,
  ⟨some 73, none, (.call { callee := (.value (.func 14)), args := #[(.tmp 71), (.tmp 72)], argTypes := #[30, 3] })⟩,
  ⟨some 12, none, (.assign (.tmp 73))⟩] [3, 9, 10, 11, 12]
@[simp] noncomputable def F4_r10 : CC := .reg [⟨some 74, none, (.move (.tmp 10))⟩,
  ⟨some 75, none, (.move (.tmp 3))⟩,
  ⟨some 76, none, (.call { callee := (.value (.func 14)), args := #[(.tmp 74), (.tmp 75)], argTypes := #[30, 3] })⟩,
  ⟨some 13, none, (.assign (.tmp 76))⟩] [3, 9, 10, 11, 12, 13]
@[simp] noncomputable def F4_r11 : CC := .reg [⟨some 77, none, (.move (.tmp 11))⟩,
  ⟨some 78, none, (.move (.tmp 12))⟩,
  ⟨some 79, none, (.move (.tmp 3))⟩,
  ⟨some 80, none, (.convert 3 42 (.tmp 79))⟩,
  ⟨some 81, none, (.binOp .shl 29 (.tmp 78) (.tmp 80) 42)⟩,
  ⟨some 82, none, (.move (.tmp 13))⟩,
  ⟨some 83, none, (.binOp .or 29 (.tmp 81) (.tmp 82) 29)⟩,
  ⟨some 84, none, (.binOp .eql 29 (.tmp 77) (.tmp 83) 29)⟩,
  ⟨some 85, none, (.move (.tmp 84))⟩,
  ⟨some 86, some (85, true), (.move (.tmp 9))⟩,
  ⟨some 87, some (85, true), (.call { callee := (.value (.func 21)), args := #[(.tmp 86)], argTypes := #[30] })⟩,
  ⟨some 88, some (85, true), (.move (.tmp 10))⟩,
  ⟨some 89, some (85, true), (.call { callee := (.value (.func 21)), args := #[(.tmp 88)], argTypes := #[30] })⟩,
  ⟨some 90, some (85, true), (.binOp .eql 3 (.tmp 87) (.tmp 89) 3)⟩,
  ⟨some 91, none, (.pick (.tmp 85) (.tmp 90) (.const (.bool false)))⟩,
  ⟨some 92, none, (.move (.tmp 91))⟩,
  ⟨some 93, some (92, true), (.call { callee := (.value (.func 19)), args := #[], argTypes := #[] })⟩,
  ⟨some 94, none, (.pick (.tmp 92) (.tmp 93) (.const (.bool false)))⟩,
  ⟨some 8, none, (.assign (.tmp 94))⟩] [8]
noncomputable def F4 : CC := (.seq F4_r0 (.seq (.seq F4_r1 (.cond (.tmp 16) F4_r2 .skip)) (.seq (.seq F4_r3 (.cond (.tmp 54) (.seq F4_r4 .ret) .skip)) (.seq F4_r5 (.seq F4_r6 (.seq F4_r7 (.seq F4_r8 (.seq F4_r9 (.seq F4_r10 (.seq F4_r11 .ret))))))))))
noncomputable def F4_inf : Nat → RI
  | 0 => ⟨[0, 1, 2, 3], [], []⟩
  | 1 => ⟨[0, 1, 2, 3, 16], [], []⟩
  | 2 => ⟨[0, 1, 2, 3], [], []⟩
  | 3 => ⟨[0, 1, 2, 3, 54], [], []⟩
  | 4 => ⟨[8], [], []⟩
  | 5 => ⟨[1, 2, 3, 9, 10], [], []⟩
  | 6 => ⟨[1, 2, 3, 9, 10], [], []⟩
  | 7 => ⟨[2, 3, 9, 10], [], []⟩
  | 8 => ⟨[2, 3, 9, 10, 11], [], []⟩
  | 9 => ⟨[3, 9, 10, 11, 12], [], []⟩
  | 10 => ⟨[3, 9, 10, 11, 12, 13], [], []⟩
  | 11 => ⟨[8], [], []⟩
  | _ => ⟨[], [], []⟩
noncomputable def F4_c : Code := Try.f4.body.getD .skip
theorem F4_b : Try.f4.body = some F4_c := by kernel_rfl
theorem F4_rs : Try.f4.results.toList = ([.tmp 8] : List ResultVar) := by kernel_rfl
theorem F4_n : Try.f4.ntmps = 95 := by kernel_rfl
theorem F4_ok : toCC [] 95 F4_inf F4_c = some F4 := by kernel_rfl
theorem F4_in {args : List AV} {G : Hp} {post : AV → Hp → Prop} (ha : args.all AV.plain = true) (hn : args.length ≤ 95) (h : BDs args → awp Try.prog [] F4 (AEnds Try.prog [.tmp 8] post) (initT args) G) : ACalls Try.prog 4 args G post :=
  acalls_cc Try.func4 F4_b F4_rs F4_n F4_ok mixed ha hn h

/- 5 ostiary/ostiarylaw01.BitsMost -/
@[simp] noncomputable def F5_r0 : CC := .reg [⟨some 4, none, (.assign (.const (.bool false)))⟩] [0, 1]
@[simp] noncomputable def F5_r1 : CC := .reg [⟨some 8, none, (.move (.tmp 0))⟩,
  ⟨some 9, none, (.binOp .rem 3 (.tmp 8) (.const (.int .i64 20)) 3)⟩,
  ⟨some 0, none, (.assign (.tmp 9))⟩] [0, 1]
@[simp] noncomputable def F5_r2 : CC := .drw [⟨0, ⟨some 10, none, (.makeSlice 32 (.const (.int .i64 100)) (.const (.int .i64 100)))⟩, [], []⟩,
  ⟨1, ⟨some 11, none, (.move (.tmp 0))⟩, [], []⟩,
  ⟨2, ⟨some 12, none, (.binOp .add 3 (.const (.int .i64 65436)) (.tmp 11) 3)⟩, [], []⟩,
  ⟨3, ⟨some 13, none, (.makeSlice 32 (.tmp 12) (.tmp 12))⟩, [], []⟩,
  ⟨4, ⟨some 14, none, (.buildSlice 65 2 #[(0, (.tmp 10)), (1, (.tmp 13))])⟩, [], []⟩,
  ⟨5, ⟨some 15, none, (.call { callee := (.value (.func 9)), args := #[(.tmp 14)], argTypes := #[65] })⟩, [], []⟩,
  ⟨6, ⟨some 5, none, (.assign (.tmp 15))⟩, [], []⟩] [10, 11, 12, 13, 14, 15, 5] [0, 1, 5]
@[simp] noncomputable def F5_r3 : CC := .reg [⟨some 16, none, (.move (.tmp 0))⟩,
  ⟨some 17, none, (.binOp .geq 3 (.tmp 16) (.const (.int .i64 0)) 3)⟩] [0, 1, 5, 17]
@[simp] noncomputable def F5_r4 : CC := .reg [⟨some 18, none, (.move (.tmp 5))⟩,
  ⟨some 19, none, (.call { callee := (.value (.func 22)), args := #[(.tmp 18)], argTypes := #[24] })⟩,
  ⟨some 20, none, (.binOp .eql 3 (.tmp 19) (.const (.int .i64 524288)) 3)⟩,
  ⟨some 21, none, (.move (.tmp 20))⟩,
  ⟨some 22, some (21, true), (.move (.tmp 5))⟩,
  ⟨some 23, some (21, true), (.buildSlice 23 1 #[(0, (.const (.int .u64 1)))])⟩,
  ⟨some 24, some (21, true), (.call { callee := (.value (.func 11)), args := #[(.tmp 22), (.const (.int .i64 1)), (.tmp 23)], argTypes := #[24, 3, 23] })⟩,
  ⟨some 25, some (21, true), (.binOp .eql 27 (.tmp 24) (.const (.int .i64 4)) 27)⟩,
  ⟨some 26, none, (.pick (.tmp 21) (.tmp 25) (.const (.bool false)))⟩,
  ⟨some 27, none, (.move (.tmp 26))⟩,
  ⟨some 28, some (27, true), (.move (.tmp 5))⟩,
  ⟨some 29, some (27, true), (.buildSlice 32 1 #[(0, (.const (.int .u8 1)))])⟩,
  ⟨some 30, some (27, true), (.buildSlice 65 1 #[(0, (.tmp 29))])⟩,
  ⟨some 31, some (27, true), (.call { callee := (.value (.func 23)), args := #[(.tmp 28), (.tmp 30)], argTypes := #[24, 65] })⟩,
  ⟨some 32, some (27, true), (.binOp .eql 27 (.tmp 31) (.const (.int .i64 4)) 27)⟩,
  ⟨some 33, none, (.pick (.tmp 27) (.tmp 32) (.const (.bool false)))⟩,
  ⟨some 34, none, (.move (.tmp 33))⟩,
  ⟨some 35, some (34, true), (.move (.tmp 5))⟩,
  ⟨some 36, some (34, true), (.call { callee := (.value (.func 23)), args := #[(.tmp 35), (.const (.slice none 0 0))], argTypes := #[24, 65] })⟩,
  ⟨some 37, some (34, true), (.binOp .eql 27 (.tmp 36) (.const (.int .i64 0)) 27)⟩,
  ⟨some 38, none, (.pick (.tmp 34) (.tmp 37) (.const (.bool false)))⟩,
  ⟨some 39, none, (.move (.tmp 38))⟩,
  ⟨some 40, some (39, true), (.call { callee := (.value (.func 19)), args := #[], argTypes := #[] })⟩,
  ⟨some 41, none, (.pick (.tmp 39) (.tmp 40) (.const (.bool false)))⟩,
  ⟨some 4, none, (.assign (.tmp 41))⟩] [4]
@[simp] noncomputable def F5_r5 : CC := .reg [⟨some 42, none, (.move (.tmp 0))⟩,
  ⟨some 43, none, (.binOp .sub 3 (.const (.int .i64 0)) (.tmp 42) 3)⟩,
  ⟨some 6, none, (.assign (.tmp 43))⟩] [1, 5, 6]
@[simp] noncomputable def F5_r6 : CC := .reg [⟨some 44, none, (.move (.tmp 5))⟩,
  ⟨some 45, none, (.move (.tmp 6))⟩,
  ⟨some 46, none, (.makeSlice 23 (.tmp 45) (.tmp 45))⟩,
  ⟨some 47, none, (.call { callee := (.value (.func 11)), args := #[(.tmp 44), (.const (.int .i64 8)), (.tmp 46)], argTypes := #[24, 3, 23] })⟩,
  ⟨some 7, none, (.assign (.tmp 47))⟩] [1, 5, 6, 7]
@[simp] noncomputable def F5_r7 : CC := .reg [⟨some 48, none, (.move (.tmp 1))⟩] [5, 6, 7, 48]
@[simp] noncomputable def F5_r8 : CC := .reg [⟨some 49, none, (.move (.tmp 6))⟩,
  ⟨some 50, none, (.binOp .sub 3 (.const (.int .i64 65536)) (.tmp 49) 3)⟩,
  ⟨some 51, none, (.makeSlice 32 (.tmp 50) (.tmp 50))⟩,
  ⟨some 52, none, (.buildSlice 65 1 #[(0, (.tmp 51))])⟩,
  ⟨some 53, none, (.call { callee := (.value (.func 9)), args := #[(.tmp 52)], argTypes := #[65] })⟩,
  ⟨some 5, none, (.assign (.tmp 53))⟩] [5, 6]
@[simp] noncomputable def F5_r9 : CC := .reg [⟨some 54, none, (.move (.tmp 5))⟩,
  ⟨some 55, none, (.move (.tmp 6))⟩,
  ⟨some 56, none, (.binOp .sub 3 (.tmp 55) (.const (.int .i64 1)) 3)⟩,
  ⟨some 57, none, (.makeSlice 32 (.tmp 56) (.tmp 56))⟩,
  ⟨some 58, none, (.buildSlice 32 1 #[(0, (.const (.int .u8 1)))])⟩,
  ⟨some 59, none, (.buildSlice 65 2 #[(0, (.tmp 57)), (1, (.tmp 58))])⟩,
  ⟨some 60, none, (.call { callee := (.value (.func 23)), args := #[(.tmp 54), (.tmp 59)], argTypes := #[24, 65] })⟩,
  ⟨some 7, none, (.assign (.tmp 60))⟩] [5, 7]
@[simp] noncomputable def F5_r10 : CC := .reg [⟨some 61, none, (.move (.tmp 7))⟩,
  ⟨some 62, none, (.binOp .eql 27 (.tmp 61) (.const (.int .i64 0)) 27)⟩,
  ⟨some 63, none, (.move (.tmp 62))⟩,
  ⟨some 64, some (63, true), (.move (.tmp 5))⟩,
  ⟨some 65, some (63, true), (.call { callee := (.value (.func 22)), args := #[(.tmp 64)], argTypes := #[24] })⟩,
  ⟨some 66, some (63, true), (.binOp .eql 3 (.tmp 65) (.const (.int .i64 524288)) 3)⟩,
  ⟨some 67, none, (.pick (.tmp 63) (.tmp 66) (.const (.bool false)))⟩,
  ⟨some 68, none, (.move (.tmp 67))⟩,
  ⟨some 69, some (68, true), (.move (.tmp 5))⟩,
  ⟨some 70, some (68, true), (.buildSlice 23 1 #[(0, (.const (.int .u64 1)))])⟩,
  ⟨some 71, some (68, true), (.call { callee := (.value (.func 11)), args := #[(.tmp 69), (.const (.int .i64 1)), (.tmp 70)], argTypes := #[24, 3, 23] })⟩,
  ⟨some 72, some (68, true), (.binOp .eql 27 (.tmp 71) (.const (.int .i64 4)) 27)⟩,
  ⟨some 73, none, (.pick (.tmp 68) (.tmp 72) (.const (.bool false)))⟩,
  ⟨some 74, none, (.move (.tmp 73))⟩,
  ⟨some 75, some (74, true), (.call { callee := (.value (.func 19)), args := #[], argTypes := #[] })⟩,
  ⟨some 76, none, (.pick (.tmp 74) (.tmp 75) (.const (.bool false)))⟩,
  ⟨some 4, none, (.assign (.tmp 76))⟩] [4]
noncomputable def F5 : CC := (.seq F5_r0 (.seq F5_r1 (.seq F5_r2 (.seq (.seq F5_r3 (.cond (.tmp 17) (.seq F5_r4 .ret) .skip)) (.seq F5_r5 (.seq F5_r6 (.seq (.seq F5_r7 (.cond (.tmp 48) (.seq F5_r8 F5_r9) .skip)) (.seq F5_r10 .ret))))))))
noncomputable def F5_inf : Nat → RI
  | 0 => ⟨[0, 1], [], []⟩
  | 1 => ⟨[0, 1], [], []⟩
  | 2 => ⟨[0, 1, 5], [0, 0, 2, 6, 15, 31, 63], [(0, []), (1, []), (2, []), (3, []), (4, []), (5, []), (6, [])]⟩
  | 3 => ⟨[0, 1, 5, 17], [], []⟩
  | 4 => ⟨[4], [], []⟩
  | 5 => ⟨[1, 5, 6], [], []⟩
  | 6 => ⟨[1, 5, 6, 7], [], []⟩
  | 7 => ⟨[5, 6, 7, 48], [], []⟩
  | 8 => ⟨[5, 6], [], []⟩
  | 9 => ⟨[5, 7], [], []⟩
  | 10 => ⟨[4], [], []⟩
  | _ => ⟨[], [], []⟩
noncomputable def F5_c : Code := Try.f5.body.getD .skip
theorem F5_b : Try.f5.body = some F5_c := by kernel_rfl
theorem F5_rs : Try.f5.results.toList = ([.tmp 4] : List ResultVar) := by kernel_rfl
theorem F5_n : Try.f5.ntmps = 77 := by kernel_rfl
theorem F5_ok : toCC [] 77 F5_inf F5_c = some F5 := by kernel_rfl
theorem F5_in {args : List AV} {G : Hp} {post : AV → Hp → Prop} (ha : args.all AV.plain = true) (hn : args.length ≤ 77) (h : BDs args → awp Try.prog [] F5 (AEnds Try.prog [.tmp 4] post) (initT args) G) : ACalls Try.prog 5 args G post :=
  acalls_cc Try.func5 F5_b F5_rs F5_n F5_ok mixed ha hn h

/- 6 ostiary/ostiarylaw01.BitsReads -/
@[simp] noncomputable def F6_r0 : CC := .reg [⟨some 4, none, (.assign (.const (.bool false)))⟩] [0, 1]
@[simp] noncomputable def F6_r1 : CC := .reg [⟨some 12, none, (.move (.tmp 0))⟩,
  ⟨some 13, none, (.call { callee := (.builtin .len), args := #[(.tmp 12)], argTypes := #[32] })⟩,
  ⟨some 14, none, (.binOp .gtr 3 (.tmp 13) (.const (.int .i64 60)) 3)⟩] [0, 1, 14]
@[simp] noncomputable def F6_r2 : CC := .reg [⟨some 15, none, (.move (.tmp 0))⟩,
  ⟨some 16, none, (.slice 32 (.tmp 15) none (some (.const (.int .i64 60))) none)⟩,
  ⟨some 0, none, (.assign (.tmp 16))⟩] [0, 1]
@[simp] noncomputable def F6_r3 : CC := .reg [⟨some 17, none, (.move (.tmp 0))⟩,
  ⟨some 18, none, (.call { callee := (.value (.func 12)), args := #[(.tmp 17)], argTypes := #[32] })⟩,
  ⟨some 5, none, (.assign (.tmp 18))⟩] [0, 1, 5]
@[simp] noncomputable def F6_r4 : CC := .reg [⟨some 19, none, (.move (.tmp 0))⟩,
  ⟨some 20, none, (.call { callee := (.value (.func 24)), args := #[(.tmp 19)], argTypes := #[32] })⟩,
  ⟨some 21, none, (.build 50 #[(0, (.tmp 20))])⟩,
  ⟨some 22, none, (.box 50 (.tmp 21))⟩,
  ⟨some 6, none, (.assign (.tmp 22))⟩] [1, 5, 6]
@[simp] noncomputable def F6_r5 : CC := .reg [⟨some 23, none, (.move (.tmp 1))⟩,
  ⟨some 24, none, (.call { callee := (.builtin .len), args := #[(.tmp 23)], argTypes := #[46] })⟩,
  ⟨some 25, none, (.move (.const (.int .i64 0)))⟩] [5, 6, 23, 24, 25]
@[simp] noncomputable def F6_r6 : CC := .reg [⟨some 26, none, (.binOp .lss 3 (.tmp 25) (.tmp 24) 3)⟩] [5, 6, 23, 24, 25, 26]
@[simp] noncomputable def F6_r7 : CC := .reg [⟨some 27, none, (.move (.tmp 25))⟩,
  ⟨some 28, none, (.indexAddr 46 (.tmp 23) (.tmp 25))⟩,
  ⟨some 29, none, (.load 52 (.tmp 28))⟩,
  ⟨some 8, none, (.alloc 52)⟩,
  ⟨some 7, none, (.assign (.tmp 27))⟩,
  ⟨none, none, (.store 52 (.tmp 8) (.tmp 29))⟩] [5, 6, 7, 8, 23, 24, 25]
@[simp] noncomputable def F6_r8 : CC := .reg [⟨some 30, none, (.move (.tmp 7))⟩,
  ⟨some 31, none, (.binOp .geq 3 (.tmp 30) (.const (.int .i64 30)) 3)⟩] [5, 6, 8, 23, 24, 25, 31]
@[simp] noncomputable def F6_r9 : CC := .reg [⟨some 9, none, (.assign (.const (.bool true)))⟩] [5, 6, 8, 9, 23, 24, 25]
@[simp] noncomputable def F6_r10 : CC := .reg [⟨some 32, none, (.fieldAddr 52 (.tmp 8) 0)⟩,
  ⟨some 33, none, (.load 3 (.tmp 32))⟩] [5, 6, 8, 9, 23, 24, 25, 33]
@[simp] noncomputable def F6_r11 : CC := .reg [⟨some 35, none, (.binOp .eql 3 (.tmp 33) (.const (.int .i64 0)) 3)⟩,
  ⟨some 34, none, (.assign (.tmp 35))⟩] [5, 6, 8, 9, 23, 24, 25, 33, 34]
@[simp] noncomputable def F6_r12 : CC := .drw [⟨0, ⟨some 36, none, (.move (.tmp 5))⟩, [], []⟩,
  ⟨1, ⟨some 37, none, (.fieldAddr 52 (.tmp 8) 1)⟩, [], []⟩,
  ⟨2, ⟨some 38, none, (.load 3 (.tmp 37))⟩, [], []⟩,
  ⟨4, ⟨some 40, none, (.move (.tmp 6))⟩, [], []⟩,
  ⟨5, ⟨some 41, none, (.fieldAddr 52 (.tmp 8) 1)⟩, [], []⟩,
  ⟨6, ⟨some 42, none, (.load 3 (.tmp 41))⟩, [], []⟩,
  ⟨7, ⟨some 43, none, (.fieldAddr 52 (.tmp 8) 1)⟩, [], []⟩,
  ⟨8, ⟨some 44, none, (.load 3 (.tmp 43))⟩, [], []⟩,
  ⟨3, ⟨some 39, none, (.call { callee := (.value (.func 14)), args := #[(.tmp 36), (.tmp 38)], argTypes := #[30, 3] })⟩, [6, 8], [⟨some 42, none, (.load 3 (.tmp 41))⟩, ⟨some 44, none, (.load 3 (.tmp 43))⟩]⟩,
  ⟨9, ⟨some 45, none, (.call { callee := (.value (.func 10)), args := #[(.tmp 44)], argTypes := #[3] })⟩, [6], [⟨some 42, none, (.load 3 (.tmp 41))⟩]⟩,
  ⟨10, ⟨some 46, none, (.call { callee := (.value (.func 25)), args := #[(.tmp 40), (.tmp 42), (.tmp 45)], argTypes := #[47, 3, 4] })⟩, [], []⟩,
  ⟨11, ⟨some 47, none, (.call { callee := (.value (.func 15)), args := #[(.tmp 46)], argTypes := #[22] })⟩, [], []⟩,
  ⟨12, ⟨some 48, none, (.binOp .eql 29 (.tmp 39) (.tmp 47) 29)⟩, [], []⟩,
  ⟨13, ⟨some 9, none, (.assign (.tmp 48))⟩, [], []⟩] [36, 37, 38, 40, 41, 42, 43, 44, 39, 45, 46, 47, 48, 9] [5, 6, 9, 23, 24, 25]
@[simp] noncomputable def F6_r13 : CC := .reg [⟨some 50, none, (.binOp .eql 3 (.tmp 33) (.const (.int .i64 1)) 3)⟩,
  ⟨some 49, none, (.assign (.tmp 50))⟩] [5, 6, 8, 9, 23, 24, 25, 33, 49]
@[simp] noncomputable def F6_r14 : CC := .reg [⟨some 51, none, (.fieldAddr 52 (.tmp 8) 1)⟩,
  ⟨some 52, none, (.load 3 (.tmp 51))⟩,
  ⟨some 10, none, (.assign (.tmp 52))⟩] [5, 6, 8, 10, 23, 24, 25]
@[simp] noncomputable def F6_r15 : CC := .reg [⟨some 53, none, (.move (.tmp 10))⟩,
  ⟨some 54, none, (.binOp .gtr 3 (.tmp 53) (.const (.int .i64 1000)) 3)⟩] [5, 6, 8, 10, 23, 24, 25, 54]
@[simp] noncomputable def F6_r16 : CC := .reg [⟨some 10, none, (.assign (.const (.int .i64 1000)))⟩] [5, 6, 8, 10, 23, 24, 25]
@[simp] noncomputable def F6_r17 : CC := .drw [⟨0, ⟨some 55, none, (.move (.tmp 5))⟩, [], []⟩,
  ⟨1, ⟨some 56, none, (.fieldAddr 52 (.tmp 8) 1)⟩, [], []⟩,
  ⟨2, ⟨some 57, none, (.load 3 (.tmp 56))⟩, [], []⟩,
  ⟨5, ⟨some 60, none, (.move (.tmp 6))⟩, [], []⟩,
  ⟨6, ⟨some 61, none, (.move (.tmp 10))⟩, [], []⟩,
  ⟨7, ⟨some 62, none, (.binOp .mul 3 (.const (.int .i64 8)) (.tmp 61) 3)⟩, [], []⟩,
  ⟨8, ⟨some 63, none, (.fieldAddr 52 (.tmp 8) 1)⟩, [], []⟩,
  ⟨9, ⟨some 64, none, (.load 3 (.tmp 63))⟩, [], []⟩,
  ⟨10, ⟨some 65, none, (.binOp .geq 3 (.tmp 64) (.const (.int .i64 0)) 3)⟩, [], []⟩,
  ⟨3, ⟨some 58, none, (.call { callee := (.value (.func 26)), args := #[(.tmp 55), (.tmp 57)], argTypes := #[30, 3] })⟩, [9], [⟨some 64, none, (.load 3 (.tmp 63))⟩]⟩,
  ⟨4, ⟨some 59, none, (.convert 32 9 (.tmp 58))⟩, [], []⟩,
  ⟨11, ⟨some 66, none, (.call { callee := (.value (.func 25)), args := #[(.tmp 60), (.tmp 62), (.tmp 65)], argTypes := #[47, 3, 4] })⟩, [4], [⟨some 59, none, (.convert 32 9 (.tmp 58))⟩]⟩,
  ⟨12, ⟨some 67, none, (.call { callee := (.value (.func 27)), args := #[(.tmp 66)], argTypes := #[22] })⟩, [4], [⟨some 59, none, (.convert 32 9 (.tmp 58))⟩]⟩,
  ⟨13, ⟨some 68, none, (.convert 32 9 (.tmp 67))⟩, [], []⟩,
  ⟨14, ⟨some 69, none, (.binOp .eql 9 (.tmp 59) (.tmp 68) 9)⟩, [], []⟩,
  ⟨15, ⟨some 9, none, (.assign (.tmp 69))⟩, [], []⟩] [55, 56, 57, 60, 61, 62, 63, 64, 65, 58, 59, 66, 67, 68, 69, 9] [5, 6, 9, 23, 24, 25]
@[simp] noncomputable def F6_r18 : CC := .reg [⟨some 71, none, (.binOp .eql 3 (.tmp 33) (.const (.int .i64 2)) 3)⟩,
  ⟨some 70, none, (.assign (.tmp 71))⟩] [5, 6, 8, 9, 23, 24, 25, 33, 70]
@[simp] noncomputable def F6_r19 : CC := .reg [⟨some 72, none, (.move (.tmp 5))⟩,
  ⟨some 73, none, (.fieldAddr 52 (.tmp 8) 1)⟩,
  ⟨some 74, none, (.load 3 (.tmp 73))⟩,
  ⟨some 75, none, (.call { callee := (.value (.func 20)), args := #[(.tmp 72), (.tmp 74)], argTypes := #[30, 3] })⟩] [5, 6, 8, 9, 23, 24, 25]
@[simp] noncomputable def F6_r20 : CC := .reg [⟨some 76, none, (.move (.tmp 6))⟩,
  ⟨some 77, none, (.fieldAddr 52 (.tmp 8) 1)⟩,
  ⟨some 78, none, (.load 3 (.tmp 77))⟩,
  ⟨some 79, none, (.call { callee := (.value (.func 25)), args := #[(.tmp 76), (.tmp 78), (.const (.bool true))], argTypes := #[47, 3, 4] })⟩] [5, 6, 9, 23, 24, 25]
@[simp] noncomputable def F6_r21 : CC := .reg [⟨some 81, none, (.binOp .eql 3 (.tmp 33) (.const (.int .i64 3)) 3)⟩,
  ⟨some 80, none, (.assign (.tmp 81))⟩] [5, 6, 9, 23, 24, 25, 80]
@[simp] noncomputable def F6_r22 : CC := .drw [⟨0, ⟨some 82, none, (.move (.tmp 5))⟩, [], []⟩,
  ⟨3, ⟨some 85, none, (.move (.tmp 6))⟩, [], []⟩,
  ⟨4, ⟨some 86, none, (.move (.tmp 6))⟩, [], []⟩,
  ⟨5, ⟨some 87, none, (.nilCheck (.tmp 86))⟩, [], []⟩,
  ⟨6, ⟨some 88, none, (.fieldAddr 50 (.tmp 87) 0)⟩, [], []⟩,
  ⟨7, ⟨some 89, none, (.load 22 (.tmp 88))⟩, [], []⟩,
  ⟨8, ⟨some 90, none, (.call { callee := (.builtin .len), args := #[(.tmp 89)], argTypes := #[22] })⟩, [], []⟩,
  ⟨9, ⟨some 91, none, (.move (.tmp 6))⟩, [], []⟩,
  ⟨10, ⟨some 92, none, (.nilCheck (.tmp 91))⟩, [], []⟩,
  ⟨11, ⟨some 93, none, (.fieldAddr 50 (.tmp 92) 1)⟩, [], []⟩,
  ⟨12, ⟨some 94, none, (.load 3 (.tmp 93))⟩, [], []⟩,
  ⟨13, ⟨some 95, none, (.binOp .sub 3 (.tmp 90) (.tmp 94) 3)⟩, [], []⟩,
  ⟨14, ⟨some 96, none, (.binOp .quo 3 (.tmp 95) (.const (.int .i64 8)) 3)⟩, [], []⟩,
  ⟨15, ⟨some 97, none, (.binOp .mul 3 (.tmp 96) (.const (.int .i64 8)) 3)⟩, [], []⟩,
  ⟨1, ⟨some 83, none, (.call { callee := (.value (.func 28)), args := #[(.tmp 82)], argTypes := #[30] })⟩, [7, 12], [⟨some 89, none, (.load 22 (.tmp 88))⟩, ⟨some 94, none, (.load 3 (.tmp 93))⟩]⟩,
  ⟨2, ⟨some 84, none, (.convert 32 9 (.tmp 83))⟩, [], []⟩,
  ⟨16, ⟨some 98, none, (.call { callee := (.value (.func 25)), args := #[(.tmp 85), (.tmp 97), (.const (.bool true))], argTypes := #[47, 3, 4] })⟩, [2], [⟨some 84, none, (.convert 32 9 (.tmp 83))⟩]⟩,
  ⟨17, ⟨some 99, none, (.call { callee := (.value (.func 27)), args := #[(.tmp 98)], argTypes := #[22] })⟩, [2], [⟨some 84, none, (.convert 32 9 (.tmp 83))⟩]⟩,
  ⟨18, ⟨some 100, none, (.convert 32 9 (.tmp 99))⟩, [], []⟩,
  ⟨19, ⟨some 101, none, (.binOp .eql 9 (.tmp 84) (.tmp 100) 9)⟩, [], []⟩,
  ⟨20, ⟨some 9, none, (.assign (.tmp 101))⟩, [], []⟩] [82, 85, 86, 87, 88, 89, 90, 91, 92, 93, 94, 95, 96, 97, 83, 84, 98, 99, 100, 101, 9] [5, 6, 9, 23, 24, 25]
@[simp] noncomputable def F6_r23 : CC := .drw [⟨0, ⟨some 102, none, (.move (.tmp 6))⟩, [], []⟩,
  ⟨1, ⟨some 103, none, (.nilCheck (.tmp 102))⟩, [], []⟩,
  ⟨2, ⟨some 104, none, (.fieldAddr 50 (.tmp 103) 0)⟩, [], []⟩,
  ⟨3, ⟨some 105, none, (.load 22 (.tmp 104))⟩, [], []⟩,
  ⟨4, ⟨some 106, none, (.call { callee := (.builtin .len), args := #[(.tmp 105)], argTypes := #[22] })⟩, [], []⟩,
  ⟨5, ⟨some 107, none, (.move (.tmp 6))⟩, [], []⟩,
  ⟨6, ⟨some 108, none, (.nilCheck (.tmp 107))⟩, [], []⟩,
  ⟨7, ⟨some 109, none, (.fieldAddr 50 (.tmp 108) 1)⟩, [], []⟩,
  ⟨8, ⟨some 110, none, (.load 3 (.tmp 109))⟩, [], []⟩,
  ⟨9, ⟨some 111, none, (.binOp .sub 3 (.tmp 106) (.tmp 110) 3)⟩, [], []⟩,
  ⟨10, ⟨some 11, none, (.assign (.tmp 111))⟩, [], []⟩] [102, 103, 104, 105, 106, 107, 108, 109, 110, 111, 11] [5, 6, 9, 11, 23, 24, 25]
@[simp] noncomputable def F6_r24 : CC := .reg [⟨some 112, none, (.move (.tmp 6))⟩,
  ⟨some 113, none, (.nilCheck (.tmp 112))⟩,
  ⟨some 114, none, (.fieldAddr 50 (.tmp 113) 2)⟩,
  ⟨some 115, none, (.load 27 (.tmp 114))⟩,
  ⟨some 116, none, (.binOp .neq 27 (.tmp 115) (.const (.int .i64 0)) 27)⟩] [5, 6, 9, 11, 23, 24, 25, 116]
@[simp] noncomputable def F6_r25 : CC := .reg [⟨some 11, none, (.assign (.const (.int .i64 0)))⟩] [5, 6, 9, 11, 23, 24, 25]
@[simp] noncomputable def F6_r26 : CC := .drw [⟨0, ⟨some 117, none, (.move (.tmp 9))⟩, [], []⟩,
  ⟨1, ⟨some 118, none, (.unOp .not 4 (.tmp 117))⟩, [], []⟩,
  ⟨2, ⟨some 119, none, (.move (.tmp 118))⟩, [], []⟩,
  ⟨3, ⟨some 120, some (119, false), (.move (.tmp 5))⟩, [], []⟩,
  ⟨5, ⟨some 122, some (119, false), (.move (.tmp 6))⟩, [], []⟩,
  ⟨6, ⟨some 123, some (119, false), (.nilCheck (.tmp 122))⟩, [], []⟩,
  ⟨7, ⟨some 124, some (119, false), (.fieldAddr 50 (.tmp 123) 2)⟩, [], []⟩,
  ⟨8, ⟨some 125, some (119, false), (.load 27 (.tmp 124))⟩, [], []⟩,
  ⟨4, ⟨some 121, some (119, false), (.call { callee := (.value (.func 17)), args := #[(.tmp 120)], argTypes := #[30] })⟩, [8], [⟨some 125, some (119, false), (.load 27 (.tmp 124))⟩]⟩,
  ⟨9, ⟨some 126, some (119, false), (.binOp .neq 27 (.tmp 121) (.tmp 125) 27)⟩, [], []⟩,
  ⟨10, ⟨some 127, none, (.pick (.tmp 119) (.const (.bool true)) (.tmp 126))⟩, [], []⟩,
  ⟨11, ⟨some 128, none, (.move (.tmp 127))⟩, [], []⟩,
  ⟨12, ⟨some 129, some (128, false), (.move (.tmp 5))⟩, [], []⟩,
  ⟨14, ⟨some 131, some (128, false), (.move (.tmp 6))⟩, [], []⟩,
  ⟨15, ⟨some 132, some (128, false), (.nilCheck (.tmp 131))⟩, [], []⟩,
  ⟨16, ⟨some 133, some (128, false), (.fieldAddr 50 (.tmp 132) 1)⟩, [], []⟩,
  ⟨17, ⟨some 134, some (128, false), (.load 3 (.tmp 133))⟩, [], []⟩,
  ⟨13, ⟨some 130, some (128, false), (.call { callee := (.value (.func 21)), args := #[(.tmp 129)], argTypes := #[30] })⟩, [17], [⟨some 134, some (128, false), (.load 3 (.tmp 133))⟩]⟩,
  ⟨18, ⟨some 135, some (128, false), (.binOp .neq 3 (.tmp 130) (.tmp 134) 3)⟩, [], []⟩,
  ⟨19, ⟨some 136, none, (.pick (.tmp 128) (.const (.bool true)) (.tmp 135))⟩, [], []⟩,
  ⟨20, ⟨some 137, none, (.move (.tmp 136))⟩, [], []⟩,
  ⟨21, ⟨some 138, some (137, false), (.move (.tmp 5))⟩, [], []⟩,
  ⟨23, ⟨some 140, some (137, false), (.move (.tmp 11))⟩, [], []⟩,
  ⟨22, ⟨some 139, some (137, false), (.call { callee := (.value (.func 18)), args := #[(.tmp 138)], argTypes := #[30] })⟩, [], []⟩,
  ⟨24, ⟨some 141, some (137, false), (.binOp .neq 3 (.tmp 139) (.tmp 140) 3)⟩, [], []⟩,
  ⟨25, ⟨some 142, none, (.pick (.tmp 137) (.const (.bool true)) (.tmp 141))⟩, [], []⟩] [117, 118, 119, 120, 122, 123, 124, 125, 121, 126, 127, 128, 129, 131, 132, 133, 134, 130, 135, 136, 137, 138, 140, 139, 141, 142] [5, 6, 23, 24, 25, 142]
@[simp] noncomputable def F6_r27 : CC := .reg [⟨some 4, none, (.assign (.const (.bool false)))⟩] [4]
@[simp] noncomputable def F6_r28 : CC := .reg [⟨some 143, none, (.binOp .add 3 (.tmp 25) (.const (.int .i64 1)) 3)⟩,
  ⟨some 25, none, (.move (.tmp 143))⟩] [5, 6, 23, 24, 25]
noncomputable def F6_l0 : CC := (.seq F6_r6 (.seq (.cond (.tmp 26) .skip (.exit 0)) (.seq (.block 1 (.seq F6_r7 (.seq (.seq F6_r8 (.cond (.tmp 31) (.exit 0) .skip)) (.seq F6_r9 (.seq (.seq F6_r10 (.block 2 (.seq F6_r11 (.cond (.tmp 34) F6_r12 (.seq F6_r13 (.cond (.tmp 49) (.seq F6_r14 (.seq (.seq F6_r15 (.cond (.tmp 54) F6_r16 .skip)) F6_r17)) (.seq F6_r18 (.cond (.tmp 70) (.seq F6_r19 F6_r20) (.seq F6_r21 (.cond (.tmp 80) F6_r22 .skip)))))))))) (.seq F6_r23 (.seq (.seq F6_r24 (.cond (.tmp 116) F6_r25 .skip)) (.seq F6_r26 (.cond (.tmp 142) (.seq F6_r27 .ret) .skip))))))))) F6_r28)))
@[simp] noncomputable def F6_r29 : CC := .drw [⟨0, ⟨some 144, none, (.move (.tmp 5))⟩, [], []⟩,
  ⟨2, ⟨some 146, none, (.move (.tmp 6))⟩, [], []⟩,
  ⟨3, ⟨some 147, none, (.nilCheck (.tmp 146))⟩, [], []⟩,
  ⟨4, ⟨some 148, none, (.fieldAddr 50 (.tmp 147) 2)⟩, [], []⟩,
  ⟨5, ⟨some 149, none, (.load 27 (.tmp 148))⟩, [], []⟩,
  ⟨1, ⟨some 145, none, (.call { callee := (.value (.func 17)), args := #[(.tmp 144)], argTypes := #[30] })⟩, [5], [⟨some 149, none, (.load 27 (.tmp 148))⟩]⟩,
  ⟨6, ⟨some 150, none, (.binOp .eql 27 (.tmp 145) (.tmp 149) 27)⟩, [], []⟩,
  ⟨7, ⟨some 151, none, (.move (.tmp 150))⟩, [], []⟩,
  ⟨8, ⟨some 152, some (151, true), (.call { callee := (.value (.func 19)), args := #[], argTypes := #[] })⟩, [], []⟩,
  ⟨9, ⟨some 153, none, (.pick (.tmp 151) (.tmp 152) (.const (.bool false)))⟩, [], []⟩,
  ⟨10, ⟨some 4, none, (.assign (.tmp 153))⟩, [], []⟩] [144, 146, 147, 148, 149, 145, 150, 151, 152, 153, 4] [4]
noncomputable def F6 : CC := (.seq F6_r0 (.seq (.seq F6_r1 (.cond (.tmp 14) F6_r2 .skip)) (.seq F6_r3 (.seq F6_r4 (.seq (.seq F6_r5 (.block 0 (.loop F6_l0))) (.seq F6_r29 .ret))))))
noncomputable def F6_inf : Nat → RI
  | 0 => ⟨[0, 1], [], []⟩
  | 1 => ⟨[0, 1, 14], [], []⟩
  | 2 => ⟨[0, 1], [], []⟩
  | 3 => ⟨[0, 1, 5], [], []⟩
  | 4 => ⟨[1, 5, 6], [], []⟩
  | 5 => ⟨[5, 6, 23, 24, 25], [], []⟩
  | 6 => ⟨[5, 6, 23, 24, 25, 26], [], []⟩
  | 7 => ⟨[5, 6, 7, 8, 23, 24, 25], [], []⟩
  | 8 => ⟨[5, 6, 8, 23, 24, 25, 31], [], []⟩
  | 9 => ⟨[5, 6, 8, 9, 23, 24, 25], [], []⟩
  | 10 => ⟨[5, 6, 8, 9, 23, 24, 25, 33], [], []⟩
  | 11 => ⟨[5, 6, 8, 9, 23, 24, 25, 33, 34], [], []⟩
  | 12 => ⟨[5, 6, 9, 23, 24, 25], [0, 0, 2, 7, 0, 0, 32, 0, 128, 399, 1023, 2047, 4095, 8191], [(0, []), (1, []), (2, []), (4, []), (5, []), (6, []), (7, []), (8, []), (3, [6, 8]), (9, [6]), (10, []), (11, []), (12, []), (13, [])]⟩
  | 13 => ⟨[5, 6, 8, 9, 23, 24, 25, 33, 49], [], []⟩
  | 14 => ⟨[5, 6, 8, 10, 23, 24, 25], [], []⟩
  | 15 => ⟨[5, 6, 8, 10, 23, 24, 25, 54], [], []⟩
  | 16 => ⟨[5, 6, 8, 10, 23, 24, 25], [], []⟩
  | 17 => ⟨[5, 6, 9, 23, 24, 25], [0, 0, 2, 7, 15, 0, 0, 64, 0, 256, 768, 2031, 4079, 8175, 16383, 32767], [(0, []), (1, []), (2, []), (5, []), (6, []), (7, []), (8, []), (9, []), (10, []), (3, [9]), (4, []), (11, [4]), (12, [4]), (13, []), (14, []), (15, [])]⟩
  | 18 => ⟨[5, 6, 8, 9, 23, 24, 25, 33, 70], [], []⟩
  | 19 => ⟨[5, 6, 8, 9, 23, 24, 25], [], []⟩
  | 20 => ⟨[5, 6, 9, 23, 24, 25], [], []⟩
  | 21 => ⟨[5, 6, 9, 23, 24, 25, 80], [], []⟩
  | 22 => ⟨[5, 6, 9, 23, 24, 25], [0, 1, 3, 0, 0, 16, 48, 112, 240, 0, 512, 1536, 3584, 8176, 16368, 32752, 65531, 131067, 262139, 524287, 1048575], [(0, []), (3, []), (4, []), (5, []), (6, []), (7, []), (8, []), (9, []), (10, []), (11, []), (12, []), (13, []), (14, []), (15, []), (1, [7, 12]), (2, []), (16, [2]), (17, [2]), (18, []), (19, []), (20, [])]⟩
  | 23 => ⟨[5, 6, 9, 11, 23, 24, 25], [0, 1, 3, 7, 15, 0, 32, 96, 224, 511, 1023], [(0, []), (1, []), (2, []), (3, []), (4, []), (5, []), (6, []), (7, []), (8, []), (9, []), (10, [])]⟩
  | 24 => ⟨[5, 6, 9, 11, 23, 24, 25, 116], [], []⟩
  | 25 => ⟨[5, 6, 9, 11, 23, 24, 25], [], []⟩
  | 26 => ⟨[5, 6, 23, 24, 25, 142], [0, 1, 3, 7, 15, 7, 39, 103, 231, 511, 1023, 2047, 4095, 8191, 4095, 20479, 53247, 118783, 262143, 524287, 1048575, 2097151, 4194303, 2097151, 16777215, 33554431], [(0, []), (1, []), (2, []), (3, []), (5, []), (6, []), (7, []), (8, []), (4, [8]), (9, []), (10, []), (11, []), (12, []), (14, []), (15, []), (16, []), (17, []), (13, [17]), (18, []), (19, []), (20, []), (21, []), (23, []), (22, []), (24, []), (25, [])]⟩
  | 27 => ⟨[4], [], []⟩
  | 28 => ⟨[5, 6, 23, 24, 25], [], []⟩
  | 29 => ⟨[4], [0, 1, 0, 4, 12, 28, 63, 127, 255, 511, 1023], [(0, []), (2, []), (3, []), (4, []), (5, []), (1, [5]), (6, []), (7, []), (8, []), (9, []), (10, [])]⟩
  | _ => ⟨[], [], []⟩
noncomputable def F6_c : Code := Try.f6.body.getD .skip
theorem F6_b : Try.f6.body = some F6_c := by kernel_rfl
theorem F6_rs : Try.f6.results.toList = ([.tmp 4] : List ResultVar) := by kernel_rfl
theorem F6_n : Try.f6.ntmps = 154 := by kernel_rfl
theorem F6_ok : toCC [22] 154 F6_inf F6_c = some F6 := by kernel_rfl
theorem F6_in {args : List AV} {G : Hp} {post : AV → Hp → Prop} (ha : args.all AV.plain = true) (hn : args.length ≤ 154) (h : BDs args → awp Try.prog [22] F6 (AEnds Try.prog [.tmp 4] post) (initT args) G) : ACalls Try.prog 6 args G post :=
  acalls_cc Try.func6 F6_b F6_rs F6_n F6_ok mixed ha hn h

/- 7 ostiary/ostiarylaw01.BitsWrites -/
@[simp] noncomputable def F7_r0 : CC := .reg [⟨some 4, none, (.assign (.const (.bool false)))⟩] [0, 1]
@[simp] noncomputable def F7_r1 : CC := .reg [⟨some 14, none, (.move (.tmp 0))⟩,
  ⟨some 15, none, (.call { callee := (.builtin .len), args := #[(.tmp 14)], argTypes := #[32] })⟩,
  ⟨some 16, none, (.binOp .gtr 3 (.tmp 15) (.const (.int .i64 40)) 3)⟩] [0, 1, 16]
@[simp] noncomputable def F7_r2 : CC := .reg [⟨some 17, none, (.move (.tmp 0))⟩,
  ⟨some 18, none, (.slice 32 (.tmp 17) none (some (.const (.int .i64 40))) none)⟩,
  ⟨some 0, none, (.assign (.tmp 18))⟩] [0, 1]
@[simp] noncomputable def F7_r3 : CC := .reg [⟨some 19, none, (.buildSlice 32 0 #[])⟩,
  ⟨some 20, none, (.move (.tmp 0))⟩,
  ⟨some 21, none, (.call { callee := (.builtin .append), args := #[(.tmp 19), (.tmp 20)], argTypes := #[32, 32] })⟩,
  ⟨some 5, none, (.assign (.tmp 21))⟩] [0, 1, 5]
@[simp] noncomputable def F7_r4 : CC := .drw [⟨0, ⟨some 22, none, (.move (.tmp 5))⟩, [], []⟩,
  ⟨1, ⟨some 23, none, (.move (.tmp 5))⟩, [], []⟩,
  ⟨2, ⟨some 24, none, (.call { callee := (.builtin .len), args := #[(.tmp 23)], argTypes := #[32] })⟩, [], []⟩,
  ⟨3, ⟨some 25, none, (.binOp .quo 3 (.tmp 24) (.const (.int .i64 2)) 3)⟩, [], []⟩,
  ⟨4, ⟨some 26, none, (.slice 32 (.tmp 22) none (some (.tmp 25)) none)⟩, [], []⟩,
  ⟨5, ⟨some 27, none, (.move (.tmp 5))⟩, [], []⟩,
  ⟨6, ⟨some 28, none, (.move (.tmp 5))⟩, [], []⟩,
  ⟨7, ⟨some 29, none, (.call { callee := (.builtin .len), args := #[(.tmp 28)], argTypes := #[32] })⟩, [], []⟩,
  ⟨8, ⟨some 30, none, (.binOp .quo 3 (.tmp 29) (.const (.int .i64 2)) 3)⟩, [], []⟩,
  ⟨9, ⟨some 31, none, (.slice 32 (.tmp 27) (some (.tmp 30)) none none)⟩, [], []⟩,
  ⟨10, ⟨some 32, none, (.buildSlice 65 2 #[(0, (.tmp 26)), (1, (.tmp 31))])⟩, [], []⟩,
  ⟨11, ⟨some 33, none, (.call { callee := (.value (.func 9)), args := #[(.tmp 32)], argTypes := #[65] })⟩, [], []⟩,
  ⟨12, ⟨some 6, none, (.assign (.tmp 33))⟩, [], []⟩] [22, 23, 24, 25, 26, 27, 28, 29, 30, 31, 32, 33, 6] [0, 1, 5, 6]
@[simp] noncomputable def F7_r5 : CC := .reg [⟨some 34, none, (.move (.tmp 5))⟩,
  ⟨some 35, none, (.call { callee := (.builtin .len), args := #[(.tmp 34)], argTypes := #[32] })⟩,
  ⟨some 36, none, (.move (.const (.int .i64 0)))⟩] [0, 1, 5, 6, 35, 36]
@[simp] noncomputable def F7_r6 : CC := .reg [⟨some 37, none, (.binOp .lss 3 (.tmp 36) (.tmp 35) 3)⟩] [0, 1, 5, 6, 35, 36, 37]
@[simp] noncomputable def F7_r7 : CC := .reg [⟨some 38, none, (.move (.tmp 36))⟩,
  ⟨some 7, none, (.assign (.tmp 38))⟩] [0, 1, 5, 6, 7, 35, 36]
@[simp] noncomputable def F7_r8 : CC := .reg [⟨some 39, none, (.move (.tmp 5))⟩,
  ⟨some 40, none, (.move (.tmp 7))⟩,
  ⟨some 41, none, (.indexAddr 32 (.tmp 39) (.tmp 40))⟩,
  ⟨some 42, none, (.load 5 (.tmp 41))⟩,
  ⟨some 43, none, (.binOp .xor 5 (.tmp 42) (.const (.int .u8 5)) 5)⟩,
  ⟨some 44, none, (.indexAddr 32 (.tmp 39) (.tmp 40))⟩,
  ⟨none, none, (.store 5 (.tmp 44) (.tmp 43))⟩] [0, 1, 5, 6, 35, 36]
@[simp] noncomputable def F7_r9 : CC := .reg [⟨some 45, none, (.binOp .add 3 (.tmp 36) (.const (.int .i64 1)) 3)⟩,
  ⟨some 36, none, (.move (.tmp 45))⟩] [0, 1, 5, 6, 35, 36]
noncomputable def F7_l0 : CC := (.seq F7_r6 (.seq (.cond (.tmp 37) .skip (.exit 0)) (.seq (.block 1 (.seq F7_r7 F7_r8)) F7_r9)))
@[simp] noncomputable def F7_r10 : CC := .reg [⟨some 46, none, (.move (.tmp 0))⟩,
  ⟨some 47, none, (.call { callee := (.value (.func 24)), args := #[(.tmp 46)], argTypes := #[32] })⟩,
  ⟨some 8, none, (.assign (.tmp 47))⟩] [1, 6, 8]
@[simp] noncomputable def F7_r11 : CC := .reg [⟨some 9, none, (.assign (.const (.bool true)))⟩] [1, 6, 8, 9]
@[simp] noncomputable def F7_r12 : CC := .reg [⟨some 48, none, (.move (.tmp 1))⟩,
  ⟨some 49, none, (.call { callee := (.builtin .len), args := #[(.tmp 48)], argTypes := #[57] })⟩,
  ⟨some 50, none, (.move (.const (.int .i64 0)))⟩] [6, 8, 9, 48, 49, 50]
@[simp] noncomputable def F7_r13 : CC := .reg [⟨some 51, none, (.binOp .lss 3 (.tmp 50) (.tmp 49) 3)⟩] [6, 8, 9, 48, 49, 50, 51]
@[simp] noncomputable def F7_r14 : CC := .reg [⟨some 52, none, (.move (.tmp 50))⟩,
  ⟨some 53, none, (.indexAddr 57 (.tmp 48) (.tmp 50))⟩,
  ⟨some 54, none, (.load 59 (.tmp 53))⟩,
  ⟨some 11, none, (.alloc 59)⟩,
  ⟨some 10, none, (.assign (.tmp 52))⟩,
  ⟨none, none, (.store 59 (.tmp 11) (.tmp 54))⟩] [6, 8, 9, 10, 11, 48, 49, 50]
@[simp] noncomputable def F7_r15 : CC := .reg [⟨some 55, none, (.move (.tmp 10))⟩,
  ⟨some 56, none, (.binOp .geq 3 (.tmp 55) (.const (.int .i64 30)) 3)⟩,
  ⟨some 57, none, (.move (.tmp 56))⟩,
  ⟨some 58, some (57, false), (.move (.tmp 9))⟩,
  ⟨some 59, some (57, false), (.unOp .not 4 (.tmp 58))⟩,
  ⟨some 60, none, (.pick (.tmp 57) (.const (.bool true)) (.tmp 59))⟩] [6, 8, 9, 11, 48, 49, 50, 60]
@[simp] noncomputable def F7_r16 : CC := .reg [⟨some 62, none, (.move (.tmp 6))⟩,
  ⟨some 63, none, (.move (.tmp 8))⟩,
  ⟨some 64, none, (.load 59 (.tmp 11))⟩,
  ⟨some 65, none, (.call { callee := (.value (.func 29)), args := #[(.tmp 62), (.tmp 63), (.tmp 64)], argTypes := #[24, 22, 59] })⟩,
  ⟨some 61, none, (.move (.tmp 65))⟩,
  ⟨some 66, none, (.extract (.tmp 61) 0)⟩,
  ⟨some 67, none, (.extract (.tmp 61) 1)⟩,
  ⟨some 8, none, (.assign (.tmp 66))⟩,
  ⟨some 9, none, (.assign (.tmp 67))⟩] [6, 8, 9, 48, 49, 50]
@[simp] noncomputable def F7_r17 : CC := .reg [⟨some 68, none, (.move (.tmp 6))⟩,
  ⟨some 69, none, (.call { callee := (.value (.func 13)), args := #[(.tmp 68)], argTypes := #[24] })⟩,
  ⟨some 12, none, (.assign (.tmp 69))⟩] [6, 8, 9, 12, 48, 49, 50]
@[simp] noncomputable def F7_r18 : CC := .drw [⟨0, ⟨some 70, none, (.move (.tmp 9))⟩, [], []⟩,
  ⟨1, ⟨some 71, none, (.move (.tmp 70))⟩, [], []⟩,
  ⟨2, ⟨some 72, some (71, true), (.move (.tmp 6))⟩, [], []⟩,
  ⟨4, ⟨some 74, some (71, true), (.move (.tmp 8))⟩, [], []⟩,
  ⟨5, ⟨some 75, some (71, true), (.call { callee := (.builtin .len), args := #[(.tmp 74)], argTypes := #[22] })⟩, [], []⟩,
  ⟨3, ⟨some 73, some (71, true), (.call { callee := (.value (.func 22)), args := #[(.tmp 72)], argTypes := #[24] })⟩, [], []⟩,
  ⟨6, ⟨some 76, some (71, true), (.binOp .eql 3 (.tmp 73) (.tmp 75) 3)⟩, [], []⟩,
  ⟨7, ⟨some 77, none, (.pick (.tmp 71) (.tmp 76) (.const (.bool false)))⟩, [], []⟩,
  ⟨8, ⟨some 78, none, (.move (.tmp 77))⟩, [], []⟩,
  ⟨9, ⟨some 79, some (78, true), (.move (.tmp 12))⟩, [], []⟩,
  ⟨10, ⟨some 80, some (78, true), (.convert 32 9 (.tmp 79))⟩, [], []⟩,
  ⟨11, ⟨some 81, some (78, true), (.move (.tmp 8))⟩, [], []⟩,
  ⟨12, ⟨some 82, some (78, true), (.call { callee := (.value (.func 27)), args := #[(.tmp 81)], argTypes := #[22] })⟩, [10], [⟨some 80, some (78, true), (.convert 32 9 (.tmp 79))⟩]⟩,
  ⟨13, ⟨some 83, some (78, true), (.convert 32 9 (.tmp 82))⟩, [], []⟩,
  ⟨14, ⟨some 84, some (78, true), (.binOp .eql 9 (.tmp 80) (.tmp 83) 9)⟩, [], []⟩,
  ⟨15, ⟨some 85, none, (.pick (.tmp 78) (.tmp 84) (.const (.bool false)))⟩, [], []⟩,
  ⟨16, ⟨some 9, none, (.assign (.tmp 85))⟩, [], []⟩] [70, 71, 72, 74, 75, 73, 76, 77, 78, 79, 80, 81, 82, 83, 84, 85, 9] [6, 8, 9, 12, 48, 49, 50]
@[simp] noncomputable def F7_r19 : CC := .reg [⟨some 86, none, (.move (.tmp 12))⟩,
  ⟨some 87, none, (.call { callee := (.builtin .len), args := #[(.tmp 86)], argTypes := #[32] })⟩,
  ⟨some 88, none, (.move (.const (.int .i64 0)))⟩] [6, 8, 9, 12, 48, 49, 50, 87, 88]
@[simp] noncomputable def F7_r20 : CC := .reg [⟨some 89, none, (.binOp .lss 3 (.tmp 88) (.tmp 87) 3)⟩] [6, 8, 9, 12, 48, 49, 50, 87, 88, 89]
@[simp] noncomputable def F7_r21 : CC := .reg [⟨some 90, none, (.move (.tmp 88))⟩,
  ⟨some 13, none, (.assign (.tmp 90))⟩] [6, 8, 9, 12, 13, 48, 49, 50, 87, 88]
@[simp] noncomputable def F7_r22 : CC := .reg [⟨some 91, none, (.move (.tmp 12))⟩,
  ⟨some 92, none, (.move (.tmp 13))⟩,
  ⟨some 93, none, (.indexAddr 32 (.tmp 91) (.tmp 92))⟩,
  ⟨some 94, none, (.load 5 (.tmp 93))⟩,
  ⟨some 95, none, (.binOp .xor 5 (.tmp 94) (.const (.int .u8 3)) 5)⟩,
  ⟨some 96, none, (.indexAddr 32 (.tmp 91) (.tmp 92))⟩,
  ⟨none, none, (.store 5 (.tmp 96) (.tmp 95))⟩] [6, 8, 9, 12, 48, 49, 50, 87, 88]
@[simp] noncomputable def F7_r23 : CC := .reg [⟨some 97, none, (.binOp .add 3 (.tmp 88) (.const (.int .i64 1)) 3)⟩,
  ⟨some 88, none, (.move (.tmp 97))⟩] [6, 8, 9, 12, 48, 49, 50, 87, 88]
noncomputable def F7_l1 : CC := (.seq F7_r20 (.seq (.cond (.tmp 89) .skip (.exit 4)) (.seq (.block 5 (.seq F7_r21 F7_r22)) F7_r23)))
@[simp] noncomputable def F7_r24 : CC := .reg [⟨some 98, none, (.binOp .add 3 (.tmp 50) (.const (.int .i64 1)) 3)⟩,
  ⟨some 50, none, (.move (.tmp 98))⟩] [6, 8, 9, 48, 49, 50]
noncomputable def F7_l2 : CC := (.seq F7_r13 (.seq (.cond (.tmp 51) .skip (.exit 2)) (.seq (.block 3 (.seq F7_r14 (.seq (.seq F7_r15 (.cond (.tmp 60) (.exit 2) .skip)) (.seq F7_r16 (.seq F7_r17 (.seq F7_r18 (.seq F7_r19 (.block 4 (.loop F7_l1))))))))) F7_r24)))
@[simp] noncomputable def F7_r25 : CC := .drw [⟨0, ⟨some 99, none, (.move (.tmp 9))⟩, [], []⟩,
  ⟨1, ⟨some 100, none, (.move (.tmp 99))⟩, [], []⟩,
  ⟨2, ⟨some 101, some (100, true), (.move (.tmp 6))⟩, [], []⟩,
  ⟨5, ⟨some 104, some (100, true), (.move (.tmp 8))⟩, [], []⟩,
  ⟨3, ⟨some 102, some (100, true), (.call { callee := (.value (.func 13)), args := #[(.tmp 101)], argTypes := #[24] })⟩, [], []⟩,
  ⟨4, ⟨some 103, some (100, true), (.convert 32 9 (.tmp 102))⟩, [], []⟩,
  ⟨6, ⟨some 105, some (100, true), (.call { callee := (.value (.func 27)), args := #[(.tmp 104)], argTypes := #[22] })⟩, [4], [⟨some 103, some (100, true), (.convert 32 9 (.tmp 102))⟩]⟩,
  ⟨7, ⟨some 106, some (100, true), (.convert 32 9 (.tmp 105))⟩, [], []⟩,
  ⟨8, ⟨some 107, some (100, true), (.binOp .eql 9 (.tmp 103) (.tmp 106) 9)⟩, [], []⟩,
  ⟨9, ⟨some 108, none, (.pick (.tmp 100) (.tmp 107) (.const (.bool false)))⟩, [], []⟩,
  ⟨10, ⟨some 109, none, (.move (.tmp 108))⟩, [], []⟩,
  ⟨11, ⟨some 110, some (109, true), (.call { callee := (.value (.func 19)), args := #[], argTypes := #[] })⟩, [], []⟩,
  ⟨12, ⟨some 111, none, (.pick (.tmp 109) (.tmp 110) (.const (.bool false)))⟩, [], []⟩,
  ⟨13, ⟨some 4, none, (.assign (.tmp 111))⟩, [], []⟩] [99, 100, 101, 104, 102, 103, 105, 106, 107, 108, 109, 110, 111, 4] [4]
noncomputable def F7 : CC := (.seq F7_r0 (.seq (.seq F7_r1 (.cond (.tmp 16) F7_r2 .skip)) (.seq F7_r3 (.seq F7_r4 (.seq (.seq F7_r5 (.block 0 (.loop F7_l0))) (.seq F7_r10 (.seq F7_r11 (.seq (.seq F7_r12 (.block 2 (.loop F7_l2))) (.seq F7_r25 .ret)))))))))
noncomputable def F7_inf : Nat → RI
  | 0 => ⟨[0, 1], [], []⟩
  | 1 => ⟨[0, 1, 16], [], []⟩
  | 2 => ⟨[0, 1], [], []⟩
  | 3 => ⟨[0, 1, 5], [], []⟩
  | 4 => ⟨[0, 1, 5, 6], [0, 0, 2, 6, 15, 0, 0, 64, 192, 480, 1023, 2047, 4095], [(0, []), (1, []), (2, []), (3, []), (4, []), (5, []), (6, []), (7, []), (8, []), (9, []), (10, []), (11, []), (12, [])]⟩
  | 5 => ⟨[0, 1, 5, 6, 35, 36], [], []⟩
  | 6 => ⟨[0, 1, 5, 6, 35, 36, 37], [], []⟩
  | 7 => ⟨[0, 1, 5, 6, 7, 35, 36], [], []⟩
  | 8 => ⟨[0, 1, 5, 6, 35, 36], [], []⟩
  | 9 => ⟨[0, 1, 5, 6, 35, 36], [], []⟩
  | 10 => ⟨[1, 6, 8], [], []⟩
  | 11 => ⟨[1, 6, 8, 9], [], []⟩
  | 12 => ⟨[6, 8, 9, 48, 49, 50], [], []⟩
  | 13 => ⟨[6, 8, 9, 48, 49, 50, 51], [], []⟩
  | 14 => ⟨[6, 8, 9, 10, 11, 48, 49, 50], [], []⟩
  | 15 => ⟨[6, 8, 9, 11, 48, 49, 50, 60], [], []⟩
  | 16 => ⟨[6, 8, 9, 48, 49, 50], [], []⟩
  | 17 => ⟨[6, 8, 9, 12, 48, 49, 50], [], []⟩
  | 18 => ⟨[6, 8, 9, 12, 48, 49, 50], [0, 1, 3, 7, 3, 19, 63, 127, 255, 511, 1023, 511, 2559, 6655, 16383, 32767, 65535], [(0, []), (1, []), (2, []), (4, []), (5, []), (3, []), (6, []), (7, []), (8, []), (9, []), (10, []), (11, []), (12, [10]), (13, []), (14, []), (15, []), (16, [])]⟩
  | 19 => ⟨[6, 8, 9, 12, 48, 49, 50, 87, 88], [], []⟩
  | 20 => ⟨[6, 8, 9, 12, 48, 49, 50, 87, 88, 89], [], []⟩
  | 21 => ⟨[6, 8, 9, 12, 13, 48, 49, 50, 87, 88], [], []⟩
  | 22 => ⟨[6, 8, 9, 12, 48, 49, 50, 87, 88], [], []⟩
  | 23 => ⟨[6, 8, 9, 12, 48, 49, 50, 87, 88], [], []⟩
  | 24 => ⟨[6, 8, 9, 48, 49, 50], [], []⟩
  | 25 => ⟨[4], [0, 1, 3, 7, 15, 3, 47, 111, 255, 511, 1023, 2047, 4095, 8191], [(0, []), (1, []), (2, []), (5, []), (3, []), (4, []), (6, [4]), (7, []), (8, []), (9, []), (10, []), (11, []), (12, []), (13, [])]⟩
  | _ => ⟨[], [], []⟩
noncomputable def F7_c : Code := Try.f7.body.getD .skip
theorem F7_b : Try.f7.body = some F7_c := by kernel_rfl
theorem F7_rs : Try.f7.results.toList = ([.tmp 4] : List ResultVar) := by kernel_rfl
theorem F7_n : Try.f7.ntmps = 112 := by kernel_rfl
theorem F7_ok : toCC [] 112 F7_inf F7_c = some F7 := by kernel_rfl
theorem F7_in {args : List AV} {G : Hp} {post : AV → Hp → Prop} (ha : args.all AV.plain = true) (hn : args.length ≤ 112) (h : BDs args → awp Try.prog [] F7 (AEnds Try.prog [.tmp 4] post) (initT args) G) : ACalls Try.prog 7 args G post :=
  acalls_cc Try.func7 F7_b F7_rs F7_n F7_ok mixed ha hn h

/- 8 ostiary/ostiarylaw01.BitsNil -/
@[simp] noncomputable def F8_r0 : CC := .reg [⟨some 4, none, (.assign (.const (.bool false)))⟩] [0, 1]
@[simp] noncomputable def F8_r1 : CC := .reg [⟨some 5, none, (.assign (.const (.pointer none)))⟩] [0, 1, 5]
@[simp] noncomputable def F8_r2 : CC := .reg [⟨some 6, none, (.assign (.const (.pointer none)))⟩] [0, 1, 5, 6]
@[simp] noncomputable def F8_r3 : CC := .reg [⟨some 7, none, (.move (.tmp 6))⟩,
  ⟨some 8, none, (.move (.tmp 1))⟩,
  ⟨some 9, none, (.call { callee := (.value (.func 20)), args := #[(.tmp 7), (.tmp 8)], argTypes := #[30, 3] })⟩] [0, 1, 5, 6]
@[simp] noncomputable def F8_r4 : CC := .reg [⟨some 10, none, (.move (.tmp 5))⟩,
  ⟨some 11, none, (.move (.tmp 1))⟩,
  ⟨some 12, none, (.buildSlice 23 1 #[(0, (.const (.int .u64 1)))])⟩,
  ⟨some 13, none, (.call { callee := (.value (.func 11)), args := #[(.tmp 10), (.tmp 11), (.tmp 12)], argTypes := #[24, 3, 23] })⟩,
  ⟨some 14, none, (.binOp .eql 27 (.tmp 13) (.const (.int .i64 11)) 27)⟩,
  ⟨some 15, none, (.move (.tmp 14))⟩,
  ⟨some 16, some (15, true), (.move (.tmp 5))⟩,
  ⟨some 17, some (15, true), (.call { callee := (.value (.func 23)), args := #[(.tmp 16), (.const (.slice none 0 0))], argTypes := #[24, 65] })⟩,
  ⟨some 18, some (15, true), (.binOp .eql 27 (.tmp 17) (.const (.int .i64 11)) 27)⟩,
  ⟨some 19, none, (.pick (.tmp 15) (.tmp 18) (.const (.bool false)))⟩,
  ⟨some 20, none, (.move (.tmp 19))⟩,
  ⟨some 21, some (20, true), (.move (.tmp 5))⟩,
  ⟨some 22, some (20, true), (.call { callee := (.value (.func 30)), args := #[(.tmp 21)], argTypes := #[24] })⟩,
  ⟨some 23, some (20, true), (.binOp .eql 3 (.tmp 22) (.const (.int .i64 0)) 3)⟩,
  ⟨some 24, none, (.pick (.tmp 20) (.tmp 23) (.const (.bool false)))⟩,
  ⟨some 25, none, (.move (.tmp 24))⟩,
  ⟨some 26, some (25, true), (.move (.tmp 5))⟩,
  ⟨some 27, some (25, true), (.move (.tmp 0))⟩,
  ⟨some 28, some (25, true), (.move (.tmp 1))⟩,
  ⟨some 29, some (25, true), (.call { callee := (.value (.func 31)), args := #[(.tmp 26), (.tmp 27), (.tmp 28), (.const (.int .u64 1))], argTypes := #[24, 3, 3, 29] })⟩,
  ⟨some 30, some (25, true), (.binOp .eql 27 (.tmp 29) (.const (.int .i64 11)) 27)⟩,
  ⟨some 31, none, (.pick (.tmp 25) (.tmp 30) (.const (.bool false)))⟩,
  ⟨some 32, none, (.move (.tmp 31))⟩,
  ⟨some 33, some (32, true), (.move (.tmp 5))⟩,
  ⟨some 34, some (32, true), (.call { callee := (.value (.func 22)), args := #[(.tmp 33)], argTypes := #[24] })⟩,
  ⟨some 35, some (32, true), (.binOp .eql 3 (.tmp 34) (.const (.int .i64 0)) 3)⟩,
  ⟨some 36, none, (.pick (.tmp 32) (.tmp 35) (.const (.bool false)))⟩,
  ⟨some 37, none, (.move (.tmp 36))⟩,
  ⟨some 38, some (37, true), (.move (.tmp 5))⟩,
  ⟨some 39, some (37, true), (.call { callee := (.value (.func 13)), args := #[(.tmp 38)], argTypes := #[24] })⟩,
  ⟨some 40, some (37, true), (.call { callee := (.builtin .len), args := #[(.tmp 39)], argTypes := #[32] })⟩,
  ⟨some 41, some (37, true), (.binOp .eql 3 (.tmp 40) (.const (.int .i64 0)) 3)⟩,
  ⟨some 42, none, (.pick (.tmp 37) (.tmp 41) (.const (.bool false)))⟩,
  ⟨some 43, none, (.move (.tmp 42))⟩,
  ⟨some 44, some (43, true), (.move (.tmp 6))⟩,
  ⟨some 45, some (43, true), (.move (.tmp 1))⟩,
  ⟨some 46, some (43, true), (.call { callee := (.value (.func 14)), args := #[(.tmp 44), (.tmp 45)], argTypes := #[30, 3] })⟩,
  ⟨some 47, some (43, true), (.binOp .eql 29 (.tmp 46) (.const (.int .u64 0)) 29)⟩,
  ⟨some 48, none, (.pick (.tmp 43) (.tmp 47) (.const (.bool false)))⟩,
  ⟨some 49, none, (.move (.tmp 48))⟩,
  ⟨some 50, some (49, true), (.move (.tmp 6))⟩,
  ⟨some 51, some (49, true), (.move (.tmp 1))⟩,
  ⟨some 52, some (49, true), (.call { callee := (.value (.func 26)), args := #[(.tmp 50), (.tmp 51)], argTypes := #[30, 3] })⟩,
  ⟨some 53, some (49, true), (.call { callee := (.builtin .len), args := #[(.tmp 52)], argTypes := #[32] })⟩,
  ⟨some 54, some (49, true), (.binOp .eql 3 (.tmp 53) (.const (.int .i64 0)) 3)⟩,
  ⟨some 55, none, (.pick (.tmp 49) (.tmp 54) (.const (.bool false)))⟩,
  ⟨some 56, none, (.move (.tmp 55))⟩,
  ⟨some 57, some (56, true), (.move (.tmp 6))⟩,
  ⟨some 58, some (56, true), (.call { callee := (.value (.func 28)), args := #[(.tmp 57)], argTypes := #[30] })⟩,
  ⟨some 59, some (56, true), (.call { callee := (.builtin .len), args := #[(.tmp 58)], argTypes := #[32] })⟩,
  ⟨some 60, some (56, true), (.binOp .eql 3 (.tmp 59) (.const (.int .i64 0)) 3)⟩,
  ⟨some 61, none, (.pick (.tmp 56) (.tmp 60) (.const (.bool false)))⟩,
  ⟨some 62, none, (.move (.tmp 61))⟩,
  ⟨some 63, some (62, true), (.move (.tmp 6))⟩,
  ⟨some 64, some (62, true), (.call { callee := (.value (.func 17)), args := #[(.tmp 63)], argTypes := #[30] })⟩,
  ⟨some 65, some (62, true), (.binOp .eql 27 (.tmp 64) (.const (.int .i64 11)) 27)⟩,
  ⟨some 66, none, (.pick (.tmp 62) (.tmp 65) (.const (.bool false)))⟩,
  ⟨some 67, none, (.move (.tmp 66))⟩,
  ⟨some 68, some (67, true), (.move (.tmp 6))⟩,
  ⟨some 69, some (67, true), (.call { callee := (.value (.func 21)), args := #[(.tmp 68)], argTypes := #[30] })⟩,
  ⟨some 70, some (67, true), (.binOp .eql 3 (.tmp 69) (.const (.int .i64 0)) 3)⟩,
  ⟨some 71, none, (.pick (.tmp 67) (.tmp 70) (.const (.bool false)))⟩,
  ⟨some 72, none, (.move (.tmp 71))⟩,
  ⟨some 73, some (72, true), (.move (.tmp 6))⟩,
  ⟨some 74, some (72, true), (.call { callee := (.value (.func 18)), args := #[(.tmp 73)], argTypes := #[30] })⟩,
  ⟨some 75, some (72, true), (.binOp .eql 3 (.tmp 74) (.const (.int .i64 0)) 3)⟩,
  ⟨some 76, none, (.pick (.tmp 72) (.tmp 75) (.const (.bool false)))⟩,
  ⟨some 77, none, (.move (.tmp 76))⟩,
  ⟨some 78, some (77, true), (.call { callee := (.value (.func 19)), args := #[], argTypes := #[] })⟩,
  ⟨some 79, none, (.pick (.tmp 77) (.tmp 78) (.const (.bool false)))⟩,
  ⟨some 4, none, (.assign (.tmp 79))⟩] [4]
noncomputable def F8 : CC := (.seq F8_r0 (.seq F8_r1 (.seq F8_r2 (.seq F8_r3 (.seq F8_r4 .ret)))))
noncomputable def F8_inf : Nat → RI
  | 0 => ⟨[0, 1], [], []⟩
  | 1 => ⟨[0, 1, 5], [], []⟩
  | 2 => ⟨[0, 1, 5, 6], [], []⟩
  | 3 => ⟨[0, 1, 5, 6], [], []⟩
  | 4 => ⟨[4], [], []⟩
  | _ => ⟨[], [], []⟩
noncomputable def F8_c : Code := Try.f8.body.getD .skip
theorem F8_b : Try.f8.body = some F8_c := by kernel_rfl
theorem F8_rs : Try.f8.results.toList = ([.tmp 4] : List ResultVar) := by kernel_rfl
theorem F8_n : Try.f8.ntmps = 80 := by kernel_rfl
theorem F8_ok : toCC [] 80 F8_inf F8_c = some F8 := by kernel_rfl
theorem F8_in {args : List AV} {G : Hp} {post : AV → Hp → Prop} (ha : args.all AV.plain = true) (hn : args.length ≤ 80) (h : BDs args → awp Try.prog [] F8 (AEnds Try.prog [.tmp 4] post) (initT args) G) : ACalls Try.prog 8 args G post :=
  acalls_cc Try.func8 F8_b F8_rs F8_n F8_ok mixed ha hn h

/- 9 ostiary/bits.New -/
@[simp] noncomputable def F9_r0 : CC := .reg [⟨some 2, none, (.assign (.const (.pointer none)))⟩] [0]
@[simp] noncomputable def F9_r1 : CC := .reg [⟨some 6, none, (.build 67 #[])⟩,
  ⟨some 7, none, (.box 67 (.tmp 6))⟩,
  ⟨some 3, none, (.assign (.tmp 7))⟩] [0, 3]
@[simp] noncomputable def F9_r2 : CC := .reg [⟨some 8, none, (.move (.tmp 0))⟩,
  ⟨some 9, none, (.call { callee := (.builtin .len), args := #[(.tmp 8)], argTypes := #[65] })⟩,
  ⟨some 10, none, (.move (.const (.int .i64 0)))⟩] [3, 8, 9, 10]
@[simp] noncomputable def F9_r3 : CC := .reg [⟨some 11, none, (.binOp .lss 3 (.tmp 10) (.tmp 9) 3)⟩] [3, 8, 9, 10, 11]
@[simp] noncomputable def F9_r4 : CC := .reg [⟨some 12, none, (.indexAddr 65 (.tmp 8) (.tmp 10))⟩,
  ⟨some 13, none, (.load 32 (.tmp 12))⟩,
  ⟨some 5, none, (.assign (.tmp 13))⟩] [3, 5, 8, 9, 10]
@[simp] noncomputable def F9_r5 : CC := .drw [⟨0, ⟨some 14, none, (.move (.tmp 3))⟩, [], []⟩,
  ⟨1, ⟨some 15, none, (.move (.tmp 3))⟩, [], []⟩,
  ⟨2, ⟨some 16, none, (.nilCheck (.tmp 15))⟩, [], []⟩,
  ⟨3, ⟨some 17, none, (.fieldAddr 67 (.tmp 16) 0)⟩, [], []⟩,
  ⟨4, ⟨some 18, none, (.load 32 (.tmp 17))⟩, [], []⟩,
  ⟨5, ⟨some 19, none, (.move (.tmp 5))⟩, [], []⟩,
  ⟨6, ⟨some 20, none, (.move (.tmp 5))⟩, [], []⟩,
  ⟨7, ⟨some 21, none, (.call { callee := (.builtin .len), args := #[(.tmp 20)], argTypes := #[32] })⟩, [], []⟩,
  ⟨8, ⟨some 22, none, (.move (.tmp 3))⟩, [], []⟩,
  ⟨9, ⟨some 23, none, (.nilCheck (.tmp 22))⟩, [], []⟩,
  ⟨10, ⟨some 24, none, (.fieldAddr 67 (.tmp 23) 0)⟩, [], []⟩,
  ⟨11, ⟨some 25, none, (.load 32 (.tmp 24))⟩, [], []⟩,
  ⟨12, ⟨some 26, none, (.call { callee := (.builtin .len), args := #[(.tmp 25)], argTypes := #[32] })⟩, [], []⟩,
  ⟨13, ⟨some 27, none, (.binOp .sub 3 (.const (.int .i64 65536)) (.tmp 26) 3)⟩, [], []⟩,
  ⟨14, ⟨some 28, none, (.call { callee := (.builtin .min), args := #[(.tmp 21), (.tmp 27)], argTypes := #[3, 3] })⟩, [], []⟩,
  ⟨15, ⟨some 29, none, (.slice 32 (.tmp 19) none (some (.tmp 28)) none)⟩, [], []⟩,
  ⟨16, ⟨some 30, none, (.call { callee := (.builtin .append), args := #[(.tmp 18), (.tmp 29)], argTypes := #[32, 32] })⟩, [], []⟩,
  ⟨17, ⟨some 31, none, (.nilCheck (.tmp 14))⟩, [], []⟩,
  ⟨18, ⟨some 32, none, (.fieldAddr 67 (.tmp 31) 0)⟩, [], []⟩,
  ⟨19, ⟨none, none, (.store 32 (.tmp 32) (.tmp 30))⟩, [], []⟩] [14, 15, 16, 17, 18, 19, 20, 21, 22, 23, 24, 25, 26, 27, 28, 29, 30, 31, 32] [3, 8, 9, 10]
@[simp] noncomputable def F9_r6 : CC := .reg [⟨some 33, none, (.binOp .add 3 (.tmp 10) (.const (.int .i64 1)) 3)⟩,
  ⟨some 10, none, (.move (.tmp 33))⟩] [3, 8, 9, 10]
noncomputable def F9_l0 : CC := (.seq F9_r3 (.seq (.cond (.tmp 11) .skip (.exit 0)) (.seq (.block 1 (.seq F9_r4 F9_r5)) F9_r6)))
@[simp] noncomputable def F9_r7 : CC := .reg [⟨some 34, none, (.move (.tmp 3))⟩,
  ⟨some 35, none, (.move (.tmp 3))⟩,
  ⟨some 36, none, (.nilCheck (.tmp 35))⟩,
  ⟨some 37, none, (.fieldAddr 67 (.tmp 36) 0)⟩,
  ⟨some 38, none, (.load 32 (.tmp 37))⟩,
  ⟨some 39, none, (.call { callee := (.builtin .len), args := #[(.tmp 38)], argTypes := #[32] })⟩,
  ⟨some 40, none, (.binOp .mul 3 (.const (.int .i64 8)) (.tmp 39) 3)⟩,
  ⟨some 41, none, (.nilCheck (.tmp 34))⟩,
  ⟨some 42, none, (.fieldAddr 67 (.tmp 41) 1)⟩,
  ⟨none, none, (.store 3 (.tmp 42) (.tmp 40))⟩] [3]
@[simp] noncomputable def F9_r8 : CC := .reg [⟨some 43, none, (.move (.tmp 3))⟩,
  ⟨some 2, none, (.assign (.tmp 43))⟩] [2]
noncomputable def F9 : CC := (.seq F9_r0 (.seq F9_r1 (.seq (.seq F9_r2 (.block 0 (.loop F9_l0))) (.seq F9_r7 (.seq F9_r8 .ret)))))
noncomputable def F9_inf : Nat → RI
  | 0 => ⟨[0], [], []⟩
  | 1 => ⟨[0, 3], [], []⟩
  | 2 => ⟨[3, 8, 9, 10], [], []⟩
  | 3 => ⟨[3, 8, 9, 10, 11], [], []⟩
  | 4 => ⟨[3, 5, 8, 9, 10], [], []⟩
  | 5 => ⟨[3, 8, 9, 10], [0, 0, 2, 6, 14, 0, 0, 64, 0, 256, 768, 1792, 3840, 7936, 16320, 32736, 65534, 131071, 262143, 524287], [(0, []), (1, []), (2, []), (3, []), (4, []), (5, []), (6, []), (7, []), (8, []), (9, []), (10, []), (11, []), (12, []), (13, []), (14, []), (15, []), (16, []), (17, []), (18, []), (19, [])]⟩
  | 6 => ⟨[3, 8, 9, 10], [], []⟩
  | 7 => ⟨[3], [], []⟩
  | 8 => ⟨[2], [], []⟩
  | _ => ⟨[], [], []⟩
noncomputable def F9_c : Code := Try.f9.body.getD .skip
theorem F9_b : Try.f9.body = some F9_c := by kernel_rfl
theorem F9_rs : Try.f9.results.toList = ([.tmp 2] : List ResultVar) := by kernel_rfl
theorem F9_n : Try.f9.ntmps = 44 := by kernel_rfl
theorem F9_ok : toCC [7] 44 F9_inf F9_c = some F9 := by kernel_rfl
theorem F9_in {args : List AV} {G : Hp} {post : AV → Hp → Prop} (ha : args.all AV.plain = true) (hn : args.length ≤ 44) (h : BDs args → awp Try.prog [7] F9 (AEnds Try.prog [.tmp 2] post) (initT args) G) : ACalls Try.prog 9 args G post :=
  acalls_cc Try.func9 F9_b F9_rs F9_n F9_ok mixed ha hn h

/- 10 ostiary/ostiarylaw01.right -/
@[simp] noncomputable def F10_r0 : CC := .reg [⟨some 2, none, (.assign (.const (.bool false)))⟩] [0]
@[simp] noncomputable def F10_r1 : CC := .reg [⟨some 3, none, (.move (.tmp 0))⟩,
  ⟨some 4, none, (.binOp .geq 3 (.tmp 3) (.const (.int .i64 1)) 3)⟩,
  ⟨some 5, none, (.move (.tmp 4))⟩,
  ⟨some 6, some (5, true), (.move (.tmp 0))⟩,
  ⟨some 7, some (5, true), (.binOp .leq 3 (.tmp 6) (.const (.int .i64 64)) 3)⟩,
  ⟨some 8, none, (.pick (.tmp 5) (.tmp 7) (.const (.bool false)))⟩,
  ⟨some 2, none, (.assign (.tmp 8))⟩] [2]
noncomputable def F10 : CC := (.seq F10_r0 (.seq F10_r1 .ret))
noncomputable def F10_inf : Nat → RI
  | 0 => ⟨[0], [], []⟩
  | 1 => ⟨[2], [], []⟩
  | _ => ⟨[], [], []⟩
noncomputable def F10_c : Code := Try.f10.body.getD .skip
theorem F10_b : Try.f10.body = some F10_c := by kernel_rfl
theorem F10_rs : Try.f10.results.toList = ([.tmp 2] : List ResultVar) := by kernel_rfl
theorem F10_n : Try.f10.ntmps = 9 := by kernel_rfl
theorem F10_ok : toCC [] 9 F10_inf F10_c = some F10 := by kernel_rfl
theorem F10_in {args : List AV} {G : Hp} {post : AV → Hp → Prop} (ha : args.all AV.plain = true) (hn : args.length ≤ 9) (h : BDs args → awp Try.prog [] F10 (AEnds Try.prog [.tmp 2] post) (initT args) G) : ACalls Try.prog 10 args G post :=
  acalls_cc Try.func10 F10_b F10_rs F10_n F10_ok mixed ha hn h

/- 11 (*ostiary/bits.Out).Bits -/
@[simp] noncomputable def F11_r0 : CC := .reg [⟨some 6, none, (.assign (.const (.int .i64 0)))⟩] [0, 1, 2]
@[simp] noncomputable def F11_r1 : CC := .reg [⟨some 11, none, (.move (.tmp 0))⟩,
  ⟨some 12, none, (.binOp .eql 24 (.tmp 11) (.const (.pointer none)) 24)⟩,
  ⟨some 10, none, (.assign (.tmp 12))⟩] [0, 1, 2, 10]
@[simp] noncomputable def F11_r2 : CC := .reg [⟨some 6, none, (.assign (.const (.int .i64 11)))⟩] [6]
@[simp] noncomputable def F11_r3 : CC := .reg [⟨some 14, none, (.move (.tmp 1))⟩,
  ⟨some 15, none, (.binOp .lss 3 (.tmp 14) (.const (.int .i64 1)) 3)⟩,
  ⟨some 16, none, (.move (.tmp 15))⟩,
  ⟨some 17, some (16, false), (.move (.tmp 1))⟩,
  ⟨some 18, some (16, false), (.binOp .gtr 3 (.tmp 17) (.const (.int .i64 64)) 3)⟩,
  ⟨some 19, none, (.pick (.tmp 16) (.const (.bool true)) (.tmp 18))⟩,
  ⟨some 13, none, (.assign (.tmp 19))⟩] [0, 1, 2, 13]
@[simp] noncomputable def F11_r4 : CC := .reg [⟨some 6, none, (.assign (.const (.int .i64 1)))⟩] [6]
@[simp] noncomputable def F11_r5 : CC := .reg [⟨some 21, none, (.move (.tmp 2))⟩,
  ⟨some 22, none, (.call { callee := (.builtin .len), args := #[(.tmp 21)], argTypes := #[23] })⟩,
  ⟨some 23, none, (.binOp .gtr 3 (.tmp 22) (.const (.int .i64 524288)) 3)⟩,
  ⟨some 24, none, (.move (.tmp 23))⟩,
  ⟨some 25, some (24, false), (.move (.tmp 0))⟩,
  ⟨some 26, some (24, false), (.move (.tmp 1))⟩,
  ⟨some 27, some (24, false), (.move (.tmp 2))⟩,
  ⟨some 28, some (24, false), (.call { callee := (.builtin .len), args := #[(.tmp 27)], argTypes := #[23] })⟩,
  ⟨some 29, some (24, false), (.binOp .mul 3 (.tmp 26) (.tmp 28) 3)⟩,
  ⟨some 30, some (24, false), (.call { callee := (.value (.func 32)), args := #[(.tmp 25), (.tmp 29)], argTypes := #[24, 3] })⟩,
  ⟨some 31, some (24, false), (.unOp .not 4 (.tmp 30))⟩,
  ⟨some 32, none, (.pick (.tmp 24) (.const (.bool true)) (.tmp 31))⟩,
  ⟨some 20, none, (.assign (.tmp 32))⟩] [0, 1, 2, 20]
@[simp] noncomputable def F11_r6 : CC := .reg [⟨some 6, none, (.assign (.const (.int .i64 4)))⟩] [6]
@[simp] noncomputable def F11_r7 : CC := .reg [⟨some 33, none, (.move (.tmp 2))⟩,
  ⟨some 34, none, (.call { callee := (.builtin .len), args := #[(.tmp 33)], argTypes := #[23] })⟩,
  ⟨some 35, none, (.move (.const (.int .i64 0)))⟩] [0, 1, 33, 34, 35]
@[simp] noncomputable def F11_r8 : CC := .reg [⟨some 36, none, (.binOp .lss 3 (.tmp 35) (.tmp 34) 3)⟩] [0, 1, 33, 34, 35, 36]
@[simp] noncomputable def F11_r9 : CC := .reg [⟨some 37, none, (.indexAddr 23 (.tmp 33) (.tmp 35))⟩,
  ⟨some 38, none, (.load 29 (.tmp 37))⟩,
  ⟨some 8, none, (.assign (.tmp 38))⟩] [0, 1, 8, 33, 34, 35]
@[simp] noncomputable def F11_r10 : CC := .reg [⟨some 39, none, (.move (.tmp 1))⟩,
  ⟨some 40, none, (.binOp .sub 3 (.tmp 39) (.const (.int .i64 1)) 3)⟩,
  ⟨some 9, none, (.assign (.tmp 40))⟩] [0, 1, 8, 9, 33, 34, 35]
@[simp] noncomputable def F11_r11 : CC := .reg [⟨some 41, none, (.move (.tmp 9))⟩,
  ⟨some 42, none, (.binOp .geq 3 (.tmp 41) (.const (.int .i64 0)) 3)⟩] [0, 1, 8, 9, 33, 34, 35, 42]
@[simp] noncomputable def F11_r13 : CC := .reg [⟨some 45, none, (.move (.tmp 0))⟩,
  ⟨some 46, none, (.move (.tmp 8))⟩,
  ⟨some 47, none, (.move (.tmp 9))⟩,
  ⟨some 48, none, (.binOp .shr 29 (.tmp 46) (.tmp 47) 3)⟩,
  ⟨some 49, none, (.binOp .and 29 (.tmp 48) (.const (.int .u64 1)) 29)⟩,
  ⟨some 50, none, (.convert 29 5 (.tmp 49))⟩,
  ⟨some 51, none, (.call { callee := (.value (.func 33)), args := #[(.tmp 45), (.tmp 50)], argTypes := #[24, 5] })⟩] [0, 1, 8, 9, 33, 34, 35]
@[simp] noncomputable def F11_r12 : CC := .reg [⟨some 43, none, (.move (.tmp 9))⟩,
  ⟨some 44, none, (.binOp .sub 3 (.tmp 43) (.const (.int .i64 1)) 3)⟩,
  ⟨some 9, none, (.assign (.tmp 44))⟩] [0, 1, 8, 9, 33, 34, 35]
noncomputable def F11_l0 : CC := (.seq (.seq F11_r11 (.cond (.tmp 42) .skip (.exit 3))) (.seq (.block 4 F11_r13) F11_r12))
@[simp] noncomputable def F11_r14 : CC := .reg [⟨some 52, none, (.binOp .add 3 (.tmp 35) (.const (.int .i64 1)) 3)⟩,
  ⟨some 35, none, (.move (.tmp 52))⟩] [0, 1, 33, 34, 35]
noncomputable def F11_l1 : CC := (.seq F11_r8 (.seq (.cond (.tmp 36) .skip (.exit 1)) (.seq (.block 2 (.seq F11_r9 (.seq F11_r10 (.block 3 (.loop F11_l0))))) F11_r14)))
@[simp] noncomputable def F11_r15 : CC := .reg [⟨some 6, none, (.assign (.const (.int .i64 0)))⟩] [6]
noncomputable def F11 : CC := (.seq F11_r0 (.seq (.block 0 (.seq F11_r1 (.cond (.tmp 10) (.seq F11_r2 .ret) (.seq F11_r3 (.cond (.tmp 13) (.seq F11_r4 .ret) (.seq F11_r5 (.cond (.tmp 20) (.seq F11_r6 .ret) .skip))))))) (.seq (.seq F11_r7 (.block 1 (.loop F11_l1))) (.seq F11_r15 .ret))))
noncomputable def F11_inf : Nat → RI
  | 0 => ⟨[0, 1, 2], [], []⟩
  | 1 => ⟨[0, 1, 2, 10], [], []⟩
  | 2 => ⟨[6], [], []⟩
  | 3 => ⟨[0, 1, 2, 13], [], []⟩
  | 4 => ⟨[6], [], []⟩
  | 5 => ⟨[0, 1, 2, 20], [], []⟩
  | 6 => ⟨[6], [], []⟩
  | 7 => ⟨[0, 1, 33, 34, 35], [], []⟩
  | 8 => ⟨[0, 1, 33, 34, 35, 36], [], []⟩
  | 9 => ⟨[0, 1, 8, 33, 34, 35], [], []⟩
  | 10 => ⟨[0, 1, 8, 9, 33, 34, 35], [], []⟩
  | 11 => ⟨[0, 1, 8, 9, 33, 34, 35, 42], [], []⟩
  | 13 => ⟨[0, 1, 8, 9, 33, 34, 35], [], []⟩
  | 12 => ⟨[0, 1, 8, 9, 33, 34, 35], [], []⟩
  | 14 => ⟨[0, 1, 33, 34, 35], [], []⟩
  | 15 => ⟨[6], [], []⟩
  | _ => ⟨[], [], []⟩
noncomputable def F11_c : Code := Try.f11.body.getD .skip
theorem F11_b : Try.f11.body = some F11_c := by kernel_rfl
theorem F11_rs : Try.f11.results.toList = ([.tmp 6] : List ResultVar) := by kernel_rfl
theorem F11_n : Try.f11.ntmps = 53 := by kernel_rfl
theorem F11_ok : toCC [] 53 F11_inf F11_c = some F11 := by kernel_rfl
theorem F11_in {args : List AV} {G : Hp} {post : AV → Hp → Prop} (ha : args.all AV.plain = true) (hn : args.length ≤ 53) (h : BDs args → awp Try.prog [] F11 (AEnds Try.prog [.tmp 6] post) (initT args) G) : ACalls Try.prog 11 args G post :=
  acalls_cc Try.func11 F11_b F11_rs F11_n F11_ok mixed ha hn h

/- 12 ostiary/bits.Of -/
@[simp] noncomputable def F12_r0 : CC := .reg [⟨some 2, none, (.assign (.const (.pointer none)))⟩] [0]
@[simp] noncomputable def F12_r1 : CC := .reg [⟨some 3, none, (.move (.tmp 0))⟩,
  ⟨some 4, none, (.call { callee := (.value (.func 34)), args := #[(.tmp 3)], argTypes := #[32] })⟩,
  ⟨some 5, none, (.build 71 #[(0, (.tmp 4))])⟩,
  ⟨some 6, none, (.box 71 (.tmp 5))⟩,
  ⟨some 2, none, (.assign (.tmp 6))⟩] [2]
noncomputable def F12 : CC := (.seq F12_r0 (.seq F12_r1 .ret))
noncomputable def F12_inf : Nat → RI
  | 0 => ⟨[0], [], []⟩
  | 1 => ⟨[2], [], []⟩
  | _ => ⟨[], [], []⟩
noncomputable def F12_c : Code := Try.f12.body.getD .skip
theorem F12_b : Try.f12.body = some F12_c := by kernel_rfl
theorem F12_rs : Try.f12.results.toList = ([.tmp 2] : List ResultVar) := by kernel_rfl
theorem F12_n : Try.f12.ntmps = 7 := by kernel_rfl
theorem F12_ok : toCC [6] 7 F12_inf F12_c = some F12 := by kernel_rfl
theorem F12_in {args : List AV} {G : Hp} {post : AV → Hp → Prop} (ha : args.all AV.plain = true) (hn : args.length ≤ 7) (h : BDs args → awp Try.prog [6] F12 (AEnds Try.prog [.tmp 2] post) (initT args) G) : ACalls Try.prog 12 args G post :=
  acalls_cc Try.func12 F12_b F12_rs F12_n F12_ok mixed ha hn h

/- 13 (*ostiary/bits.Out).Done -/
@[simp] noncomputable def F13_r0 : CC := .reg [⟨some 2, none, (.assign (.const (.slice none 0 0)))⟩] [0]
@[simp] noncomputable def F13_r1 : CC := .reg [⟨some 3, none, (.move (.tmp 0))⟩,
  ⟨some 4, none, (.binOp .eql 24 (.tmp 3) (.const (.pointer none)) 24)⟩] [0, 4]
@[simp] noncomputable def F13_r2 : CC := .reg [⟨some 2, none, (.assign (.const (.slice none 0 0)))⟩] [2]
@[simp] noncomputable def F13_r3 : CC := .reg [⟨some 5, none, (.move (.tmp 0))⟩,
  ⟨some 6, none, (.nilCheck (.tmp 5))⟩,
  ⟨some 7, none, (.fieldAddr 67 (.tmp 6) 0)⟩,
  ⟨some 8, none, (.load 32 (.tmp 7))⟩,
  ⟨some 9, none, (.call { callee := (.value (.func 34)), args := #[(.tmp 8)], argTypes := #[32] })⟩,
  ⟨some 2, none, (.assign (.tmp 9))⟩] [2]
noncomputable def F13 : CC := (.seq F13_r0 (.seq (.seq F13_r1 (.cond (.tmp 4) (.seq F13_r2 .ret) .skip)) (.seq F13_r3 .ret)))
noncomputable def F13_inf : Nat → RI
  | 0 => ⟨[0], [], []⟩
  | 1 => ⟨[0, 4], [], []⟩
  | 2 => ⟨[2], [], []⟩
  | 3 => ⟨[2], [], []⟩
  | _ => ⟨[], [], []⟩
noncomputable def F13_c : Code := Try.f13.body.getD .skip
theorem F13_b : Try.f13.body = some F13_c := by kernel_rfl
theorem F13_rs : Try.f13.results.toList = ([.tmp 2] : List ResultVar) := by kernel_rfl
theorem F13_n : Try.f13.ntmps = 10 := by kernel_rfl
theorem F13_ok : toCC [] 10 F13_inf F13_c = some F13 := by kernel_rfl
theorem F13_in {args : List AV} {G : Hp} {post : AV → Hp → Prop} (ha : args.all AV.plain = true) (hn : args.length ≤ 10) (h : BDs args → awp Try.prog [] F13 (AEnds Try.prog [.tmp 2] post) (initT args) G) : ACalls Try.prog 13 args G post :=
  acalls_cc Try.func13 F13_b F13_rs F13_n F13_ok mixed ha hn h

/- 14 (*ostiary/bits.In).Bits -/
@[simp] noncomputable def F14_r0 : CC := .reg [⟨some 4, none, (.assign (.const (.int .u64 0)))⟩] [0, 1]
@[simp] noncomputable def F14_r1 : CC := .reg [⟨some 6, none, (.move (.tmp 1))⟩,
  ⟨some 7, none, (.binOp .lss 3 (.tmp 6) (.const (.int .i64 1)) 3)⟩,
  ⟨some 8, none, (.move (.tmp 7))⟩,
  ⟨some 9, some (8, false), (.move (.tmp 1))⟩,
  ⟨some 10, some (8, false), (.binOp .gtr 3 (.tmp 9) (.const (.int .i64 64)) 3)⟩,
  ⟨some 11, none, (.pick (.tmp 8) (.const (.bool true)) (.tmp 10))⟩] [0, 1, 11]
@[simp] noncomputable def F14_r2 : CC := .reg [⟨some 1, none, (.assign (.const (.int .i64 (-1))))⟩] [0, 1]
@[simp] noncomputable def F14_r3 : CC := .reg [⟨some 12, none, (.move (.tmp 0))⟩,
  ⟨some 13, none, (.move (.tmp 1))⟩,
  ⟨some 14, none, (.call { callee := (.value (.func 35)), args := #[(.tmp 12), (.tmp 13)], argTypes := #[30, 3] })⟩,
  ⟨some 15, none, (.unOp .not 4 (.tmp 14))⟩] [0, 1, 15]
@[simp] noncomputable def F14_r4 : CC := .reg [⟨some 4, none, (.assign (.const (.int .u64 0)))⟩] [4]
@[simp] noncomputable def F14_r5 : CC := .reg [⟨some 5, none, (.assign (.const (.int .u64 0)))⟩] [0, 1, 5]
@[simp] noncomputable def F14_r6 : CC := .reg [⟨some 16, none, (.move (.tmp 1))⟩,
  ⟨some 17, none, (.move (.const (.int .i64 0)))⟩] [0, 5, 16, 17]
@[simp] noncomputable def F14_r7 : CC := .reg [⟨some 18, none, (.binOp .lss 3 (.tmp 17) (.tmp 16) 3)⟩] [0, 5, 16, 17, 18]
@[simp] noncomputable def F14_r8 : CC := .drw [⟨0, ⟨some 19, none, (.move (.tmp 5))⟩, [], []⟩,
  ⟨1, ⟨some 20, none, (.binOp .shl 29 (.tmp 19) (.const (.int .u64 1)) 42)⟩, [], []⟩,
  ⟨2, ⟨some 21, none, (.move (.tmp 0))⟩, [], []⟩,
  ⟨3, ⟨some 22, none, (.nilCheck (.tmp 21))⟩, [], []⟩,
  ⟨4, ⟨some 23, none, (.fieldAddr 71 (.tmp 22) 0)⟩, [], []⟩,
  ⟨5, ⟨some 24, none, (.load 32 (.tmp 23))⟩, [], []⟩,
  ⟨6, ⟨some 25, none, (.move (.tmp 0))⟩, [], []⟩,
  ⟨7, ⟨some 26, none, (.nilCheck (.tmp 25))⟩, [], []⟩,
  ⟨8, ⟨some 27, none, (.fieldAddr 71 (.tmp 26) 1)⟩, [], []⟩,
  ⟨9, ⟨some 28, none, (.load 3 (.tmp 27))⟩, [], []⟩,
  ⟨10, ⟨some 29, none, (.binOp .quo 3 (.tmp 28) (.const (.int .i64 8)) 3)⟩, [], []⟩,
  ⟨11, ⟨some 30, none, (.indexAddr 32 (.tmp 24) (.tmp 29))⟩, [], []⟩,
  ⟨12, ⟨some 31, none, (.load 5 (.tmp 30))⟩, [], []⟩,
  ⟨13, ⟨some 32, none, (.move (.tmp 0))⟩, [], []⟩,
  ⟨14, ⟨some 33, none, (.nilCheck (.tmp 32))⟩, [], []⟩,
  ⟨15, ⟨some 34, none, (.fieldAddr 71 (.tmp 33) 1)⟩, [], []⟩,
  ⟨16, ⟨some 35, none, (.load 3 (.tmp 34))⟩, [], []⟩,
  ⟨17, ⟨some 36, none, (.binOp .rem 3 (.tmp 35) (.const (.int .i64 8)) 3)⟩, [], []⟩,
  ⟨18, ⟨some 37, none, (.binOp .sub 3 (.const (.int .i64 7)) (.tmp 36) 3)⟩, [], []⟩,
  ⟨19, ⟨some 38, none, (.binOp .shr 5 (.tmp 31) (.tmp 37) 3)⟩, [], []⟩,
  ⟨20, ⟨some 39, none, (.binOp .and 5 (.tmp 38) (.const (.int .u8 1)) 5)⟩, [], []⟩,
  ⟨21, ⟨some 40, none, (.convert 5 29 (.tmp 39))⟩, [], []⟩,
  ⟨22, ⟨some 41, none, (.binOp .or 29 (.tmp 20) (.tmp 40) 29)⟩, [], []⟩,
  ⟨23, ⟨some 5, none, (.assign (.tmp 41))⟩, [], []⟩] [19, 20, 21, 22, 23, 24, 25, 26, 27, 28, 29, 30, 31, 32, 33, 34, 35, 36, 37, 38, 39, 40, 41, 5] [0, 5, 16, 17]
@[simp] noncomputable def F14_r9 : CC := .reg [⟨some 42, none, (.move (.tmp 0))⟩,
  ⟨some 43, none, (.nilCheck (.tmp 42))⟩,
  ⟨some 44, none, (.fieldAddr 71 (.tmp 43) 1)⟩,
  ⟨some 45, none, (.load 3 (.tmp 44))⟩,
  ⟨some 46, none, (.binOp .add 3 (.tmp 45) (.const (.int .i64 1)) 3)⟩,
  ⟨some 47, none, (.nilCheck (.tmp 42))⟩,
  ⟨some 48, none, (.fieldAddr 71 (.tmp 47) 1)⟩,
  ⟨none, none, (.store 3 (.tmp 48) (.tmp 46))⟩] [0, 5, 16, 17]
@[simp] noncomputable def F14_r10 : CC := .reg [⟨some 49, none, (.binOp .add 3 (.tmp 17) (.const (.int .i64 1)) 3)⟩,
  ⟨some 17, none, (.move (.tmp 49))⟩] [0, 5, 16, 17]
noncomputable def F14_l0 : CC := (.seq F14_r7 (.seq (.cond (.tmp 18) .skip (.exit 0)) (.seq (.block 1 (.seq F14_r8 F14_r9)) F14_r10)))
@[simp] noncomputable def F14_r11 : CC := .reg [⟨some 50, none, (.move (.tmp 5))⟩,
  ⟨some 4, none, (.assign (.tmp 50))⟩] [4]
noncomputable def F14 : CC := (.seq F14_r0 (.seq (.seq F14_r1 (.cond (.tmp 11) F14_r2 .skip)) (.seq (.seq F14_r3 (.cond (.tmp 15) (.seq F14_r4 .ret) .skip)) (.seq F14_r5 (.seq (.seq F14_r6 (.block 0 (.loop F14_l0))) (.seq F14_r11 .ret))))))
noncomputable def F14_inf : Nat → RI
  | 0 => ⟨[0, 1], [], []⟩
  | 1 => ⟨[0, 1, 11], [], []⟩
  | 2 => ⟨[0, 1], [], []⟩
  | 3 => ⟨[0, 1, 15], [], []⟩
  | 4 => ⟨[4], [], []⟩
  | 5 => ⟨[0, 1, 5], [], []⟩
  | 6 => ⟨[0, 5, 16, 17], [], []⟩
  | 7 => ⟨[0, 5, 16, 17, 18], [], []⟩
  | 8 => ⟨[0, 5, 16, 17], [0, 1, 0, 4, 12, 28, 0, 64, 192, 448, 960, 2044, 4092, 0, 8192, 24576, 57344, 122880, 253952, 524284, 1048572, 2097148, 4194303, 8388607], [(0, []), (1, []), (2, []), (3, []), (4, []), (5, []), (6, []), (7, []), (8, []), (9, []), (10, []), (11, []), (12, []), (13, []), (14, []), (15, []), (16, []), (17, []), (18, []), (19, []), (20, []), (21, []), (22, []), (23, [])]⟩
  | 9 => ⟨[0, 5, 16, 17], [], []⟩
  | 10 => ⟨[0, 5, 16, 17], [], []⟩
  | 11 => ⟨[4], [], []⟩
  | _ => ⟨[], [], []⟩
noncomputable def F14_c : Code := Try.f14.body.getD .skip
theorem F14_b : Try.f14.body = some F14_c := by kernel_rfl
theorem F14_rs : Try.f14.results.toList = ([.tmp 4] : List ResultVar) := by kernel_rfl
theorem F14_n : Try.f14.ntmps = 51 := by kernel_rfl
theorem F14_ok : toCC [] 51 F14_inf F14_c = some F14 := by kernel_rfl
theorem F14_in {args : List AV} {G : Hp} {post : AV → Hp → Prop} (ha : args.all AV.plain = true) (hn : args.length ≤ 51) (h : BDs args → awp Try.prog [] F14 (AEnds Try.prog [.tmp 4] post) (initT args) G) : ACalls Try.prog 14 args G post :=
  acalls_cc Try.func14 F14_b F14_rs F14_n F14_ok mixed ha hn h
end Go.Proofs.Ytdpppigniaafnaa
