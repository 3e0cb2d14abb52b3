import Derived.Test.YtapocekfkbkefaaC0K
set_option linter.unusedVariables false
set_option linter.unusedSimpArgs false
set_option maxRecDepth 100000
namespace Go.Proofs.Ytapocekfkbkefaa
open Go Go.Al

/- 3 ostiary/ostiarylaw21.ViewOnce -/
@[simp] noncomputable def F3_r0 : CC := .reg [⟨some 2, none, (.assign (.const (.bool false)))⟩] [0]
@[simp] noncomputable def F3_r1 : CC := .reg [⟨some 13, none, (.call { callee := (.value (.func 7)), args := #[], argTypes := #[] })⟩,
  ⟨some 14, none, (.build 30 #[])⟩,
  ⟨some 15, none, (.box 30 (.tmp 14))⟩,
  ⟨some 3, none, (.assign (.tmp 13))⟩,
  ⟨some 4, none, (.assign (.tmp 15))⟩] [0, 3, 4]
@[simp] noncomputable def F3_r2 : CC := .reg [⟨some 5, none, (.assign (.const (.int .i64 0)))⟩] [0, 3, 4, 5]
@[simp] noncomputable def F3_r3 : CC := .reg [⟨some 16, none, (.move (.tmp 0))⟩,
  ⟨some 17, none, (.call { callee := (.builtin .len), args := #[(.tmp 16)], argTypes := #[22] })⟩,
  ⟨some 18, none, (.move (.const (.int .i64 0)))⟩] [3, 4, 5, 16, 17, 18]
@[simp] noncomputable def F3_r4 : CC := .reg [⟨some 19, none, (.binOp .lss 3 (.tmp 18) (.tmp 17) 3)⟩] [3, 4, 5, 16, 17, 18, 19]
@[simp] noncomputable def F3_r5 : CC := .reg [⟨some 20, none, (.move (.tmp 18))⟩,
  ⟨some 21, none, (.indexAddr 22 (.tmp 16) (.tmp 18))⟩,
  ⟨some 22, none, (.load 34 (.tmp 21))⟩,
  ⟨some 7, none, (.alloc 34)⟩,
  ⟨some 6, none, (.assign (.tmp 20))⟩,
  ⟨none, none, (.store 34 (.tmp 7) (.tmp 22))⟩] [3, 4, 5, 6, 7, 16, 17, 18]
@[simp] noncomputable def F3_r6 : CC := .reg [⟨some 23, none, (.move (.tmp 6))⟩,
  ⟨some 24, none, (.binOp .geq 3 (.tmp 23) (.const (.int .i64 40)) 3)⟩] [3, 4, 5, 7, 16, 17, 18, 24]
@[simp] noncomputable def F3_r7 : CC := .reg [⟨some 25, none, (.move (.tmp 5))⟩,
  ⟨some 26, none, (.fieldAddr 34 (.tmp 7) 5)⟩,
  ⟨some 27, none, (.load 3 (.tmp 26))⟩,
  ⟨some 28, none, (.binOp .and 3 (.tmp 27) (.const (.int .i64 15)) 3)⟩,
  ⟨some 29, none, (.binOp .add 2 (.tmp 25) (.tmp 28) 2)⟩,
  ⟨some 5, none, (.assign (.tmp 29))⟩] [3, 4, 5, 7, 16, 17, 18]
@[simp] noncomputable def F3_r8 : CC := .reg [⟨some 30, none, (.move (.tmp 3))⟩,
  ⟨some 31, none, (.move (.tmp 4))⟩,
  ⟨some 32, none, (.load 34 (.tmp 7))⟩,
  ⟨some 33, none, (.move (.tmp 5))⟩,
  ⟨some 34, none, (.call { callee := (.value (.func 8)), args := #[(.tmp 30), (.tmp 31), (.tmp 32), (.tmp 33)], argTypes := #[23, 25, 34, 2] })⟩] [3, 4, 5, 16, 17, 18]
@[simp] noncomputable def F3_r9 : CC := .reg [⟨some 35, none, (.move (.tmp 3))⟩,
  ⟨some 36, none, (.call { callee := (.value (.func 9)), args := #[(.tmp 35)], argTypes := #[23] })⟩,
  ⟨some 8, none, (.assign (.tmp 36))⟩] [3, 4, 5, 8, 16, 17, 18]
@[simp] noncomputable def F3_r10 : CC := .reg [⟨some 37, none, (.move (.tmp 8))⟩,
  ⟨some 38, none, (.call { callee := (.builtin .len), args := #[(.tmp 37)], argTypes := #[36] })⟩,
  ⟨some 39, none, (.move (.const (.int .i64 0)))⟩] [3, 4, 5, 8, 16, 17, 18, 37, 38, 39]
@[simp] noncomputable def F3_r11 : CC := .reg [⟨some 40, none, (.binOp .lss 3 (.tmp 39) (.tmp 38) 3)⟩] [3, 4, 5, 8, 16, 17, 18, 37, 38, 39, 40]
@[simp] noncomputable def F3_r12 : CC := .reg [⟨some 41, none, (.move (.tmp 39))⟩,
  ⟨some 42, none, (.indexAddr 36 (.tmp 37) (.tmp 39))⟩,
  ⟨some 43, none, (.load 39 (.tmp 42))⟩,
  ⟨some 10, none, (.alloc 39)⟩,
  ⟨some 9, none, (.assign (.tmp 41))⟩,
  ⟨none, none, (.store 39 (.tmp 10) (.tmp 43))⟩] [3, 4, 5, 8, 9, 10, 16, 17, 18, 37, 38, 39]
@[simp] noncomputable def F3_r13 : CC := .drw [⟨0, ⟨some 44, none, (.move (.tmp 3))⟩, [], []⟩,
  ⟨1, ⟨some 45, none, (.fieldAddr 39 (.tmp 10) 0)⟩, [], []⟩,
  ⟨2, ⟨some 46, none, (.load 32 (.tmp 45))⟩, [], []⟩,
  ⟨3, ⟨some 47, none, (.call { callee := (.value (.func 10)), args := #[(.tmp 44), (.tmp 46)], argTypes := #[23, 32] })⟩, [], []⟩,
  ⟨4, ⟨some 48, none, (.unOp .not 4 (.tmp 47))⟩, [], []⟩,
  ⟨5, ⟨some 49, none, (.move (.tmp 48))⟩, [], []⟩,
  ⟨6, ⟨some 50, some (49, false), (.move (.tmp 3))⟩, [], []⟩,
  ⟨7, ⟨some 51, some (49, false), (.fieldAddr 39 (.tmp 10) 1)⟩, [], []⟩,
  ⟨8, ⟨some 52, some (49, false), (.load 32 (.tmp 51))⟩, [], []⟩,
  ⟨9, ⟨some 53, some (49, false), (.call { callee := (.value (.func 10)), args := #[(.tmp 50), (.tmp 52)], argTypes := #[23, 32] })⟩, [], []⟩,
  ⟨10, ⟨some 54, some (49, false), (.unOp .not 4 (.tmp 53))⟩, [], []⟩,
  ⟨11, ⟨some 55, none, (.pick (.tmp 49) (.const (.bool true)) (.tmp 54))⟩, [], []⟩,
  ⟨12, ⟨some 56, none, (.move (.tmp 55))⟩, [], []⟩,
  ⟨13, ⟨some 57, some (56, false), (.fieldAddr 39 (.tmp 10) 0)⟩, [], []⟩,
  ⟨14, ⟨some 58, some (56, false), (.load 32 (.tmp 57))⟩, [], []⟩,
  ⟨15, ⟨some 59, some (56, false), (.fieldAddr 39 (.tmp 10) 1)⟩, [], []⟩,
  ⟨16, ⟨some 60, some (56, false), (.load 32 (.tmp 59))⟩, [], []⟩,
  ⟨17, ⟨some 61, some (56, false), (.call { callee := (.value (.func 11)), args := #[(.tmp 58), (.tmp 60)], argTypes := #[32, 32] })⟩, [], []⟩,
  ⟨18, ⟨some 62, some (56, false), (.unOp .not 4 (.tmp 61))⟩, [], []⟩,
  ⟨19, ⟨some 63, none, (.pick (.tmp 56) (.const (.bool true)) (.tmp 62))⟩, [], []⟩,
  ⟨20, ⟨some 64, none, (.move (.tmp 63))⟩, [], []⟩,
  ⟨21, ⟨some 65, some (64, false), (.move (.tmp 3))⟩, [], []⟩,
  ⟨22, ⟨some 66, some (64, false), (.fieldAddr 39 (.tmp 10) 0)⟩, [], []⟩,
  ⟨23, ⟨some 67, some (64, false), (.load 32 (.tmp 66))⟩, [], []⟩,
  ⟨24, ⟨some 68, some (64, false), (.call { callee := (.value (.func 12)), args := #[(.tmp 65), (.tmp 67)], argTypes := #[23, 32] })⟩, [], []⟩,
  ⟨25, ⟨some 69, none, (.pick (.tmp 64) (.const (.bool true)) (.tmp 68))⟩, [], []⟩,
  ⟨26, ⟨some 70, none, (.move (.tmp 69))⟩, [], []⟩,
  ⟨27, ⟨some 71, some (70, false), (.move (.tmp 9))⟩, [], []⟩,
  ⟨28, ⟨some 72, some (70, false), (.binOp .gtr 3 (.tmp 71) (.const (.int .i64 0)) 3)⟩, [], []⟩,
  ⟨29, ⟨some 73, some (70, false), (.move (.tmp 72))⟩, [], []⟩,
  ⟨30, ⟨some 74, some (73, true), (.move (.tmp 8))⟩, [], []⟩,
  ⟨31, ⟨some 75, some (73, true), (.move (.tmp 9))⟩, [], []⟩,
  ⟨32, ⟨some 76, some (73, true), (.binOp .sub 3 (.tmp 75) (.const (.int .i64 1)) 3)⟩, [], []⟩,
  ⟨33, ⟨some 77, some (73, true), (.indexAddr 36 (.tmp 74) (.tmp 76))⟩, [], []⟩,
  ⟨34, ⟨some 78, some (73, true), (.fieldAddr 39 (.tmp 77) 0)⟩, [], []⟩,
  ⟨35, ⟨some 79, some (73, true), (.load 32 (.tmp 78))⟩, [], []⟩,
  ⟨36, ⟨some 80, some (73, true), (.fieldAddr 39 (.tmp 10) 0)⟩, [], []⟩,
  ⟨37, ⟨some 81, some (73, true), (.load 32 (.tmp 80))⟩, [], []⟩,
  ⟨38, ⟨some 82, some (73, true), (.call { callee := (.value (.func 11)), args := #[(.tmp 79), (.tmp 81)], argTypes := #[32, 32] })⟩, [], []⟩,
  ⟨39, ⟨some 83, some (73, true), (.unOp .not 4 (.tmp 82))⟩, [], []⟩,
  ⟨40, ⟨some 84, some (70, false), (.pick (.tmp 73) (.tmp 83) (.const (.bool false)))⟩, [], []⟩,
  ⟨41, ⟨some 85, none, (.pick (.tmp 70) (.const (.bool true)) (.tmp 84))⟩, [], []⟩] [44, 45, 46, 47, 48, 49, 50, 51, 52, 53, 54, 55, 56, 57, 58, 59, 60, 61, 62, 63, 64, 65, 66, 67, 68, 69, 70, 71, 72, 73, 74, 75, 76, 77, 78, 79, 80, 81, 82, 83, 84, 85] [3, 4, 5, 8, 9, 10, 16, 17, 18, 37, 38, 39, 85]
@[simp] noncomputable def F3_r14 : CC := .reg [⟨some 2, none, (.assign (.const (.bool false)))⟩] [2]
@[simp] noncomputable def F3_r15 : CC := .reg [⟨some 86, none, (.move (.tmp 8))⟩,
  ⟨some 87, none, (.move (.tmp 9))⟩,
  ⟨some 88, none, (.slice 36 (.tmp 86) none (some (.tmp 87)) none)⟩,
  ⟨some 89, none, (.call { callee := (.builtin .len), args := #[(.tmp 88)], argTypes := #[36] })⟩,
  ⟨some 90, none, (.move (.const (.int .i64 0)))⟩] [3, 4, 5, 8, 10, 16, 17, 18, 37, 38, 39, 88, 89, 90]
@[simp] noncomputable def F3_r16 : CC := .reg [⟨some 91, none, (.binOp .lss 3 (.tmp 90) (.tmp 89) 3)⟩] [3, 4, 5, 8, 10, 16, 17, 18, 37, 38, 39, 88, 89, 90, 91]
@[simp] noncomputable def F3_r17 : CC := .reg [⟨some 92, none, (.indexAddr 36 (.tmp 88) (.tmp 90))⟩,
  ⟨some 93, none, (.load 39 (.tmp 92))⟩,
  ⟨some 12, none, (.alloc 39)⟩,
  ⟨none, none, (.store 39 (.tmp 12) (.tmp 93))⟩] [3, 4, 5, 8, 10, 12, 16, 17, 18, 37, 38, 39, 88, 89, 90]
@[simp] noncomputable def F3_r18 : CC := .reg [⟨some 94, none, (.fieldAddr 39 (.tmp 10) 0)⟩,
  ⟨some 95, none, (.load 32 (.tmp 94))⟩,
  ⟨some 96, none, (.fieldAddr 39 (.tmp 12) 0)⟩,
  ⟨some 97, none, (.load 32 (.tmp 96))⟩,
  ⟨some 98, none, (.binOp .eql 32 (.tmp 95) (.tmp 97) 32)⟩,
  ⟨some 99, none, (.move (.tmp 98))⟩,
  ⟨some 100, some (99, false), (.fieldAddr 39 (.tmp 10) 0)⟩,
  ⟨some 101, some (99, false), (.load 32 (.tmp 100))⟩,
  ⟨some 102, some (99, false), (.fieldAddr 39 (.tmp 12) 1)⟩,
  ⟨some 103, some (99, false), (.load 32 (.tmp 102))⟩,
  ⟨some 104, some (99, false), (.binOp .eql 32 (.tmp 101) (.tmp 103) 32)⟩,
  ⟨some 105, none, (.pick (.tmp 99) (.const (.bool true)) (.tmp 104))⟩,
  ⟨some 106, none, (.move (.tmp 105))⟩,
  ⟨some 107, some (106, false), (.fieldAddr 39 (.tmp 10) 1)⟩,
  ⟨some 108, some (106, false), (.load 32 (.tmp 107))⟩,
  ⟨some 109, some (106, false), (.fieldAddr 39 (.tmp 12) 0)⟩,
  ⟨some 110, some (106, false), (.load 32 (.tmp 109))⟩,
  ⟨some 111, some (106, false), (.binOp .eql 32 (.tmp 108) (.tmp 110) 32)⟩,
  ⟨some 112, none, (.pick (.tmp 106) (.const (.bool true)) (.tmp 111))⟩,
  ⟨some 113, none, (.move (.tmp 112))⟩,
  ⟨some 114, some (113, false), (.fieldAddr 39 (.tmp 10) 1)⟩,
  ⟨some 115, some (113, false), (.load 32 (.tmp 114))⟩,
  ⟨some 116, some (113, false), (.fieldAddr 39 (.tmp 12) 1)⟩,
  ⟨some 117, some (113, false), (.load 32 (.tmp 116))⟩,
  ⟨some 118, some (113, false), (.binOp .eql 32 (.tmp 115) (.tmp 117) 32)⟩,
  ⟨some 119, none, (.pick (.tmp 113) (.const (.bool true)) (.tmp 118))⟩] [3, 4, 5, 8, 10, 16, 17, 18, 37, 38, 39, 88, 89, 90, 119]
@[simp] noncomputable def F3_r19 : CC := .reg [⟨some 2, none, (.assign (.const (.bool false)))⟩] [2]
@[simp] noncomputable def F3_r20 : CC := .reg [⟨some 120, none, (.binOp .add 3 (.tmp 90) (.const (.int .i64 1)) 3)⟩,
  ⟨some 90, none, (.move (.tmp 120))⟩] [3, 4, 5, 8, 10, 16, 17, 18, 37, 38, 39, 88, 89, 90]
noncomputable def F3_l0 : CC := (.seq F3_r16 (.seq (.cond (.tmp 91) .skip (.exit 4)) (.seq (.block 5 (.seq F3_r17 (.seq F3_r18 (.cond (.tmp 119) (.seq F3_r19 .ret) .skip)))) F3_r20)))
@[simp] noncomputable def F3_r21 : CC := .reg [⟨some 121, none, (.binOp .add 3 (.tmp 39) (.const (.int .i64 1)) 3)⟩,
  ⟨some 39, none, (.move (.tmp 121))⟩] [3, 4, 5, 8, 16, 17, 18, 37, 38, 39]
noncomputable def F3_l1 : CC := (.seq F3_r11 (.seq (.cond (.tmp 40) .skip (.exit 2)) (.seq (.block 3 (.seq F3_r12 (.seq (.seq F3_r13 (.cond (.tmp 85) (.seq F3_r14 .ret) .skip)) (.seq F3_r15 (.block 4 (.loop F3_l0)))))) F3_r21)))
@[simp] noncomputable def F3_r22 : CC := .reg [⟨some 122, none, (.binOp .add 3 (.tmp 18) (.const (.int .i64 1)) 3)⟩,
  ⟨some 18, none, (.move (.tmp 122))⟩] [3, 4, 5, 16, 17, 18]
noncomputable def F3_l2 : CC := (.seq F3_r4 (.seq (.cond (.tmp 19) .skip (.exit 0)) (.seq (.block 1 (.seq F3_r5 (.seq (.seq F3_r6 (.cond (.tmp 24) (.exit 0) .skip)) (.seq F3_r7 (.seq F3_r8 (.seq F3_r9 (.seq F3_r10 (.block 2 (.loop F3_l1))))))))) F3_r22)))
@[simp] noncomputable def F3_r23 : CC := .reg [⟨some 123, none, (.call { callee := (.value (.func 13)), args := #[], argTypes := #[] })⟩,
  ⟨some 2, none, (.assign (.tmp 123))⟩] [2]
noncomputable def F3 : CC := (.seq F3_r0 (.seq F3_r1 (.seq F3_r2 (.seq (.seq F3_r3 (.block 0 (.loop F3_l2))) (.seq F3_r23 .ret)))))
noncomputable def F3_inf : Nat → RI
  | 0 => ⟨[0], [], []⟩
  | 1 => ⟨[0, 3, 4], [], []⟩
  | 2 => ⟨[0, 3, 4, 5], [], []⟩
  | 3 => ⟨[3, 4, 5, 16, 17, 18], [], []⟩
  | 4 => ⟨[3, 4, 5, 16, 17, 18, 19], [], []⟩
  | 5 => ⟨[3, 4, 5, 6, 7, 16, 17, 18], [], []⟩
  | 6 => ⟨[3, 4, 5, 7, 16, 17, 18, 24], [], []⟩
  | 7 => ⟨[3, 4, 5, 7, 16, 17, 18], [], []⟩
  | 8 => ⟨[3, 4, 5, 16, 17, 18], [], []⟩
  | 9 => ⟨[3, 4, 5, 8, 16, 17, 18], [], []⟩
  | 10 => ⟨[3, 4, 5, 8, 16, 17, 18, 37, 38, 39], [], []⟩
  | 11 => ⟨[3, 4, 5, 8, 16, 17, 18, 37, 38, 39, 40], [], []⟩
  | 12 => ⟨[3, 4, 5, 8, 9, 10, 16, 17, 18, 37, 38, 39], [], []⟩
  | 13 => ⟨[3, 4, 5, 8, 9, 10, 16, 17, 18, 37, 38, 39, 85], [0, 0, 2, 7, 15, 31, 63, 63, 191, 511, 1023, 2047, 4095, 8191, 16383, 8191, 40959, 131071, 262143, 524287, 1048575, 2097151, 2097151, 6291455, 16777215, 33554431, 67108863, 134217727, 268435455, 536870911, 1073741823, 1073741823, 3221225471, 8589934591, 17179869183, 34359738367, 1073741823, 69793218559, 274877906943, 549755813887, 1099511627775, 2199023255551], [(0, []), (1, []), (2, []), (3, []), (4, []), (5, []), (6, []), (7, []), (8, []), (9, []), (10, []), (11, []), (12, []), (13, []), (14, []), (15, []), (16, []), (17, []), (18, []), (19, []), (20, []), (21, []), (22, []), (23, []), (24, []), (25, []), (26, []), (27, []), (28, []), (29, []), (30, []), (31, []), (32, []), (33, []), (34, []), (35, []), (36, []), (37, []), (38, []), (39, []), (40, []), (41, [])]⟩
  | 14 => ⟨[2], [], []⟩
  | 15 => ⟨[3, 4, 5, 8, 10, 16, 17, 18, 37, 38, 39, 88, 89, 90], [], []⟩
  | 16 => ⟨[3, 4, 5, 8, 10, 16, 17, 18, 37, 38, 39, 88, 89, 90, 91], [], []⟩
  | 17 => ⟨[3, 4, 5, 8, 10, 12, 16, 17, 18, 37, 38, 39, 88, 89, 90], [], []⟩
  | 18 => ⟨[3, 4, 5, 8, 10, 16, 17, 18, 37, 38, 39, 88, 89, 90, 119], [], []⟩
  | 19 => ⟨[2], [], []⟩
  | 20 => ⟨[3, 4, 5, 8, 10, 16, 17, 18, 37, 38, 39, 88, 89, 90], [], []⟩
  | 21 => ⟨[3, 4, 5, 8, 16, 17, 18, 37, 38, 39], [], []⟩
  | 22 => ⟨[3, 4, 5, 16, 17, 18], [], []⟩
  | 23 => ⟨[2], [], []⟩
  | _ => ⟨[], [], []⟩
noncomputable def F3_c : Code := Try.f3.body.getD .skip
theorem F3_b : Try.f3.body = some F3_c := by kernel_rfl
theorem F3_rs : Try.f3.results.toList = ([.tmp 2] : List ResultVar) := by kernel_rfl
theorem F3_n : Try.f3.ntmps = 124 := by kernel_rfl
theorem F3_ok : toCC [15] 124 F3_inf F3_c = some F3 := by kernel_rfl
theorem F3_in {args : List AV} {G : Hp} {post : AV → Hp → Prop} (ha : args.all AV.plain = true) (hn : args.length ≤ 124) (h : BDs args → awp Try.prog [15] F3 (AEnds Try.prog [.tmp 2] post) (initT args) G) : ACalls Try.prog 3 args G post :=
  acalls_cc Try.func3 F3_b F3_rs F3_n F3_ok mixed ha hn h

/- 4 ostiary/ostiarylaw21.ViewAgain -/
@[simp] noncomputable def F4_r0 : CC := .reg [⟨some 6, none, (.box 32 (.tmp 1))⟩,
  ⟨some 7, none, (.box 32 (.tmp 2))⟩,
  ⟨some 10, none, (.assign (.const (.bool false)))⟩] [0, 3, 4, 6, 7]
@[simp] noncomputable def F4_r1 : CC := .reg [⟨some 22, none, (.call { callee := (.value (.func 7)), args := #[], argTypes := #[] })⟩,
  ⟨some 23, none, (.build 30 #[])⟩,
  ⟨some 24, none, (.box 30 (.tmp 23))⟩,
  ⟨some 11, none, (.assign (.tmp 22))⟩,
  ⟨some 12, none, (.assign (.tmp 24))⟩] [0, 3, 4, 6, 7, 11, 12]
@[simp] noncomputable def F4_r2 : CC := .reg [⟨some 13, none, (.assign (.const (.int .i64 0)))⟩] [0, 3, 4, 6, 7, 11, 12, 13]
@[simp] noncomputable def F4_r3 : CC := .reg [⟨some 25, none, (.move (.tmp 0))⟩,
  ⟨some 26, none, (.call { callee := (.builtin .len), args := #[(.tmp 25)], argTypes := #[22] })⟩,
  ⟨some 27, none, (.move (.const (.int .i64 0)))⟩] [3, 4, 6, 7, 11, 12, 13, 25, 26, 27]
@[simp] noncomputable def F4_r4 : CC := .reg [⟨some 28, none, (.binOp .lss 3 (.tmp 27) (.tmp 26) 3)⟩] [3, 4, 6, 7, 11, 12, 13, 25, 26, 27, 28]
@[simp] noncomputable def F4_r5 : CC := .reg [⟨some 29, none, (.move (.tmp 27))⟩,
  ⟨some 30, none, (.indexAddr 22 (.tmp 25) (.tmp 27))⟩,
  ⟨some 31, none, (.load 34 (.tmp 30))⟩,
  ⟨some 15, none, (.alloc 34)⟩,
  ⟨some 14, none, (.assign (.tmp 29))⟩,
  ⟨none, none, (.store 34 (.tmp 15) (.tmp 31))⟩] [3, 4, 6, 7, 11, 12, 13, 14, 15, 25, 26, 27]
@[simp] noncomputable def F4_r6 : CC := .reg [⟨some 32, none, (.move (.tmp 14))⟩,
  ⟨some 33, none, (.binOp .lss 3 (.tmp 32) (.const (.int .i64 30)) 3)⟩] [3, 4, 6, 7, 11, 12, 13, 15, 25, 26, 27, 33]
@[simp] noncomputable def F4_r7 : CC := .reg [⟨some 34, none, (.move (.tmp 13))⟩,
  ⟨some 35, none, (.fieldAddr 34 (.tmp 15) 5)⟩,
  ⟨some 36, none, (.load 3 (.tmp 35))⟩,
  ⟨some 37, none, (.binOp .and 3 (.tmp 36) (.const (.int .i64 15)) 3)⟩,
  ⟨some 38, none, (.binOp .add 2 (.tmp 34) (.tmp 37) 2)⟩,
  ⟨some 13, none, (.assign (.tmp 38))⟩] [3, 4, 6, 7, 11, 12, 13, 15, 25, 26, 27]
@[simp] noncomputable def F4_r8 : CC := .reg [⟨some 39, none, (.move (.tmp 11))⟩,
  ⟨some 40, none, (.move (.tmp 12))⟩,
  ⟨some 41, none, (.load 34 (.tmp 15))⟩,
  ⟨some 42, none, (.move (.tmp 13))⟩,
  ⟨some 43, none, (.call { callee := (.value (.func 8)), args := #[(.tmp 39), (.tmp 40), (.tmp 41), (.tmp 42)], argTypes := #[23, 25, 34, 2] })⟩] [3, 4, 6, 7, 11, 12, 13, 25, 26, 27]
@[simp] noncomputable def F4_r9 : CC := .reg [⟨some 44, none, (.binOp .add 3 (.tmp 27) (.const (.int .i64 1)) 3)⟩,
  ⟨some 27, none, (.move (.tmp 44))⟩] [3, 4, 6, 7, 11, 12, 13, 25, 26, 27]
noncomputable def F4_l0 : CC := (.seq F4_r4 (.seq (.cond (.tmp 28) .skip (.exit 0)) (.seq (.block 1 (.seq F4_r5 (.seq F4_r6 (.cond (.tmp 33) (.seq F4_r7 F4_r8) .skip)))) F4_r9)))
@[simp] noncomputable def F4_r10 : CC := .reg [⟨some 46, none, (.move (.tmp 11))⟩,
  ⟨some 47, none, (.load 32 (.tmp 6))⟩,
  ⟨some 48, none, (.load 32 (.tmp 7))⟩,
  ⟨some 49, none, (.move (.tmp 13))⟩,
  ⟨some 50, none, (.call { callee := (.value (.func 14)), args := #[(.tmp 46), (.tmp 47), (.tmp 48), (.tmp 49)], argTypes := #[23, 32, 32, 2] })⟩,
  ⟨some 45, none, (.move (.tmp 50))⟩,
  ⟨some 51, none, (.extract (.tmp 45) 0)⟩,
  ⟨some 52, none, (.extract (.tmp 45) 1)⟩,
  ⟨some 16, none, (.assign (.tmp 51))⟩,
  ⟨some 17, none, (.assign (.tmp 52))⟩] [3, 4, 6, 7, 11, 13, 17]
@[simp] noncomputable def F4_r11 : CC := .reg [⟨some 53, none, (.move (.tmp 11))⟩,
  ⟨some 54, none, (.load 32 (.tmp 6))⟩,
  ⟨some 55, none, (.call { callee := (.value (.func 10)), args := #[(.tmp 53), (.tmp 54)], argTypes := #[23, 32] })⟩,
  ⟨some 56, none, (.move (.tmp 55))⟩,
  ⟨some 57, some (56, true), (.move (.tmp 11))⟩,
  ⟨some 58, some (56, true), (.load 32 (.tmp 7))⟩,
  ⟨some 59, some (56, true), (.call { callee := (.value (.func 10)), args := #[(.tmp 57), (.tmp 58)], argTypes := #[23, 32] })⟩,
  ⟨some 60, none, (.pick (.tmp 56) (.tmp 59) (.const (.bool false)))⟩,
  ⟨some 61, none, (.move (.tmp 60))⟩,
  ⟨some 62, some (61, true), (.load 32 (.tmp 6))⟩,
  ⟨some 63, some (61, true), (.load 32 (.tmp 7))⟩,
  ⟨some 64, some (61, true), (.binOp .neq 32 (.tmp 62) (.tmp 63) 32)⟩,
  ⟨some 65, none, (.pick (.tmp 61) (.tmp 64) (.const (.bool false)))⟩,
  ⟨some 18, none, (.assign (.tmp 65))⟩] [3, 4, 6, 7, 11, 13, 17, 18]
@[simp] noncomputable def F4_r12 : CC := .reg [⟨some 66, none, (.move (.tmp 18))⟩,
  ⟨some 67, none, (.unOp .not 4 (.tmp 66))⟩] [3, 4, 6, 7, 11, 13, 17, 67]
@[simp] noncomputable def F4_r13 : CC := .reg [⟨some 68, none, (.move (.tmp 17))⟩,
  ⟨some 69, none, (.unOp .not 4 (.tmp 68))⟩,
  ⟨some 70, none, (.move (.tmp 69))⟩,
  ⟨some 71, some (70, true), (.call { callee := (.value (.func 13)), args := #[], argTypes := #[] })⟩,
  ⟨some 72, none, (.pick (.tmp 70) (.tmp 71) (.const (.bool false)))⟩,
  ⟨some 10, none, (.assign (.tmp 72))⟩] [10]
@[simp] noncomputable def F4_r14 : CC := .reg [⟨some 73, none, (.move (.tmp 11))⟩,
  ⟨some 74, none, (.call { callee := (.value (.func 9)), args := #[(.tmp 73)], argTypes := #[23] })⟩,
  ⟨some 75, none, (.call { callee := (.builtin .len), args := #[(.tmp 74)], argTypes := #[36] })⟩,
  ⟨some 19, none, (.assign (.tmp 75))⟩] [3, 4, 6, 7, 11, 13, 19]
@[simp] noncomputable def F4_r15 : CC := .reg [⟨some 77, none, (.move (.tmp 11))⟩,
  ⟨some 78, none, (.load 32 (.tmp 7))⟩,
  ⟨some 79, none, (.load 32 (.tmp 6))⟩,
  ⟨some 80, none, (.move (.tmp 13))⟩,
  ⟨some 81, none, (.call { callee := (.value (.func 14)), args := #[(.tmp 77), (.tmp 78), (.tmp 79), (.tmp 80)], argTypes := #[23, 32, 32, 2] })⟩,
  ⟨some 76, none, (.move (.tmp 81))⟩,
  ⟨some 82, none, (.extract (.tmp 76) 0)⟩,
  ⟨some 83, none, (.extract (.tmp 76) 1)⟩,
  ⟨some 20, none, (.assign (.tmp 82))⟩,
  ⟨some 21, none, (.assign (.tmp 83))⟩] [3, 4, 6, 7, 11, 13, 19, 20, 21]
@[simp] noncomputable def F4_r16 : CC := .reg [⟨some 84, none, (.move (.tmp 21))⟩,
  ⟨some 85, none, (.move (.tmp 84))⟩,
  ⟨some 86, some (85, false), (.move (.tmp 20))⟩,
  ⟨some 87, some (85, false), (.call { callee := (.builtin .len), args := #[(.tmp 86)], argTypes := #[36] })⟩,
  ⟨some 88, some (85, false), (.binOp .gtr 3 (.tmp 87) (.const (.int .i64 0)) 3)⟩,
  ⟨some 89, none, (.pick (.tmp 85) (.const (.bool true)) (.tmp 88))⟩,
  ⟨some 90, none, (.move (.tmp 89))⟩,
  ⟨some 91, some (90, false), (.move (.tmp 11))⟩,
  ⟨some 92, some (90, false), (.call { callee := (.value (.func 9)), args := #[(.tmp 91)], argTypes := #[23] })⟩,
  ⟨some 93, some (90, false), (.call { callee := (.builtin .len), args := #[(.tmp 92)], argTypes := #[36] })⟩,
  ⟨some 94, some (90, false), (.move (.tmp 19))⟩,
  ⟨some 95, some (90, false), (.binOp .neq 3 (.tmp 93) (.tmp 94) 3)⟩,
  ⟨some 96, none, (.pick (.tmp 90) (.const (.bool true)) (.tmp 95))⟩,
  ⟨some 97, none, (.move (.tmp 96))⟩,
  ⟨some 98, some (97, false), (.move (.tmp 11))⟩,
  ⟨some 99, some (97, false), (.load 32 (.tmp 6))⟩,
  ⟨some 100, some (97, false), (.call { callee := (.value (.func 12)), args := #[(.tmp 98), (.tmp 99)], argTypes := #[23, 32] })⟩,
  ⟨some 101, none, (.pick (.tmp 97) (.const (.bool true)) (.tmp 100))⟩,
  ⟨some 102, none, (.move (.tmp 101))⟩,
  ⟨some 103, some (102, false), (.move (.tmp 11))⟩,
  ⟨some 104, some (102, false), (.load 32 (.tmp 7))⟩,
  ⟨some 105, some (102, false), (.call { callee := (.value (.func 12)), args := #[(.tmp 103), (.tmp 104)], argTypes := #[23, 32] })⟩,
  ⟨some 106, none, (.pick (.tmp 102) (.const (.bool true)) (.tmp 105))⟩] [3, 4, 6, 7, 11, 13, 106]
@[simp] noncomputable def F4_r17 : CC := .reg [⟨some 10, none, (.assign (.const (.bool false)))⟩] [10]
@[simp] noncomputable def F4_r18 : CC := .reg [⟨some 107, none, (.move (.tmp 3))⟩,
  ⟨some 108, none, (.binOp .and 2 (.tmp 107) (.const (.int .i64 1023)) 2)⟩,
  ⟨some 109, none, (.move (.tmp 4))⟩,
  ⟨some 110, none, (.binOp .and 2 (.tmp 109) (.const (.int .i64 1023)) 2)⟩,
  ⟨some 3, none, (.assign (.tmp 108))⟩,
  ⟨some 4, none, (.assign (.tmp 110))⟩] [3, 4, 6, 7, 11, 13]
@[simp] noncomputable def F4_r19 : CC := .reg [⟨some 111, none, (.move (.tmp 11))⟩,
  ⟨some 112, none, (.move (.tmp 13))⟩,
  ⟨some 113, none, (.move (.tmp 3))⟩,
  ⟨some 114, none, (.binOp .add 2 (.tmp 112) (.tmp 113) 2)⟩,
  ⟨some 115, none, (.move (.tmp 4))⟩,
  ⟨some 116, none, (.call { callee := (.value (.func 15)), args := #[(.tmp 111), (.tmp 114), (.tmp 115)], argTypes := #[23, 2, 2] })⟩] [3, 4, 6, 7, 11]
@[simp] noncomputable def F4_r20 : CC := .reg [⟨some 117, none, (.move (.tmp 11))⟩,
  ⟨some 118, none, (.load 32 (.tmp 6))⟩,
  ⟨some 119, none, (.call { callee := (.value (.func 12)), args := #[(.tmp 117), (.tmp 118)], argTypes := #[23, 32] })⟩,
  ⟨some 120, none, (.move (.tmp 119))⟩,
  ⟨some 121, some (120, true), (.move (.tmp 11))⟩,
  ⟨some 122, some (120, true), (.load 32 (.tmp 7))⟩,
  ⟨some 123, some (120, true), (.call { callee := (.value (.func 12)), args := #[(.tmp 121), (.tmp 122)], argTypes := #[23, 32] })⟩,
  ⟨some 124, none, (.pick (.tmp 120) (.tmp 123) (.const (.bool false)))⟩,
  ⟨some 125, none, (.move (.tmp 3))⟩,
  ⟨some 126, none, (.move (.tmp 4))⟩,
  ⟨some 127, none, (.binOp .gtr 2 (.tmp 125) (.tmp 126) 2)⟩,
  ⟨some 128, none, (.binOp .eql 4 (.tmp 124) (.tmp 127) 4)⟩,
  ⟨some 129, none, (.move (.tmp 128))⟩,
  ⟨some 130, some (129, true), (.call { callee := (.value (.func 13)), args := #[], argTypes := #[] })⟩,
  ⟨some 131, none, (.pick (.tmp 129) (.tmp 130) (.const (.bool false)))⟩,
  ⟨some 10, none, (.assign (.tmp 131))⟩] [10]
noncomputable def F4 : CC := (.seq F4_r0 (.seq F4_r1 (.seq F4_r2 (.seq (.seq F4_r3 (.block 0 (.loop F4_l0))) (.seq F4_r10 (.seq F4_r11 (.seq (.seq F4_r12 (.cond (.tmp 67) (.seq F4_r13 .ret) .skip)) (.seq F4_r14 (.seq F4_r15 (.seq (.seq F4_r16 (.cond (.tmp 106) (.seq F4_r17 .ret) .skip)) (.seq F4_r18 (.seq F4_r19 (.seq F4_r20 .ret)))))))))))))
noncomputable def F4_inf : Nat → RI
  | 0 => ⟨[0, 3, 4, 6, 7], [], []⟩
  | 1 => ⟨[0, 3, 4, 6, 7, 11, 12], [], []⟩
  | 2 => ⟨[0, 3, 4, 6, 7, 11, 12, 13], [], []⟩
  | 3 => ⟨[3, 4, 6, 7, 11, 12, 13, 25, 26, 27], [], []⟩
  | 4 => ⟨[3, 4, 6, 7, 11, 12, 13, 25, 26, 27, 28], [], []⟩
  | 5 => ⟨[3, 4, 6, 7, 11, 12, 13, 14, 15, 25, 26, 27], [], []⟩
  | 6 => ⟨[3, 4, 6, 7, 11, 12, 13, 15, 25, 26, 27, 33], [], []⟩
  | 7 => ⟨[3, 4, 6, 7, 11, 12, 13, 15, 25, 26, 27], [], []⟩
  | 8 => ⟨[3, 4, 6, 7, 11, 12, 13, 25, 26, 27], [], []⟩
  | 9 => ⟨[3, 4, 6, 7, 11, 12, 13, 25, 26, 27], [], []⟩
  | 10 => ⟨[3, 4, 6, 7, 11, 13, 17], [], []⟩
  | 11 => ⟨[3, 4, 6, 7, 11, 13, 17, 18], [], []⟩
  | 12 => ⟨[3, 4, 6, 7, 11, 13, 17, 67], [], []⟩
  | 13 => ⟨[10], [], []⟩
  | 14 => ⟨[3, 4, 6, 7, 11, 13, 19], [], []⟩
  | 15 => ⟨[3, 4, 6, 7, 11, 13, 19, 20, 21], [], []⟩
  | 16 => ⟨[3, 4, 6, 7, 11, 13, 106], [], []⟩
  | 17 => ⟨[10], [], []⟩
  | 18 => ⟨[3, 4, 6, 7, 11, 13], [], []⟩
  | 19 => ⟨[3, 4, 6, 7, 11], [], []⟩
  | 20 => ⟨[10], [], []⟩
  | _ => ⟨[], [], []⟩
noncomputable def F4_c : Code := Try.f4.body.getD .skip
theorem F4_b : Try.f4.body = some F4_c := by kernel_rfl
theorem F4_rs : Try.f4.results.toList = ([.tmp 10] : List ResultVar) := by kernel_rfl
theorem F4_n : Try.f4.ntmps = 132 := by kernel_rfl
theorem F4_ok : toCC [24] 132 F4_inf F4_c = some F4 := by kernel_rfl
theorem F4_in {args : List AV} {G : Hp} {post : AV → Hp → Prop} (ha : args.all AV.plain = true) (hn : args.length ≤ 132) (h : BDs args → awp Try.prog [24] F4 (AEnds Try.prog [.tmp 10] post) (initT args) G) : ACalls Try.prog 4 args G post :=
  acalls_cc Try.func4 F4_b F4_rs F4_n F4_ok mixed ha hn h

/- 5 ostiary/ostiarylaw21.ViewPlays -/
@[simp] noncomputable def F5_r0 : CC := .reg [⟨some 2, none, (.assign (.const (.bool false)))⟩] [0]
@[simp] noncomputable def F5_r1 : CC := .reg [⟨some 8, none, (.call { callee := (.value (.func 7)), args := #[], argTypes := #[] })⟩,
  ⟨some 9, none, (.build 30 #[])⟩,
  ⟨some 10, none, (.box 30 (.tmp 9))⟩,
  ⟨some 3, none, (.assign (.tmp 8))⟩,
  ⟨some 4, none, (.assign (.tmp 10))⟩] [0, 3, 4]
@[simp] noncomputable def F5_r2 : CC := .reg [⟨some 5, none, (.assign (.const (.int .i64 0)))⟩] [0, 3, 4, 5]
@[simp] noncomputable def F5_r3 : CC := .reg [⟨some 11, none, (.move (.tmp 0))⟩,
  ⟨some 12, none, (.call { callee := (.builtin .len), args := #[(.tmp 11)], argTypes := #[22] })⟩,
  ⟨some 13, none, (.move (.const (.int .i64 0)))⟩] [3, 4, 5, 11, 12, 13]
@[simp] noncomputable def F5_r4 : CC := .reg [⟨some 14, none, (.binOp .lss 3 (.tmp 13) (.tmp 12) 3)⟩] [3, 4, 5, 11, 12, 13, 14]
@[simp] noncomputable def F5_r5 : CC := .reg [⟨some 15, none, (.move (.tmp 13))⟩,
  ⟨some 16, none, (.indexAddr 22 (.tmp 11) (.tmp 13))⟩,
  ⟨some 17, none, (.load 34 (.tmp 16))⟩,
  ⟨some 7, none, (.alloc 34)⟩,
  ⟨some 6, none, (.assign (.tmp 15))⟩,
  ⟨none, none, (.store 34 (.tmp 7) (.tmp 17))⟩] [3, 4, 5, 6, 7, 11, 12, 13]
@[simp] noncomputable def F5_r6 : CC := .reg [⟨some 18, none, (.move (.tmp 6))⟩,
  ⟨some 19, none, (.binOp .geq 3 (.tmp 18) (.const (.int .i64 40)) 3)⟩] [3, 4, 5, 7, 11, 12, 13, 19]
@[simp] noncomputable def F5_r7 : CC := .reg [⟨some 20, none, (.move (.tmp 5))⟩,
  ⟨some 21, none, (.fieldAddr 34 (.tmp 7) 5)⟩,
  ⟨some 22, none, (.load 3 (.tmp 21))⟩,
  ⟨some 23, none, (.binOp .and 3 (.tmp 22) (.const (.int .i64 15)) 3)⟩,
  ⟨some 24, none, (.binOp .add 2 (.tmp 20) (.tmp 23) 2)⟩,
  ⟨some 5, none, (.assign (.tmp 24))⟩] [3, 4, 5, 7, 11, 12, 13]
@[simp] noncomputable def F5_r8 : CC := .reg [⟨some 25, none, (.move (.tmp 3))⟩,
  ⟨some 26, none, (.move (.tmp 4))⟩,
  ⟨some 27, none, (.load 34 (.tmp 7))⟩,
  ⟨some 28, none, (.move (.tmp 5))⟩,
  ⟨some 29, none, (.call { callee := (.value (.func 8)), args := #[(.tmp 25), (.tmp 26), (.tmp 27), (.tmp 28)], argTypes := #[23, 25, 34, 2] })⟩,
  ⟨some 30, none, (.unOp .not 4 (.tmp 29))⟩] [3, 4, 5, 11, 12, 13, 30]
@[simp] noncomputable def F5_r9 : CC := .reg [⟨some 2, none, (.assign (.const (.bool false)))⟩] [2]
@[simp] noncomputable def F5_r10 : CC := .reg [⟨some 31, none, (.binOp .add 3 (.tmp 13) (.const (.int .i64 1)) 3)⟩,
  ⟨some 13, none, (.move (.tmp 31))⟩] [3, 4, 5, 11, 12, 13]
noncomputable def F5_l0 : CC := (.seq F5_r4 (.seq (.cond (.tmp 14) .skip (.exit 0)) (.seq (.block 1 (.seq F5_r5 (.seq (.seq F5_r6 (.cond (.tmp 19) (.exit 0) .skip)) (.seq F5_r7 (.seq F5_r8 (.cond (.tmp 30) (.seq F5_r9 .ret) .skip)))))) F5_r10)))
@[simp] noncomputable def F5_r11 : CC := .reg [⟨some 32, none, (.move (.tmp 3))⟩,
  ⟨some 33, none, (.move (.tmp 4))⟩,
  ⟨some 34, none, (.call { callee := (.value (.func 16)), args := #[(.tmp 32), (.tmp 33)], argTypes := #[23, 25] })⟩,
  ⟨some 35, none, (.move (.tmp 34))⟩,
  ⟨some 36, some (35, true), (.call { callee := (.value (.func 13)), args := #[], argTypes := #[] })⟩,
  ⟨some 37, none, (.pick (.tmp 35) (.tmp 36) (.const (.bool false)))⟩,
  ⟨some 2, none, (.assign (.tmp 37))⟩] [2]
noncomputable def F5 : CC := (.seq F5_r0 (.seq F5_r1 (.seq F5_r2 (.seq (.seq F5_r3 (.block 0 (.loop F5_l0))) (.seq F5_r11 .ret)))))
noncomputable def F5_inf : Nat → RI
  | 0 => ⟨[0], [], []⟩
  | 1 => ⟨[0, 3, 4], [], []⟩
  | 2 => ⟨[0, 3, 4, 5], [], []⟩
  | 3 => ⟨[3, 4, 5, 11, 12, 13], [], []⟩
  | 4 => ⟨[3, 4, 5, 11, 12, 13, 14], [], []⟩
  | 5 => ⟨[3, 4, 5, 6, 7, 11, 12, 13], [], []⟩
  | 6 => ⟨[3, 4, 5, 7, 11, 12, 13, 19], [], []⟩
  | 7 => ⟨[3, 4, 5, 7, 11, 12, 13], [], []⟩
  | 8 => ⟨[3, 4, 5, 11, 12, 13, 30], [], []⟩
  | 9 => ⟨[2], [], []⟩
  | 10 => ⟨[3, 4, 5, 11, 12, 13], [], []⟩
  | 11 => ⟨[2], [], []⟩
  | _ => ⟨[], [], []⟩
noncomputable def F5_c : Code := Try.f5.body.getD .skip
theorem F5_b : Try.f5.body = some F5_c := by kernel_rfl
theorem F5_rs : Try.f5.results.toList = ([.tmp 2] : List ResultVar) := by kernel_rfl
theorem F5_n : Try.f5.ntmps = 38 := by kernel_rfl
theorem F5_ok : toCC [10] 38 F5_inf F5_c = some F5 := by kernel_rfl
theorem F5_in {args : List AV} {G : Hp} {post : AV → Hp → Prop} (ha : args.all AV.plain = true) (hn : args.length ≤ 38) (h : BDs args → awp Try.prog [10] F5 (AEnds Try.prog [.tmp 2] post) (initT args) G) : ACalls Try.prog 5 args G post :=
  acalls_cc Try.func5 F5_b F5_rs F5_n F5_ok mixed ha hn h

/- 6 ostiary/ostiarylaw21.ViewNil -/
@[simp] noncomputable def F6_r0 : CC := .reg [⟨some 2, none, (.box 32 (.tmp 0))⟩,
  ⟨some 3, none, (.box 32 (.tmp 1))⟩,
  ⟨some 4, none, (.assign (.const (.bool false)))⟩] [2, 3]
@[simp] noncomputable def F6_r1 : CC := .reg [⟨some 5, none, (.assign (.const (.pointer none)))⟩] [2, 3, 5]
@[simp] noncomputable def F6_r2 : CC := .reg [⟨some 9, none, (.move (.tmp 5))⟩,
  ⟨some 10, none, (.load 32 (.tmp 2))⟩,
  ⟨some 11, none, (.load 32 (.tmp 3))⟩,
  ⟨some 12, none, (.call { callee := (.value (.func 14)), args := #[(.tmp 9), (.tmp 10), (.tmp 11), (.const (.int .i64 5))], argTypes := #[23, 32, 32, 2] })⟩,
  ⟨some 8, none, (.move (.tmp 12))⟩,
  ⟨some 13, none, (.extract (.tmp 8) 0)⟩,
  ⟨some 14, none, (.extract (.tmp 8) 1)⟩,
  ⟨some 6, none, (.assign (.tmp 13))⟩,
  ⟨some 7, none, (.assign (.tmp 14))⟩] [2, 5, 6, 7]
@[simp] noncomputable def F6_r3 : CC := .reg [⟨some 15, none, (.move (.tmp 6))⟩,
  ⟨some 16, none, (.call { callee := (.builtin .len), args := #[(.tmp 15)], argTypes := #[36] })⟩,
  ⟨some 17, none, (.binOp .eql 3 (.tmp 16) (.const (.int .i64 0)) 3)⟩,
  ⟨some 18, none, (.move (.tmp 17))⟩,
  ⟨some 19, some (18, true), (.move (.tmp 7))⟩,
  ⟨some 20, some (18, true), (.unOp .not 4 (.tmp 19))⟩,
  ⟨some 21, none, (.pick (.tmp 18) (.tmp 20) (.const (.bool false)))⟩,
  ⟨some 22, none, (.move (.tmp 21))⟩,
  ⟨some 23, some (22, true), (.move (.tmp 5))⟩,
  ⟨some 24, some (22, true), (.fieldAddr 32 (.tmp 2) 0)⟩,
  ⟨some 25, some (22, true), (.load 3 (.tmp 24))⟩,
  ⟨some 26, some (22, true), (.call { callee := (.value (.func 17)), args := #[(.tmp 23), (.tmp 25), (.const (.int .i64 3))], argTypes := #[23, 3, 3] })⟩,
  ⟨some 27, some (22, true), (.call { callee := (.builtin .len), args := #[(.tmp 26)], argTypes := #[36] })⟩,
  ⟨some 28, some (22, true), (.binOp .eql 3 (.tmp 27) (.const (.int .i64 0)) 3)⟩,
  ⟨some 29, none, (.pick (.tmp 22) (.tmp 28) (.const (.bool false)))⟩,
  ⟨some 30, none, (.move (.tmp 29))⟩,
  ⟨some 31, some (30, true), (.move (.tmp 5))⟩,
  ⟨some 32, some (30, true), (.fieldAddr 32 (.tmp 2) 0)⟩,
  ⟨some 33, some (30, true), (.load 3 (.tmp 32))⟩,
  ⟨some 34, some (30, true), (.call { callee := (.value (.func 18)), args := #[(.tmp 31), (.tmp 33)], argTypes := #[23, 3] })⟩,
  ⟨some 35, some (30, true), (.call { callee := (.builtin .len), args := #[(.tmp 34)], argTypes := #[36] })⟩,
  ⟨some 36, some (30, true), (.binOp .eql 3 (.tmp 35) (.const (.int .i64 0)) 3)⟩,
  ⟨some 37, none, (.pick (.tmp 30) (.tmp 36) (.const (.bool false)))⟩,
  ⟨some 38, none, (.move (.tmp 37))⟩,
  ⟨some 39, some (38, true), (.move (.tmp 5))⟩,
  ⟨some 40, some (38, true), (.call { callee := (.value (.func 15)), args := #[(.tmp 39), (.const (.int .i64 9)), (.const (.int .i64 1))], argTypes := #[23, 2, 2] })⟩,
  ⟨some 41, some (38, true), (.call { callee := (.builtin .len), args := #[(.tmp 40)], argTypes := #[36] })⟩,
  ⟨some 42, some (38, true), (.binOp .eql 3 (.tmp 41) (.const (.int .i64 0)) 3)⟩,
  ⟨some 43, none, (.pick (.tmp 38) (.tmp 42) (.const (.bool false)))⟩,
  ⟨some 44, none, (.move (.tmp 43))⟩,
  ⟨some 45, some (44, true), (.move (.tmp 5))⟩,
  ⟨some 46, some (44, true), (.call { callee := (.value (.func 9)), args := #[(.tmp 45)], argTypes := #[23] })⟩,
  ⟨some 47, some (44, true), (.call { callee := (.builtin .len), args := #[(.tmp 46)], argTypes := #[36] })⟩,
  ⟨some 48, some (44, true), (.binOp .eql 3 (.tmp 47) (.const (.int .i64 0)) 3)⟩,
  ⟨some 49, none, (.pick (.tmp 44) (.tmp 48) (.const (.bool false)))⟩,
  ⟨some 50, none, (.move (.tmp 49))⟩,
  ⟨some 51, some (50, true), (.move (.tmp 5))⟩,
  ⟨some 52, some (50, true), (.call { callee := (.value (.func 19)), args := #[(.tmp 51)], argTypes := #[23] })⟩,
  ⟨some 53, some (50, true), (.call { callee := (.builtin .len), args := #[(.tmp 52)], argTypes := #[51] })⟩,
  ⟨some 54, some (50, true), (.binOp .eql 3 (.tmp 53) (.const (.int .i64 0)) 3)⟩,
  ⟨some 55, none, (.pick (.tmp 50) (.tmp 54) (.const (.bool false)))⟩,
  ⟨some 56, none, (.move (.tmp 55))⟩,
  ⟨some 57, some (56, true), (.move (.tmp 5))⟩,
  ⟨some 58, some (56, true), (.load 32 (.tmp 2))⟩,
  ⟨some 59, some (56, true), (.call { callee := (.value (.func 10)), args := #[(.tmp 57), (.tmp 58)], argTypes := #[23, 32] })⟩,
  ⟨some 60, some (56, true), (.unOp .not 4 (.tmp 59))⟩,
  ⟨some 61, none, (.pick (.tmp 56) (.tmp 60) (.const (.bool false)))⟩,
  ⟨some 62, none, (.move (.tmp 61))⟩,
  ⟨some 63, some (62, true), (.move (.tmp 5))⟩,
  ⟨some 64, some (62, true), (.load 32 (.tmp 2))⟩,
  ⟨some 65, some (62, true), (.call { callee := (.value (.func 12)), args := #[(.tmp 63), (.tmp 64)], argTypes := #[23, 32] })⟩,
  ⟨some 66, some (62, true), (.unOp .not 4 (.tmp 65))⟩,
  ⟨some 67, none, (.pick (.tmp 62) (.tmp 66) (.const (.bool false)))⟩,
  ⟨some 68, none, (.move (.tmp 67))⟩,
  ⟨some 69, some (68, true), (.call { callee := (.value (.func 13)), args := #[], argTypes := #[] })⟩,
  ⟨some 70, none, (.pick (.tmp 68) (.tmp 69) (.const (.bool false)))⟩,
  ⟨some 4, none, (.assign (.tmp 70))⟩] [4]
noncomputable def F6 : CC := (.seq F6_r0 (.seq F6_r1 (.seq F6_r2 (.seq F6_r3 .ret))))
noncomputable def F6_inf : Nat → RI
  | 0 => ⟨[2, 3], [], []⟩
  | 1 => ⟨[2, 3, 5], [], []⟩
  | 2 => ⟨[2, 5, 6, 7], [], []⟩
  | 3 => ⟨[4], [], []⟩
  | _ => ⟨[], [], []⟩
noncomputable def F6_c : Code := Try.f6.body.getD .skip
theorem F6_b : Try.f6.body = some F6_c := by kernel_rfl
theorem F6_rs : Try.f6.results.toList = ([.tmp 4] : List ResultVar) := by kernel_rfl
theorem F6_n : Try.f6.ntmps = 71 := by kernel_rfl
theorem F6_ok : toCC [] 71 F6_inf F6_c = some F6 := by kernel_rfl
theorem F6_in {args : List AV} {G : Hp} {post : AV → Hp → Prop} (ha : args.all AV.plain = true) (hn : args.length ≤ 71) (h : BDs args → awp Try.prog [] F6 (AEnds Try.prog [.tmp 4] post) (initT args) G) : ACalls Try.prog 6 args G post :=
  acalls_cc Try.func6 F6_b F6_rs F6_n F6_ok mixed ha hn h

/- 7 ostiary/view.New -/
@[simp] noncomputable def F7_r0 : CC := .reg [⟨some 0, none, (.assign (.const (.pointer none)))⟩] []
@[simp] noncomputable def F7_r1 : CC := .reg [⟨some 1, none, (.call { callee := (.value (.func 20)), args := #[(.const (.int .i64 8))], argTypes := #[3] })⟩,
  ⟨some 2, none, (.call { callee := (.value (.func 21)), args := #[(.const (.int .i64 64))], argTypes := #[3] })⟩,
  ⟨some 3, none, (.build 60 #[(0, (.tmp 1)), (1, (.tmp 2))])⟩,
  ⟨some 4, none, (.box 60 (.tmp 3))⟩,
  ⟨some 0, none, (.assign (.tmp 4))⟩] [0]
noncomputable def F7 : CC := (.seq F7_r0 (.seq F7_r1 .ret))
noncomputable def F7_inf : Nat → RI
  | 0 => ⟨[], [], []⟩
  | 1 => ⟨[0], [], []⟩
  | _ => ⟨[], [], []⟩
noncomputable def F7_c : Code := Try.f7.body.getD .skip
theorem F7_b : Try.f7.body = some F7_c := by kernel_rfl
theorem F7_rs : Try.f7.results.toList = ([.tmp 0] : List ResultVar) := by kernel_rfl
theorem F7_n : Try.f7.ntmps = 5 := by kernel_rfl
theorem F7_ok : toCC [4] 5 F7_inf F7_c = some F7 := by kernel_rfl
theorem F7_in {args : List AV} {G : Hp} {post : AV → Hp → Prop} (ha : args.all AV.plain = true) (hn : args.length ≤ 5) (h : BDs args → awp Try.prog [4] F7 (AEnds Try.prog [.tmp 0] post) (initT args) G) : ACalls Try.prog 7 args G post :=
  acalls_cc Try.func7 F7_b F7_rs F7_n F7_ok mixed ha hn h

/- 8 ostiary/ostiarylaw21.Step -/
@[simp] noncomputable def F8_r0 : CC := .reg [⟨some 6, none, (.box 34 (.tmp 2))⟩,
  ⟨some 8, none, (.assign (.const (.bool false)))⟩] [0, 1, 3, 6]
@[simp] noncomputable def F8_r1 : CC := .reg [⟨some 14, none, (.fieldAddr 34 (.tmp 6) 0)⟩,
  ⟨some 15, none, (.load 3 (.tmp 14))⟩] [0, 1, 3, 6, 15]
@[simp] noncomputable def F8_r2 : CC := .reg [⟨some 17, none, (.binOp .eql 3 (.tmp 15) (.const (.int .i64 0)) 3)⟩,
  ⟨some 16, none, (.assign (.tmp 17))⟩] [0, 1, 3, 6, 15, 16]
@[simp] noncomputable def F8_r3 : CC := .drw [⟨0, ⟨some 18, none, (.move (.tmp 0))⟩, [], []⟩,
  ⟨1, ⟨some 19, none, (.fieldAddr 34 (.tmp 6) 1)⟩, [], []⟩,
  ⟨2, ⟨some 20, none, (.fieldAddr 32 (.tmp 19) 0)⟩, [], []⟩,
  ⟨3, ⟨some 21, none, (.load 3 (.tmp 20))⟩, [], []⟩,
  ⟨4, ⟨some 22, none, (.fieldAddr 34 (.tmp 6) 3)⟩, [], []⟩,
  ⟨5, ⟨some 23, none, (.load 3 (.tmp 22))⟩, [], []⟩,
  ⟨7, ⟨some 25, none, (.move (.tmp 1))⟩, [], []⟩,
  ⟨8, ⟨some 26, none, (.fieldAddr 34 (.tmp 6) 1)⟩, [], []⟩,
  ⟨9, ⟨some 27, none, (.fieldAddr 32 (.tmp 26) 0)⟩, [], []⟩,
  ⟨10, ⟨some 28, none, (.load 3 (.tmp 27))⟩, [], []⟩,
  ⟨11, ⟨some 29, none, (.fieldAddr 34 (.tmp 6) 3)⟩, [], []⟩,
  ⟨12, ⟨some 30, none, (.load 3 (.tmp 29))⟩, [], []⟩,
  ⟨6, ⟨some 24, none, (.call { callee := (.value (.func 17)), args := #[(.tmp 18), (.tmp 21), (.tmp 23)], argTypes := #[23, 3, 3] })⟩, [10, 12], [⟨some 28, none, (.load 3 (.tmp 27))⟩, ⟨some 30, none, (.load 3 (.tmp 29))⟩]⟩,
  ⟨13, ⟨some 31, none, (.call { callee := (.value (.func 23)), args := #[(.tmp 25), (.tmp 28), (.tmp 30)], argTypes := #[25, 3, 3] })⟩, [], []⟩,
  ⟨14, ⟨some 32, none, (.call { callee := (.value (.func 22)), args := #[(.tmp 24), (.tmp 31)], argTypes := #[36, 36] })⟩, [], []⟩,
  ⟨15, ⟨some 8, none, (.assign (.tmp 32))⟩, [], []⟩] [18, 19, 20, 21, 22, 23, 25, 26, 27, 28, 29, 30, 24, 31, 32, 8] [8]
@[simp] noncomputable def F8_r4 : CC := .reg [⟨some 34, none, (.binOp .eql 3 (.tmp 15) (.const (.int .i64 1)) 3)⟩,
  ⟨some 33, none, (.assign (.tmp 34))⟩] [0, 1, 3, 6, 15, 33]
@[simp] noncomputable def F8_r5 : CC := .reg [⟨some 35, none, (.binOp .eql 3 (.tmp 15) (.const (.int .i64 2)) 3)⟩,
  ⟨some 33, none, (.assign (.tmp 35))⟩] [0, 1, 3, 6, 15, 33]
@[simp] noncomputable def F8_r6 : CC := .reg [⟨some 36, none, (.binOp .eql 3 (.tmp 15) (.const (.int .i64 3)) 3)⟩,
  ⟨some 33, none, (.assign (.tmp 36))⟩] [0, 1, 3, 6, 15, 33]
@[simp] noncomputable def F8_r7 : CC := .reg [⟨some 38, none, (.move (.tmp 0))⟩,
  ⟨some 39, none, (.fieldAddr 34 (.tmp 6) 1)⟩,
  ⟨some 40, none, (.load 32 (.tmp 39))⟩,
  ⟨some 41, none, (.fieldAddr 34 (.tmp 6) 2)⟩,
  ⟨some 42, none, (.load 32 (.tmp 41))⟩,
  ⟨some 43, none, (.move (.tmp 3))⟩,
  ⟨some 44, none, (.call { callee := (.value (.func 14)), args := #[(.tmp 38), (.tmp 40), (.tmp 42), (.tmp 43)], argTypes := #[23, 32, 32, 2] })⟩,
  ⟨some 37, none, (.move (.tmp 44))⟩,
  ⟨some 45, none, (.extract (.tmp 37) 0)⟩,
  ⟨some 46, none, (.extract (.tmp 37) 1)⟩,
  ⟨some 9, none, (.assign (.tmp 45))⟩,
  ⟨some 10, none, (.assign (.tmp 46))⟩] [1, 3, 6, 9, 10]
@[simp] noncomputable def F8_r8 : CC := .reg [⟨some 48, none, (.move (.tmp 1))⟩,
  ⟨some 49, none, (.fieldAddr 34 (.tmp 6) 1)⟩,
  ⟨some 50, none, (.load 32 (.tmp 49))⟩,
  ⟨some 51, none, (.fieldAddr 34 (.tmp 6) 2)⟩,
  ⟨some 52, none, (.load 32 (.tmp 51))⟩,
  ⟨some 53, none, (.move (.tmp 3))⟩,
  ⟨some 54, none, (.call { callee := (.value (.func 24)), args := #[(.tmp 48), (.tmp 50), (.tmp 52), (.tmp 53)], argTypes := #[25, 32, 32, 2] })⟩,
  ⟨some 47, none, (.move (.tmp 54))⟩,
  ⟨some 55, none, (.extract (.tmp 47) 0)⟩,
  ⟨some 56, none, (.extract (.tmp 47) 1)⟩,
  ⟨some 11, none, (.assign (.tmp 55))⟩,
  ⟨some 12, none, (.assign (.tmp 56))⟩] [9, 10, 11, 12]
@[simp] noncomputable def F8_r9 : CC := .reg [⟨some 57, none, (.move (.tmp 10))⟩,
  ⟨some 58, none, (.move (.tmp 12))⟩,
  ⟨some 59, none, (.binOp .eql 4 (.tmp 57) (.tmp 58) 4)⟩,
  ⟨some 60, none, (.move (.tmp 59))⟩,
  ⟨some 61, some (60, true), (.move (.tmp 9))⟩,
  ⟨some 62, some (60, true), (.move (.tmp 11))⟩,
  ⟨some 63, some (60, true), (.call { callee := (.value (.func 22)), args := #[(.tmp 61), (.tmp 62)], argTypes := #[36, 36] })⟩,
  ⟨some 64, none, (.pick (.tmp 60) (.tmp 63) (.const (.bool false)))⟩,
  ⟨some 8, none, (.assign (.tmp 64))⟩] [8]
@[simp] noncomputable def F8_r10 : CC := .reg [⟨some 66, none, (.binOp .eql 3 (.tmp 15) (.const (.int .i64 4)) 3)⟩,
  ⟨some 65, none, (.assign (.tmp 66))⟩] [0, 1, 3, 6, 15, 65]
@[simp] noncomputable def F8_r11 : CC := .drw [⟨0, ⟨some 67, none, (.move (.tmp 0))⟩, [], []⟩,
  ⟨1, ⟨some 68, none, (.fieldAddr 34 (.tmp 6) 1)⟩, [], []⟩,
  ⟨2, ⟨some 69, none, (.fieldAddr 32 (.tmp 68) 0)⟩, [], []⟩,
  ⟨3, ⟨some 70, none, (.load 3 (.tmp 69))⟩, [], []⟩,
  ⟨5, ⟨some 72, none, (.move (.tmp 1))⟩, [], []⟩,
  ⟨6, ⟨some 73, none, (.fieldAddr 34 (.tmp 6) 1)⟩, [], []⟩,
  ⟨7, ⟨some 74, none, (.fieldAddr 32 (.tmp 73) 0)⟩, [], []⟩,
  ⟨8, ⟨some 75, none, (.load 3 (.tmp 74))⟩, [], []⟩,
  ⟨4, ⟨some 71, none, (.call { callee := (.value (.func 18)), args := #[(.tmp 67), (.tmp 70)], argTypes := #[23, 3] })⟩, [8], [⟨some 75, none, (.load 3 (.tmp 74))⟩]⟩,
  ⟨9, ⟨some 76, none, (.call { callee := (.value (.func 25)), args := #[(.tmp 72), (.tmp 75)], argTypes := #[25, 3] })⟩, [], []⟩,
  ⟨10, ⟨some 77, none, (.call { callee := (.value (.func 22)), args := #[(.tmp 71), (.tmp 76)], argTypes := #[36, 36] })⟩, [], []⟩,
  ⟨11, ⟨some 8, none, (.assign (.tmp 77))⟩, [], []⟩] [67, 68, 69, 70, 72, 73, 74, 75, 71, 76, 77, 8] [8]
@[simp] noncomputable def F8_r12 : CC := .reg [⟨some 79, none, (.binOp .eql 3 (.tmp 15) (.const (.int .i64 5)) 3)⟩,
  ⟨some 78, none, (.assign (.tmp 79))⟩] [0, 1, 3, 6, 78]
@[simp] noncomputable def F8_r13 : CC := .reg [⟨some 80, none, (.fieldAddr 34 (.tmp 6) 4)⟩,
  ⟨some 81, none, (.load 2 (.tmp 80))⟩,
  ⟨some 82, none, (.binOp .and 2 (.tmp 81) (.const (.int .i64 1023)) 2)⟩,
  ⟨some 13, none, (.assign (.tmp 82))⟩] [0, 1, 3, 13]
@[simp] noncomputable def F8_r14 : CC := .reg [⟨some 83, none, (.move (.tmp 0))⟩,
  ⟨some 84, none, (.move (.tmp 3))⟩,
  ⟨some 85, none, (.move (.tmp 13))⟩,
  ⟨some 86, none, (.call { callee := (.value (.func 15)), args := #[(.tmp 83), (.tmp 84), (.tmp 85)], argTypes := #[23, 2, 2] })⟩,
  ⟨some 87, none, (.move (.tmp 1))⟩,
  ⟨some 88, none, (.move (.tmp 3))⟩,
  ⟨some 89, none, (.move (.tmp 13))⟩,
  ⟨some 90, none, (.call { callee := (.value (.func 26)), args := #[(.tmp 87), (.tmp 88), (.tmp 89)], argTypes := #[25, 2, 2] })⟩,
  ⟨some 91, none, (.call { callee := (.value (.func 22)), args := #[(.tmp 86), (.tmp 90)], argTypes := #[36, 36] })⟩,
  ⟨some 8, none, (.assign (.tmp 91))⟩] [8]
@[simp] noncomputable def F8_r15 : CC := .reg [⟨some 8, none, (.assign (.const (.bool true)))⟩] [8]
noncomputable def F8 : CC := (.seq F8_r0 (.seq (.seq F8_r1 (.block 0 (.seq F8_r2 (.cond (.tmp 16) (.seq F8_r3 .ret) (.seq (.seq F8_r4 (.cond (.tmp 33) .skip (.seq F8_r5 (.cond (.tmp 33) .skip F8_r6)))) (.cond (.tmp 33) (.seq F8_r7 (.seq F8_r8 (.seq F8_r9 .ret))) (.seq F8_r10 (.cond (.tmp 65) (.seq F8_r11 .ret) (.seq F8_r12 (.cond (.tmp 78) (.seq F8_r13 (.seq F8_r14 .ret)) .skip)))))))))) (.seq F8_r15 .ret)))
noncomputable def F8_inf : Nat → RI
  | 0 => ⟨[0, 1, 3, 6], [], []⟩
  | 1 => ⟨[0, 1, 3, 6, 15], [], []⟩
  | 2 => ⟨[0, 1, 3, 6, 15, 16], [], []⟩
  | 3 => ⟨[8], [0, 0, 2, 6, 0, 16, 63, 0, 0, 256, 768, 0, 2048, 8191, 16383, 32767], [(0, []), (1, []), (2, []), (3, []), (4, []), (5, []), (7, []), (8, []), (9, []), (10, []), (11, []), (12, []), (6, [10, 12]), (13, []), (14, []), (15, [])]⟩
  | 4 => ⟨[0, 1, 3, 6, 15, 33], [], []⟩
  | 5 => ⟨[0, 1, 3, 6, 15, 33], [], []⟩
  | 6 => ⟨[0, 1, 3, 6, 15, 33], [], []⟩
  | 7 => ⟨[1, 3, 6, 9, 10], [], []⟩
  | 8 => ⟨[9, 10, 11, 12], [], []⟩
  | 9 => ⟨[8], [], []⟩
  | 10 => ⟨[0, 1, 3, 6, 15, 65], [], []⟩
  | 11 => ⟨[8], [0, 0, 2, 6, 15, 0, 0, 64, 192, 511, 1023, 2047], [(0, []), (1, []), (2, []), (3, []), (5, []), (6, []), (7, []), (8, []), (4, [8]), (9, []), (10, []), (11, [])]⟩
  | 12 => ⟨[0, 1, 3, 6, 78], [], []⟩
  | 13 => ⟨[0, 1, 3, 13], [], []⟩
  | 14 => ⟨[8], [], []⟩
  | 15 => ⟨[8], [], []⟩
  | _ => ⟨[], [], []⟩
noncomputable def F8_c : Code := Try.f8.body.getD .skip
theorem F8_b : Try.f8.body = some F8_c := by kernel_rfl
theorem F8_rs : Try.f8.results.toList = ([.tmp 8] : List ResultVar) := by kernel_rfl
theorem F8_n : Try.f8.ntmps = 92 := by kernel_rfl
theorem F8_ok : toCC [] 92 F8_inf F8_c = some F8 := by kernel_rfl
theorem F8_in {args : List AV} {G : Hp} {post : AV → Hp → Prop} (ha : args.all AV.plain = true) (hn : args.length ≤ 92) (h : BDs args → awp Try.prog [] F8 (AEnds Try.prog [.tmp 8] post) (initT args) G) : ACalls Try.prog 8 args G post :=
  acalls_cc Try.func8 F8_b F8_rs F8_n F8_ok mixed ha hn h

/- 9 (*ostiary/view.View).Links -/
@[simp] noncomputable def F9_r0 : CC := .reg [⟨some 2, none, (.assign (.const (.slice none 0 0)))⟩] [0]
@[simp] noncomputable def F9_r1 : CC := .reg [⟨some 6, none, (.move (.tmp 0))⟩,
  ⟨some 7, none, (.binOp .eql 23 (.tmp 6) (.const (.pointer none)) 23)⟩] [0, 7]
@[simp] noncomputable def F9_r2 : CC := .reg [⟨some 2, none, (.assign (.const (.slice none 0 0)))⟩] [2]
@[simp] noncomputable def F9_r3 : CC := .reg [⟨some 3, none, (.assign (.const (.slice none 0 0)))⟩] [0, 3]
@[simp] noncomputable def F9_r4 : CC := .reg [⟨some 8, none, (.move (.tmp 0))⟩,
  ⟨some 9, none, (.nilCheck (.tmp 8))⟩,
  ⟨some 10, none, (.fieldAddr 60 (.tmp 9) 1)⟩,
  ⟨some 11, none, (.load 55 (.tmp 10))⟩,
  ⟨some 12, none, (.call { callee := (.value (.func 27)), args := #[(.tmp 11)], argTypes := #[55] })⟩,
  ⟨some 13, none, (.call { callee := (.builtin .len), args := #[(.tmp 12)], argTypes := #[62] })⟩,
  ⟨some 14, none, (.move (.const (.int .i64 0)))⟩] [3, 12, 13, 14]
@[simp] noncomputable def F9_r5 : CC := .reg [⟨some 15, none, (.binOp .lss 3 (.tmp 14) (.tmp 13) 3)⟩] [3, 12, 13, 14, 15]
@[simp] noncomputable def F9_r6 : CC := .reg [⟨some 16, none, (.indexAddr 62 (.tmp 12) (.tmp 14))⟩,
  ⟨some 17, none, (.load 58 (.tmp 16))⟩,
  ⟨some 5, none, (.alloc 58)⟩,
  ⟨none, none, (.store 58 (.tmp 5) (.tmp 17))⟩] [3, 5, 12, 13, 14]
@[simp] noncomputable def F9_r7 : CC := .reg [⟨some 18, none, (.move (.tmp 3))⟩,
  ⟨some 19, none, (.fieldAddr 58 (.tmp 5) 0)⟩,
  ⟨some 20, none, (.load 39 (.tmp 19))⟩,
  ⟨some 21, none, (.buildSlice 36 1 #[(0, (.tmp 20))])⟩,
  ⟨some 22, none, (.call { callee := (.builtin .append), args := #[(.tmp 18), (.tmp 21)], argTypes := #[36, 36] })⟩,
  ⟨some 3, none, (.assign (.tmp 22))⟩] [3, 12, 13, 14]
@[simp] noncomputable def F9_r8 : CC := .reg [⟨some 23, none, (.binOp .add 3 (.tmp 14) (.const (.int .i64 1)) 3)⟩,
  ⟨some 14, none, (.move (.tmp 23))⟩] [3, 12, 13, 14]
noncomputable def F9_l0 : CC := (.seq F9_r5 (.seq (.cond (.tmp 15) .skip (.exit 0)) (.seq (.block 1 (.seq F9_r6 F9_r7)) F9_r8)))
@[simp] noncomputable def F9_r9 : CC := .reg [⟨some 24, none, (.move (.tmp 3))⟩,
  ⟨some 2, none, (.assign (.tmp 24))⟩] [2]
noncomputable def F9 : CC := (.seq F9_r0 (.seq (.seq F9_r1 (.cond (.tmp 7) (.seq F9_r2 .ret) .skip)) (.seq F9_r3 (.seq (.seq F9_r4 (.block 0 (.loop F9_l0))) (.seq F9_r9 .ret)))))
noncomputable def F9_inf : Nat → RI
  | 0 => ⟨[0], [], []⟩
  | 1 => ⟨[0, 7], [], []⟩
  | 2 => ⟨[2], [], []⟩
  | 3 => ⟨[0, 3], [], []⟩
  | 4 => ⟨[3, 12, 13, 14], [], []⟩
  | 5 => ⟨[3, 12, 13, 14, 15], [], []⟩
  | 6 => ⟨[3, 5, 12, 13, 14], [], []⟩
  | 7 => ⟨[3, 12, 13, 14], [], []⟩
  | 8 => ⟨[3, 12, 13, 14], [], []⟩
  | 9 => ⟨[2], [], []⟩
  | _ => ⟨[], [], []⟩
noncomputable def F9_c : Code := Try.f9.body.getD .skip
theorem F9_b : Try.f9.body = some F9_c := by kernel_rfl
theorem F9_rs : Try.f9.results.toList = ([.tmp 2] : List ResultVar) := by kernel_rfl
theorem F9_n : Try.f9.ntmps = 25 := by kernel_rfl
theorem F9_ok : toCC [] 25 F9_inf F9_c = some F9 := by kernel_rfl
theorem F9_in {args : List AV} {G : Hp} {post : AV → Hp → Prop} (ha : args.all AV.plain = true) (hn : args.length ≤ 25) (h : BDs args → awp Try.prog [] F9 (AEnds Try.prog [.tmp 2] post) (initT args) G) : ACalls Try.prog 9 args G post :=
  acalls_cc Try.func9 F9_b F9_rs F9_n F9_ok mixed ha hn h

/- 10 (*ostiary/view.View).Up -/
@[simp] noncomputable def F10_r0 : CC := .reg [⟨some 3, none, (.box 32 (.tmp 1))⟩,
  ⟨some 4, none, (.assign (.const (.bool false)))⟩] [0, 3]
@[simp] noncomputable def F10_r1 : CC := .reg [⟨some 7, none, (.move (.tmp 0))⟩,
  ⟨some 8, none, (.binOp .eql 23 (.tmp 7) (.const (.pointer none)) 23)⟩,
  ⟨some 9, none, (.move (.tmp 8))⟩,
  ⟨some 10, some (9, false), (.load 32 (.tmp 3))⟩,
  ⟨some 11, some (9, false), (.call { callee := (.value (.func 28)), args := #[(.tmp 10)], argTypes := #[32] })⟩,
  ⟨some 12, some (9, false), (.unOp .not 4 (.tmp 11))⟩,
  ⟨some 13, none, (.pick (.tmp 9) (.const (.bool true)) (.tmp 12))⟩] [0, 3, 13]
@[simp] noncomputable def F10_r2 : CC := .reg [⟨some 4, none, (.assign (.const (.bool false)))⟩] [4]
@[simp] noncomputable def F10_r3 : CC := .drw [⟨0, ⟨some 15, none, (.move (.tmp 0))⟩, [], []⟩,
  ⟨1, ⟨some 16, none, (.nilCheck (.tmp 15))⟩, [], []⟩,
  ⟨2, ⟨some 17, none, (.fieldAddr 60 (.tmp 16) 0)⟩, [], []⟩,
  ⟨3, ⟨some 18, none, (.load 53 (.tmp 17))⟩, [], []⟩,
  ⟨4, ⟨some 19, none, (.fieldAddr 32 (.tmp 3) 0)⟩, [], []⟩,
  ⟨5, ⟨some 20, none, (.load 3 (.tmp 19))⟩, [], []⟩,
  ⟨6, ⟨some 21, none, (.call { callee := (.value (.func 29)), args := #[(.tmp 18), (.tmp 20)], argTypes := #[53, 3] })⟩, [], []⟩,
  ⟨7, ⟨some 14, none, (.move (.tmp 21))⟩, [], []⟩,
  ⟨8, ⟨some 22, none, (.extract (.tmp 14) 0)⟩, [], []⟩,
  ⟨9, ⟨some 23, none, (.extract (.tmp 14) 1)⟩, [], []⟩,
  ⟨10, ⟨some 5, none, (.assign (.tmp 22))⟩, [], []⟩,
  ⟨11, ⟨some 6, none, (.assign (.tmp 23))⟩, [], []⟩] [15, 16, 17, 18, 19, 20, 21, 14, 22, 23, 5, 6] [3, 5]
@[simp] noncomputable def F10_r4 : CC := .reg [⟨some 24, none, (.move (.tmp 5))⟩,
  ⟨some 25, none, (.fieldAddr 32 (.tmp 3) 1)⟩,
  ⟨some 26, none, (.load 3 (.tmp 25))⟩,
  ⟨some 27, none, (.binOp .sub 3 (.tmp 26) (.const (.int .i64 1)) 3)⟩,
  ⟨some 28, none, (.binOp .shr 3 (.tmp 24) (.tmp 27) 3)⟩,
  ⟨some 29, none, (.binOp .and 3 (.tmp 28) (.const (.int .i64 1)) 3)⟩,
  ⟨some 30, none, (.binOp .eql 3 (.tmp 29) (.const (.int .i64 1)) 3)⟩,
  ⟨some 4, none, (.assign (.tmp 30))⟩] [4]
noncomputable def F10 : CC := (.seq F10_r0 (.seq (.seq F10_r1 (.cond (.tmp 13) (.seq F10_r2 .ret) .skip)) (.seq F10_r3 (.seq F10_r4 .ret))))
noncomputable def F10_inf : Nat → RI
  | 0 => ⟨[0, 3], [], []⟩
  | 1 => ⟨[0, 3, 13], [], []⟩
  | 2 => ⟨[4], [], []⟩
  | 3 => ⟨[3, 5], [0, 1, 3, 7, 0, 16, 63, 127, 255, 255, 511, 2047], [(0, []), (1, []), (2, []), (3, []), (4, []), (5, []), (6, []), (7, []), (8, []), (9, []), (10, []), (11, [])]⟩
  | 4 => ⟨[4], [], []⟩
  | _ => ⟨[], [], []⟩
noncomputable def F10_c : Code := Try.f10.body.getD .skip
theorem F10_b : Try.f10.body = some F10_c := by kernel_rfl
theorem F10_rs : Try.f10.results.toList = ([.tmp 4] : List ResultVar) := by kernel_rfl
theorem F10_n : Try.f10.ntmps = 31 := by kernel_rfl
theorem F10_ok : toCC [] 31 F10_inf F10_c = some F10 := by kernel_rfl
theorem F10_in {args : List AV} {G : Hp} {post : AV → Hp → Prop} (ha : args.all AV.plain = true) (hn : args.length ≤ 31) (h : BDs args → awp Try.prog [] F10 (AEnds Try.prog [.tmp 4] post) (initT args) G) : ACalls Try.prog 10 args G post :=
  acalls_cc Try.func10 F10_b F10_rs F10_n F10_ok mixed ha hn h

/- 11 ostiary/ostiaryref19.Less -/
@[simp] noncomputable def F11_r0 : CC := .reg [⟨some 2, none, (.box 32 (.tmp 0))⟩,
  ⟨some 3, none, (.box 32 (.tmp 1))⟩,
  ⟨some 4, none, (.assign (.const (.bool false)))⟩] [2, 3]
@[simp] noncomputable def F11_r1 : CC := .reg [⟨some 5, none, (.fieldAddr 32 (.tmp 2) 0)⟩,
  ⟨some 6, none, (.load 3 (.tmp 5))⟩,
  ⟨some 7, none, (.fieldAddr 32 (.tmp 3) 0)⟩,
  ⟨some 8, none, (.load 3 (.tmp 7))⟩,
  ⟨some 9, none, (.binOp .lss 3 (.tmp 6) (.tmp 8) 3)⟩,
  ⟨some 10, none, (.move (.tmp 9))⟩,
  ⟨some 11, some (10, false), (.fieldAddr 32 (.tmp 2) 0)⟩,
  ⟨some 12, some (10, false), (.load 3 (.tmp 11))⟩,
  ⟨some 13, some (10, false), (.fieldAddr 32 (.tmp 3) 0)⟩,
  ⟨some 14, some (10, false), (.load 3 (.tmp 13))⟩,
  ⟨some 15, some (10, false), (.binOp .eql 3 (.tmp 12) (.tmp 14) 3)⟩,
  ⟨some 16, some (10, false), (.move (.tmp 15))⟩,
  ⟨some 17, some (16, true), (.fieldAddr 32 (.tmp 2) 1)⟩,
  ⟨some 18, some (16, true), (.load 3 (.tmp 17))⟩,
  ⟨some 19, some (16, true), (.fieldAddr 32 (.tmp 3) 1)⟩,
  ⟨some 20, some (16, true), (.load 3 (.tmp 19))⟩,
  ⟨some 21, some (16, true), (.binOp .lss 3 (.tmp 18) (.tmp 20) 3)⟩,
  ⟨some 22, some (10, false), (.pick (.tmp 16) (.tmp 21) (.const (.bool false)))⟩,
  ⟨some 23, none, (.pick (.tmp 10) (.const (.bool true)) (.tmp 22))⟩,
  ⟨some 4, none, (.assign (.tmp 23))⟩] [4]
noncomputable def F11 : CC := (.seq F11_r0 (.seq F11_r1 .ret))
noncomputable def F11_inf : Nat → RI
  | 0 => ⟨[2, 3], [], []⟩
  | 1 => ⟨[4], [], []⟩
  | _ => ⟨[], [], []⟩
noncomputable def F11_c : Code := Try.f11.body.getD .skip
theorem F11_b : Try.f11.body = some F11_c := by kernel_rfl
theorem F11_rs : Try.f11.results.toList = ([.tmp 4] : List ResultVar) := by kernel_rfl
theorem F11_n : Try.f11.ntmps = 24 := by kernel_rfl
theorem F11_ok : toCC [] 24 F11_inf F11_c = some F11 := by kernel_rfl
theorem F11_in {args : List AV} {G : Hp} {post : AV → Hp → Prop} (ha : args.all AV.plain = true) (hn : args.length ≤ 24) (h : BDs args → awp Try.prog [] F11 (AEnds Try.prog [.tmp 4] post) (initT args) G) : ACalls Try.prog 11 args G post :=
  acalls_cc Try.func11 F11_b F11_rs F11_n F11_ok mixed ha hn h

/- 12 (*ostiary/view.View).Edge -/
@[simp] noncomputable def F12_r0 : CC := .reg [⟨some 3, none, (.box 32 (.tmp 1))⟩,
  ⟨some 4, none, (.assign (.const (.bool false)))⟩] [0, 3]
@[simp] noncomputable def F12_r1 : CC := .reg [⟨some 7, none, (.move (.tmp 0))⟩,
  ⟨some 8, none, (.load 32 (.tmp 3))⟩,
  ⟨some 9, none, (.call { callee := (.value (.func 10)), args := #[(.tmp 7), (.tmp 8)], argTypes := #[23, 32] })⟩,
  ⟨some 10, none, (.unOp .not 4 (.tmp 9))⟩] [0, 3, 10]
@[simp] noncomputable def F12_r2 : CC := .reg [⟨some 4, none, (.assign (.const (.bool false)))⟩] [4]
@[simp] noncomputable def F12_r3 : CC := .reg [⟨some 11, none, (.move (.tmp 0))⟩,
  ⟨some 12, none, (.nilCheck (.tmp 11))⟩,
  ⟨some 13, none, (.fieldAddr 60 (.tmp 12) 1)⟩,
  ⟨some 14, none, (.load 55 (.tmp 13))⟩,
  ⟨some 15, none, (.call { callee := (.value (.func 27)), args := #[(.tmp 14)], argTypes := #[55] })⟩,
  ⟨some 16, none, (.call { callee := (.builtin .len), args := #[(.tmp 15)], argTypes := #[62] })⟩,
  ⟨some 17, none, (.move (.const (.int .i64 0)))⟩] [3, 15, 16, 17]
@[simp] noncomputable def F12_r4 : CC := .reg [⟨some 18, none, (.binOp .lss 3 (.tmp 17) (.tmp 16) 3)⟩] [3, 15, 16, 17, 18]
@[simp] noncomputable def F12_r5 : CC := .reg [⟨some 19, none, (.indexAddr 62 (.tmp 15) (.tmp 17))⟩,
  ⟨some 20, none, (.load 58 (.tmp 19))⟩,
  ⟨some 6, none, (.alloc 58)⟩,
  ⟨none, none, (.store 58 (.tmp 6) (.tmp 20))⟩] [3, 6, 15, 16, 17]
@[simp] noncomputable def F12_r6 : CC := .reg [⟨some 21, none, (.load 58 (.tmp 6))⟩,
  ⟨some 22, none, (.load 32 (.tmp 3))⟩,
  ⟨some 23, none, (.call { callee := (.value (.func 30)), args := #[(.tmp 21), (.tmp 22)], argTypes := #[58, 32] })⟩] [3, 15, 16, 17, 23]
@[simp] noncomputable def F12_r7 : CC := .reg [⟨some 4, none, (.assign (.const (.bool false)))⟩] [4]
@[simp] noncomputable def F12_r8 : CC := .reg [⟨some 24, none, (.binOp .add 3 (.tmp 17) (.const (.int .i64 1)) 3)⟩,
  ⟨some 17, none, (.move (.tmp 24))⟩] [3, 15, 16, 17]
noncomputable def F12_l0 : CC := (.seq F12_r4 (.seq (.cond (.tmp 18) .skip (.exit 0)) (.seq (.block 1 (.seq F12_r5 (.seq F12_r6 (.cond (.tmp 23) (.seq F12_r7 .ret) .skip)))) F12_r8)))
@[simp] noncomputable def F12_r9 : CC := .reg [⟨some 4, none, (.assign (.const (.bool true)))⟩] [4]
noncomputable def F12 : CC := (.seq F12_r0 (.seq (.seq F12_r1 (.cond (.tmp 10) (.seq F12_r2 .ret) .skip)) (.seq (.seq F12_r3 (.block 0 (.loop F12_l0))) (.seq F12_r9 .ret))))
noncomputable def F12_inf : Nat → RI
  | 0 => ⟨[0, 3], [], []⟩
  | 1 => ⟨[0, 3, 10], [], []⟩
  | 2 => ⟨[4], [], []⟩
  | 3 => ⟨[3, 15, 16, 17], [], []⟩
  | 4 => ⟨[3, 15, 16, 17, 18], [], []⟩
  | 5 => ⟨[3, 6, 15, 16, 17], [], []⟩
  | 6 => ⟨[3, 15, 16, 17, 23], [], []⟩
  | 7 => ⟨[4], [], []⟩
  | 8 => ⟨[3, 15, 16, 17], [], []⟩
  | 9 => ⟨[4], [], []⟩
  | _ => ⟨[], [], []⟩
noncomputable def F12_c : Code := Try.f12.body.getD .skip
theorem F12_b : Try.f12.body = some F12_c := by kernel_rfl
theorem F12_rs : Try.f12.results.toList = ([.tmp 4] : List ResultVar) := by kernel_rfl
theorem F12_n : Try.f12.ntmps = 25 := by kernel_rfl
theorem F12_ok : toCC [] 25 F12_inf F12_c = some F12 := by kernel_rfl
theorem F12_in {args : List AV} {G : Hp} {post : AV → Hp → Prop} (ha : args.all AV.plain = true) (hn : args.length ≤ 25) (h : BDs args → awp Try.prog [] F12 (AEnds Try.prog [.tmp 4] post) (initT args) G) : ACalls Try.prog 12 args G post :=
  acalls_cc Try.func12 F12_b F12_rs F12_n F12_ok mixed ha hn h

/- 13 ostiary/ostiarylaw21.awake -/
@[simp] noncomputable def F13_r0 : CC := .reg [⟨some 0, none, (.assign (.const (.bool false)))⟩] []
@[simp] noncomputable def F13_r1 : CC := .reg [⟨some 5, none, (.call { callee := (.value (.func 7)), args := #[], argTypes := #[] })⟩,
  ⟨some 1, none, (.assign (.tmp 5))⟩] [1]
@[simp] noncomputable def F13_r2 : CC := .reg [⟨some 6, none, (.move (.tmp 1))⟩,
  ⟨some 7, none, (.call { callee := (.value (.func 17)), args := #[(.tmp 6), (.const (.int .i64 1)), (.const (.int .i64 3))], argTypes := #[23, 3, 3] })⟩] [1]
@[simp] noncomputable def F13_r3 : CC := .reg [⟨some 8, none, (.move (.tmp 1))⟩,
  ⟨some 9, none, (.call { callee := (.value (.func 17)), args := #[(.tmp 8), (.const (.int .i64 2)), (.const (.int .i64 1))], argTypes := #[23, 3, 3] })⟩] [1]
@[simp] noncomputable def F13_r4 : CC := .reg [⟨some 11, none, (.move (.tmp 1))⟩,
  ⟨some 12, none, (.build 32 #[(0, (.const (.int .i64 2))), (1, (.const (.int .i64 1)))])⟩,
  ⟨some 13, none, (.build 32 #[(0, (.const (.int .i64 1))), (1, (.const (.int .i64 2)))])⟩,
  ⟨some 14, none, (.call { callee := (.value (.func 14)), args := #[(.tmp 11), (.tmp 12), (.tmp 13), (.const (.int .i64 5))], argTypes := #[23, 32, 32, 2] })⟩,
  ⟨some 10, none, (.move (.tmp 14))⟩,
  ⟨some 15, none, (.extract (.tmp 10) 0)⟩,
  ⟨some 16, none, (.extract (.tmp 10) 1)⟩,
  ⟨some 2, none, (.assign (.tmp 15))⟩,
  ⟨some 3, none, (.assign (.tmp 16))⟩] [1, 2, 3]
@[simp] noncomputable def F13_r5 : CC := .reg [⟨some 17, none, (.move (.tmp 1))⟩,
  ⟨some 18, none, (.call { callee := (.value (.func 9)), args := #[(.tmp 17)], argTypes := #[23] })⟩,
  ⟨some 4, none, (.assign (.tmp 18))⟩] [1, 2, 3, 4]
@[simp] noncomputable def F13_r6 : CC := .reg [⟨some 19, none, (.move (.tmp 2))⟩,
  ⟨some 20, none, (.call { callee := (.builtin .len), args := #[(.tmp 19)], argTypes := #[36] })⟩,
  ⟨some 21, none, (.binOp .eql 3 (.tmp 20) (.const (.int .i64 0)) 3)⟩,
  ⟨some 22, none, (.move (.tmp 21))⟩,
  ⟨some 23, some (22, true), (.move (.tmp 3))⟩,
  ⟨some 24, none, (.pick (.tmp 22) (.tmp 23) (.const (.bool false)))⟩,
  ⟨some 25, none, (.move (.tmp 24))⟩,
  ⟨some 26, some (25, true), (.move (.tmp 4))⟩,
  ⟨some 27, some (25, true), (.call { callee := (.builtin .len), args := #[(.tmp 26)], argTypes := #[36] })⟩,
  ⟨some 28, some (25, true), (.binOp .eql 3 (.tmp 27) (.const (.int .i64 1)) 3)⟩,
  ⟨some 29, none, (.pick (.tmp 25) (.tmp 28) (.const (.bool false)))⟩,
  ⟨some 30, none, (.move (.tmp 29))⟩,
  ⟨some 31, some (30, true), (.move (.tmp 4))⟩,
  ⟨some 32, some (30, true), (.indexAddr 36 (.tmp 31) (.const (.int .i64 0)))⟩,
  ⟨some 33, some (30, true), (.fieldAddr 39 (.tmp 32) 0)⟩,
  ⟨some 34, some (30, true), (.fieldAddr 32 (.tmp 33) 0)⟩,
  ⟨some 35, some (30, true), (.load 3 (.tmp 34))⟩,
  ⟨some 36, some (30, true), (.binOp .eql 3 (.tmp 35) (.const (.int .i64 1)) 3)⟩,
  ⟨some 37, none, (.pick (.tmp 30) (.tmp 36) (.const (.bool false)))⟩,
  ⟨some 38, none, (.move (.tmp 37))⟩,
  ⟨some 39, some (38, true), (.move (.tmp 1))⟩,
  ⟨some 40, some (38, true), (.build 32 #[(0, (.const (.int .i64 1))), (1, (.const (.int .i64 1)))])⟩,
  ⟨some 41, some (38, true), (.call { callee := (.value (.func 12)), args := #[(.tmp 39), (.tmp 40)], argTypes := #[23, 32] })⟩,
  ⟨some 42, none, (.pick (.tmp 38) (.tmp 41) (.const (.bool false)))⟩,
  ⟨some 43, none, (.move (.tmp 42))⟩,
  ⟨some 44, some (43, true), (.move (.tmp 1))⟩,
  ⟨some 45, some (43, true), (.build 32 #[(0, (.const (.int .i64 1))), (1, (.const (.int .i64 2)))])⟩,
  ⟨some 46, some (43, true), (.call { callee := (.value (.func 12)), args := #[(.tmp 44), (.tmp 45)], argTypes := #[23, 32] })⟩,
  ⟨some 47, some (43, true), (.unOp .not 4 (.tmp 46))⟩,
  ⟨some 48, none, (.pick (.tmp 43) (.tmp 47) (.const (.bool false)))⟩,
  ⟨some 0, none, (.assign (.tmp 48))⟩] [0]
noncomputable def F13 : CC := (.seq F13_r0 (.seq F13_r1 (.seq F13_r2 (.seq F13_r3 (.seq F13_r4 (.seq F13_r5 (.seq F13_r6 .ret)))))))
noncomputable def F13_inf : Nat → RI
  | 0 => ⟨[], [], []⟩
  | 1 => ⟨[1], [], []⟩
  | 2 => ⟨[1], [], []⟩
  | 3 => ⟨[1], [], []⟩
  | 4 => ⟨[1, 2, 3], [], []⟩
  | 5 => ⟨[1, 2, 3, 4], [], []⟩
  | 6 => ⟨[0], [], []⟩
  | _ => ⟨[], [], []⟩
noncomputable def F13_c : Code := Try.f13.body.getD .skip
theorem F13_b : Try.f13.body = some F13_c := by kernel_rfl
theorem F13_rs : Try.f13.results.toList = ([.tmp 0] : List ResultVar) := by kernel_rfl
theorem F13_n : Try.f13.ntmps = 49 := by kernel_rfl
theorem F13_ok : toCC [] 49 F13_inf F13_c = some F13 := by kernel_rfl
theorem F13_in {args : List AV} {G : Hp} {post : AV → Hp → Prop} (ha : args.all AV.plain = true) (hn : args.length ≤ 49) (h : BDs args → awp Try.prog [] F13 (AEnds Try.prog [.tmp 0] post) (initT args) G) : ACalls Try.prog 13 args G post :=
  acalls_cc Try.func13 F13_b F13_rs F13_n F13_ok mixed ha hn h

/- 14 (*ostiary/view.View).Learn -/
@[simp] noncomputable def F14_r0 : CC := .reg [⟨some 5, none, (.box 32 (.tmp 1))⟩,
  ⟨some 6, none, (.box 32 (.tmp 2))⟩,
  ⟨some 8, none, (.assign (.const (.slice none 0 0)))⟩,
  ⟨some 9, none, (.assign (.const (.bool false)))⟩] [0, 3, 5, 6]
@[simp] noncomputable def F14_r1 : CC := .reg [⟨some 14, none, (.move (.tmp 0))⟩,
  ⟨some 15, none, (.binOp .eql 23 (.tmp 14) (.const (.pointer none)) 23)⟩,
  ⟨some 16, none, (.move (.tmp 15))⟩,
  ⟨some 17, some (16, false), (.load 32 (.tmp 5))⟩,
  ⟨some 18, some (16, false), (.load 32 (.tmp 6))⟩,
  ⟨some 19, some (16, false), (.binOp .eql 32 (.tmp 17) (.tmp 18) 32)⟩,
  ⟨some 20, none, (.pick (.tmp 16) (.const (.bool true)) (.tmp 19))⟩,
  ⟨some 21, none, (.move (.tmp 20))⟩,
  ⟨some 22, some (21, false), (.move (.tmp 0))⟩,
  ⟨some 23, some (21, false), (.load 32 (.tmp 5))⟩,
  ⟨some 24, some (21, false), (.call { callee := (.value (.func 10)), args := #[(.tmp 22), (.tmp 23)], argTypes := #[23, 32] })⟩,
  ⟨some 25, some (21, false), (.unOp .not 4 (.tmp 24))⟩,
  ⟨some 26, none, (.pick (.tmp 21) (.const (.bool true)) (.tmp 25))⟩,
  ⟨some 27, none, (.move (.tmp 26))⟩,
  ⟨some 28, some (27, false), (.move (.tmp 0))⟩,
  ⟨some 29, some (27, false), (.load 32 (.tmp 6))⟩,
  ⟨some 30, some (27, false), (.call { callee := (.value (.func 10)), args := #[(.tmp 28), (.tmp 29)], argTypes := #[23, 32] })⟩,
  ⟨some 31, some (27, false), (.unOp .not 4 (.tmp 30))⟩,
  ⟨some 32, none, (.pick (.tmp 27) (.const (.bool true)) (.tmp 31))⟩] [0, 3, 5, 6, 32]
@[simp] noncomputable def F14_r2 : CC := .reg [⟨some 8, none, (.assign (.const (.slice none 0 0)))⟩,
  ⟨some 9, none, (.assign (.const (.bool false)))⟩] [8, 9]
@[simp] noncomputable def F14_r3 : CC := .reg [⟨some 33, none, (.load 32 (.tmp 5))⟩,
  ⟨some 34, none, (.load 32 (.tmp 6))⟩,
  ⟨some 35, none, (.call { callee := (.value (.func 31)), args := #[(.tmp 33), (.tmp 34)], argTypes := #[32, 32] })⟩,
  ⟨some 10, none, (.alloc 39)⟩,
  ⟨none, none, (.store 39 (.tmp 10) (.tmp 35))⟩] [0, 3, 5, 6, 10]
@[simp] noncomputable def F14_r4 : CC := .drw [⟨0, ⟨some 37, none, (.move (.tmp 0))⟩, [], []⟩,
  ⟨1, ⟨some 38, none, (.nilCheck (.tmp 37))⟩, [], []⟩,
  ⟨2, ⟨some 39, none, (.fieldAddr 60 (.tmp 38) 1)⟩, [], []⟩,
  ⟨3, ⟨some 40, none, (.load 55 (.tmp 39))⟩, [], []⟩,
  ⟨4, ⟨some 41, none, (.fieldAddr 39 (.tmp 10) 0)⟩, [], []⟩,
  ⟨5, ⟨some 42, none, (.load 32 (.tmp 41))⟩, [], []⟩,
  ⟨11, ⟨some 11, none, (.alloc 58)⟩, [], []⟩,
  ⟨6, ⟨some 43, none, (.call { callee := (.value (.func 33)), args := #[(.tmp 42)], argTypes := #[32] })⟩, [3], [⟨some 40, none, (.load 55 (.tmp 39))⟩]⟩,
  ⟨7, ⟨some 44, none, (.call { callee := (.value (.func 32)), args := #[(.tmp 40), (.tmp 43)], argTypes := #[55, 3] })⟩, [], []⟩,
  ⟨8, ⟨some 36, none, (.move (.tmp 44))⟩, [], []⟩,
  ⟨9, ⟨some 45, none, (.extract (.tmp 36) 0)⟩, [], []⟩,
  ⟨10, ⟨some 46, none, (.extract (.tmp 36) 1)⟩, [], []⟩,
  ⟨12, ⟨none, none, (.store 58 (.tmp 11) (.tmp 45))⟩, [], []⟩,
  ⟨13, ⟨some 12, none, (.assign (.tmp 46))⟩, [], []⟩] [37, 38, 39, 40, 41, 42, 11, 43, 44, 36, 45, 46, 12] [0, 3, 5, 6, 10, 11, 12]
@[simp] noncomputable def F14_r5 : CC := .reg [⟨some 47, none, (.move (.tmp 12))⟩,
  ⟨some 48, none, (.move (.tmp 47))⟩,
  ⟨some 49, some (48, true), (.fieldAddr 58 (.tmp 11) 0)⟩,
  ⟨some 50, some (48, true), (.load 39 (.tmp 49))⟩,
  ⟨some 51, some (48, true), (.load 39 (.tmp 10))⟩,
  ⟨some 52, some (48, true), (.binOp .eql 39 (.tmp 50) (.tmp 51) 39)⟩,
  ⟨some 53, none, (.pick (.tmp 48) (.tmp 52) (.const (.bool false)))⟩] [0, 3, 5, 6, 10, 53]
@[simp] noncomputable def F14_r6 : CC := .drw [⟨0, ⟨some 54, none, (.move (.tmp 0))⟩, [], []⟩,
  ⟨1, ⟨some 55, none, (.nilCheck (.tmp 54))⟩, [], []⟩,
  ⟨2, ⟨some 56, none, (.fieldAddr 60 (.tmp 55) 1)⟩, [], []⟩,
  ⟨3, ⟨some 57, none, (.load 55 (.tmp 56))⟩, [], []⟩,
  ⟨4, ⟨some 58, none, (.fieldAddr 39 (.tmp 10) 0)⟩, [], []⟩,
  ⟨5, ⟨some 59, none, (.load 32 (.tmp 58))⟩, [], []⟩,
  ⟨7, ⟨some 61, none, (.load 39 (.tmp 10))⟩, [], []⟩,
  ⟨8, ⟨some 62, none, (.move (.tmp 3))⟩, [], []⟩,
  ⟨9, ⟨some 63, none, (.build 58 #[(0, (.tmp 61)), (1, (.tmp 62))])⟩, [], []⟩,
  ⟨6, ⟨some 60, none, (.call { callee := (.value (.func 33)), args := #[(.tmp 59)], argTypes := #[32] })⟩, [3, 7], [⟨some 57, none, (.load 55 (.tmp 56))⟩, ⟨some 61, none, (.load 39 (.tmp 10))⟩]⟩,
  ⟨10, ⟨some 64, none, (.call { callee := (.value (.func 34)), args := #[(.tmp 57), (.tmp 60), (.tmp 63)], argTypes := #[55, 3, 58] })⟩, [], []⟩] [54, 55, 56, 57, 58, 59, 61, 62, 63, 60, 64] []
@[simp] noncomputable def F14_r7 : CC := .reg [⟨some 8, none, (.assign (.const (.slice none 0 0)))⟩,
  ⟨some 9, none, (.assign (.const (.bool false)))⟩] [8, 9]
@[simp] noncomputable def F14_r8 : CC := .reg [⟨some 65, none, (.move (.tmp 0))⟩,
  ⟨some 66, none, (.makeFunc (.func 36) #[] #[(.tmp 5), (.tmp 6)])⟩,
  ⟨some 67, none, (.call { callee := (.value (.func 35)), args := #[(.tmp 65), (.tmp 66)], argTypes := #[23, 73] })⟩,
  ⟨some 13, none, (.assign (.tmp 67))⟩] [0, 3, 10, 13]
@[simp] noncomputable def F14_r9 : CC := .drw [⟨0, ⟨some 68, none, (.move (.tmp 0))⟩, [], []⟩,
  ⟨1, ⟨some 69, none, (.nilCheck (.tmp 68))⟩, [], []⟩,
  ⟨2, ⟨some 70, none, (.fieldAddr 60 (.tmp 69) 1)⟩, [], []⟩,
  ⟨3, ⟨some 71, none, (.load 55 (.tmp 70))⟩, [], []⟩,
  ⟨4, ⟨some 72, none, (.fieldAddr 39 (.tmp 10) 0)⟩, [], []⟩,
  ⟨5, ⟨some 73, none, (.load 32 (.tmp 72))⟩, [], []⟩,
  ⟨7, ⟨some 75, none, (.load 39 (.tmp 10))⟩, [], []⟩,
  ⟨8, ⟨some 76, none, (.move (.tmp 3))⟩, [], []⟩,
  ⟨9, ⟨some 77, none, (.build 58 #[(0, (.tmp 75)), (1, (.tmp 76))])⟩, [], []⟩,
  ⟨6, ⟨some 74, none, (.call { callee := (.value (.func 33)), args := #[(.tmp 73)], argTypes := #[32] })⟩, [3, 7], [⟨some 71, none, (.load 55 (.tmp 70))⟩, ⟨some 75, none, (.load 39 (.tmp 10))⟩]⟩,
  ⟨10, ⟨some 78, none, (.call { callee := (.value (.func 34)), args := #[(.tmp 71), (.tmp 74), (.tmp 77)], argTypes := #[55, 3, 58] })⟩, [], []⟩] [68, 69, 70, 71, 72, 73, 75, 76, 77, 74, 78] [13]
@[simp] noncomputable def F14_r10 : CC := .reg [⟨some 79, none, (.move (.tmp 13))⟩,
  ⟨some 8, none, (.assign (.tmp 79))⟩,
  ⟨some 9, none, (.assign (.const (.bool true)))⟩] [8, 9]
noncomputable def F14 : CC := (.seq F14_r0 (.seq (.seq F14_r1 (.cond (.tmp 32) (.seq F14_r2 .ret) .skip)) (.seq F14_r3 (.seq F14_r4 (.seq (.seq F14_r5 (.cond (.tmp 53) (.seq F14_r6 (.seq F14_r7 .ret)) .skip)) (.seq F14_r8 (.seq F14_r9 (.seq F14_r10 .ret))))))))
noncomputable def F14_inf : Nat → RI
  | 0 => ⟨[0, 3, 5, 6], [], []⟩
  | 1 => ⟨[0, 3, 5, 6, 32], [], []⟩
  | 2 => ⟨[8, 9], [], []⟩
  | 3 => ⟨[0, 3, 5, 6, 10], [], []⟩
  | 4 => ⟨[0, 3, 5, 6, 10, 11, 12], [0, 1, 3, 7, 0, 16, 48, 127, 255, 511, 511, 0, 3071, 8191], [(0, []), (1, []), (2, []), (3, []), (4, []), (5, []), (11, []), (6, [3]), (7, []), (8, []), (9, []), (10, []), (12, []), (13, [])]⟩
  | 5 => ⟨[0, 3, 5, 6, 10, 53], [], []⟩
  | 6 => ⟨[], [0, 1, 3, 7, 0, 16, 48, 0, 0, 384, 1023], [(0, []), (1, []), (2, []), (3, []), (4, []), (5, []), (7, []), (8, []), (9, []), (6, [3, 7]), (10, [])]⟩
  | 7 => ⟨[8, 9], [], []⟩
  | 8 => ⟨[0, 3, 10, 13], [], []⟩
  | 9 => ⟨[13], [0, 1, 3, 7, 0, 16, 48, 0, 0, 384, 1023], [(0, []), (1, []), (2, []), (3, []), (4, []), (5, []), (7, []), (8, []), (9, []), (6, [3, 7]), (10, [])]⟩
  | 10 => ⟨[8, 9], [], []⟩
  | _ => ⟨[], [], []⟩
noncomputable def F14_c : Code := Try.f14.body.getD .skip
theorem F14_b : Try.f14.body = some F14_c := by kernel_rfl
theorem F14_rs : Try.f14.results.toList = ([.tmp 8, .tmp 9] : List ResultVar) := by kernel_rfl
theorem F14_n : Try.f14.ntmps = 80 := by kernel_rfl
theorem F14_ok : toCC [5, 6] 80 F14_inf F14_c = some F14 := by kernel_rfl
theorem F14_in {args : List AV} {G : Hp} {post : AV → Hp → Prop} (ha : args.all AV.plain = true) (hn : args.length ≤ 80) (h : BDs args → awp Try.prog [5, 6] F14 (AEnds Try.prog [.tmp 8, .tmp 9] post) (initT args) G) : ACalls Try.prog 14 args G post :=
  acalls_cc Try.func14 F14_b F14_rs F14_n F14_ok mixed ha hn h
end Go.Proofs.Ytapocekfkbkefaa
