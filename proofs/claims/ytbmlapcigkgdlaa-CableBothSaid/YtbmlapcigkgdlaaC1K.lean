import Derived.Test.YtbmlapcigkgdlaaC0K
set_option linter.unusedVariables false
set_option linter.unusedSimpArgs false
set_option maxRecDepth 100000
namespace Go.Proofs.Ytbmlapcigkgdlaa
open Go Go.Al

/- 3 ostiary/ostiarylaw19.CablePlays -/
@[simp] noncomputable def F3_r0 : CC := .reg [⟨some 2, none, (.assign (.const (.bool false)))⟩] [0]
@[simp] noncomputable def F3_r1 : CC := .reg [⟨some 8, none, (.call { callee := (.value (.func 7)), args := #[], argTypes := #[] })⟩,
  ⟨some 3, none, (.assign (.tmp 8))⟩] [0, 3]
@[simp] noncomputable def F3_r2 : CC := .reg [⟨some 4, none, (.assign (.const (.slice none 0 0)))⟩] [0, 3, 4]
@[simp] noncomputable def F3_r3 : CC := .reg [⟨some 5, none, (.assign (.const (.bool true)))⟩] [0, 3, 4, 5]
@[simp] noncomputable def F3_r4 : CC := .reg [⟨some 9, none, (.move (.tmp 0))⟩,
  ⟨some 10, none, (.call { callee := (.builtin .len), args := #[(.tmp 9)], argTypes := #[22] })⟩,
  ⟨some 11, none, (.move (.const (.int .i64 0)))⟩] [3, 4, 5, 9, 10, 11]
@[simp] noncomputable def F3_r5 : CC := .reg [⟨some 12, none, (.binOp .lss 3 (.tmp 11) (.tmp 10) 3)⟩] [3, 4, 5, 9, 10, 11, 12]
@[simp] noncomputable def F3_r6 : CC := .reg [⟨some 13, none, (.move (.tmp 11))⟩,
  ⟨some 14, none, (.indexAddr 22 (.tmp 9) (.tmp 11))⟩,
  ⟨some 15, none, (.load 29 (.tmp 14))⟩,
  ⟨some 7, none, (.alloc 29)⟩,
  ⟨some 6, none, (.assign (.tmp 13))⟩,
  ⟨none, none, (.store 29 (.tmp 7) (.tmp 15))⟩] [3, 4, 5, 6, 7, 9, 10, 11]
@[simp] noncomputable def F3_r7 : CC := .reg [⟨some 16, none, (.move (.tmp 6))⟩,
  ⟨some 17, none, (.binOp .geq 3 (.tmp 16) (.const (.int .i64 40)) 3)⟩,
  ⟨some 18, none, (.move (.tmp 17))⟩,
  ⟨some 19, some (18, false), (.move (.tmp 5))⟩,
  ⟨some 20, some (18, false), (.unOp .not 4 (.tmp 19))⟩,
  ⟨some 21, none, (.pick (.tmp 18) (.const (.bool true)) (.tmp 20))⟩] [3, 4, 5, 7, 9, 10, 11, 21]
@[simp] noncomputable def F3_r8 : CC := .reg [⟨some 23, none, (.move (.tmp 3))⟩,
  ⟨some 24, none, (.move (.tmp 4))⟩,
  ⟨some 25, none, (.load 29 (.tmp 7))⟩,
  ⟨some 26, none, (.call { callee := (.value (.func 8)), args := #[(.tmp 23), (.tmp 24), (.tmp 25)], argTypes := #[23, 25, 29] })⟩,
  ⟨some 22, none, (.move (.tmp 26))⟩,
  ⟨some 27, none, (.extract (.tmp 22) 0)⟩,
  ⟨some 28, none, (.extract (.tmp 22) 1)⟩,
  ⟨some 4, none, (.assign (.tmp 27))⟩,
  ⟨some 5, none, (.assign (.tmp 28))⟩] [3, 4, 5, 9, 10, 11]
@[simp] noncomputable def F3_r9 : CC := .reg [⟨some 29, none, (.binOp .add 3 (.tmp 11) (.const (.int .i64 1)) 3)⟩,
  ⟨some 11, none, (.move (.tmp 29))⟩] [3, 4, 5, 9, 10, 11]
noncomputable def F3_l0 : CC := (.seq F3_r5 (.seq (.cond (.tmp 12) .skip (.exit 0)) (.seq (.block 1 (.seq F3_r6 (.seq (.seq F3_r7 (.cond (.tmp 21) (.exit 0) .skip)) F3_r8))) F3_r9)))
@[simp] noncomputable def F3_r10 : CC := .reg [⟨some 30, none, (.move (.tmp 5))⟩,
  ⟨some 31, none, (.move (.tmp 30))⟩,
  ⟨some 32, some (31, true), (.move (.tmp 3))⟩,
  ⟨some 33, some (31, true), (.move (.tmp 4))⟩,
  ⟨some 34, some (31, true), (.call { callee := (.value (.func 9)), args := #[(.tmp 32), (.tmp 33)], argTypes := #[23, 25] })⟩,
  ⟨some 35, none, (.pick (.tmp 31) (.tmp 34) (.const (.bool false)))⟩,
  ⟨some 36, none, (.move (.tmp 35))⟩,
  ⟨some 37, some (36, true), (.call { callee := (.value (.func 10)), args := #[], argTypes := #[] })⟩,
  ⟨some 38, none, (.pick (.tmp 36) (.tmp 37) (.const (.bool false)))⟩,
  ⟨some 2, none, (.assign (.tmp 38))⟩] [2]
noncomputable def F3 : CC := (.seq F3_r0 (.seq F3_r1 (.seq F3_r2 (.seq F3_r3 (.seq (.seq F3_r4 (.block 0 (.loop F3_l0))) (.seq F3_r10 .ret))))))
noncomputable def F3_inf : Nat → RI
  | 0 => ⟨[0], [], []⟩
  | 1 => ⟨[0, 3], [], []⟩
  | 2 => ⟨[0, 3, 4], [], []⟩
  | 3 => ⟨[0, 3, 4, 5], [], []⟩
  | 4 => ⟨[3, 4, 5, 9, 10, 11], [], []⟩
  | 5 => ⟨[3, 4, 5, 9, 10, 11, 12], [], []⟩
  | 6 => ⟨[3, 4, 5, 6, 7, 9, 10, 11], [], []⟩
  | 7 => ⟨[3, 4, 5, 7, 9, 10, 11, 21], [], []⟩
  | 8 => ⟨[3, 4, 5, 9, 10, 11], [], []⟩
  | 9 => ⟨[3, 4, 5, 9, 10, 11], [], []⟩
  | 10 => ⟨[2], [], []⟩
  | _ => ⟨[], [], []⟩
noncomputable def F3_c : Code := Try.f3.body.getD .skip
theorem F3_b : Try.f3.body = some F3_c := by kernel_rfl
theorem F3_rs : Try.f3.results.toList = ([.tmp 2] : List ResultVar) := by kernel_rfl
theorem F3_n : Try.f3.ntmps = 39 := by kernel_rfl
theorem F3_ok : toCC [] 39 F3_inf F3_c = some F3 := by kernel_rfl
theorem F3_in {args : List AV} {G : Hp} {post : AV → Hp → Prop} (ha : args.all AV.plain = true) (hn : args.length ≤ 39) (h : BDs args → awp Try.prog [] F3 (AEnds Try.prog [.tmp 2] post) (initT args) G) : ACalls Try.prog 3 args G post :=
  acalls_cc Try.func3 F3_b F3_rs F3_n F3_ok mixed ha hn h

/- 4 ostiary/ostiarylaw19.CableBoth -/
@[simp] noncomputable def F4_r0 : CC := .reg [⟨some 2, none, (.assign (.const (.bool false)))⟩] [0]
@[simp] noncomputable def F4_r1 : CC := .reg [⟨some 13, none, (.call { callee := (.value (.func 7)), args := #[], argTypes := #[] })⟩,
  ⟨some 3, none, (.assign (.tmp 13))⟩] [0, 3]
@[simp] noncomputable def F4_r2 : CC := .reg [⟨some 4, none, (.assign (.const (.slice none 0 0)))⟩] [0, 3, 4]
@[simp] noncomputable def F4_r3 : CC := .reg [⟨some 14, none, (.move (.tmp 0))⟩,
  ⟨some 15, none, (.call { callee := (.builtin .len), args := #[(.tmp 14)], argTypes := #[22] })⟩,
  ⟨some 16, none, (.move (.const (.int .i64 0)))⟩] [3, 4, 14, 15, 16]
@[simp] noncomputable def F4_r4 : CC := .reg [⟨some 17, none, (.binOp .lss 3 (.tmp 16) (.tmp 15) 3)⟩] [3, 4, 14, 15, 16, 17]
@[simp] noncomputable def F4_r5 : CC := .reg [⟨some 18, none, (.move (.tmp 16))⟩,
  ⟨some 19, none, (.indexAddr 22 (.tmp 14) (.tmp 16))⟩,
  ⟨some 20, none, (.load 29 (.tmp 19))⟩,
  ⟨some 6, none, (.alloc 29)⟩,
  ⟨some 5, none, (.assign (.tmp 18))⟩,
  ⟨none, none, (.store 29 (.tmp 6) (.tmp 20))⟩] [3, 4, 5, 6, 14, 15, 16]
@[simp] noncomputable def F4_r6 : CC := .reg [⟨some 21, none, (.move (.tmp 5))⟩,
  ⟨some 22, none, (.binOp .lss 3 (.tmp 21) (.const (.int .i64 40)) 3)⟩] [3, 4, 6, 14, 15, 16, 22]
@[simp] noncomputable def F4_r7 : CC := .reg [⟨some 24, none, (.move (.tmp 3))⟩,
  ⟨some 25, none, (.move (.tmp 4))⟩,
  ⟨some 26, none, (.load 29 (.tmp 6))⟩,
  ⟨some 27, none, (.call { callee := (.value (.func 8)), args := #[(.tmp 24), (.tmp 25), (.tmp 26)], argTypes := #[23, 25, 29] })⟩,
  ⟨some 23, none, (.move (.tmp 27))⟩,
  ⟨some 28, none, (.extract (.tmp 23) 0)⟩,
  ⟨some 29, none, (.extract (.tmp 23) 1)⟩,
  ⟨some 4, none, (.assign (.tmp 28))⟩] [3, 4, 14, 15, 16]
@[simp] noncomputable def F4_r8 : CC := .reg [⟨some 30, none, (.binOp .add 3 (.tmp 16) (.const (.int .i64 1)) 3)⟩,
  ⟨some 16, none, (.move (.tmp 30))⟩] [3, 4, 14, 15, 16]
noncomputable def F4_l0 : CC := (.seq F4_r4 (.seq (.cond (.tmp 17) .skip (.exit 0)) (.seq (.block 1 (.seq F4_r5 (.seq F4_r6 (.cond (.tmp 22) F4_r7 .skip)))) F4_r8)))
@[simp] noncomputable def F4_r9 : CC := .reg [⟨some 7, none, (.assign (.const (.int .i64 1)))⟩] [3, 7]
@[simp] noncomputable def F4_r10 : CC := .reg [⟨some 31, none, (.move (.tmp 7))⟩,
  ⟨some 32, none, (.binOp .leq 3 (.tmp 31) (.const (.int .i64 8)) 3)⟩] [3, 7, 32]
@[simp] noncomputable def F4_r12 : CC := .reg [⟨some 8, none, (.assign (.const (.int .i64 1)))⟩] [3, 7, 8]
@[simp] noncomputable def F4_r13 : CC := .reg [⟨some 35, none, (.move (.tmp 8))⟩,
  ⟨some 36, none, (.binOp .leq 3 (.tmp 35) (.const (.int .i64 8)) 3)⟩] [3, 7, 8, 36]
@[simp] noncomputable def F4_r15 : CC := .reg [⟨some 39, none, (.move (.tmp 7))⟩,
  ⟨some 40, none, (.move (.tmp 8))⟩,
  ⟨some 41, none, (.build 27 #[(0, (.tmp 39)), (1, (.tmp 40))])⟩,
  ⟨some 9, none, (.alloc 27)⟩,
  ⟨none, none, (.store 27 (.tmp 9) (.tmp 41))⟩] [3, 7, 8, 9]
@[simp] noncomputable def F4_r16 : CC := .reg [⟨some 42, none, (.move (.tmp 3))⟩,
  ⟨some 43, none, (.load 27 (.tmp 9))⟩,
  ⟨some 44, none, (.call { callee := (.value (.func 11)), args := #[(.tmp 42), (.tmp 43)], argTypes := #[23, 27] })⟩,
  ⟨some 10, none, (.alloc 36)⟩,
  ⟨none, none, (.store 36 (.tmp 10) (.tmp 44))⟩] [3, 7, 8, 9, 10]
@[simp] noncomputable def F4_r17 : CC := .drw [⟨0, ⟨some 45, none, (.fieldAddr 36 (.tmp 10) 0)⟩, [], []⟩,
  ⟨1, ⟨some 46, none, (.load 3 (.tmp 45))⟩, [], []⟩,
  ⟨2, ⟨some 47, none, (.binOp .eql 3 (.tmp 46) (.const (.int .i64 1)) 3)⟩, [], []⟩,
  ⟨3, ⟨some 48, none, (.move (.tmp 47))⟩, [], []⟩,
  ⟨4, ⟨some 49, some (48, true), (.move (.tmp 3))⟩, [], []⟩,
  ⟨5, ⟨some 50, some (48, true), (.fieldAddr 36 (.tmp 10) 1)⟩, [], []⟩,
  ⟨6, ⟨some 51, some (48, true), (.load 27 (.tmp 50))⟩, [], []⟩,
  ⟨7, ⟨some 52, some (48, true), (.call { callee := (.value (.func 11)), args := #[(.tmp 49), (.tmp 51)], argTypes := #[23, 27] })⟩, [], []⟩,
  ⟨8, ⟨some 53, some (48, true), (.field 36 (.tmp 52) 0)⟩, [], []⟩,
  ⟨9, ⟨some 54, some (48, true), (.binOp .neq 3 (.tmp 53) (.const (.int .i64 1)) 3)⟩, [], []⟩,
  ⟨10, ⟨some 55, some (48, true), (.move (.tmp 54))⟩, [], []⟩,
  ⟨11, ⟨some 56, some (55, false), (.move (.tmp 3))⟩, [], []⟩,
  ⟨12, ⟨some 57, some (55, false), (.fieldAddr 36 (.tmp 10) 1)⟩, [], []⟩,
  ⟨13, ⟨some 58, some (55, false), (.load 27 (.tmp 57))⟩, [], []⟩,
  ⟨16, ⟨some 61, some (55, false), (.load 27 (.tmp 9))⟩, [], []⟩,
  ⟨14, ⟨some 59, some (55, false), (.call { callee := (.value (.func 11)), args := #[(.tmp 56), (.tmp 58)], argTypes := #[23, 27] })⟩, [16], [⟨some 61, some (55, false), (.load 27 (.tmp 9))⟩]⟩,
  ⟨15, ⟨some 60, some (55, false), (.field 36 (.tmp 59) 1)⟩, [], []⟩,
  ⟨17, ⟨some 62, some (55, false), (.binOp .neq 27 (.tmp 60) (.tmp 61) 27)⟩, [], []⟩,
  ⟨18, ⟨some 63, some (48, true), (.pick (.tmp 55) (.const (.bool true)) (.tmp 62))⟩, [], []⟩,
  ⟨19, ⟨some 64, none, (.pick (.tmp 48) (.tmp 63) (.const (.bool false)))⟩, [], []⟩] [45, 46, 47, 48, 49, 50, 51, 52, 53, 54, 55, 56, 57, 58, 61, 59, 60, 62, 63, 64] [3, 7, 8, 9, 10, 64]
@[simp] noncomputable def F4_r18 : CC := .reg [⟨some 2, none, (.assign (.const (.bool false)))⟩] [2]
@[simp] noncomputable def F4_r19 : CC := .reg [⟨some 66, none, (.move (.tmp 3))⟩,
  ⟨some 67, none, (.fieldAddr 36 (.tmp 10) 2)⟩,
  ⟨some 68, none, (.load 3 (.tmp 67))⟩,
  ⟨some 69, none, (.call { callee := (.value (.func 12)), args := #[(.tmp 66), (.tmp 68)], argTypes := #[23, 3] })⟩,
  ⟨some 65, none, (.move (.tmp 69))⟩,
  ⟨some 70, none, (.extract (.tmp 65) 0)⟩,
  ⟨some 71, none, (.extract (.tmp 65) 1)⟩,
  ⟨some 11, none, (.alloc 27)⟩,
  ⟨none, none, (.store 27 (.tmp 11) (.tmp 70))⟩,
  ⟨some 12, none, (.assign (.tmp 71))⟩] [3, 7, 8, 9, 10, 11]
@[simp] noncomputable def F4_r20 : CC := .reg [⟨some 72, none, (.fieldAddr 36 (.tmp 10) 0)⟩,
  ⟨some 73, none, (.load 3 (.tmp 72))⟩,
  ⟨some 74, none, (.binOp .eql 3 (.tmp 73) (.const (.int .i64 2)) 3)⟩,
  ⟨some 75, none, (.move (.tmp 74))⟩,
  ⟨some 76, some (75, true), (.load 27 (.tmp 11))⟩,
  ⟨some 77, some (75, true), (.load 27 (.tmp 9))⟩,
  ⟨some 78, some (75, true), (.binOp .neq 27 (.tmp 76) (.tmp 77) 27)⟩,
  ⟨some 79, none, (.pick (.tmp 75) (.tmp 78) (.const (.bool false)))⟩] [3, 7, 8, 79]
@[simp] noncomputable def F4_r21 : CC := .reg [⟨some 2, none, (.assign (.const (.bool false)))⟩] [2]
@[simp] noncomputable def F4_r14 : CC := .reg [⟨some 37, none, (.move (.tmp 8))⟩,
  ⟨some 38, none, (.binOp .add 3 (.tmp 37) (.const (.int .i64 1)) 3)⟩,
  ⟨some 8, none, (.assign (.tmp 38))⟩] [3, 7, 8]
noncomputable def F4_l1 : CC := (.seq (.seq F4_r13 (.cond (.tmp 36) .skip (.exit 4))) (.seq (.block 5 (.seq F4_r15 (.seq F4_r16 (.seq (.seq F4_r17 (.cond (.tmp 64) (.seq F4_r18 .ret) .skip)) (.seq F4_r19 (.seq F4_r20 (.cond (.tmp 79) (.seq F4_r21 .ret) .skip))))))) F4_r14))
@[simp] noncomputable def F4_r11 : CC := .reg [⟨some 33, none, (.move (.tmp 7))⟩,
  ⟨some 34, none, (.binOp .add 3 (.tmp 33) (.const (.int .i64 1)) 3)⟩,
  ⟨some 7, none, (.assign (.tmp 34))⟩] [3, 7]
noncomputable def F4_l2 : CC := (.seq (.seq F4_r10 (.cond (.tmp 32) .skip (.exit 2))) (.seq (.block 3 (.seq F4_r12 (.block 4 (.loop F4_l1)))) F4_r11))
@[simp] noncomputable def F4_r22 : CC := .reg [⟨some 80, none, (.call { callee := (.value (.func 10)), args := #[], argTypes := #[] })⟩,
  ⟨some 2, none, (.assign (.tmp 80))⟩] [2]
noncomputable def F4 : CC := (.seq F4_r0 (.seq F4_r1 (.seq F4_r2 (.seq (.seq F4_r3 (.block 0 (.loop F4_l0))) (.seq (.seq F4_r9 (.block 2 (.loop F4_l2))) (.seq F4_r22 .ret))))))
noncomputable def F4_inf : Nat → RI
  | 0 => ⟨[0], [], []⟩
  | 1 => ⟨[0, 3], [], []⟩
  | 2 => ⟨[0, 3, 4], [], []⟩
  | 3 => ⟨[3, 4, 14, 15, 16], [], []⟩
  | 4 => ⟨[3, 4, 14, 15, 16, 17], [], []⟩
  | 5 => ⟨[3, 4, 5, 6, 14, 15, 16], [], []⟩
  | 6 => ⟨[3, 4, 6, 14, 15, 16, 22], [], []⟩
  | 7 => ⟨[3, 4, 14, 15, 16], [], []⟩
  | 8 => ⟨[3, 4, 14, 15, 16], [], []⟩
  | 9 => ⟨[3, 7], [], []⟩
  | 10 => ⟨[3, 7, 32], [], []⟩
  | 12 => ⟨[3, 7, 8], [], []⟩
  | 13 => ⟨[3, 7, 8, 36], [], []⟩
  | 15 => ⟨[3, 7, 8, 9], [], []⟩
  | 16 => ⟨[3, 7, 8, 9, 10], [], []⟩
  | 17 => ⟨[3, 7, 8, 9, 10, 64], [0, 1, 3, 7, 15, 15, 47, 127, 255, 511, 1023, 2047, 2047, 6143, 16383, 32767, 2047, 131071, 262143, 524287], [(0, []), (1, []), (2, []), (3, []), (4, []), (5, []), (6, []), (7, []), (8, []), (9, []), (10, []), (11, []), (12, []), (13, []), (16, []), (14, [16]), (15, []), (17, []), (18, []), (19, [])]⟩
  | 18 => ⟨[2], [], []⟩
  | 19 => ⟨[3, 7, 8, 9, 10, 11], [], []⟩
  | 20 => ⟨[3, 7, 8, 79], [], []⟩
  | 21 => ⟨[2], [], []⟩
  | 14 => ⟨[3, 7, 8], [], []⟩
  | 11 => ⟨[3, 7], [], []⟩
  | 22 => ⟨[2], [], []⟩
  | _ => ⟨[], [], []⟩
noncomputable def F4_c : Code := Try.f4.body.getD .skip
theorem F4_b : Try.f4.body = some F4_c := by kernel_rfl
theorem F4_rs : Try.f4.results.toList = ([.tmp 2] : List ResultVar) := by kernel_rfl
theorem F4_n : Try.f4.ntmps = 81 := by kernel_rfl
theorem F4_ok : toCC [] 81 F4_inf F4_c = some F4 := by kernel_rfl
theorem F4_in {args : List AV} {G : Hp} {post : AV → Hp → Prop} (ha : args.all AV.plain = true) (hn : args.length ≤ 81) (h : BDs args → awp Try.prog [] F4 (AEnds Try.prog [.tmp 2] post) (initT args) G) : ACalls Try.prog 4 args G post :=
  acalls_cc Try.func4 F4_b F4_rs F4_n F4_ok mixed ha hn h

/- 5 ostiary/ostiarylaw19.CableNil -/
@[simp] noncomputable def F5_r0 : CC := .reg [⟨some 2, none, (.box 27 (.tmp 0))⟩,
  ⟨some 4, none, (.assign (.const (.bool false)))⟩] [1, 2]
@[simp] noncomputable def F5_r1 : CC := .reg [⟨some 5, none, (.assign (.const (.pointer none)))⟩] [1, 2, 5]
@[simp] noncomputable def F5_r2 : CC := .reg [⟨some 11, none, (.move (.tmp 5))⟩,
  ⟨some 12, none, (.load 27 (.tmp 2))⟩,
  ⟨some 13, none, (.call { callee := (.value (.func 13)), args := #[(.tmp 11), (.tmp 12)], argTypes := #[23, 27] })⟩,
  ⟨some 10, none, (.move (.tmp 13))⟩,
  ⟨some 14, none, (.extract (.tmp 10) 0)⟩,
  ⟨some 15, none, (.extract (.tmp 10) 1)⟩,
  ⟨some 6, none, (.alloc 36)⟩,
  ⟨none, none, (.store 36 (.tmp 6) (.tmp 14))⟩,
  ⟨some 7, none, (.assign (.tmp 15))⟩] [1, 2, 5, 7]
@[simp] noncomputable def F5_r3 : CC := .reg [⟨some 17, none, (.move (.tmp 5))⟩,
  ⟨some 18, none, (.move (.tmp 1))⟩,
  ⟨some 19, none, (.call { callee := (.value (.func 12)), args := #[(.tmp 17), (.tmp 18)], argTypes := #[23, 3] })⟩,
  ⟨some 16, none, (.move (.tmp 19))⟩,
  ⟨some 20, none, (.extract (.tmp 16) 0)⟩,
  ⟨some 21, none, (.extract (.tmp 16) 1)⟩,
  ⟨some 8, none, (.alloc 27)⟩,
  ⟨none, none, (.store 27 (.tmp 8) (.tmp 20))⟩,
  ⟨some 9, none, (.assign (.tmp 21))⟩] [1, 2, 5, 7, 9]
@[simp] noncomputable def F5_r4 : CC := .reg [⟨some 22, none, (.move (.tmp 5))⟩,
  ⟨some 23, none, (.load 27 (.tmp 2))⟩,
  ⟨some 24, none, (.load 27 (.tmp 2))⟩,
  ⟨some 25, none, (.call { callee := (.value (.func 14)), args := #[(.tmp 22), (.tmp 23), (.tmp 24)], argTypes := #[23, 27, 27] })⟩,
  ⟨some 26, none, (.binOp .eql 42 (.tmp 25) (.const (.int .i64 11)) 42)⟩,
  ⟨some 27, none, (.move (.tmp 26))⟩,
  ⟨some 28, some (27, true), (.move (.tmp 5))⟩,
  ⟨some 29, some (27, true), (.move (.tmp 1))⟩,
  ⟨some 30, some (27, true), (.load 27 (.tmp 2))⟩,
  ⟨some 31, some (27, true), (.call { callee := (.value (.func 15)), args := #[(.tmp 28), (.tmp 29), (.tmp 30)], argTypes := #[23, 3, 27] })⟩,
  ⟨some 32, some (27, true), (.binOp .eql 42 (.tmp 31) (.const (.int .i64 11)) 42)⟩,
  ⟨some 33, none, (.pick (.tmp 27) (.tmp 32) (.const (.bool false)))⟩,
  ⟨some 34, none, (.move (.tmp 33))⟩,
  ⟨some 35, some (34, true), (.move (.tmp 7))⟩,
  ⟨some 36, some (34, true), (.unOp .not 4 (.tmp 35))⟩,
  ⟨some 37, none, (.pick (.tmp 34) (.tmp 36) (.const (.bool false)))⟩,
  ⟨some 38, none, (.move (.tmp 37))⟩,
  ⟨some 39, some (38, true), (.move (.tmp 9))⟩,
  ⟨some 40, some (38, true), (.unOp .not 4 (.tmp 39))⟩,
  ⟨some 41, none, (.pick (.tmp 38) (.tmp 40) (.const (.bool false)))⟩,
  ⟨some 42, none, (.move (.tmp 41))⟩,
  ⟨some 43, some (42, true), (.move (.tmp 5))⟩,
  ⟨some 44, some (42, true), (.load 27 (.tmp 2))⟩,
  ⟨some 45, some (42, true), (.call { callee := (.value (.func 11)), args := #[(.tmp 43), (.tmp 44)], argTypes := #[23, 27] })⟩,
  ⟨some 46, some (42, true), (.build 36 #[])⟩,
  ⟨some 47, some (42, true), (.binOp .eql 36 (.tmp 45) (.tmp 46) 36)⟩,
  ⟨some 48, none, (.pick (.tmp 42) (.tmp 47) (.const (.bool false)))⟩,
  ⟨some 49, none, (.move (.tmp 48))⟩,
  ⟨some 50, some (49, true), (.move (.tmp 5))⟩,
  ⟨some 51, some (49, true), (.call { callee := (.value (.func 16)), args := #[(.tmp 50)], argTypes := #[23] })⟩,
  ⟨some 52, some (49, true), (.call { callee := (.builtin .len), args := #[(.tmp 51)], argTypes := #[45] })⟩,
  ⟨some 53, some (49, true), (.binOp .eql 3 (.tmp 52) (.const (.int .i64 0)) 3)⟩,
  ⟨some 54, none, (.pick (.tmp 49) (.tmp 53) (.const (.bool false)))⟩,
  ⟨some 55, none, (.move (.tmp 54))⟩,
  ⟨some 56, some (55, true), (.call { callee := (.value (.func 10)), args := #[], argTypes := #[] })⟩,
  ⟨some 57, none, (.pick (.tmp 55) (.tmp 56) (.const (.bool false)))⟩,
  ⟨some 4, none, (.assign (.tmp 57))⟩] [4]
noncomputable def F5 : CC := (.seq F5_r0 (.seq F5_r1 (.seq F5_r2 (.seq F5_r3 (.seq F5_r4 .ret)))))
noncomputable def F5_inf : Nat → RI
  | 0 => ⟨[1, 2], [], []⟩
  | 1 => ⟨[1, 2, 5], [], []⟩
  | 2 => ⟨[1, 2, 5, 7], [], []⟩
  | 3 => ⟨[1, 2, 5, 7, 9], [], []⟩
  | 4 => ⟨[4], [], []⟩
  | _ => ⟨[], [], []⟩
noncomputable def F5_c : Code := Try.f5.body.getD .skip
theorem F5_b : Try.f5.body = some F5_c := by kernel_rfl
theorem F5_rs : Try.f5.results.toList = ([.tmp 4] : List ResultVar) := by kernel_rfl
theorem F5_n : Try.f5.ntmps = 58 := by kernel_rfl
theorem F5_ok : toCC [] 58 F5_inf F5_c = some F5 := by kernel_rfl
theorem F5_in {args : List AV} {G : Hp} {post : AV → Hp → Prop} (ha : args.all AV.plain = true) (hn : args.length ≤ 58) (h : BDs args → awp Try.prog [] F5 (AEnds Try.prog [.tmp 4] post) (initT args) G) : ACalls Try.prog 5 args G post :=
  acalls_cc Try.func5 F5_b F5_rs F5_n F5_ok mixed ha hn h

/- 6 ostiary/ostiarylaw19.CableUndo -/
@[simp] noncomputable def F6_r0 : CC := .reg [⟨some 6, none, (.box 27 (.tmp 1))⟩,
  ⟨some 7, none, (.box 27 (.tmp 2))⟩,
  ⟨some 10, none, (.assign (.const (.bool false)))⟩] [0, 3, 4, 6, 7]
@[simp] noncomputable def F6_r1 : CC := .reg [⟨some 20, none, (.call { callee := (.value (.func 7)), args := #[], argTypes := #[] })⟩,
  ⟨some 11, none, (.assign (.tmp 20))⟩] [0, 3, 4, 6, 7, 11]
@[simp] noncomputable def F6_r2 : CC := .reg [⟨some 12, none, (.assign (.const (.slice none 0 0)))⟩] [0, 3, 4, 6, 7, 11, 12]
@[simp] noncomputable def F6_r3 : CC := .reg [⟨some 21, none, (.move (.tmp 0))⟩,
  ⟨some 22, none, (.call { callee := (.builtin .len), args := #[(.tmp 21)], argTypes := #[22] })⟩,
  ⟨some 23, none, (.move (.const (.int .i64 0)))⟩] [3, 4, 6, 7, 11, 12, 21, 22, 23]
@[simp] noncomputable def F6_r4 : CC := .reg [⟨some 24, none, (.binOp .lss 3 (.tmp 23) (.tmp 22) 3)⟩] [3, 4, 6, 7, 11, 12, 21, 22, 23, 24]
@[simp] noncomputable def F6_r5 : CC := .reg [⟨some 25, none, (.move (.tmp 23))⟩,
  ⟨some 26, none, (.indexAddr 22 (.tmp 21) (.tmp 23))⟩,
  ⟨some 27, none, (.load 29 (.tmp 26))⟩,
  ⟨some 14, none, (.alloc 29)⟩,
  ⟨some 13, none, (.assign (.tmp 25))⟩,
  ⟨none, none, (.store 29 (.tmp 14) (.tmp 27))⟩] [3, 4, 6, 7, 11, 12, 13, 14, 21, 22, 23]
@[simp] noncomputable def F6_r6 : CC := .reg [⟨some 28, none, (.move (.tmp 13))⟩,
  ⟨some 29, none, (.binOp .lss 3 (.tmp 28) (.const (.int .i64 40)) 3)⟩] [3, 4, 6, 7, 11, 12, 14, 21, 22, 23, 29]
@[simp] noncomputable def F6_r7 : CC := .reg [⟨some 31, none, (.move (.tmp 11))⟩,
  ⟨some 32, none, (.move (.tmp 12))⟩,
  ⟨some 33, none, (.load 29 (.tmp 14))⟩,
  ⟨some 34, none, (.call { callee := (.value (.func 8)), args := #[(.tmp 31), (.tmp 32), (.tmp 33)], argTypes := #[23, 25, 29] })⟩,
  ⟨some 30, none, (.move (.tmp 34))⟩,
  ⟨some 35, none, (.extract (.tmp 30) 0)⟩,
  ⟨some 36, none, (.extract (.tmp 30) 1)⟩,
  ⟨some 12, none, (.assign (.tmp 35))⟩] [3, 4, 6, 7, 11, 12, 21, 22, 23]
@[simp] noncomputable def F6_r8 : CC := .reg [⟨some 37, none, (.binOp .add 3 (.tmp 23) (.const (.int .i64 1)) 3)⟩,
  ⟨some 23, none, (.move (.tmp 37))⟩] [3, 4, 6, 7, 11, 12, 21, 22, 23]
noncomputable def F6_l0 : CC := (.seq F6_r4 (.seq (.cond (.tmp 24) .skip (.exit 0)) (.seq (.block 1 (.seq F6_r5 (.seq F6_r6 (.cond (.tmp 29) F6_r7 .skip)))) F6_r8)))
@[simp] noncomputable def F6_r9 : CC := .reg [⟨some 38, none, (.move (.tmp 11))⟩,
  ⟨some 39, none, (.load 27 (.tmp 6))⟩,
  ⟨some 40, none, (.load 27 (.tmp 7))⟩,
  ⟨some 41, none, (.call { callee := (.value (.func 14)), args := #[(.tmp 38), (.tmp 39), (.tmp 40)], argTypes := #[23, 27, 27] })⟩,
  ⟨some 42, none, (.binOp .eql 42 (.tmp 41) (.const (.int .i64 0)) 42)⟩] [3, 4, 6, 7, 11, 12, 42]
@[simp] noncomputable def F6_r10 : CC := .reg [⟨some 43, none, (.load 27 (.tmp 6))⟩,
  ⟨some 15, none, (.alloc 27)⟩,
  ⟨none, none, (.store 27 (.tmp 15) (.tmp 43))⟩] [3, 4, 6, 7, 11, 12, 15]
@[simp] noncomputable def F6_r11 : CC := .reg [⟨some 44, none, (.move (.tmp 4))⟩] [3, 6, 7, 11, 12, 15, 44]
@[simp] noncomputable def F6_r12 : CC := .reg [⟨some 45, none, (.load 27 (.tmp 7))⟩,
  ⟨none, none, (.store 27 (.tmp 15) (.tmp 45))⟩] [3, 6, 11, 12, 15]
@[simp] noncomputable def F6_r13 : CC := .reg [⟨some 47, none, (.move (.tmp 11))⟩,
  ⟨some 48, none, (.load 27 (.tmp 15))⟩,
  ⟨some 49, none, (.call { callee := (.value (.func 13)), args := #[(.tmp 47), (.tmp 48)], argTypes := #[23, 27] })⟩,
  ⟨some 46, none, (.move (.tmp 49))⟩,
  ⟨some 50, none, (.extract (.tmp 46) 0)⟩,
  ⟨some 51, none, (.extract (.tmp 46) 1)⟩,
  ⟨some 16, none, (.alloc 36)⟩,
  ⟨none, none, (.store 36 (.tmp 16) (.tmp 50))⟩,
  ⟨some 17, none, (.assign (.tmp 51))⟩] [3, 6, 11, 12, 17]
@[simp] noncomputable def F6_r14 : CC := .reg [⟨some 52, none, (.move (.tmp 17))⟩,
  ⟨some 53, none, (.unOp .not 4 (.tmp 52))⟩,
  ⟨some 54, none, (.move (.tmp 53))⟩,
  ⟨some 55, some (54, false), (.move (.tmp 11))⟩,
  ⟨some 56, some (54, false), (.move (.tmp 12))⟩,
  ⟨some 57, some (54, false), (.call { callee := (.value (.func 9)), args := #[(.tmp 55), (.tmp 56)], argTypes := #[23, 25] })⟩,
  ⟨some 58, some (54, false), (.unOp .not 4 (.tmp 57))⟩,
  ⟨some 59, none, (.pick (.tmp 54) (.const (.bool true)) (.tmp 58))⟩] [3, 6, 11, 12, 59]
@[simp] noncomputable def F6_r15 : CC := .reg [⟨some 10, none, (.assign (.const (.bool false)))⟩] [10]
@[simp] noncomputable def F6_r16 : CC := .reg [⟨some 60, none, (.move (.tmp 11))⟩,
  ⟨some 61, none, (.move (.tmp 3))⟩,
  ⟨some 62, none, (.load 27 (.tmp 6))⟩,
  ⟨some 63, none, (.call { callee := (.value (.func 15)), args := #[(.tmp 60), (.tmp 61), (.tmp 62)], argTypes := #[23, 3, 27] })⟩,
  ⟨some 64, none, (.binOp .eql 42 (.tmp 63) (.const (.int .i64 0)) 42)⟩] [3, 6, 11, 12, 64]
@[simp] noncomputable def F6_r17 : CC := .reg [⟨some 66, none, (.move (.tmp 11))⟩,
  ⟨some 67, none, (.load 27 (.tmp 6))⟩,
  ⟨some 68, none, (.call { callee := (.value (.func 13)), args := #[(.tmp 66), (.tmp 67)], argTypes := #[23, 27] })⟩,
  ⟨some 65, none, (.move (.tmp 68))⟩,
  ⟨some 69, none, (.extract (.tmp 65) 0)⟩,
  ⟨some 70, none, (.extract (.tmp 65) 1)⟩,
  ⟨some 18, none, (.alloc 36)⟩,
  ⟨none, none, (.store 36 (.tmp 18) (.tmp 69))⟩,
  ⟨some 19, none, (.assign (.tmp 70))⟩] [3, 11, 12, 18, 19]
@[simp] noncomputable def F6_r18 : CC := .reg [⟨some 71, none, (.move (.tmp 19))⟩,
  ⟨some 72, none, (.unOp .not 4 (.tmp 71))⟩,
  ⟨some 73, none, (.move (.tmp 72))⟩,
  ⟨some 74, some (73, false), (.fieldAddr 36 (.tmp 18) 0)⟩,
  ⟨some 75, some (73, false), (.load 3 (.tmp 74))⟩,
  ⟨some 76, some (73, false), (.binOp .neq 3 (.tmp 75) (.const (.int .i64 2)) 3)⟩,
  ⟨some 77, none, (.pick (.tmp 73) (.const (.bool true)) (.tmp 76))⟩,
  ⟨some 78, none, (.move (.tmp 77))⟩,
  ⟨some 79, some (78, false), (.fieldAddr 36 (.tmp 18) 2)⟩,
  ⟨some 80, some (78, false), (.load 3 (.tmp 79))⟩,
  ⟨some 81, some (78, false), (.move (.tmp 3))⟩,
  ⟨some 82, some (78, false), (.binOp .neq 3 (.tmp 80) (.tmp 81) 3)⟩,
  ⟨some 83, none, (.pick (.tmp 78) (.const (.bool true)) (.tmp 82))⟩] [11, 12, 83]
@[simp] noncomputable def F6_r19 : CC := .reg [⟨some 10, none, (.assign (.const (.bool false)))⟩] [10]
@[simp] noncomputable def F6_r20 : CC := .reg [⟨some 84, none, (.move (.tmp 11))⟩,
  ⟨some 85, none, (.move (.tmp 12))⟩,
  ⟨some 86, none, (.call { callee := (.value (.func 9)), args := #[(.tmp 84), (.tmp 85)], argTypes := #[23, 25] })⟩,
  ⟨some 87, none, (.move (.tmp 86))⟩,
  ⟨some 88, some (87, true), (.call { callee := (.value (.func 10)), args := #[], argTypes := #[] })⟩,
  ⟨some 89, none, (.pick (.tmp 87) (.tmp 88) (.const (.bool false)))⟩,
  ⟨some 10, none, (.assign (.tmp 89))⟩] [10]
noncomputable def F6 : CC := (.seq F6_r0 (.seq F6_r1 (.seq F6_r2 (.seq (.seq F6_r3 (.block 0 (.loop F6_l0))) (.seq (.seq F6_r9 (.cond (.tmp 42) (.seq F6_r10 (.seq (.seq F6_r11 (.cond (.tmp 44) F6_r12 .skip)) (.seq F6_r13 (.seq F6_r14 (.cond (.tmp 59) (.seq F6_r15 .ret) .skip))))) .skip)) (.seq (.seq F6_r16 (.cond (.tmp 64) (.seq F6_r17 (.seq F6_r18 (.cond (.tmp 83) (.seq F6_r19 .ret) .skip))) .skip)) (.seq F6_r20 .ret)))))))
noncomputable def F6_inf : Nat → RI
  | 0 => ⟨[0, 3, 4, 6, 7], [], []⟩
  | 1 => ⟨[0, 3, 4, 6, 7, 11], [], []⟩
  | 2 => ⟨[0, 3, 4, 6, 7, 11, 12], [], []⟩
  | 3 => ⟨[3, 4, 6, 7, 11, 12, 21, 22, 23], [], []⟩
  | 4 => ⟨[3, 4, 6, 7, 11, 12, 21, 22, 23, 24], [], []⟩
  | 5 => ⟨[3, 4, 6, 7, 11, 12, 13, 14, 21, 22, 23], [], []⟩
  | 6 => ⟨[3, 4, 6, 7, 11, 12, 14, 21, 22, 23, 29], [], []⟩
  | 7 => ⟨[3, 4, 6, 7, 11, 12, 21, 22, 23], [], []⟩
  | 8 => ⟨[3, 4, 6, 7, 11, 12, 21, 22, 23], [], []⟩
  | 9 => ⟨[3, 4, 6, 7, 11, 12, 42], [], []⟩
  | 10 => ⟨[3, 4, 6, 7, 11, 12, 15], [], []⟩
  | 11 => ⟨[3, 6, 7, 11, 12, 15, 44], [], []⟩
  | 12 => ⟨[3, 6, 11, 12, 15], [], []⟩
  | 13 => ⟨[3, 6, 11, 12, 17], [], []⟩
  | 14 => ⟨[3, 6, 11, 12, 59], [], []⟩
  | 15 => ⟨[10], [], []⟩
  | 16 => ⟨[3, 6, 11, 12, 64], [], []⟩
  | 17 => ⟨[3, 11, 12, 18, 19], [], []⟩
  | 18 => ⟨[11, 12, 83], [], []⟩
  | 19 => ⟨[10], [], []⟩
  | 20 => ⟨[10], [], []⟩
  | _ => ⟨[], [], []⟩
noncomputable def F6_c : Code := Try.f6.body.getD .skip
theorem F6_b : Try.f6.body = some F6_c := by kernel_rfl
theorem F6_rs : Try.f6.results.toList = ([.tmp 10] : List ResultVar) := by kernel_rfl
theorem F6_n : Try.f6.ntmps = 90 := by kernel_rfl
theorem F6_ok : toCC [] 90 F6_inf F6_c = some F6 := by kernel_rfl
theorem F6_in {args : List AV} {G : Hp} {post : AV → Hp → Prop} (ha : args.all AV.plain = true) (hn : args.length ≤ 90) (h : BDs args → awp Try.prog [] F6 (AEnds Try.prog [.tmp 10] post) (initT args) G) : ACalls Try.prog 6 args G post :=
  acalls_cc Try.func6 F6_b F6_rs F6_n F6_ok mixed ha hn h

/- 7 ostiary/cable.New -/
@[simp] noncomputable def F7_r0 : CC := .reg [⟨some 0, none, (.assign (.const (.pointer none)))⟩] []
@[simp] noncomputable def F7_r1 : CC := .reg [⟨some 1, none, (.call { callee := (.value (.func 17)), args := #[(.const (.int .i64 64))], argTypes := #[3] })⟩,
  ⟨some 2, none, (.build 52 #[(0, (.tmp 1))])⟩,
  ⟨some 3, none, (.box 52 (.tmp 2))⟩,
  ⟨some 0, none, (.assign (.tmp 3))⟩] [0]
noncomputable def F7 : CC := (.seq F7_r0 (.seq F7_r1 .ret))
noncomputable def F7_inf : Nat → RI
  | 0 => ⟨[], [], []⟩
  | 1 => ⟨[0], [], []⟩
  | _ => ⟨[], [], []⟩
noncomputable def F7_c : Code := Try.f7.body.getD .skip
theorem F7_b : Try.f7.body = some F7_c := by kernel_rfl
theorem F7_rs : Try.f7.results.toList = ([.tmp 0] : List ResultVar) := by kernel_rfl
theorem F7_n : Try.f7.ntmps = 4 := by kernel_rfl
theorem F7_ok : toCC [3] 4 F7_inf F7_c = some F7 := by kernel_rfl
theorem F7_in {args : List AV} {G : Hp} {post : AV → Hp → Prop} (ha : args.all AV.plain = true) (hn : args.length ≤ 4) (h : BDs args → awp Try.prog [3] F7 (AEnds Try.prog [.tmp 0] post) (initT args) G) : ACalls Try.prog 7 args G post :=
  acalls_cc Try.func7 F7_b F7_rs F7_n F7_ok mixed ha hn h

/- 8 ostiary/ostiarylaw19.step -/
@[simp] noncomputable def F8_r0 : CC := .reg [⟨some 5, none, (.box 29 (.tmp 2))⟩,
  ⟨some 6, none, (.assign (.const (.slice none 0 0)))⟩,
  ⟨some 7, none, (.assign (.const (.bool false)))⟩] [0, 1, 5]
@[simp] noncomputable def F8_r1 : CC := .reg [⟨some 15, none, (.fieldAddr 29 (.tmp 5) 0)⟩,
  ⟨some 16, none, (.load 3 (.tmp 15))⟩] [0, 1, 5, 16]
@[simp] noncomputable def F8_r2 : CC := .reg [⟨some 18, none, (.binOp .eql 3 (.tmp 16) (.const (.int .i64 0)) 3)⟩,
  ⟨some 17, none, (.assign (.tmp 18))⟩] [0, 1, 5, 16, 17]
@[simp] noncomputable def F8_r3 : CC := .reg [⟨some 19, none, (.binOp .eql 3 (.tmp 16) (.const (.int .i64 1)) 3)⟩,
  ⟨some 17, none, (.assign (.tmp 19))⟩] [0, 1, 5, 16, 17]
@[simp] noncomputable def F8_r4 : CC := .reg [⟨some 21, none, (.move (.tmp 1))⟩,
  ⟨some 22, none, (.fieldAddr 29 (.tmp 5) 1)⟩,
  ⟨some 23, none, (.load 27 (.tmp 22))⟩,
  ⟨some 24, none, (.fieldAddr 29 (.tmp 5) 2)⟩,
  ⟨some 25, none, (.load 27 (.tmp 24))⟩,
  ⟨some 26, none, (.call { callee := (.value (.func 18)), args := #[(.tmp 21), (.tmp 23), (.tmp 25)], argTypes := #[25, 27, 27] })⟩,
  ⟨some 20, none, (.move (.tmp 26))⟩,
  ⟨some 27, none, (.extract (.tmp 20) 0)⟩,
  ⟨some 28, none, (.extract (.tmp 20) 1)⟩,
  ⟨some 8, none, (.assign (.tmp 27))⟩,
  ⟨some 9, none, (.assign (.tmp 28))⟩] [0, 5, 8, 9]
@[simp] noncomputable def F8_r5 : CC := .reg [⟨some 29, none, (.move (.tmp 8))⟩,
  ⟨some 30, none, (.move (.tmp 0))⟩,
  ⟨some 31, none, (.fieldAddr 29 (.tmp 5) 1)⟩,
  ⟨some 32, none, (.load 27 (.tmp 31))⟩,
  ⟨some 33, none, (.fieldAddr 29 (.tmp 5) 2)⟩,
  ⟨some 34, none, (.load 27 (.tmp 33))⟩,
  ⟨some 35, none, (.call { callee := (.value (.func 14)), args := #[(.tmp 30), (.tmp 32), (.tmp 34)], argTypes := #[23, 27, 27] })⟩,
  ⟨some 36, none, (.move (.tmp 9))⟩,
  ⟨some 37, none, (.binOp .eql 42 (.tmp 35) (.tmp 36) 42)⟩,
  ⟨some 6, none, (.assign (.tmp 29))⟩,
  ⟨some 7, none, (.assign (.tmp 37))⟩] [6, 7]
@[simp] noncomputable def F8_r6 : CC := .reg [⟨some 39, none, (.binOp .eql 3 (.tmp 16) (.const (.int .i64 2)) 3)⟩,
  ⟨some 38, none, (.assign (.tmp 39))⟩] [0, 1, 5, 16, 38]
@[simp] noncomputable def F8_r7 : CC := .reg [⟨some 41, none, (.move (.tmp 1))⟩,
  ⟨some 42, none, (.fieldAddr 29 (.tmp 5) 3)⟩,
  ⟨some 43, none, (.load 3 (.tmp 42))⟩,
  ⟨some 44, none, (.fieldAddr 29 (.tmp 5) 1)⟩,
  ⟨some 45, none, (.load 27 (.tmp 44))⟩,
  ⟨some 46, none, (.call { callee := (.value (.func 19)), args := #[(.tmp 41), (.tmp 43), (.tmp 45)], argTypes := #[25, 3, 27] })⟩,
  ⟨some 40, none, (.move (.tmp 46))⟩,
  ⟨some 47, none, (.extract (.tmp 40) 0)⟩,
  ⟨some 48, none, (.extract (.tmp 40) 1)⟩,
  ⟨some 10, none, (.assign (.tmp 47))⟩,
  ⟨some 11, none, (.assign (.tmp 48))⟩] [0, 5, 10, 11]
@[simp] noncomputable def F8_r8 : CC := .reg [⟨some 49, none, (.move (.tmp 10))⟩,
  ⟨some 50, none, (.move (.tmp 0))⟩,
  ⟨some 51, none, (.fieldAddr 29 (.tmp 5) 3)⟩,
  ⟨some 52, none, (.load 3 (.tmp 51))⟩,
  ⟨some 53, none, (.fieldAddr 29 (.tmp 5) 1)⟩,
  ⟨some 54, none, (.load 27 (.tmp 53))⟩,
  ⟨some 55, none, (.call { callee := (.value (.func 15)), args := #[(.tmp 50), (.tmp 52), (.tmp 54)], argTypes := #[23, 3, 27] })⟩,
  ⟨some 56, none, (.move (.tmp 11))⟩,
  ⟨some 57, none, (.binOp .eql 42 (.tmp 55) (.tmp 56) 42)⟩,
  ⟨some 6, none, (.assign (.tmp 49))⟩,
  ⟨some 7, none, (.assign (.tmp 57))⟩] [6, 7]
@[simp] noncomputable def F8_r9 : CC := .reg [⟨some 59, none, (.binOp .eql 3 (.tmp 16) (.const (.int .i64 3)) 3)⟩,
  ⟨some 58, none, (.assign (.tmp 59))⟩] [0, 1, 5, 58]
@[simp] noncomputable def F8_r10 : CC := .reg [⟨some 60, none, (.move (.tmp 1))⟩,
  ⟨some 61, none, (.fieldAddr 29 (.tmp 5) 1)⟩,
  ⟨some 62, none, (.load 27 (.tmp 61))⟩,
  ⟨some 63, none, (.call { callee := (.value (.func 20)), args := #[(.tmp 60), (.tmp 62)], argTypes := #[25, 27] })⟩,
  ⟨some 12, none, (.alloc 56)⟩,
  ⟨none, none, (.store 56 (.tmp 12) (.tmp 63))⟩] [0, 1, 5, 12]
@[simp] noncomputable def F8_r11 : CC := .reg [⟨some 65, none, (.move (.tmp 0))⟩,
  ⟨some 66, none, (.fieldAddr 29 (.tmp 5) 1)⟩,
  ⟨some 67, none, (.load 27 (.tmp 66))⟩,
  ⟨some 68, none, (.call { callee := (.value (.func 13)), args := #[(.tmp 65), (.tmp 67)], argTypes := #[23, 27] })⟩,
  ⟨some 64, none, (.move (.tmp 68))⟩,
  ⟨some 69, none, (.extract (.tmp 64) 0)⟩,
  ⟨some 70, none, (.extract (.tmp 64) 1)⟩,
  ⟨some 13, none, (.alloc 36)⟩,
  ⟨none, none, (.store 36 (.tmp 13) (.tmp 69))⟩,
  ⟨some 14, none, (.assign (.tmp 70))⟩] [1, 5, 12, 13, 14]
@[simp] noncomputable def F8_r12 : CC := .drw [⟨0, ⟨some 71, none, (.move (.tmp 1))⟩, [], []⟩,
  ⟨1, ⟨some 72, none, (.fieldAddr 29 (.tmp 5) 1)⟩, [], []⟩,
  ⟨2, ⟨some 73, none, (.load 27 (.tmp 72))⟩, [], []⟩,
  ⟨4, ⟨some 75, none, (.move (.tmp 14))⟩, [], []⟩,
  ⟨5, ⟨some 76, none, (.fieldAddr 56 (.tmp 12) 0)⟩, [], []⟩,
  ⟨6, ⟨some 77, none, (.load 3 (.tmp 76))⟩, [], []⟩,
  ⟨7, ⟨some 78, none, (.binOp .neq 3 (.tmp 77) (.const (.int .i64 0)) 3)⟩, [], []⟩,
  ⟨8, ⟨some 79, none, (.binOp .eql 4 (.tmp 75) (.tmp 78) 4)⟩, [], []⟩,
  ⟨3, ⟨some 74, none, (.call { callee := (.value (.func 21)), args := #[(.tmp 71), (.tmp 73)], argTypes := #[25, 27] })⟩, [6], [⟨some 77, none, (.load 3 (.tmp 76))⟩]⟩,
  ⟨9, ⟨some 80, none, (.move (.tmp 79))⟩, [], []⟩,
  ⟨10, ⟨some 81, some (80, true), (.load 36 (.tmp 13))⟩, [], []⟩,
  ⟨12, ⟨some 83, some (80, true), (.load 56 (.tmp 12))⟩, [], []⟩,
  ⟨11, ⟨some 82, some (80, true), (.call { callee := (.value (.func 22)), args := #[(.tmp 81)], argTypes := #[36] })⟩, [12], [⟨some 83, some (80, true), (.load 56 (.tmp 12))⟩]⟩,
  ⟨13, ⟨some 84, some (80, true), (.binOp .eql 56 (.tmp 82) (.tmp 83) 56)⟩, [], []⟩,
  ⟨14, ⟨some 85, none, (.pick (.tmp 80) (.tmp 84) (.const (.bool false)))⟩, [], []⟩,
  ⟨15, ⟨some 6, none, (.assign (.tmp 74))⟩, [], []⟩,
  ⟨16, ⟨some 7, none, (.assign (.tmp 85))⟩, [], []⟩] [71, 72, 73, 75, 76, 77, 78, 79, 74, 80, 81, 83, 82, 84, 85, 6, 7] [6, 7]
@[simp] noncomputable def F8_r13 : CC := .reg [⟨some 86, none, (.move (.tmp 1))⟩,
  ⟨some 6, none, (.assign (.tmp 86))⟩,
  ⟨some 7, none, (.assign (.const (.bool true)))⟩] [6, 7]
noncomputable def F8 : CC := (.seq F8_r0 (.seq (.seq F8_r1 (.block 0 (.seq (.seq F8_r2 (.cond (.tmp 17) .skip F8_r3)) (.cond (.tmp 17) (.seq F8_r4 (.seq F8_r5 .ret)) (.seq F8_r6 (.cond (.tmp 38) (.seq F8_r7 (.seq F8_r8 .ret)) (.seq F8_r9 (.cond (.tmp 58) (.seq F8_r10 (.seq F8_r11 (.seq F8_r12 .ret))) .skip)))))))) (.seq F8_r13 .ret)))
noncomputable def F8_inf : Nat → RI
  | 0 => ⟨[0, 1, 5], [], []⟩
  | 1 => ⟨[0, 1, 5, 16], [], []⟩
  | 2 => ⟨[0, 1, 5, 16, 17], [], []⟩
  | 3 => ⟨[0, 1, 5, 16, 17], [], []⟩
  | 4 => ⟨[0, 5, 8, 9], [], []⟩
  | 5 => ⟨[6, 7], [], []⟩
  | 6 => ⟨[0, 1, 5, 16, 38], [], []⟩
  | 7 => ⟨[0, 5, 10, 11], [], []⟩
  | 8 => ⟨[6, 7], [], []⟩
  | 9 => ⟨[0, 1, 5, 58], [], []⟩
  | 10 => ⟨[0, 1, 5, 12], [], []⟩
  | 11 => ⟨[1, 5, 12, 13, 14], [], []⟩
  | 12 => ⟨[6, 7], [0, 0, 2, 7, 0, 0, 32, 96, 240, 511, 1023, 2047, 1023, 8191, 16383, 4095, 65535], [(0, []), (1, []), (2, []), (4, []), (5, []), (6, []), (7, []), (8, []), (3, [6]), (9, []), (10, []), (12, []), (11, [12]), (13, []), (14, []), (15, []), (16, [])]⟩
  | 13 => ⟨[6, 7], [], []⟩
  | _ => ⟨[], [], []⟩
noncomputable def F8_c : Code := Try.f8.body.getD .skip
theorem F8_b : Try.f8.body = some F8_c := by kernel_rfl
theorem F8_rs : Try.f8.results.toList = ([.tmp 6, .tmp 7] : List ResultVar) := by kernel_rfl
theorem F8_n : Try.f8.ntmps = 87 := by kernel_rfl
theorem F8_ok : toCC [] 87 F8_inf F8_c = some F8 := by kernel_rfl
theorem F8_in {args : List AV} {G : Hp} {post : AV → Hp → Prop} (ha : args.all AV.plain = true) (hn : args.length ≤ 87) (h : BDs args → awp Try.prog [] F8 (AEnds Try.prog [.tmp 6, .tmp 7] post) (initT args) G) : ACalls Try.prog 8 args G post :=
  acalls_cc Try.func8 F8_b F8_rs F8_n F8_ok mixed ha hn h

/- 9 ostiary/ostiarylaw19.same -/
@[simp] noncomputable def F9_r0 : CC := .reg [⟨some 4, none, (.assign (.const (.bool false)))⟩] [0, 1]
@[simp] noncomputable def F9_r1 : CC := .reg [⟨some 5, none, (.assign (.const (.int .i64 0)))⟩] [0, 1, 5]
@[simp] noncomputable def F9_r2 : CC := .reg [⟨some 16, none, (.move (.tmp 5))⟩,
  ⟨some 17, none, (.binOp .leq 3 (.tmp 16) (.const (.int .i64 9)) 3)⟩] [0, 1, 5, 17]
@[simp] noncomputable def F9_r4 : CC := .reg [⟨some 6, none, (.assign (.const (.int .i64 0)))⟩] [0, 1, 5, 6]
@[simp] noncomputable def F9_r5 : CC := .reg [⟨some 20, none, (.move (.tmp 6))⟩,
  ⟨some 21, none, (.binOp .leq 3 (.tmp 20) (.const (.int .i64 9)) 3)⟩] [0, 1, 5, 6, 21]
@[simp] noncomputable def F9_r7 : CC := .reg [⟨some 24, none, (.move (.tmp 5))⟩,
  ⟨some 25, none, (.move (.tmp 6))⟩,
  ⟨some 26, none, (.build 27 #[(0, (.tmp 24)), (1, (.tmp 25))])⟩,
  ⟨some 7, none, (.alloc 27)⟩,
  ⟨none, none, (.store 27 (.tmp 7) (.tmp 26))⟩] [0, 1, 5, 6, 7]
@[simp] noncomputable def F9_r8 : CC := .drw [⟨0, ⟨some 27, none, (.move (.tmp 0))⟩, [], []⟩,
  ⟨1, ⟨some 28, none, (.load 27 (.tmp 7))⟩, [], []⟩,
  ⟨4, ⟨some 31, none, (.move (.tmp 1))⟩, [], []⟩,
  ⟨5, ⟨some 32, none, (.load 27 (.tmp 7))⟩, [], []⟩,
  ⟨2, ⟨some 29, none, (.call { callee := (.value (.func 11)), args := #[(.tmp 27), (.tmp 28)], argTypes := #[23, 27] })⟩, [5], [⟨some 32, none, (.load 27 (.tmp 7))⟩]⟩,
  ⟨3, ⟨some 30, none, (.call { callee := (.value (.func 22)), args := #[(.tmp 29)], argTypes := #[36] })⟩, [5], [⟨some 32, none, (.load 27 (.tmp 7))⟩]⟩,
  ⟨6, ⟨some 33, none, (.call { callee := (.value (.func 20)), args := #[(.tmp 31), (.tmp 32)], argTypes := #[25, 27] })⟩, [], []⟩,
  ⟨7, ⟨some 34, none, (.binOp .neq 56 (.tmp 30) (.tmp 33) 56)⟩, [], []⟩,
  ⟨8, ⟨some 35, none, (.move (.tmp 34))⟩, [], []⟩,
  ⟨9, ⟨some 36, some (35, false), (.load 27 (.tmp 7))⟩, [], []⟩,
  ⟨11, ⟨some 38, some (35, false), (.load 27 (.tmp 7))⟩, [], []⟩,
  ⟨10, ⟨some 37, some (35, false), (.call { callee := (.value (.func 23)), args := #[(.tmp 36)], argTypes := #[27] })⟩, [11], [⟨some 38, some (35, false), (.load 27 (.tmp 7))⟩]⟩,
  ⟨12, ⟨some 39, some (35, false), (.call { callee := (.value (.func 24)), args := #[(.tmp 38)], argTypes := #[27] })⟩, [], []⟩,
  ⟨13, ⟨some 40, some (35, false), (.binOp .neq 4 (.tmp 37) (.tmp 39) 4)⟩, [], []⟩,
  ⟨14, ⟨some 41, none, (.pick (.tmp 35) (.const (.bool true)) (.tmp 40))⟩, [], []⟩] [27, 28, 31, 32, 29, 30, 33, 34, 35, 36, 38, 37, 39, 40, 41] [0, 1, 5, 6, 41]
@[simp] noncomputable def F9_r9 : CC := .reg [⟨some 4, none, (.assign (.const (.bool false)))⟩] [4]
@[simp] noncomputable def F9_r6 : CC := .reg [⟨some 22, none, (.move (.tmp 6))⟩,
  ⟨some 23, none, (.binOp .add 3 (.tmp 22) (.const (.int .i64 1)) 3)⟩,
  ⟨some 6, none, (.assign (.tmp 23))⟩] [0, 1, 5, 6]
noncomputable def F9_l0 : CC := (.seq (.seq F9_r5 (.cond (.tmp 21) .skip (.exit 2))) (.seq (.block 3 (.seq F9_r7 (.seq F9_r8 (.cond (.tmp 41) (.seq F9_r9 .ret) .skip)))) F9_r6))
@[simp] noncomputable def F9_r3 : CC := .reg [⟨some 18, none, (.move (.tmp 5))⟩,
  ⟨some 19, none, (.binOp .add 3 (.tmp 18) (.const (.int .i64 1)) 3)⟩,
  ⟨some 5, none, (.assign (.tmp 19))⟩] [0, 1, 5]
noncomputable def F9_l1 : CC := (.seq (.seq F9_r2 (.cond (.tmp 17) .skip (.exit 0))) (.seq (.block 1 (.seq F9_r4 (.block 2 (.loop F9_l0)))) F9_r3))
@[simp] noncomputable def F9_r10 : CC := .reg [⟨some 8, none, (.assign (.const (.int .i64 (-1))))⟩] [0, 1, 8]
@[simp] noncomputable def F9_r11 : CC := .reg [⟨some 42, none, (.move (.tmp 8))⟩,
  ⟨some 43, none, (.binOp .leq 3 (.tmp 42) (.const (.int .i64 16)) 3)⟩] [0, 1, 8, 43]
@[simp] noncomputable def F9_r13 : CC := .reg [⟨some 47, none, (.move (.tmp 0))⟩,
  ⟨some 48, none, (.move (.tmp 8))⟩,
  ⟨some 49, none, (.call { callee := (.value (.func 12)), args := #[(.tmp 47), (.tmp 48)], argTypes := #[23, 3] })⟩,
  ⟨some 46, none, (.move (.tmp 49))⟩,
  ⟨some 50, none, (.extract (.tmp 46) 0)⟩,
  ⟨some 51, none, (.extract (.tmp 46) 1)⟩,
  ⟨some 9, none, (.alloc 27)⟩,
  ⟨none, none, (.store 27 (.tmp 9) (.tmp 50))⟩,
  ⟨some 10, none, (.assign (.tmp 51))⟩] [0, 1, 8, 9, 10]
@[simp] noncomputable def F9_r14 : CC := .reg [⟨some 53, none, (.move (.tmp 1))⟩,
  ⟨some 54, none, (.move (.tmp 8))⟩,
  ⟨some 55, none, (.call { callee := (.value (.func 25)), args := #[(.tmp 53), (.tmp 54)], argTypes := #[25, 3] })⟩,
  ⟨some 52, none, (.move (.tmp 55))⟩,
  ⟨some 56, none, (.extract (.tmp 52) 0)⟩,
  ⟨some 57, none, (.extract (.tmp 52) 1)⟩,
  ⟨some 11, none, (.alloc 27)⟩,
  ⟨none, none, (.store 27 (.tmp 11) (.tmp 56))⟩,
  ⟨some 12, none, (.assign (.tmp 57))⟩] [0, 1, 8, 9, 10, 11, 12]
@[simp] noncomputable def F9_r15 : CC := .reg [⟨some 58, none, (.load 27 (.tmp 9))⟩,
  ⟨some 59, none, (.load 27 (.tmp 11))⟩,
  ⟨some 60, none, (.binOp .neq 27 (.tmp 58) (.tmp 59) 27)⟩,
  ⟨some 61, none, (.move (.tmp 60))⟩,
  ⟨some 62, some (61, false), (.move (.tmp 10))⟩,
  ⟨some 63, some (61, false), (.move (.tmp 12))⟩,
  ⟨some 64, some (61, false), (.binOp .neq 4 (.tmp 62) (.tmp 63) 4)⟩,
  ⟨some 65, none, (.pick (.tmp 61) (.const (.bool true)) (.tmp 64))⟩] [0, 1, 8, 65]
@[simp] noncomputable def F9_r16 : CC := .reg [⟨some 4, none, (.assign (.const (.bool false)))⟩] [4]
@[simp] noncomputable def F9_r12 : CC := .reg [⟨some 44, none, (.move (.tmp 8))⟩,
  ⟨some 45, none, (.binOp .add 3 (.tmp 44) (.const (.int .i64 1)) 3)⟩,
  ⟨some 8, none, (.assign (.tmp 45))⟩] [0, 1, 8]
noncomputable def F9_l2 : CC := (.seq (.seq F9_r11 (.cond (.tmp 43) .skip (.exit 4))) (.seq (.block 5 (.seq F9_r13 (.seq F9_r14 (.seq F9_r15 (.cond (.tmp 65) (.seq F9_r16 .ret) .skip))))) F9_r12))
@[simp] noncomputable def F9_r17 : CC := .reg [⟨some 66, none, (.move (.tmp 0))⟩,
  ⟨some 67, none, (.call { callee := (.value (.func 16)), args := #[(.tmp 66)], argTypes := #[23] })⟩,
  ⟨some 68, none, (.move (.tmp 1))⟩,
  ⟨some 69, none, (.call { callee := (.value (.func 26)), args := #[(.tmp 68)], argTypes := #[25] })⟩,
  ⟨some 13, none, (.assign (.tmp 67))⟩,
  ⟨some 14, none, (.assign (.tmp 69))⟩] [13, 14]
@[simp] noncomputable def F9_r18 : CC := .reg [⟨some 70, none, (.move (.tmp 13))⟩,
  ⟨some 71, none, (.call { callee := (.builtin .len), args := #[(.tmp 70)], argTypes := #[45] })⟩,
  ⟨some 72, none, (.move (.tmp 14))⟩,
  ⟨some 73, none, (.call { callee := (.builtin .len), args := #[(.tmp 72)], argTypes := #[45] })⟩,
  ⟨some 74, none, (.binOp .neq 3 (.tmp 71) (.tmp 73) 3)⟩] [13, 14, 74]
@[simp] noncomputable def F9_r19 : CC := .reg [⟨some 4, none, (.assign (.const (.bool false)))⟩] [4]
@[simp] noncomputable def F9_r20 : CC := .reg [⟨some 75, none, (.move (.tmp 13))⟩,
  ⟨some 76, none, (.call { callee := (.builtin .len), args := #[(.tmp 75)], argTypes := #[45] })⟩,
  ⟨some 77, none, (.move (.const (.int .i64 0)))⟩] [13, 14, 76, 77]
@[simp] noncomputable def F9_r21 : CC := .reg [⟨some 78, none, (.binOp .lss 3 (.tmp 77) (.tmp 76) 3)⟩] [13, 14, 76, 77, 78]
@[simp] noncomputable def F9_r22 : CC := .reg [⟨some 79, none, (.move (.tmp 77))⟩,
  ⟨some 15, none, (.assign (.tmp 79))⟩] [13, 14, 15, 76, 77]
@[simp] noncomputable def F9_r23 : CC := .drw [⟨0, ⟨some 80, none, (.move (.tmp 13))⟩, [], []⟩,
  ⟨1, ⟨some 81, none, (.move (.tmp 15))⟩, [], []⟩,
  ⟨2, ⟨some 82, none, (.indexAddr 45 (.tmp 80) (.tmp 81))⟩, [], []⟩,
  ⟨3, ⟨some 83, none, (.load 64 (.tmp 82))⟩, [], []⟩,
  ⟨4, ⟨some 84, none, (.move (.tmp 14))⟩, [], []⟩,
  ⟨5, ⟨some 85, none, (.move (.tmp 15))⟩, [], []⟩,
  ⟨6, ⟨some 86, none, (.indexAddr 45 (.tmp 84) (.tmp 85))⟩, [], []⟩,
  ⟨7, ⟨some 87, none, (.load 64 (.tmp 86))⟩, [], []⟩,
  ⟨8, ⟨some 88, none, (.binOp .neq 64 (.tmp 83) (.tmp 87) 64)⟩, [], []⟩] [80, 81, 82, 83, 84, 85, 86, 87, 88] [13, 14, 76, 77, 88]
@[simp] noncomputable def F9_r24 : CC := .reg [⟨some 4, none, (.assign (.const (.bool false)))⟩] [4]
@[simp] noncomputable def F9_r25 : CC := .reg [⟨some 89, none, (.binOp .add 3 (.tmp 77) (.const (.int .i64 1)) 3)⟩,
  ⟨some 77, none, (.move (.tmp 89))⟩] [13, 14, 76, 77]
noncomputable def F9_l3 : CC := (.seq F9_r21 (.seq (.cond (.tmp 78) .skip (.exit 6)) (.seq (.block 7 (.seq F9_r22 (.seq F9_r23 (.cond (.tmp 88) (.seq F9_r24 .ret) .skip)))) F9_r25)))
@[simp] noncomputable def F9_r26 : CC := .reg [⟨some 4, none, (.assign (.const (.bool true)))⟩] [4]
noncomputable def F9 : CC := (.seq F9_r0 (.seq (.seq F9_r1 (.block 0 (.loop F9_l1))) (.seq (.seq F9_r10 (.block 4 (.loop F9_l2))) (.seq F9_r17 (.seq (.seq F9_r18 (.cond (.tmp 74) (.seq F9_r19 .ret) .skip)) (.seq (.seq F9_r20 (.block 6 (.loop F9_l3))) (.seq F9_r26 .ret)))))))
noncomputable def F9_inf : Nat → RI
  | 0 => ⟨[0, 1], [], []⟩
  | 1 => ⟨[0, 1, 5], [], []⟩
  | 2 => ⟨[0, 1, 5, 17], [], []⟩
  | 4 => ⟨[0, 1, 5, 6], [], []⟩
  | 5 => ⟨[0, 1, 5, 6, 21], [], []⟩
  | 7 => ⟨[0, 1, 5, 6, 7], [], []⟩
  | 8 => ⟨[0, 1, 5, 6, 41], [0, 0, 3, 7, 0, 0, 63, 127, 255, 511, 1023, 511, 4095, 8191, 16383], [(0, []), (1, []), (4, []), (5, []), (2, [5]), (3, [5]), (6, []), (7, []), (8, []), (9, []), (11, []), (10, [11]), (12, []), (13, []), (14, [])]⟩
  | 9 => ⟨[4], [], []⟩
  | 6 => ⟨[0, 1, 5, 6], [], []⟩
  | 3 => ⟨[0, 1, 5], [], []⟩
  | 10 => ⟨[0, 1, 8], [], []⟩
  | 11 => ⟨[0, 1, 8, 43], [], []⟩
  | 13 => ⟨[0, 1, 8, 9, 10], [], []⟩
  | 14 => ⟨[0, 1, 8, 9, 10, 11, 12], [], []⟩
  | 15 => ⟨[0, 1, 8, 65], [], []⟩
  | 16 => ⟨[4], [], []⟩
  | 12 => ⟨[0, 1, 8], [], []⟩
  | 17 => ⟨[13, 14], [], []⟩
  | 18 => ⟨[13, 14, 74], [], []⟩
  | 19 => ⟨[4], [], []⟩
  | 20 => ⟨[13, 14, 76, 77], [], []⟩
  | 21 => ⟨[13, 14, 76, 77, 78], [], []⟩
  | 22 => ⟨[13, 14, 15, 76, 77], [], []⟩
  | 23 => ⟨[13, 14, 76, 77, 88], [0, 0, 3, 7, 0, 0, 48, 112, 255], [(0, []), (1, []), (2, []), (3, []), (4, []), (5, []), (6, []), (7, []), (8, [])]⟩
  | 24 => ⟨[4], [], []⟩
  | 25 => ⟨[13, 14, 76, 77], [], []⟩
  | 26 => ⟨[4], [], []⟩
  | _ => ⟨[], [], []⟩
noncomputable def F9_c : Code := Try.f9.body.getD .skip
theorem F9_b : Try.f9.body = some F9_c := by kernel_rfl
theorem F9_rs : Try.f9.results.toList = ([.tmp 4] : List ResultVar) := by kernel_rfl
theorem F9_n : Try.f9.ntmps = 90 := by kernel_rfl
theorem F9_ok : toCC [] 90 F9_inf F9_c = some F9 := by kernel_rfl
theorem F9_in {args : List AV} {G : Hp} {post : AV → Hp → Prop} (ha : args.all AV.plain = true) (hn : args.length ≤ 90) (h : BDs args → awp Try.prog [] F9 (AEnds Try.prog [.tmp 4] post) (initT args) G) : ACalls Try.prog 9 args G post :=
  acalls_cc Try.func9 F9_b F9_rs F9_n F9_ok mixed ha hn h

/- 10 ostiary/ostiarylaw19.awake -/
@[simp] noncomputable def F10_r0 : CC := .reg [⟨some 0, none, (.assign (.const (.bool false)))⟩] []
@[simp] noncomputable def F10_r1 : CC := .reg [⟨some 7, none, (.call { callee := (.value (.func 7)), args := #[], argTypes := #[] })⟩,
  ⟨some 1, none, (.assign (.tmp 7))⟩] [1]
@[simp] noncomputable def F10_r2 : CC := .reg [⟨some 8, none, (.build 27 #[(0, (.const (.int .i64 1))), (1, (.const (.int .i64 2)))])⟩,
  ⟨some 9, none, (.build 27 #[(0, (.const (.int .i64 3))), (1, (.const (.int .i64 4)))])⟩,
  ⟨some 2, none, (.alloc 27)⟩,
  ⟨some 3, none, (.alloc 27)⟩,
  ⟨none, none, (.store 27 (.tmp 2) (.tmp 8))⟩,
  ⟨none, none, (.store 27 (.tmp 3) (.tmp 9))⟩] [1, 2, 3]
@[simp] noncomputable def F10_r3 : CC := .reg [⟨some 10, none, (.move (.tmp 1))⟩,
  ⟨some 11, none, (.load 27 (.tmp 3))⟩,
  ⟨some 12, none, (.load 27 (.tmp 2))⟩,
  ⟨some 13, none, (.call { callee := (.value (.func 14)), args := #[(.tmp 10), (.tmp 11), (.tmp 12)], argTypes := #[23, 27, 27] })⟩,
  ⟨some 4, none, (.assign (.tmp 13))⟩] [1, 2, 3, 4]
@[simp] noncomputable def F10_r4 : CC := .reg [⟨some 14, none, (.move (.tmp 1))⟩,
  ⟨some 15, none, (.load 27 (.tmp 3))⟩,
  ⟨some 16, none, (.call { callee := (.value (.func 11)), args := #[(.tmp 14), (.tmp 15)], argTypes := #[23, 27] })⟩,
  ⟨some 5, none, (.alloc 36)⟩,
  ⟨none, none, (.store 36 (.tmp 5) (.tmp 16))⟩] [1, 2, 4, 5]
@[simp] noncomputable def F10_r5 : CC := .reg [⟨some 17, none, (.move (.tmp 1))⟩,
  ⟨some 18, none, (.call { callee := (.value (.func 16)), args := #[(.tmp 17)], argTypes := #[23] })⟩,
  ⟨some 6, none, (.assign (.tmp 18))⟩] [2, 4, 5, 6]
@[simp] noncomputable def F10_r6 : CC := .drw [⟨0, ⟨some 19, none, (.move (.tmp 4))⟩, [], []⟩,
  ⟨1, ⟨some 20, none, (.binOp .eql 42 (.tmp 19) (.const (.int .i64 0)) 42)⟩, [], []⟩,
  ⟨2, ⟨some 21, none, (.move (.tmp 20))⟩, [], []⟩,
  ⟨3, ⟨some 22, some (21, true), (.fieldAddr 36 (.tmp 5) 0)⟩, [], []⟩,
  ⟨4, ⟨some 23, some (21, true), (.load 3 (.tmp 22))⟩, [], []⟩,
  ⟨5, ⟨some 24, some (21, true), (.binOp .eql 3 (.tmp 23) (.const (.int .i64 1)) 3)⟩, [], []⟩,
  ⟨6, ⟨some 25, none, (.pick (.tmp 21) (.tmp 24) (.const (.bool false)))⟩, [], []⟩,
  ⟨7, ⟨some 26, none, (.move (.tmp 25))⟩, [], []⟩,
  ⟨8, ⟨some 27, some (26, true), (.fieldAddr 36 (.tmp 5) 1)⟩, [], []⟩,
  ⟨9, ⟨some 28, some (26, true), (.load 27 (.tmp 27))⟩, [], []⟩,
  ⟨10, ⟨some 29, some (26, true), (.load 27 (.tmp 2))⟩, [], []⟩,
  ⟨11, ⟨some 30, some (26, true), (.binOp .eql 27 (.tmp 28) (.tmp 29) 27)⟩, [], []⟩,
  ⟨12, ⟨some 31, none, (.pick (.tmp 26) (.tmp 30) (.const (.bool false)))⟩, [], []⟩,
  ⟨13, ⟨some 32, none, (.move (.tmp 31))⟩, [], []⟩,
  ⟨14, ⟨some 33, some (32, true), (.move (.tmp 6))⟩, [], []⟩,
  ⟨15, ⟨some 34, some (32, true), (.call { callee := (.builtin .len), args := #[(.tmp 33)], argTypes := #[45] })⟩, [], []⟩,
  ⟨16, ⟨some 35, some (32, true), (.binOp .eql 3 (.tmp 34) (.const (.int .i64 1)) 3)⟩, [], []⟩,
  ⟨17, ⟨some 36, none, (.pick (.tmp 32) (.tmp 35) (.const (.bool false)))⟩, [], []⟩,
  ⟨18, ⟨some 37, none, (.move (.tmp 36))⟩, [], []⟩,
  ⟨19, ⟨some 38, some (37, true), (.move (.tmp 6))⟩, [], []⟩,
  ⟨20, ⟨some 39, some (37, true), (.indexAddr 45 (.tmp 38) (.const (.int .i64 0)))⟩, [], []⟩,
  ⟨21, ⟨some 40, some (37, true), (.fieldAddr 64 (.tmp 39) 0)⟩, [], []⟩,
  ⟨22, ⟨some 41, some (37, true), (.load 27 (.tmp 40))⟩, [], []⟩,
  ⟨23, ⟨some 42, some (37, true), (.load 27 (.tmp 2))⟩, [], []⟩,
  ⟨24, ⟨some 43, some (37, true), (.binOp .eql 27 (.tmp 41) (.tmp 42) 27)⟩, [], []⟩,
  ⟨25, ⟨some 44, none, (.pick (.tmp 37) (.tmp 43) (.const (.bool false)))⟩, [], []⟩,
  ⟨26, ⟨some 45, none, (.move (.tmp 44))⟩, [], []⟩,
  ⟨27, ⟨some 46, some (45, true), (.load 27 (.tmp 2))⟩, [], []⟩,
  ⟨28, ⟨some 47, some (45, true), (.call { callee := (.value (.func 23)), args := #[(.tmp 46)], argTypes := #[27] })⟩, [], []⟩,
  ⟨29, ⟨some 48, none, (.pick (.tmp 45) (.tmp 47) (.const (.bool false)))⟩, [], []⟩,
  ⟨30, ⟨some 0, none, (.assign (.tmp 48))⟩, [], []⟩] [19, 20, 21, 22, 23, 24, 25, 26, 27, 28, 29, 30, 31, 32, 33, 34, 35, 36, 37, 38, 39, 40, 41, 42, 43, 44, 45, 46, 47, 48, 0] [0]
noncomputable def F10 : CC := (.seq F10_r0 (.seq F10_r1 (.seq F10_r2 (.seq F10_r3 (.seq F10_r4 (.seq F10_r5 (.seq F10_r6 .ret)))))))
noncomputable def F10_inf : Nat → RI
  | 0 => ⟨[], [], []⟩
  | 1 => ⟨[1], [], []⟩
  | 2 => ⟨[1, 2, 3], [], []⟩
  | 3 => ⟨[1, 2, 3, 4], [], []⟩
  | 4 => ⟨[1, 2, 4, 5], [], []⟩
  | 5 => ⟨[2, 4, 5, 6], [], []⟩
  | 6 => ⟨[0], [0, 1, 3, 7, 15, 31, 63, 127, 255, 511, 255, 2047, 4095, 8191, 16383, 32767, 65535, 131071, 262143, 524287, 1048575, 2097151, 4194303, 524287, 16777215, 33554431, 67108863, 134217727, 268435455, 536870911, 1073741823], [(0, []), (1, []), (2, []), (3, []), (4, []), (5, []), (6, []), (7, []), (8, []), (9, []), (10, []), (11, []), (12, []), (13, []), (14, []), (15, []), (16, []), (17, []), (18, []), (19, []), (20, []), (21, []), (22, []), (23, []), (24, []), (25, []), (26, []), (27, []), (28, []), (29, []), (30, [])]⟩
  | _ => ⟨[], [], []⟩
noncomputable def F10_c : Code := Try.f10.body.getD .skip
theorem F10_b : Try.f10.body = some F10_c := by kernel_rfl
theorem F10_rs : Try.f10.results.toList = ([.tmp 0] : List ResultVar) := by kernel_rfl
theorem F10_n : Try.f10.ntmps = 49 := by kernel_rfl
theorem F10_ok : toCC [] 49 F10_inf F10_c = some F10 := by kernel_rfl
theorem F10_in {args : List AV} {G : Hp} {post : AV → Hp → Prop} (ha : args.all AV.plain = true) (hn : args.length ≤ 49) (h : BDs args → awp Try.prog [] F10 (AEnds Try.prog [.tmp 0] post) (initT args) G) : ACalls Try.prog 10 args G post :=
  acalls_cc Try.func10 F10_b F10_rs F10_n F10_ok mixed ha hn h

/- 11 (*ostiary/cable.Net).Other -/
@[simp] noncomputable def F11_r0 : CC := .reg [⟨some 3, none, (.box 27 (.tmp 1))⟩,
  ⟨some 4, none, (.alloc 36)⟩] [0, 3, 4]
@[simp] noncomputable def F11_r1 : CC := .reg [⟨some 7, none, (.move (.tmp 0))⟩,
  ⟨some 8, none, (.binOp .eql 23 (.tmp 7) (.const (.pointer none)) 23)⟩,
  ⟨some 9, none, (.move (.tmp 8))⟩,
  ⟨some 10, some (9, false), (.load 27 (.tmp 3))⟩,
  ⟨some 11, some (9, false), (.call { callee := (.value (.func 23)), args := #[(.tmp 10)], argTypes := #[27] })⟩,
  ⟨some 12, some (9, false), (.unOp .not 4 (.tmp 11))⟩,
  ⟨some 13, none, (.pick (.tmp 9) (.const (.bool true)) (.tmp 12))⟩] [0, 3, 4, 13]
@[simp] noncomputable def F11_r2 : CC := .reg [⟨some 14, none, (.build 36 #[])⟩,
  ⟨none, none, (.store 36 (.tmp 4) (.tmp 14))⟩] [4]
@[simp] noncomputable def F11_r3 : CC := .drw [⟨0, ⟨some 16, none, (.move (.tmp 0))⟩, [], []⟩,
  ⟨1, ⟨some 17, none, (.nilCheck (.tmp 16))⟩, [], []⟩,
  ⟨2, ⟨some 18, none, (.fieldAddr 52 (.tmp 17) 0)⟩, [], []⟩,
  ⟨3, ⟨some 19, none, (.load 49 (.tmp 18))⟩, [], []⟩,
  ⟨4, ⟨some 20, none, (.load 27 (.tmp 3))⟩, [], []⟩,
  ⟨10, ⟨some 5, none, (.alloc 36)⟩, [], []⟩,
  ⟨5, ⟨some 21, none, (.call { callee := (.value (.func 28)), args := #[(.tmp 20)], argTypes := #[27] })⟩, [3], [⟨some 19, none, (.load 49 (.tmp 18))⟩]⟩,
  ⟨6, ⟨some 22, none, (.call { callee := (.value (.func 27)), args := #[(.tmp 19), (.tmp 21)], argTypes := #[49, 3] })⟩, [], []⟩,
  ⟨7, ⟨some 15, none, (.move (.tmp 22))⟩, [], []⟩,
  ⟨8, ⟨some 23, none, (.extract (.tmp 15) 0)⟩, [], []⟩,
  ⟨9, ⟨some 24, none, (.extract (.tmp 15) 1)⟩, [], []⟩,
  ⟨11, ⟨none, none, (.store 36 (.tmp 5) (.tmp 23))⟩, [], []⟩,
  ⟨12, ⟨some 6, none, (.assign (.tmp 24))⟩, [], []⟩] [16, 17, 18, 19, 20, 5, 21, 22, 15, 23, 24, 6] [4, 5]
@[simp] noncomputable def F11_r4 : CC := .reg [⟨some 25, none, (.load 36 (.tmp 5))⟩,
  ⟨none, none, (.store 36 (.tmp 4) (.tmp 25))⟩] [4]
noncomputable def F11 : CC := (.seq F11_r0 (.seq (.seq F11_r1 (.cond (.tmp 13) (.seq F11_r2 .ret) .skip)) (.seq F11_r3 (.seq F11_r4 .ret))))
noncomputable def F11_inf : Nat → RI
  | 0 => ⟨[0, 3, 4], [], []⟩
  | 1 => ⟨[0, 3, 4, 13], [], []⟩
  | 2 => ⟨[4], [], []⟩
  | 3 => ⟨[4, 5], [0, 1, 3, 7, 0, 16, 63, 127, 255, 255, 0, 1535, 4095], [(0, []), (1, []), (2, []), (3, []), (4, []), (10, []), (5, [3]), (6, []), (7, []), (8, []), (9, []), (11, []), (12, [])]⟩
  | 4 => ⟨[4], [], []⟩
  | _ => ⟨[], [], []⟩
noncomputable def F11_c : Code := Try.f11.body.getD .skip
theorem F11_b : Try.f11.body = some F11_c := by kernel_rfl
theorem F11_rs : Try.f11.results.toList = ([.cell 4 36] : List ResultVar) := by kernel_rfl
theorem F11_n : Try.f11.ntmps = 26 := by kernel_rfl
theorem F11_ok : toCC [] 26 F11_inf F11_c = some F11 := by kernel_rfl
theorem F11_in {args : List AV} {G : Hp} {post : AV → Hp → Prop} (ha : args.all AV.plain = true) (hn : args.length ≤ 26) (h : BDs args → awp Try.prog [] F11 (AEnds Try.prog [.cell 4 36] post) (initT args) G) : ACalls Try.prog 11 args G post :=
  acalls_cc Try.func11 F11_b F11_rs F11_n F11_ok mixed ha hn h

/- 12 (*ostiary/cable.Net).Where -/
@[simp] noncomputable def F12_r0 : CC := .reg [⟨some 4, none, (.alloc 27)⟩,
  ⟨some 5, none, (.assign (.const (.bool false)))⟩] [0, 1, 4]
@[simp] noncomputable def F12_r1 : CC := .reg [⟨some 10, none, (.move (.tmp 0))⟩,
  ⟨some 11, none, (.binOp .neq 23 (.tmp 10) (.const (.pointer none)) 23)⟩] [0, 1, 4, 11]
@[simp] noncomputable def F12_r2 : CC := .reg [⟨some 12, none, (.move (.tmp 0))⟩,
  ⟨some 13, none, (.nilCheck (.tmp 12))⟩,
  ⟨some 14, none, (.fieldAddr 52 (.tmp 13) 0)⟩,
  ⟨some 15, none, (.load 49 (.tmp 14))⟩,
  ⟨some 16, none, (.call { callee := (.value (.func 29)), args := #[(.tmp 15)], argTypes := #[49] })⟩,
  ⟨some 17, none, (.call { callee := (.builtin .len), args := #[(.tmp 16)], argTypes := #[67] })⟩,
  ⟨some 18, none, (.move (.const (.int .i64 0)))⟩] [0, 1, 4, 16, 17, 18]
@[simp] noncomputable def F12_r3 : CC := .reg [⟨some 19, none, (.binOp .lss 3 (.tmp 18) (.tmp 17) 3)⟩] [0, 1, 4, 16, 17, 18, 19]
@[simp] noncomputable def F12_r4 : CC := .reg [⟨some 20, none, (.indexAddr 67 (.tmp 16) (.tmp 18))⟩,
  ⟨some 21, none, (.load 3 (.tmp 20))⟩,
  ⟨some 7, none, (.assign (.tmp 21))⟩] [0, 1, 4, 7, 16, 17, 18]
@[simp] noncomputable def F12_r5 : CC := .reg [⟨some 23, none, (.move (.tmp 0))⟩,
  ⟨some 24, none, (.nilCheck (.tmp 23))⟩,
  ⟨some 25, none, (.fieldAddr 52 (.tmp 24) 0)⟩,
  ⟨some 26, none, (.load 49 (.tmp 25))⟩,
  ⟨some 27, none, (.move (.tmp 7))⟩,
  ⟨some 28, none, (.call { callee := (.value (.func 27)), args := #[(.tmp 26), (.tmp 27)], argTypes := #[49, 3] })⟩,
  ⟨some 22, none, (.move (.tmp 28))⟩,
  ⟨some 29, none, (.extract (.tmp 22) 0)⟩,
  ⟨some 30, none, (.extract (.tmp 22) 1)⟩,
  ⟨some 8, none, (.alloc 36)⟩,
  ⟨none, none, (.store 36 (.tmp 8) (.tmp 29))⟩,
  ⟨some 9, none, (.assign (.tmp 30))⟩] [0, 1, 4, 7, 8, 16, 17, 18]
@[simp] noncomputable def F12_r6 : CC := .reg [⟨some 31, none, (.fieldAddr 36 (.tmp 8) 0)⟩,
  ⟨some 32, none, (.load 3 (.tmp 31))⟩,
  ⟨some 33, none, (.binOp .eql 3 (.tmp 32) (.const (.int .i64 2)) 3)⟩,
  ⟨some 34, none, (.move (.tmp 33))⟩,
  ⟨some 35, some (34, true), (.fieldAddr 36 (.tmp 8) 2)⟩,
  ⟨some 36, some (34, true), (.load 3 (.tmp 35))⟩,
  ⟨some 37, some (34, true), (.move (.tmp 1))⟩,
  ⟨some 38, some (34, true), (.binOp .eql 3 (.tmp 36) (.tmp 37) 3)⟩,
  ⟨some 39, none, (.pick (.tmp 34) (.tmp 38) (.const (.bool false)))⟩] [0, 1, 4, 7, 16, 17, 18, 39]
@[simp] noncomputable def F12_r7 : CC := .reg [⟨some 40, none, (.move (.tmp 7))⟩,
  ⟨some 41, none, (.call { callee := (.value (.func 30)), args := #[(.tmp 40)], argTypes := #[3] })⟩,
  ⟨none, none, (.store 27 (.tmp 4) (.tmp 41))⟩,
  ⟨some 5, none, (.assign (.const (.bool true)))⟩] [4, 5]
@[simp] noncomputable def F12_r8 : CC := .reg [⟨some 42, none, (.binOp .add 3 (.tmp 18) (.const (.int .i64 1)) 3)⟩,
  ⟨some 18, none, (.move (.tmp 42))⟩] [0, 1, 4, 16, 17, 18]
noncomputable def F12_l0 : CC := (.seq F12_r3 (.seq (.cond (.tmp 19) .skip (.exit 0)) (.seq (.block 1 (.seq F12_r4 (.seq F12_r5 (.seq F12_r6 (.cond (.tmp 39) (.seq F12_r7 .ret) .skip))))) F12_r8)))
@[simp] noncomputable def F12_r9 : CC := .reg [⟨some 43, none, (.build 27 #[])⟩,
  ⟨none, none, (.store 27 (.tmp 4) (.tmp 43))⟩,
  ⟨some 5, none, (.assign (.const (.bool false)))⟩] [4, 5]
noncomputable def F12 : CC := (.seq F12_r0 (.seq (.seq F12_r1 (.cond (.tmp 11) (.seq F12_r2 (.block 0 (.loop F12_l0))) .skip)) (.seq F12_r9 .ret)))
noncomputable def F12_inf : Nat → RI
  | 0 => ⟨[0, 1, 4], [], []⟩
  | 1 => ⟨[0, 1, 4, 11], [], []⟩
  | 2 => ⟨[0, 1, 4, 16, 17, 18], [], []⟩
  | 3 => ⟨[0, 1, 4, 16, 17, 18, 19], [], []⟩
  | 4 => ⟨[0, 1, 4, 7, 16, 17, 18], [], []⟩
  | 5 => ⟨[0, 1, 4, 7, 8, 16, 17, 18], [], []⟩
  | 6 => ⟨[0, 1, 4, 7, 16, 17, 18, 39], [], []⟩
  | 7 => ⟨[4, 5], [], []⟩
  | 8 => ⟨[0, 1, 4, 16, 17, 18], [], []⟩
  | 9 => ⟨[4, 5], [], []⟩
  | _ => ⟨[], [], []⟩
noncomputable def F12_c : Code := Try.f12.body.getD .skip
theorem F12_b : Try.f12.body = some F12_c := by kernel_rfl
theorem F12_rs : Try.f12.results.toList = ([.cell 4 27, .tmp 5] : List ResultVar) := by kernel_rfl
theorem F12_n : Try.f12.ntmps = 44 := by kernel_rfl
theorem F12_ok : toCC [] 44 F12_inf F12_c = some F12 := by kernel_rfl
theorem F12_in {args : List AV} {G : Hp} {post : AV → Hp → Prop} (ha : args.all AV.plain = true) (hn : args.length ≤ 44) (h : BDs args → awp Try.prog [] F12 (AEnds Try.prog [.cell 4 27, .tmp 5] post) (initT args) G) : ACalls Try.prog 12 args G post :=
  acalls_cc Try.func12 F12_b F12_rs F12_n F12_ok mixed ha hn h

/- 13 (*ostiary/cable.Net).Pull -/
@[simp] noncomputable def F13_r0 : CC := .reg [⟨some 3, none, (.box 27 (.tmp 1))⟩,
  ⟨some 4, none, (.alloc 36)⟩,
  ⟨some 5, none, (.assign (.const (.bool false)))⟩] [0, 3, 4]
@[simp] noncomputable def F13_r1 : CC := .reg [⟨some 7, none, (.move (.tmp 0))⟩,
  ⟨some 8, none, (.load 27 (.tmp 3))⟩,
  ⟨some 9, none, (.call { callee := (.value (.func 11)), args := #[(.tmp 7), (.tmp 8)], argTypes := #[23, 27] })⟩,
  ⟨some 6, none, (.alloc 36)⟩,
  ⟨none, none, (.store 36 (.tmp 6) (.tmp 9))⟩] [0, 3, 4, 6]
@[simp] noncomputable def F13_r2 : CC := .reg [⟨some 10, none, (.fieldAddr 36 (.tmp 6) 0)⟩,
  ⟨some 11, none, (.load 3 (.tmp 10))⟩,
  ⟨some 12, none, (.binOp .eql 3 (.tmp 11) (.const (.int .i64 0)) 3)⟩] [0, 3, 4, 6, 12]
@[simp] noncomputable def F13_r3 : CC := .reg [⟨some 13, none, (.build 36 #[])⟩,
  ⟨none, none, (.store 36 (.tmp 4) (.tmp 13))⟩,
  ⟨some 5, none, (.assign (.const (.bool false)))⟩] [4, 5]
@[simp] noncomputable def F13_r4 : CC := .drw [⟨0, ⟨some 14, none, (.move (.tmp 0))⟩, [], []⟩,
  ⟨1, ⟨some 15, none, (.nilCheck (.tmp 14))⟩, [], []⟩,
  ⟨2, ⟨some 16, none, (.fieldAddr 52 (.tmp 15) 0)⟩, [], []⟩,
  ⟨3, ⟨some 17, none, (.load 49 (.tmp 16))⟩, [], []⟩,
  ⟨4, ⟨some 18, none, (.load 27 (.tmp 3))⟩, [], []⟩,
  ⟨5, ⟨some 19, none, (.call { callee := (.value (.func 28)), args := #[(.tmp 18)], argTypes := #[27] })⟩, [3], [⟨some 17, none, (.load 49 (.tmp 16))⟩]⟩,
  ⟨6, ⟨some 20, none, (.buildSlice 67 1 #[(0, (.tmp 19))])⟩, [], []⟩,
  ⟨7, ⟨some 21, none, (.call { callee := (.value (.func 31)), args := #[(.tmp 17), (.tmp 20)], argTypes := #[49, 67] })⟩, [], []⟩] [14, 15, 16, 17, 18, 19, 20, 21] [0, 4, 6]
@[simp] noncomputable def F13_r5 : CC := .reg [⟨some 22, none, (.fieldAddr 36 (.tmp 6) 0)⟩,
  ⟨some 23, none, (.load 3 (.tmp 22))⟩,
  ⟨some 24, none, (.binOp .eql 3 (.tmp 23) (.const (.int .i64 1)) 3)⟩] [0, 4, 6, 24]
@[simp] noncomputable def F13_r6 : CC := .drw [⟨0, ⟨some 25, none, (.move (.tmp 0))⟩, [], []⟩,
  ⟨1, ⟨some 26, none, (.nilCheck (.tmp 25))⟩, [], []⟩,
  ⟨2, ⟨some 27, none, (.fieldAddr 52 (.tmp 26) 0)⟩, [], []⟩,
  ⟨3, ⟨some 28, none, (.load 49 (.tmp 27))⟩, [], []⟩,
  ⟨4, ⟨some 29, none, (.fieldAddr 36 (.tmp 6) 1)⟩, [], []⟩,
  ⟨5, ⟨some 30, none, (.load 27 (.tmp 29))⟩, [], []⟩,
  ⟨6, ⟨some 31, none, (.call { callee := (.value (.func 28)), args := #[(.tmp 30)], argTypes := #[27] })⟩, [3], [⟨some 28, none, (.load 49 (.tmp 27))⟩]⟩,
  ⟨7, ⟨some 32, none, (.buildSlice 67 1 #[(0, (.tmp 31))])⟩, [], []⟩,
  ⟨8, ⟨some 33, none, (.call { callee := (.value (.func 31)), args := #[(.tmp 28), (.tmp 32)], argTypes := #[49, 67] })⟩, [], []⟩] [25, 26, 27, 28, 29, 30, 31, 32, 33] [4, 6]
@[simp] noncomputable def F13_r7 : CC := .reg [⟨some 34, none, (.load 36 (.tmp 6))⟩,
  ⟨none, none, (.store 36 (.tmp 4) (.tmp 34))⟩,
  ⟨some 5, none, (.assign (.const (.bool true)))⟩] [4, 5]
noncomputable def F13 : CC := (.seq F13_r0 (.seq F13_r1 (.seq (.seq F13_r2 (.cond (.tmp 12) (.seq F13_r3 .ret) .skip)) (.seq F13_r4 (.seq (.seq F13_r5 (.cond (.tmp 24) F13_r6 .skip)) (.seq F13_r7 .ret))))))
noncomputable def F13_inf : Nat → RI
  | 0 => ⟨[0, 3, 4], [], []⟩
  | 1 => ⟨[0, 3, 4, 6], [], []⟩
  | 2 => ⟨[0, 3, 4, 6, 12], [], []⟩
  | 3 => ⟨[4, 5], [], []⟩
  | 4 => ⟨[0, 4, 6], [0, 1, 3, 7, 0, 16, 48, 127], [(0, []), (1, []), (2, []), (3, []), (4, []), (5, [3]), (6, []), (7, [])]⟩
  | 5 => ⟨[0, 4, 6, 24], [], []⟩
  | 6 => ⟨[4, 6], [0, 1, 3, 7, 0, 16, 48, 112, 255], [(0, []), (1, []), (2, []), (3, []), (4, []), (5, []), (6, [3]), (7, []), (8, [])]⟩
  | 7 => ⟨[4, 5], [], []⟩
  | _ => ⟨[], [], []⟩
noncomputable def F13_c : Code := Try.f13.body.getD .skip
theorem F13_b : Try.f13.body = some F13_c := by kernel_rfl
theorem F13_rs : Try.f13.results.toList = ([.cell 4 36, .tmp 5] : List ResultVar) := by kernel_rfl
theorem F13_n : Try.f13.ntmps = 35 := by kernel_rfl
theorem F13_ok : toCC [] 35 F13_inf F13_c = some F13 := by kernel_rfl
theorem F13_in {args : List AV} {G : Hp} {post : AV → Hp → Prop} (ha : args.all AV.plain = true) (hn : args.length ≤ 35) (h : BDs args → awp Try.prog [] F13 (AEnds Try.prog [.cell 4 36, .tmp 5] post) (initT args) G) : ACalls Try.prog 13 args G post :=
  acalls_cc Try.func13 F13_b F13_rs F13_n F13_ok mixed ha hn h

/- 14 (*ostiary/cable.Net).Join -/
@[simp] noncomputable def F14_r0 : CC := .reg [⟨some 4, none, (.box 27 (.tmp 1))⟩,
  ⟨some 5, none, (.box 27 (.tmp 2))⟩,
  ⟨some 6, none, (.assign (.const (.int .i64 0)))⟩] [0, 4, 5]
@[simp] noncomputable def F14_r1 : CC := .reg [⟨some 8, none, (.move (.tmp 0))⟩,
  ⟨some 9, none, (.binOp .eql 23 (.tmp 8) (.const (.pointer none)) 23)⟩,
  ⟨some 7, none, (.assign (.tmp 9))⟩] [0, 4, 5, 7]
@[simp] noncomputable def F14_r2 : CC := .reg [⟨some 6, none, (.assign (.const (.int .i64 11)))⟩] [6]
@[simp] noncomputable def F14_r3 : CC := .reg [⟨some 11, none, (.load 27 (.tmp 4))⟩,
  ⟨some 12, none, (.call { callee := (.value (.func 23)), args := #[(.tmp 11)], argTypes := #[27] })⟩,
  ⟨some 13, none, (.unOp .not 4 (.tmp 12))⟩,
  ⟨some 14, none, (.move (.tmp 13))⟩,
  ⟨some 15, some (14, false), (.load 27 (.tmp 5))⟩,
  ⟨some 16, some (14, false), (.call { callee := (.value (.func 23)), args := #[(.tmp 15)], argTypes := #[27] })⟩,
  ⟨some 17, some (14, false), (.unOp .not 4 (.tmp 16))⟩,
  ⟨some 18, none, (.pick (.tmp 14) (.const (.bool true)) (.tmp 17))⟩,
  ⟨some 19, none, (.move (.tmp 18))⟩,
  ⟨some 20, some (19, false), (.load 27 (.tmp 4))⟩,
  ⟨some 21, some (19, false), (.load 27 (.tmp 5))⟩,
  ⟨some 22, some (19, false), (.binOp .eql 27 (.tmp 20) (.tmp 21) 27)⟩,
  ⟨some 23, none, (.pick (.tmp 19) (.const (.bool true)) (.tmp 22))⟩,
  ⟨some 10, none, (.assign (.tmp 23))⟩] [0, 4, 5, 10]
@[simp] noncomputable def F14_r4 : CC := .reg [⟨some 6, none, (.assign (.const (.int .i64 1)))⟩] [6]
@[simp] noncomputable def F14_r5 : CC := .reg [⟨some 25, none, (.move (.tmp 0))⟩,
  ⟨some 26, none, (.load 27 (.tmp 4))⟩,
  ⟨some 27, none, (.call { callee := (.value (.func 32)), args := #[(.tmp 25), (.tmp 26)], argTypes := #[23, 27] })⟩,
  ⟨some 28, none, (.move (.tmp 27))⟩,
  ⟨some 29, some (28, false), (.move (.tmp 0))⟩,
  ⟨some 30, some (28, false), (.load 27 (.tmp 5))⟩,
  ⟨some 31, some (28, false), (.call { callee := (.value (.func 32)), args := #[(.tmp 29), (.tmp 30)], argTypes := #[23, 27] })⟩,
  ⟨some 32, none, (.pick (.tmp 28) (.const (.bool true)) (.tmp 31))⟩,
  ⟨some 24, none, (.assign (.tmp 32))⟩] [0, 4, 5, 24]
@[simp] noncomputable def F14_r6 : CC := .reg [⟨some 6, none, (.assign (.const (.int .i64 3)))⟩] [6]
@[simp] noncomputable def F14_r7 : CC := .drw [⟨0, ⟨some 33, none, (.move (.tmp 0))⟩, [], []⟩,
  ⟨1, ⟨some 34, none, (.nilCheck (.tmp 33))⟩, [], []⟩,
  ⟨2, ⟨some 35, none, (.fieldAddr 52 (.tmp 34) 0)⟩, [], []⟩,
  ⟨3, ⟨some 36, none, (.load 49 (.tmp 35))⟩, [], []⟩,
  ⟨4, ⟨some 37, none, (.load 27 (.tmp 4))⟩, [], []⟩,
  ⟨6, ⟨some 39, none, (.load 27 (.tmp 5))⟩, [], []⟩,
  ⟨7, ⟨some 40, none, (.build 36 #[(0, (.const (.int .i64 1))), (1, (.tmp 39))])⟩, [], []⟩,
  ⟨5, ⟨some 38, none, (.call { callee := (.value (.func 28)), args := #[(.tmp 37)], argTypes := #[27] })⟩, [3, 6], [⟨some 36, none, (.load 49 (.tmp 35))⟩, ⟨some 39, none, (.load 27 (.tmp 5))⟩]⟩,
  ⟨8, ⟨some 41, none, (.call { callee := (.value (.func 33)), args := #[(.tmp 36), (.tmp 38), (.tmp 40)], argTypes := #[49, 3, 36] })⟩, [], []⟩] [33, 34, 35, 36, 37, 39, 40, 38, 41] [0, 4, 5]
@[simp] noncomputable def F14_r8 : CC := .drw [⟨0, ⟨some 42, none, (.move (.tmp 0))⟩, [], []⟩,
  ⟨1, ⟨some 43, none, (.nilCheck (.tmp 42))⟩, [], []⟩,
  ⟨2, ⟨some 44, none, (.fieldAddr 52 (.tmp 43) 0)⟩, [], []⟩,
  ⟨3, ⟨some 45, none, (.load 49 (.tmp 44))⟩, [], []⟩,
  ⟨4, ⟨some 46, none, (.load 27 (.tmp 5))⟩, [], []⟩,
  ⟨6, ⟨some 48, none, (.load 27 (.tmp 4))⟩, [], []⟩,
  ⟨7, ⟨some 49, none, (.build 36 #[(0, (.const (.int .i64 1))), (1, (.tmp 48))])⟩, [], []⟩,
  ⟨5, ⟨some 47, none, (.call { callee := (.value (.func 28)), args := #[(.tmp 46)], argTypes := #[27] })⟩, [3, 6], [⟨some 45, none, (.load 49 (.tmp 44))⟩, ⟨some 48, none, (.load 27 (.tmp 4))⟩]⟩,
  ⟨8, ⟨some 50, none, (.call { callee := (.value (.func 33)), args := #[(.tmp 45), (.tmp 47), (.tmp 49)], argTypes := #[49, 3, 36] })⟩, [], []⟩] [42, 43, 44, 45, 46, 48, 49, 47, 50] []
@[simp] noncomputable def F14_r9 : CC := .reg [⟨some 6, none, (.assign (.const (.int .i64 0)))⟩] [6]
noncomputable def F14 : CC := (.seq F14_r0 (.seq (.block 0 (.seq F14_r1 (.cond (.tmp 7) (.seq F14_r2 .ret) (.seq F14_r3 (.cond (.tmp 10) (.seq F14_r4 .ret) (.seq F14_r5 (.cond (.tmp 24) (.seq F14_r6 .ret) .skip))))))) (.seq F14_r7 (.seq F14_r8 (.seq F14_r9 .ret)))))
noncomputable def F14_inf : Nat → RI
  | 0 => ⟨[0, 4, 5], [], []⟩
  | 1 => ⟨[0, 4, 5, 7], [], []⟩
  | 2 => ⟨[6], [], []⟩
  | 3 => ⟨[0, 4, 5, 10], [], []⟩
  | 4 => ⟨[6], [], []⟩
  | 5 => ⟨[0, 4, 5, 24], [], []⟩
  | 6 => ⟨[6], [], []⟩
  | 7 => ⟨[0, 4, 5], [0, 1, 3, 7, 0, 16, 0, 64, 255], [(0, []), (1, []), (2, []), (3, []), (4, []), (6, []), (7, []), (5, [3, 6]), (8, [])]⟩
  | 8 => ⟨[], [0, 1, 3, 7, 0, 16, 0, 64, 255], [(0, []), (1, []), (2, []), (3, []), (4, []), (6, []), (7, []), (5, [3, 6]), (8, [])]⟩
  | 9 => ⟨[6], [], []⟩
  | _ => ⟨[], [], []⟩
noncomputable def F14_c : Code := Try.f14.body.getD .skip
theorem F14_b : Try.f14.body = some F14_c := by kernel_rfl
theorem F14_rs : Try.f14.results.toList = ([.tmp 6] : List ResultVar) := by kernel_rfl
theorem F14_n : Try.f14.ntmps = 51 := by kernel_rfl
theorem F14_ok : toCC [] 51 F14_inf F14_c = some F14 := by kernel_rfl
theorem F14_in {args : List AV} {G : Hp} {post : AV → Hp → Prop} (ha : args.all AV.plain = true) (hn : args.length ≤ 51) (h : BDs args → awp Try.prog [] F14 (AEnds Try.prog [.tmp 6] post) (initT args) G) : ACalls Try.prog 14 args G post :=
  acalls_cc Try.func14 F14_b F14_rs F14_n F14_ok mixed ha hn h
end Go.Proofs.Ytbmlapcigkgdlaa
