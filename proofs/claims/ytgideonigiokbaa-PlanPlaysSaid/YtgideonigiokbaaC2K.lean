import Derived.Test.YtgideonigiokbaaC0K
set_option linter.unusedVariables false
set_option linter.unusedSimpArgs false
set_option maxRecDepth 100000
namespace Go.Proofs.Ytgideonigiokbaa
open Go Go.Al

/- 15 ostiary/ostiaryref27.New -/
@[simp] noncomputable def F15_r0 : CC := .reg [⟨some 2, none, (.assign (.const (.pointer none)))⟩] [0]
@[simp] noncomputable def F15_r1 : CC := .reg [⟨some 3, none, (.move (.tmp 0))⟩,
  ⟨some 4, none, (.binOp .lss 2 (.tmp 3) (.const (.int .i64 1)) 2)⟩] [0, 4]
@[simp] noncomputable def F15_r2 : CC := .reg [⟨some 0, none, (.assign (.const (.int .i64 1)))⟩] [0]
@[simp] noncomputable def F15_r3 : CC := .reg [⟨some 5, none, (.move (.tmp 0))⟩,
  ⟨some 6, none, (.binOp .gtr 2 (.tmp 5) (.const (.int .i64 65535)) 2)⟩] [0, 6]
@[simp] noncomputable def F15_r4 : CC := .reg [⟨some 0, none, (.assign (.const (.int .i64 65535)))⟩] [0]
@[simp] noncomputable def F15_r5 : CC := .reg [⟨some 7, none, (.move (.tmp 0))⟩,
  ⟨some 8, none, (.build 85 #[(1, (.tmp 7))])⟩,
  ⟨some 9, none, (.box 85 (.tmp 8))⟩,
  ⟨some 2, none, (.assign (.tmp 9))⟩] [2]
noncomputable def F15 : CC := (.seq F15_r0 (.seq (.seq F15_r1 (.cond (.tmp 4) F15_r2 .skip)) (.seq (.seq F15_r3 (.cond (.tmp 6) F15_r4 .skip)) (.seq F15_r5 .ret))))
noncomputable def F15_inf : Nat → RI
  | 0 => ⟨[0], [], []⟩
  | 1 => ⟨[0, 4], [], []⟩
  | 2 => ⟨[0], [], []⟩
  | 3 => ⟨[0, 6], [], []⟩
  | 4 => ⟨[0], [], []⟩
  | 5 => ⟨[2], [], []⟩
  | _ => ⟨[], [], []⟩
noncomputable def F15_c : Code := Try.f15.body.getD .skip
theorem F15_b : Try.f15.body = some F15_c := by kernel_rfl
theorem F15_rs : Try.f15.results.toList = ([.tmp 2] : List ResultVar) := by kernel_rfl
theorem F15_n : Try.f15.ntmps = 10 := by kernel_rfl
theorem F15_ok : toCC [9] 10 F15_inf F15_c = some F15 := by kernel_rfl
theorem F15_in {args : List AV} {G : Hp} {post : AV → Hp → Prop} (ha : args.all AV.plain = true) (hn : args.length ≤ 10) (h : BDs args → awp Try.prog [9] F15 (AEnds Try.prog [.tmp 2] post) (initT args) G) : ACalls Try.prog 15 args G post :=
  acalls_cc Try.func15 F15_b F15_rs F15_n F15_ok mixed ha hn h

/- 16 ostiary/ostiarylaw27.step -/
@[simp] noncomputable def F16_r0 : CC := .reg [⟨some 6, none, (.box 64 (.tmp 2))⟩,
  ⟨some 8, none, (.assign (.const (.bool false)))⟩] [0, 1, 3, 6]
@[simp] noncomputable def F16_r1 : CC := .reg [⟨some 19, none, (.fieldAddr 64 (.tmp 6) 0)⟩,
  ⟨some 20, none, (.load 3 (.tmp 19))⟩] [0, 1, 3, 6, 20]
@[simp] noncomputable def F16_r2 : CC := .reg [⟨some 22, none, (.binOp .eql 3 (.tmp 20) (.const (.int .i64 0)) 3)⟩,
  ⟨some 21, none, (.assign (.tmp 22))⟩] [0, 1, 3, 6, 20, 21]
@[simp] noncomputable def F16_r3 : CC := .reg [⟨some 23, none, (.binOp .eql 3 (.tmp 20) (.const (.int .i64 1)) 3)⟩,
  ⟨some 21, none, (.assign (.tmp 23))⟩] [0, 1, 3, 6, 20, 21]
@[simp] noncomputable def F16_r4 : CC := .reg [⟨some 24, none, (.fieldAddr 64 (.tmp 6) 1)⟩,
  ⟨some 25, none, (.load 34 (.tmp 24))⟩,
  ⟨some 26, none, (.call { callee := (.value (.func 7)), args := #[(.tmp 25)], argTypes := #[34] })⟩,
  ⟨some 9, none, (.alloc 34)⟩,
  ⟨none, none, (.store 34 (.tmp 9) (.tmp 26))⟩] [0, 1, 6, 9]
@[simp] noncomputable def F16_r5 : CC := .drw [⟨0, ⟨some 27, none, (.move (.tmp 0))⟩, [], []⟩,
  ⟨1, ⟨some 28, none, (.load 34 (.tmp 9))⟩, [], []⟩,
  ⟨3, ⟨some 30, none, (.fieldAddr 64 (.tmp 6) 2)⟩, [], []⟩,
  ⟨4, ⟨some 31, none, (.load 35 (.tmp 30))⟩, [], []⟩,
  ⟨5, ⟨some 32, none, (.fieldAddr 64 (.tmp 6) 3)⟩, [], []⟩,
  ⟨6, ⟨some 33, none, (.load 3 (.tmp 32))⟩, [], []⟩,
  ⟨7, ⟨some 34, none, (.fieldAddr 64 (.tmp 6) 4)⟩, [], []⟩,
  ⟨8, ⟨some 35, none, (.load 3 (.tmp 34))⟩, [], []⟩,
  ⟨10, ⟨some 37, none, (.move (.tmp 1))⟩, [], []⟩,
  ⟨11, ⟨some 38, none, (.load 34 (.tmp 9))⟩, [], []⟩,
  ⟨12, ⟨some 39, none, (.fieldAddr 64 (.tmp 6) 2)⟩, [], []⟩,
  ⟨13, ⟨some 40, none, (.load 35 (.tmp 39))⟩, [], []⟩,
  ⟨14, ⟨some 41, none, (.fieldAddr 64 (.tmp 6) 3)⟩, [], []⟩,
  ⟨15, ⟨some 42, none, (.load 3 (.tmp 41))⟩, [], []⟩,
  ⟨16, ⟨some 43, none, (.fieldAddr 64 (.tmp 6) 4)⟩, [], []⟩,
  ⟨17, ⟨some 44, none, (.load 3 (.tmp 43))⟩, [], []⟩,
  ⟨2, ⟨some 29, none, (.call { callee := (.value (.func 10)), args := #[(.tmp 28)], argTypes := #[34] })⟩, [4, 6, 8, 11, 13, 15, 17], [⟨some 31, none, (.load 35 (.tmp 30))⟩, ⟨some 33, none, (.load 3 (.tmp 32))⟩, ⟨some 35, none, (.load 3 (.tmp 34))⟩, ⟨some 38, none, (.load 34 (.tmp 9))⟩, ⟨some 40, none, (.load 35 (.tmp 39))⟩, ⟨some 42, none, (.load 3 (.tmp 41))⟩, ⟨some 44, none, (.load 3 (.tmp 43))⟩]⟩,
  ⟨9, ⟨some 36, none, (.call { callee := (.value (.func 9)), args := #[(.tmp 27), (.tmp 29), (.tmp 31), (.tmp 33), (.tmp 35)], argTypes := #[38, 44, 46, 3, 3] })⟩, [11, 13, 15, 17], [⟨some 38, none, (.load 34 (.tmp 9))⟩, ⟨some 40, none, (.load 35 (.tmp 39))⟩, ⟨some 42, none, (.load 3 (.tmp 41))⟩, ⟨some 44, none, (.load 3 (.tmp 43))⟩]⟩,
  ⟨18, ⟨some 45, none, (.call { callee := (.value (.func 30)), args := #[(.tmp 37), (.tmp 38), (.tmp 40), (.tmp 42), (.tmp 44)], argTypes := #[61, 34, 35, 3, 3] })⟩, [], []⟩,
  ⟨19, ⟨some 46, none, (.binOp .eql 40 (.tmp 36) (.tmp 45) 40)⟩, [], []⟩,
  ⟨20, ⟨some 8, none, (.assign (.tmp 46))⟩, [], []⟩] [27, 28, 30, 31, 32, 33, 34, 35, 37, 38, 39, 40, 41, 42, 43, 44, 29, 36, 45, 46, 8] [8]
@[simp] noncomputable def F16_r6 : CC := .reg [⟨some 48, none, (.binOp .eql 3 (.tmp 20) (.const (.int .i64 2)) 3)⟩,
  ⟨some 47, none, (.assign (.tmp 48))⟩] [0, 1, 3, 6, 20, 47]
@[simp] noncomputable def F16_r7 : CC := .reg [⟨some 49, none, (.binOp .eql 3 (.tmp 20) (.const (.int .i64 3)) 3)⟩,
  ⟨some 47, none, (.assign (.tmp 49))⟩] [0, 1, 3, 6, 20, 47]
@[simp] noncomputable def F16_r8 : CC := .reg [⟨some 50, none, (.move (.tmp 0))⟩,
  ⟨some 51, none, (.move (.tmp 3))⟩,
  ⟨some 52, none, (.call { callee := (.value (.func 13)), args := #[(.tmp 50), (.tmp 51)], argTypes := #[38, 2] })⟩,
  ⟨some 53, none, (.call { callee := (.value (.func 32)), args := #[(.tmp 52)], argTypes := #[50] })⟩,
  ⟨some 54, none, (.move (.tmp 1))⟩,
  ⟨some 55, none, (.move (.tmp 3))⟩,
  ⟨some 56, none, (.call { callee := (.value (.func 33)), args := #[(.tmp 54), (.tmp 55)], argTypes := #[61, 2] })⟩,
  ⟨some 57, none, (.call { callee := (.value (.func 31)), args := #[(.tmp 53), (.tmp 56)], argTypes := #[88, 88] })⟩,
  ⟨some 8, none, (.assign (.tmp 57))⟩] [8]
@[simp] noncomputable def F16_r9 : CC := .reg [⟨some 59, none, (.binOp .eql 3 (.tmp 20) (.const (.int .i64 4)) 3)⟩,
  ⟨some 58, none, (.assign (.tmp 59))⟩] [0, 1, 6, 20, 58]
@[simp] noncomputable def F16_r10 : CC := .reg [⟨some 60, none, (.binOp .eql 3 (.tmp 20) (.const (.int .i64 5)) 3)⟩,
  ⟨some 58, none, (.assign (.tmp 60))⟩] [0, 1, 6, 20, 58]
@[simp] noncomputable def F16_r11 : CC := .reg [⟨some 61, none, (.binOp .eql 3 (.tmp 20) (.const (.int .i64 6)) 3)⟩,
  ⟨some 58, none, (.assign (.tmp 61))⟩] [0, 1, 6, 20, 58]
@[simp] noncomputable def F16_r12 : CC := .reg [⟨some 63, none, (.move (.tmp 1))⟩,
  ⟨some 64, none, (.load 64 (.tmp 6))⟩,
  ⟨some 65, none, (.call { callee := (.value (.func 34)), args := #[(.tmp 63), (.tmp 64)], argTypes := #[61, 64] })⟩,
  ⟨some 62, none, (.move (.tmp 65))⟩,
  ⟨some 66, none, (.extract (.tmp 62) 0)⟩,
  ⟨some 67, none, (.extract (.tmp 62) 1)⟩,
  ⟨some 68, none, (.extract (.tmp 62) 2)⟩,
  ⟨some 69, none, (.extract (.tmp 62) 3)⟩,
  ⟨some 10, none, (.assign (.tmp 66))⟩,
  ⟨some 11, none, (.assign (.tmp 67))⟩,
  ⟨some 12, none, (.assign (.tmp 68))⟩,
  ⟨some 13, none, (.assign (.tmp 69))⟩] [0, 1, 10, 11, 12, 13]
@[simp] noncomputable def F16_r13 : CC := .reg [⟨some 71, none, (.move (.tmp 0))⟩,
  ⟨some 72, none, (.move (.tmp 10))⟩,
  ⟨some 73, none, (.move (.tmp 11))⟩,
  ⟨some 74, none, (.move (.tmp 12))⟩,
  ⟨some 75, none, (.move (.tmp 13))⟩,
  ⟨some 76, none, (.call { callee := (.value (.func 14)), args := #[(.tmp 71), (.tmp 72), (.tmp 73), (.tmp 74), (.tmp 75)], argTypes := #[38, 3, 22, 22, 22] })⟩,
  ⟨some 70, none, (.move (.tmp 76))⟩,
  ⟨some 77, none, (.extract (.tmp 70) 0)⟩,
  ⟨some 78, none, (.extract (.tmp 70) 1)⟩,
  ⟨some 14, none, (.assign (.tmp 77))⟩,
  ⟨some 15, none, (.assign (.tmp 78))⟩] [1, 10, 11, 12, 13, 14, 15]
@[simp] noncomputable def F16_r14 : CC := .reg [⟨some 80, none, (.move (.tmp 1))⟩,
  ⟨some 81, none, (.move (.tmp 10))⟩,
  ⟨some 82, none, (.move (.tmp 11))⟩,
  ⟨some 83, none, (.move (.tmp 12))⟩,
  ⟨some 84, none, (.move (.tmp 13))⟩,
  ⟨some 85, none, (.call { callee := (.value (.func 35)), args := #[(.tmp 80), (.tmp 81), (.tmp 82), (.tmp 83), (.tmp 84)], argTypes := #[61, 3, 22, 22, 22] })⟩,
  ⟨some 79, none, (.move (.tmp 85))⟩,
  ⟨some 86, none, (.extract (.tmp 79) 0)⟩,
  ⟨some 87, none, (.extract (.tmp 79) 1)⟩,
  ⟨some 16, none, (.assign (.tmp 86))⟩,
  ⟨some 17, none, (.assign (.tmp 87))⟩] [14, 15, 16, 17]
@[simp] noncomputable def F16_r15 : CC := .reg [⟨some 88, none, (.move (.tmp 14))⟩,
  ⟨some 89, none, (.move (.tmp 16))⟩,
  ⟨some 90, none, (.binOp .eql 22 (.tmp 88) (.tmp 89) 22)⟩,
  ⟨some 91, none, (.move (.tmp 90))⟩,
  ⟨some 92, some (91, true), (.move (.tmp 15))⟩,
  ⟨some 93, some (91, true), (.move (.tmp 17))⟩,
  ⟨some 94, some (91, true), (.binOp .eql 4 (.tmp 92) (.tmp 93) 4)⟩,
  ⟨some 95, none, (.pick (.tmp 91) (.tmp 94) (.const (.bool false)))⟩,
  ⟨some 8, none, (.assign (.tmp 95))⟩] [8]
@[simp] noncomputable def F16_r16 : CC := .reg [⟨some 97, none, (.binOp .eql 3 (.tmp 20) (.const (.int .i64 7)) 3)⟩,
  ⟨some 96, none, (.assign (.tmp 97))⟩] [0, 1, 96]
@[simp] noncomputable def F16_r17 : CC := .reg [⟨some 98, none, (.move (.tmp 1))⟩,
  ⟨some 99, none, (.call { callee := (.value (.func 18)), args := #[(.tmp 98)], argTypes := #[61] })⟩,
  ⟨some 18, none, (.assign (.tmp 99))⟩] [0, 1, 18]
@[simp] noncomputable def F16_r18 : CC := .reg [⟨some 100, none, (.move (.tmp 1))⟩,
  ⟨some 101, none, (.nilCheck (.tmp 100))⟩,
  ⟨some 102, none, (.fieldAddr 85 (.tmp 101) 0)⟩,
  ⟨none, none, (.store 83 (.tmp 102) (.const (.slice none 0 0)))⟩] [0, 18]
@[simp] noncomputable def F16_r19 : CC := .reg [⟨some 103, none, (.move (.tmp 0))⟩,
  ⟨some 104, none, (.call { callee := (.value (.func 19)), args := #[(.tmp 103)], argTypes := #[38] })⟩,
  ⟨some 105, none, (.move (.tmp 18))⟩,
  ⟨some 106, none, (.call { callee := (.value (.func 17)), args := #[(.tmp 104), (.tmp 105)], argTypes := #[47, 47] })⟩,
  ⟨some 8, none, (.assign (.tmp 106))⟩] [8]
@[simp] noncomputable def F16_r20 : CC := .reg [⟨some 8, none, (.assign (.const (.bool true)))⟩] [8]
noncomputable def F16 : CC := (.seq F16_r0 (.seq (.seq F16_r1 (.block 0 (.seq (.seq F16_r2 (.cond (.tmp 21) .skip F16_r3)) (.cond (.tmp 21) (.seq F16_r4 (.seq F16_r5 .ret)) (.seq (.seq F16_r6 (.cond (.tmp 47) .skip F16_r7)) (.cond (.tmp 47) (.seq F16_r8 .ret) (.seq (.seq F16_r9 (.cond (.tmp 58) .skip (.seq F16_r10 (.cond (.tmp 58) .skip F16_r11)))) (.cond (.tmp 58) (.seq F16_r12 (.seq F16_r13 (.seq F16_r14 (.seq F16_r15 .ret)))) (.seq F16_r16 (.cond (.tmp 96) (.seq F16_r17 (.seq F16_r18 (.seq F16_r19 .ret))) .skip)))))))))) (.seq F16_r20 .ret)))
noncomputable def F16_inf : Nat → RI
  | 0 => ⟨[0, 1, 3, 6], [], []⟩
  | 1 => ⟨[0, 1, 3, 6, 20], [], []⟩
  | 2 => ⟨[0, 1, 3, 6, 20, 21], [], []⟩
  | 3 => ⟨[0, 1, 3, 6, 20, 21], [], []⟩
  | 4 => ⟨[0, 1, 6, 9], [], []⟩
  | 5 => ⟨[8], [0, 0, 2, 0, 8, 0, 32, 0, 128, 511, 0, 0, 0, 4096, 0, 16384, 0, 65536, 262143, 524287, 1048575], [(0, []), (1, []), (3, []), (4, []), (5, []), (6, []), (7, []), (8, []), (10, []), (11, []), (12, []), (13, []), (14, []), (15, []), (16, []), (17, []), (2, [4, 6, 8, 11, 13, 15, 17]), (9, [11, 13, 15, 17]), (18, []), (19, []), (20, [])]⟩
  | 6 => ⟨[0, 1, 3, 6, 20, 47], [], []⟩
  | 7 => ⟨[0, 1, 3, 6, 20, 47], [], []⟩
  | 8 => ⟨[8], [], []⟩
  | 9 => ⟨[0, 1, 6, 20, 58], [], []⟩
  | 10 => ⟨[0, 1, 6, 20, 58], [], []⟩
  | 11 => ⟨[0, 1, 6, 20, 58], [], []⟩
  | 12 => ⟨[0, 1, 10, 11, 12, 13], [], []⟩
  | 13 => ⟨[1, 10, 11, 12, 13, 14, 15], [], []⟩
  | 14 => ⟨[14, 15, 16, 17], [], []⟩
  | 15 => ⟨[8], [], []⟩
  | 16 => ⟨[0, 1, 96], [], []⟩
  | 17 => ⟨[0, 1, 18], [], []⟩
  | 18 => ⟨[0, 18], [], []⟩
  | 19 => ⟨[8], [], []⟩
  | 20 => ⟨[8], [], []⟩
  | _ => ⟨[], [], []⟩
noncomputable def F16_c : Code := Try.f16.body.getD .skip
theorem F16_b : Try.f16.body = some F16_c := by kernel_rfl
theorem F16_rs : Try.f16.results.toList = ([.tmp 8] : List ResultVar) := by kernel_rfl
theorem F16_n : Try.f16.ntmps = 107 := by kernel_rfl
theorem F16_ok : toCC [] 107 F16_inf F16_c = some F16 := by kernel_rfl
theorem F16_in {args : List AV} {G : Hp} {post : AV → Hp → Prop} (ha : args.all AV.plain = true) (hn : args.length ≤ 107) (h : BDs args → awp Try.prog [] F16 (AEnds Try.prog [.tmp 8] post) (initT args) G) : ACalls Try.prog 16 args G post :=
  acalls_cc Try.func16 F16_b F16_rs F16_n F16_ok mixed ha hn h

/- 17 ostiary/ostiaryref27.Nums -/
@[simp] noncomputable def F17_r0 : CC := .reg [⟨some 4, none, (.assign (.const (.bool false)))⟩] [0, 1]
@[simp] noncomputable def F17_r1 : CC := .reg [⟨some 6, none, (.move (.tmp 0))⟩,
  ⟨some 7, none, (.call { callee := (.builtin .len), args := #[(.tmp 6)], argTypes := #[47] })⟩,
  ⟨some 8, none, (.move (.tmp 1))⟩,
  ⟨some 9, none, (.call { callee := (.builtin .len), args := #[(.tmp 8)], argTypes := #[47] })⟩,
  ⟨some 10, none, (.binOp .neq 3 (.tmp 7) (.tmp 9) 3)⟩] [0, 1, 10]
@[simp] noncomputable def F17_r2 : CC := .reg [⟨some 4, none, (.assign (.const (.bool false)))⟩] [4]
@[simp] noncomputable def F17_r3 : CC := .reg [⟨some 11, none, (.move (.tmp 0))⟩,
  ⟨some 12, none, (.call { callee := (.builtin .len), args := #[(.tmp 11)], argTypes := #[47] })⟩,
  ⟨some 13, none, (.move (.const (.int .i64 0)))⟩] [0, 1, 12, 13]
@[simp] noncomputable def F17_r4 : CC := .reg [⟨some 14, none, (.binOp .lss 3 (.tmp 13) (.tmp 12) 3)⟩] [0, 1, 12, 13, 14]
@[simp] noncomputable def F17_r5 : CC := .reg [⟨some 15, none, (.move (.tmp 13))⟩,
  ⟨some 5, none, (.assign (.tmp 15))⟩] [0, 1, 5, 12, 13]
@[simp] noncomputable def F17_r6 : CC := .drw [⟨0, ⟨some 16, none, (.move (.tmp 0))⟩, [], []⟩,
  ⟨1, ⟨some 17, none, (.move (.tmp 5))⟩, [], []⟩,
  ⟨2, ⟨some 18, none, (.indexAddr 47 (.tmp 16) (.tmp 17))⟩, [], []⟩,
  ⟨3, ⟨some 19, none, (.load 22 (.tmp 18))⟩, [], []⟩,
  ⟨4, ⟨some 20, none, (.move (.tmp 1))⟩, [], []⟩,
  ⟨5, ⟨some 21, none, (.move (.tmp 5))⟩, [], []⟩,
  ⟨6, ⟨some 22, none, (.indexAddr 47 (.tmp 20) (.tmp 21))⟩, [], []⟩,
  ⟨7, ⟨some 23, none, (.load 22 (.tmp 22))⟩, [], []⟩,
  ⟨8, ⟨some 24, none, (.binOp .neq 22 (.tmp 19) (.tmp 23) 22)⟩, [], []⟩] [16, 17, 18, 19, 20, 21, 22, 23, 24] [0, 1, 12, 13, 24]
@[simp] noncomputable def F17_r7 : CC := .reg [⟨some 4, none, (.assign (.const (.bool false)))⟩] [4]
@[simp] noncomputable def F17_r8 : CC := .reg [⟨some 25, none, (.binOp .add 3 (.tmp 13) (.const (.int .i64 1)) 3)⟩,
  ⟨some 13, none, (.move (.tmp 25))⟩] [0, 1, 12, 13]
noncomputable def F17_l0 : CC := (.seq F17_r4 (.seq (.cond (.tmp 14) .skip (.exit 0)) (.seq (.block 1 (.seq F17_r5 (.seq F17_r6 (.cond (.tmp 24) (.seq F17_r7 .ret) .skip)))) F17_r8)))
@[simp] noncomputable def F17_r9 : CC := .reg [⟨some 4, none, (.assign (.const (.bool true)))⟩] [4]
noncomputable def F17 : CC := (.seq F17_r0 (.seq (.seq F17_r1 (.cond (.tmp 10) (.seq F17_r2 .ret) .skip)) (.seq (.seq F17_r3 (.block 0 (.loop F17_l0))) (.seq F17_r9 .ret))))
noncomputable def F17_inf : Nat → RI
  | 0 => ⟨[0, 1], [], []⟩
  | 1 => ⟨[0, 1, 10], [], []⟩
  | 2 => ⟨[4], [], []⟩
  | 3 => ⟨[0, 1, 12, 13], [], []⟩
  | 4 => ⟨[0, 1, 12, 13, 14], [], []⟩
  | 5 => ⟨[0, 1, 5, 12, 13], [], []⟩
  | 6 => ⟨[0, 1, 12, 13, 24], [0, 0, 3, 7, 0, 0, 48, 112, 255], [(0, []), (1, []), (2, []), (3, []), (4, []), (5, []), (6, []), (7, []), (8, [])]⟩
  | 7 => ⟨[4], [], []⟩
  | 8 => ⟨[0, 1, 12, 13], [], []⟩
  | 9 => ⟨[4], [], []⟩
  | _ => ⟨[], [], []⟩
noncomputable def F17_c : Code := Try.f17.body.getD .skip
theorem F17_b : Try.f17.body = some F17_c := by kernel_rfl
theorem F17_rs : Try.f17.results.toList = ([.tmp 4] : List ResultVar) := by kernel_rfl
theorem F17_n : Try.f17.ntmps = 26 := by kernel_rfl
theorem F17_ok : toCC [] 26 F17_inf F17_c = some F17 := by kernel_rfl
theorem F17_in {args : List AV} {G : Hp} {post : AV → Hp → Prop} (ha : args.all AV.plain = true) (hn : args.length ≤ 26) (h : BDs args → awp Try.prog [] F17 (AEnds Try.prog [.tmp 4] post) (initT args) G) : ACalls Try.prog 17 args G post :=
  acalls_cc Try.func17 F17_b F17_rs F17_n F17_ok mixed ha hn h

/- 18 (*ostiary/ostiaryref27.Plans).Waiting -/
@[simp] noncomputable def F18_r0 : CC := .reg [⟨some 2, none, (.assign (.const (.slice none 0 0)))⟩] [0]
@[simp] noncomputable def F18_r1 : CC := .reg [⟨some 3, none, (.assign (.const (.slice none 0 0)))⟩] [0, 3]
@[simp] noncomputable def F18_r2 : CC := .reg [⟨some 6, none, (.move (.tmp 0))⟩,
  ⟨some 7, none, (.nilCheck (.tmp 6))⟩,
  ⟨some 8, none, (.fieldAddr 85 (.tmp 7) 0)⟩,
  ⟨some 9, none, (.load 83 (.tmp 8))⟩,
  ⟨some 10, none, (.call { callee := (.builtin .len), args := #[(.tmp 9)], argTypes := #[83] })⟩,
  ⟨some 11, none, (.move (.const (.int .i64 0)))⟩] [3, 9, 10, 11]
@[simp] noncomputable def F18_r3 : CC := .reg [⟨some 12, none, (.binOp .lss 3 (.tmp 11) (.tmp 10) 3)⟩] [3, 9, 10, 11, 12]
@[simp] noncomputable def F18_r4 : CC := .reg [⟨some 13, none, (.indexAddr 83 (.tmp 9) (.tmp 11))⟩,
  ⟨some 14, none, (.load 94 (.tmp 13))⟩,
  ⟨some 5, none, (.alloc 94)⟩,
  ⟨none, none, (.store 94 (.tmp 5) (.tmp 14))⟩] [3, 5, 9, 10, 11]
@[simp] noncomputable def F18_r5 : CC := .reg [⟨some 15, none, (.move (.tmp 3))⟩,
  ⟨some 16, none, (.fieldAddr 94 (.tmp 5) 0)⟩,
  ⟨some 17, none, (.fieldAddr 34 (.tmp 16) 0)⟩,
  ⟨some 18, none, (.load 22 (.tmp 17))⟩,
  ⟨some 19, none, (.buildSlice 47 1 #[(0, (.tmp 18))])⟩,
  ⟨some 20, none, (.call { callee := (.builtin .append), args := #[(.tmp 15), (.tmp 19)], argTypes := #[47, 47] })⟩,
  ⟨some 3, none, (.assign (.tmp 20))⟩] [3, 9, 10, 11]
@[simp] noncomputable def F18_r6 : CC := .reg [⟨some 21, none, (.binOp .add 3 (.tmp 11) (.const (.int .i64 1)) 3)⟩,
  ⟨some 11, none, (.move (.tmp 21))⟩] [3, 9, 10, 11]
noncomputable def F18_l0 : CC := (.seq F18_r3 (.seq (.cond (.tmp 12) .skip (.exit 0)) (.seq (.block 1 (.seq F18_r4 F18_r5)) F18_r6)))
@[simp] noncomputable def F18_r7 : CC := .reg [⟨some 22, none, (.move (.tmp 3))⟩,
  ⟨some 2, none, (.assign (.tmp 22))⟩] [2]
noncomputable def F18 : CC := (.seq F18_r0 (.seq F18_r1 (.seq (.seq F18_r2 (.block 0 (.loop F18_l0))) (.seq F18_r7 .ret))))
noncomputable def F18_inf : Nat → RI
  | 0 => ⟨[0], [], []⟩
  | 1 => ⟨[0, 3], [], []⟩
  | 2 => ⟨[3, 9, 10, 11], [], []⟩
  | 3 => ⟨[3, 9, 10, 11, 12], [], []⟩
  | 4 => ⟨[3, 5, 9, 10, 11], [], []⟩
  | 5 => ⟨[3, 9, 10, 11], [], []⟩
  | 6 => ⟨[3, 9, 10, 11], [], []⟩
  | 7 => ⟨[2], [], []⟩
  | _ => ⟨[], [], []⟩
noncomputable def F18_c : Code := Try.f18.body.getD .skip
theorem F18_b : Try.f18.body = some F18_c := by kernel_rfl
theorem F18_rs : Try.f18.results.toList = ([.tmp 2] : List ResultVar) := by kernel_rfl
theorem F18_n : Try.f18.ntmps = 23 := by kernel_rfl
theorem F18_ok : toCC [] 23 F18_inf F18_c = some F18 := by kernel_rfl
theorem F18_in {args : List AV} {G : Hp} {post : AV → Hp → Prop} (ha : args.all AV.plain = true) (hn : args.length ≤ 23) (h : BDs args → awp Try.prog [] F18 (AEnds Try.prog [.tmp 2] post) (initT args) G) : ACalls Try.prog 18 args G post :=
  acalls_cc Try.func18 F18_b F18_rs F18_n F18_ok mixed ha hn h

/- 19 (*ostiary/plan.Plans).Clear -/
@[simp] noncomputable def F19_r0 : CC := .reg [⟨some 2, none, (.assign (.const (.slice none 0 0)))⟩] [0]
@[simp] noncomputable def F19_r1 : CC := .reg [⟨some 6, none, (.move (.tmp 0))⟩,
  ⟨some 7, none, (.call { callee := (.value (.func 11)), args := #[(.tmp 6)], argTypes := #[38] })⟩,
  ⟨some 3, none, (.assign (.tmp 7))⟩] [0, 3]
@[simp] noncomputable def F19_r2 : CC := .reg [⟨some 8, none, (.move (.tmp 3))⟩,
  ⟨some 9, none, (.call { callee := (.builtin .len), args := #[(.tmp 8)], argTypes := #[47] })⟩,
  ⟨some 10, none, (.move (.const (.int .i64 0)))⟩] [0, 3, 8, 9, 10]
@[simp] noncomputable def F19_r3 : CC := .reg [⟨some 11, none, (.binOp .lss 3 (.tmp 10) (.tmp 9) 3)⟩] [0, 3, 8, 9, 10, 11]
@[simp] noncomputable def F19_r4 : CC := .reg [⟨some 12, none, (.indexAddr 47 (.tmp 8) (.tmp 10))⟩,
  ⟨some 13, none, (.load 22 (.tmp 12))⟩,
  ⟨some 5, none, (.assign (.tmp 13))⟩] [0, 3, 5, 8, 9, 10]
@[simp] noncomputable def F19_r5 : CC := .reg [⟨some 14, none, (.move (.tmp 0))⟩,
  ⟨some 15, none, (.nilCheck (.tmp 14))⟩,
  ⟨some 16, none, (.fieldAddr 74 (.tmp 15) 0)⟩,
  ⟨some 17, none, (.load 69 (.tmp 16))⟩,
  ⟨some 18, none, (.move (.tmp 5))⟩,
  ⟨some 19, none, (.buildSlice 47 1 #[(0, (.tmp 18))])⟩,
  ⟨some 20, none, (.call { callee := (.value (.func 29)), args := #[(.tmp 17), (.tmp 19)], argTypes := #[69, 47] })⟩] [0, 3, 8, 9, 10]
@[simp] noncomputable def F19_r6 : CC := .reg [⟨some 21, none, (.binOp .add 3 (.tmp 10) (.const (.int .i64 1)) 3)⟩,
  ⟨some 10, none, (.move (.tmp 21))⟩] [0, 3, 8, 9, 10]
noncomputable def F19_l0 : CC := (.seq F19_r3 (.seq (.cond (.tmp 11) .skip (.exit 0)) (.seq (.block 1 (.seq F19_r4 F19_r5)) F19_r6)))
@[simp] noncomputable def F19_r7 : CC := .reg [⟨some 22, none, (.move (.tmp 3))⟩,
  ⟨some 2, none, (.assign (.tmp 22))⟩] [2]
noncomputable def F19 : CC := (.seq F19_r0 (.seq F19_r1 (.seq (.seq F19_r2 (.block 0 (.loop F19_l0))) (.seq F19_r7 .ret))))
noncomputable def F19_inf : Nat → RI
  | 0 => ⟨[0], [], []⟩
  | 1 => ⟨[0, 3], [], []⟩
  | 2 => ⟨[0, 3, 8, 9, 10], [], []⟩
  | 3 => ⟨[0, 3, 8, 9, 10, 11], [], []⟩
  | 4 => ⟨[0, 3, 5, 8, 9, 10], [], []⟩
  | 5 => ⟨[0, 3, 8, 9, 10], [], []⟩
  | 6 => ⟨[0, 3, 8, 9, 10], [], []⟩
  | 7 => ⟨[2], [], []⟩
  | _ => ⟨[], [], []⟩
noncomputable def F19_c : Code := Try.f19.body.getD .skip
theorem F19_b : Try.f19.body = some F19_c := by kernel_rfl
theorem F19_rs : Try.f19.results.toList = ([.tmp 2] : List ResultVar) := by kernel_rfl
theorem F19_n : Try.f19.ntmps = 23 := by kernel_rfl
theorem F19_ok : toCC [] 23 F19_inf F19_c = some F19 := by kernel_rfl
theorem F19_in {args : List AV} {G : Hp} {post : AV → Hp → Prop} (ha : args.all AV.plain = true) (hn : args.length ≤ 23) (h : BDs args → awp Try.prog [] F19 (AEnds Try.prog [.tmp 2] post) (initT args) G) : ACalls Try.prog 19 args G post :=
  acalls_cc Try.func19 F19_b F19_rs F19_n F19_ok mixed ha hn h

/- 20 ostiary/shelf.NewShelf[uint32,ostiary/plan.one] -/
@[simp] noncomputable def F20_r0 : CC := .reg [⟨some 2, none, (.assign (.const (.pointer none)))⟩] [0]
@[simp] noncomputable def F20_r1 : CC := .reg [⟨some 3, none, (.move (.tmp 0))⟩,
  ⟨some 4, none, (.call { callee := (.builtin .max), args := #[(.tmp 3), (.const (.int .i64 0))], argTypes := #[3, 3] })⟩,
  ⟨some 5, none, (.build 97 #[(1, (.tmp 4))])⟩,
  ⟨some 6, none, (.box 97 (.tmp 5))⟩,
  ⟨some 2, none, (.assign (.tmp 6))⟩] [2]
noncomputable def F20 : CC := (.seq F20_r0 (.seq F20_r1 .ret))
noncomputable def F20_inf : Nat → RI
  | 0 => ⟨[0], [], []⟩
  | 1 => ⟨[2], [], []⟩
  | _ => ⟨[], [], []⟩
noncomputable def F20_c : Code := Try.f20.body.getD .skip
theorem F20_b : Try.f20.body = some F20_c := by kernel_rfl
theorem F20_rs : Try.f20.results.toList = ([.tmp 2] : List ResultVar) := by kernel_rfl
theorem F20_n : Try.f20.ntmps = 7 := by kernel_rfl
theorem F20_ok : toCC [6] 7 F20_inf F20_c = some F20 := by kernel_rfl
theorem F20_in {args : List AV} {G : Hp} {post : AV → Hp → Prop} (ha : args.all AV.plain = true) (hn : args.length ≤ 7) (h : BDs args → awp Try.prog [6] F20 (AEnds Try.prog [.tmp 2] post) (initT args) G) : ACalls Try.prog 20 args G post :=
  acalls_cc Try.func20 F20_b F20_rs F20_n F20_ok mixed ha hn h

/- 21 slices.Clone[[]ostiary/api.Hop,ostiary/api.Hop] -/
@[simp] noncomputable def F21_r0 : CC := .reg [⟨some 2, none, (.assign (.const (.slice none 0 0)))⟩] [0]
@[simp] noncomputable def F21_r1 : CC := .reg [⟨some 3, none, (.move (.tmp 0))⟩,
  ⟨some 4, none, (.binOp .eql 32 (.tmp 3) (.const (.slice none 0 0)) 32)⟩] [0, 4]
@[simp] noncomputable def F21_r2 : CC := .reg [⟨some 2, none, (.assign (.const (.slice none 0 0)))⟩] [2]
@[simp] noncomputable def F21_r3 : CC := .reg [⟨some 5, none, (.buildSlice 32 0 #[])⟩,
  ⟨some 6, none, (.move (.tmp 0))⟩,
  ⟨some 7, none, (.call { callee := (.builtin .append), args := #[(.tmp 5), (.tmp 6)], argTypes := #[32, 32] })⟩,
  ⟨some 2, none, (.assign (.tmp 7))⟩] [2]
noncomputable def F21 : CC := (.seq F21_r0 (.seq (.seq F21_r1 (.cond (.tmp 4) (.seq F21_r2 .ret) .skip)) (.seq F21_r3 .ret)))
noncomputable def F21_inf : Nat → RI
  | 0 => ⟨[0], [], []⟩
  | 1 => ⟨[0, 4], [], []⟩
  | 2 => ⟨[2], [], []⟩
  | 3 => ⟨[2], [], []⟩
  | _ => ⟨[], [], []⟩
noncomputable def F21_c : Code := Try.f21.body.getD .skip
theorem F21_b : Try.f21.body = some F21_c := by kernel_rfl
theorem F21_rs : Try.f21.results.toList = ([.tmp 2] : List ResultVar) := by kernel_rfl
theorem F21_n : Try.f21.ntmps = 8 := by kernel_rfl
theorem F21_ok : toCC [] 8 F21_inf F21_c = some F21 := by kernel_rfl
theorem F21_in {args : List AV} {G : Hp} {post : AV → Hp → Prop} (ha : args.all AV.plain = true) (hn : args.length ≤ 8) (h : BDs args → awp Try.prog [] F21 (AEnds Try.prog [.tmp 2] post) (initT args) G) : ACalls Try.prog 21 args G post :=
  acalls_cc Try.func21 F21_b F21_rs F21_n F21_ok mixed ha hn h

/- 22 (*ostiary/shelf.Shelf[uint32, ostiary/plan.one]).Get -/
@[simp] noncomputable def F22_r0 : CC := .reg [⟨some 4, none, (.alloc 72)⟩,
  ⟨some 5, none, (.assign (.const (.bool false)))⟩] [0, 1, 4]
@[simp] noncomputable def F22_r1 : CC := .reg [⟨some 9, none, (.move (.tmp 0))⟩,
  ⟨some 10, none, (.binOp .neq 69 (.tmp 9) (.const (.pointer none)) 69)⟩] [0, 1, 4, 10]
@[simp] noncomputable def F22_r2 : CC := .reg [⟨some 12, none, (.move (.tmp 0))⟩,
  ⟨some 13, none, (.move (.tmp 1))⟩,
  ⟨some 14, none, (.call { callee := (.value (.func 36)), args := #[(.tmp 12), (.tmp 13)], argTypes := #[69, 22] })⟩,
  ⟨some 11, none, (.move (.tmp 14))⟩,
  ⟨some 15, none, (.extract (.tmp 11) 0)⟩,
  ⟨some 16, none, (.extract (.tmp 11) 1)⟩,
  ⟨some 6, none, (.assign (.tmp 15))⟩,
  ⟨some 7, none, (.assign (.tmp 16))⟩] [0, 4, 6, 7]
@[simp] noncomputable def F22_r3 : CC := .reg [⟨some 17, none, (.move (.tmp 7))⟩] [0, 4, 6, 17]
@[simp] noncomputable def F22_r4 : CC := .reg [⟨some 18, none, (.move (.tmp 0))⟩,
  ⟨some 19, none, (.nilCheck (.tmp 18))⟩,
  ⟨some 20, none, (.fieldAddr 97 (.tmp 19) 0)⟩,
  ⟨some 21, none, (.load 95 (.tmp 20))⟩,
  ⟨some 22, none, (.move (.tmp 6))⟩,
  ⟨some 23, none, (.indexAddr 95 (.tmp 21) (.tmp 22))⟩,
  ⟨some 24, none, (.fieldAddr 101 (.tmp 23) 1)⟩,
  ⟨some 25, none, (.load 72 (.tmp 24))⟩,
  ⟨none, none, (.store 72 (.tmp 4) (.tmp 25))⟩,
  ⟨some 5, none, (.assign (.const (.bool true)))⟩] [4, 5]
@[simp] noncomputable def F22_r5 : CC := .reg [⟨some 8, none, (.alloc 72)⟩] [4, 8]
@[simp] noncomputable def F22_r6 : CC := .reg [⟨some 26, none, (.load 72 (.tmp 8))⟩,
  ⟨none, none, (.store 72 (.tmp 4) (.tmp 26))⟩,
  ⟨some 5, none, (.assign (.const (.bool false)))⟩] [4, 5]
noncomputable def F22 : CC := (.seq F22_r0 (.seq (.seq F22_r1 (.cond (.tmp 10) (.seq F22_r2 (.seq F22_r3 (.cond (.tmp 17) (.seq F22_r4 .ret) .skip))) .skip)) (.seq F22_r5 (.seq F22_r6 .ret))))
noncomputable def F22_inf : Nat → RI
  | 0 => ⟨[0, 1, 4], [], []⟩
  | 1 => ⟨[0, 1, 4, 10], [], []⟩
  | 2 => ⟨[0, 4, 6, 7], [], []⟩
  | 3 => ⟨[0, 4, 6, 17], [], []⟩
  | 4 => ⟨[4, 5], [], []⟩
  | 5 => ⟨[4, 8], [], []⟩
  | 6 => ⟨[4, 5], [], []⟩
  | _ => ⟨[], [], []⟩
noncomputable def F22_c : Code := Try.f22.body.getD .skip
theorem F22_b : Try.f22.body = some F22_c := by kernel_rfl
theorem F22_rs : Try.f22.results.toList = ([.cell 4 72, .tmp 5] : List ResultVar) := by kernel_rfl
theorem F22_n : Try.f22.ntmps = 27 := by kernel_rfl
theorem F22_ok : toCC [] 27 F22_inf F22_c = some F22 := by kernel_rfl
theorem F22_in {args : List AV} {G : Hp} {post : AV → Hp → Prop} (ha : args.all AV.plain = true) (hn : args.length ≤ 27) (h : BDs args → awp Try.prog [] F22 (AEnds Try.prog [.cell 4 72, .tmp 5] post) (initT args) G) : ACalls Try.prog 22 args G post :=
  acalls_cc Try.func22 F22_b F22_rs F22_n F22_ok mixed ha hn h

/- 23 (*ostiary/shelf.Shelf[uint32, ostiary/plan.one]).Len -/
@[simp] noncomputable def F23_r0 : CC := .reg [⟨some 2, none, (.assign (.const (.int .i64 0)))⟩] [0]
@[simp] noncomputable def F23_r1 : CC := .reg [⟨some 3, none, (.move (.tmp 0))⟩,
  ⟨some 4, none, (.binOp .eql 69 (.tmp 3) (.const (.pointer none)) 69)⟩] [0, 4]
@[simp] noncomputable def F23_r2 : CC := .reg [⟨some 2, none, (.assign (.const (.int .i64 0)))⟩] [2]
@[simp] noncomputable def F23_r3 : CC := .reg [⟨some 5, none, (.move (.tmp 0))⟩,
  ⟨some 6, none, (.nilCheck (.tmp 5))⟩,
  ⟨some 7, none, (.fieldAddr 97 (.tmp 6) 0)⟩,
  ⟨some 8, none, (.load 95 (.tmp 7))⟩,
  ⟨some 9, none, (.call { callee := (.builtin .len), args := #[(.tmp 8)], argTypes := #[95] })⟩,
  ⟨some 2, none, (.assign (.tmp 9))⟩] [2]
noncomputable def F23 : CC := (.seq F23_r0 (.seq (.seq F23_r1 (.cond (.tmp 4) (.seq F23_r2 .ret) .skip)) (.seq F23_r3 .ret)))
noncomputable def F23_inf : Nat → RI
  | 0 => ⟨[0], [], []⟩
  | 1 => ⟨[0, 4], [], []⟩
  | 2 => ⟨[2], [], []⟩
  | 3 => ⟨[2], [], []⟩
  | _ => ⟨[], [], []⟩
noncomputable def F23_c : Code := Try.f23.body.getD .skip
theorem F23_b : Try.f23.body = some F23_c := by kernel_rfl
theorem F23_rs : Try.f23.results.toList = ([.tmp 2] : List ResultVar) := by kernel_rfl
theorem F23_n : Try.f23.ntmps = 10 := by kernel_rfl
theorem F23_ok : toCC [] 10 F23_inf F23_c = some F23 := by kernel_rfl
theorem F23_in {args : List AV} {G : Hp} {post : AV → Hp → Prop} (ha : args.all AV.plain = true) (hn : args.length ≤ 10) (h : BDs args → awp Try.prog [] F23 (AEnds Try.prog [.tmp 2] post) (initT args) G) : ACalls Try.prog 23 args G post :=
  acalls_cc Try.func23 F23_b F23_rs F23_n F23_ok mixed ha hn h

/- 24 (ostiary/plan.one).may -/
@[simp] noncomputable def F24_r0 : CC := .reg [⟨some 1, none, (.box 72 (.tmp 0))⟩,
  ⟨some 2, none, (.assign (.const (.bool false)))⟩] [1]
@[simp] noncomputable def F24_r1 : CC := .reg [⟨some 4, none, (.fieldAddr 72 (.tmp 1) 0)⟩,
  ⟨some 5, none, (.fieldAddr 44 (.tmp 4) 9)⟩,
  ⟨some 6, none, (.load 32 (.tmp 5))⟩,
  ⟨some 7, none, (.call { callee := (.builtin .len), args := #[(.tmp 6)], argTypes := #[32] })⟩,
  ⟨some 8, none, (.move (.const (.int .i64 0)))⟩] [1, 7, 8]
@[simp] noncomputable def F24_r2 : CC := .reg [⟨some 9, none, (.binOp .lss 3 (.tmp 8) (.tmp 7) 3)⟩] [1, 7, 8, 9]
@[simp] noncomputable def F24_r3 : CC := .reg [⟨some 10, none, (.move (.tmp 8))⟩,
  ⟨some 3, none, (.assign (.tmp 10))⟩] [1, 3, 7, 8]
@[simp] noncomputable def F24_r4 : CC := .reg [⟨some 11, none, (.load 72 (.tmp 1))⟩,
  ⟨some 12, none, (.move (.tmp 3))⟩,
  ⟨some 13, none, (.call { callee := (.value (.func 28)), args := #[(.tmp 11), (.tmp 12)], argTypes := #[72, 3] })⟩,
  ⟨some 14, none, (.call { callee := (.value (.func 37)), args := #[(.tmp 13)], argTypes := #[54] })⟩,
  ⟨some 15, none, (.unOp .not 4 (.tmp 14))⟩] [1, 7, 8, 15]
@[simp] noncomputable def F24_r5 : CC := .reg [⟨some 2, none, (.assign (.const (.bool false)))⟩] [2]
@[simp] noncomputable def F24_r6 : CC := .reg [⟨some 16, none, (.binOp .add 3 (.tmp 8) (.const (.int .i64 1)) 3)⟩,
  ⟨some 8, none, (.move (.tmp 16))⟩] [1, 7, 8]
noncomputable def F24_l0 : CC := (.seq F24_r2 (.seq (.cond (.tmp 9) .skip (.exit 0)) (.seq (.block 1 (.seq F24_r3 (.seq F24_r4 (.cond (.tmp 15) (.seq F24_r5 .ret) .skip)))) F24_r6)))
@[simp] noncomputable def F24_r7 : CC := .reg [⟨some 17, none, (.fieldAddr 72 (.tmp 1) 0)⟩,
  ⟨some 18, none, (.fieldAddr 44 (.tmp 17) 9)⟩,
  ⟨some 19, none, (.load 32 (.tmp 18))⟩,
  ⟨some 20, none, (.call { callee := (.builtin .len), args := #[(.tmp 19)], argTypes := #[32] })⟩,
  ⟨some 21, none, (.binOp .gtr 3 (.tmp 20) (.const (.int .i64 0)) 3)⟩,
  ⟨some 2, none, (.assign (.tmp 21))⟩] [2]
noncomputable def F24 : CC := (.seq F24_r0 (.seq (.seq F24_r1 (.block 0 (.loop F24_l0))) (.seq F24_r7 .ret)))
noncomputable def F24_inf : Nat → RI
  | 0 => ⟨[1], [], []⟩
  | 1 => ⟨[1, 7, 8], [], []⟩
  | 2 => ⟨[1, 7, 8, 9], [], []⟩
  | 3 => ⟨[1, 3, 7, 8], [], []⟩
  | 4 => ⟨[1, 7, 8, 15], [], []⟩
  | 5 => ⟨[2], [], []⟩
  | 6 => ⟨[1, 7, 8], [], []⟩
  | 7 => ⟨[2], [], []⟩
  | _ => ⟨[], [], []⟩
noncomputable def F24_c : Code := Try.f24.body.getD .skip
theorem F24_b : Try.f24.body = some F24_c := by kernel_rfl
theorem F24_rs : Try.f24.results.toList = ([.tmp 2] : List ResultVar) := by kernel_rfl
theorem F24_n : Try.f24.ntmps = 22 := by kernel_rfl
theorem F24_ok : toCC [] 22 F24_inf F24_c = some F24 := by kernel_rfl
theorem F24_in {args : List AV} {G : Hp} {post : AV → Hp → Prop} (ha : args.all AV.plain = true) (hn : args.length ≤ 22) (h : BDs args → awp Try.prog [] F24 (AEnds Try.prog [.tmp 2] post) (initT args) G) : ACalls Try.prog 24 args G post :=
  acalls_cc Try.func24 F24_b F24_rs F24_n F24_ok mixed ha hn h

/- 25 (*ostiary/shelf.Shelf[uint32, ostiary/plan.one]).Set -/
@[simp] noncomputable def F25_r0 : CC := .reg [⟨some 5, none, (.box 72 (.tmp 2))⟩,
  ⟨some 6, none, (.assign (.const (.int .i64 0)))⟩] [0, 1, 5]
@[simp] noncomputable def F25_r1 : CC := .reg [⟨some 9, none, (.move (.tmp 0))⟩,
  ⟨some 10, none, (.binOp .eql 69 (.tmp 9) (.const (.pointer none)) 69)⟩] [0, 1, 5, 10]
@[simp] noncomputable def F25_r2 : CC := .reg [⟨some 6, none, (.assign (.const (.int .i64 11)))⟩] [6]
@[simp] noncomputable def F25_r3 : CC := .reg [⟨some 12, none, (.move (.tmp 0))⟩,
  ⟨some 13, none, (.move (.tmp 1))⟩,
  ⟨some 14, none, (.call { callee := (.value (.func 36)), args := #[(.tmp 12), (.tmp 13)], argTypes := #[69, 22] })⟩,
  ⟨some 11, none, (.move (.tmp 14))⟩,
  ⟨some 15, none, (.extract (.tmp 11) 0)⟩,
  ⟨some 16, none, (.extract (.tmp 11) 1)⟩,
  ⟨some 7, none, (.assign (.tmp 15))⟩,
  ⟨some 8, none, (.assign (.tmp 16))⟩] [0, 1, 5, 7, 8]
@[simp] noncomputable def F25_r5 : CC := .reg [⟨some 31, none, (.move (.tmp 8))⟩,
  ⟨some 30, none, (.assign (.tmp 31))⟩] [0, 1, 5, 7, 30]
@[simp] noncomputable def F25_r6 : CC := .drw [⟨0, ⟨some 32, none, (.move (.tmp 0))⟩, [], []⟩,
  ⟨1, ⟨some 33, none, (.nilCheck (.tmp 32))⟩, [], []⟩,
  ⟨2, ⟨some 34, none, (.fieldAddr 97 (.tmp 33) 0)⟩, [], []⟩,
  ⟨3, ⟨some 35, none, (.load 95 (.tmp 34))⟩, [], []⟩,
  ⟨4, ⟨some 36, none, (.move (.tmp 7))⟩, [], []⟩,
  ⟨5, ⟨some 37, none, (.load 72 (.tmp 5))⟩, [], []⟩,
  ⟨6, ⟨some 38, none, (.indexAddr 95 (.tmp 35) (.tmp 36))⟩, [], []⟩,
  ⟨7, ⟨some 39, none, (.fieldAddr 101 (.tmp 38) 1)⟩, [], []⟩,
  ⟨8, ⟨none, none, (.store 72 (.tmp 39) (.tmp 37))⟩, [], []⟩] [32, 33, 34, 35, 36, 37, 38, 39] []
@[simp] noncomputable def F25_r7 : CC := .drw [⟨0, ⟨some 41, none, (.move (.tmp 0))⟩, [], []⟩,
  ⟨1, ⟨some 42, none, (.nilCheck (.tmp 41))⟩, [], []⟩,
  ⟨2, ⟨some 43, none, (.fieldAddr 97 (.tmp 42) 0)⟩, [], []⟩,
  ⟨3, ⟨some 44, none, (.load 95 (.tmp 43))⟩, [], []⟩,
  ⟨4, ⟨some 45, none, (.call { callee := (.builtin .len), args := #[(.tmp 44)], argTypes := #[95] })⟩, [], []⟩,
  ⟨5, ⟨some 46, none, (.move (.tmp 0))⟩, [], []⟩,
  ⟨6, ⟨some 47, none, (.nilCheck (.tmp 46))⟩, [], []⟩,
  ⟨7, ⟨some 48, none, (.fieldAddr 97 (.tmp 47) 1)⟩, [], []⟩,
  ⟨8, ⟨some 49, none, (.load 3 (.tmp 48))⟩, [], []⟩,
  ⟨9, ⟨some 50, none, (.binOp .geq 3 (.tmp 45) (.tmp 49) 3)⟩, [], []⟩,
  ⟨10, ⟨some 40, none, (.assign (.tmp 50))⟩, [], []⟩] [41, 42, 43, 44, 45, 46, 47, 48, 49, 50, 40] [0, 1, 5, 7, 40]
@[simp] noncomputable def F25_r8 : CC := .reg [⟨some 6, none, (.assign (.const (.int .i64 4)))⟩] [6]
@[simp] noncomputable def F25_r4 : CC := .drw [⟨0, ⟨some 17, none, (.move (.tmp 0))⟩, [], []⟩,
  ⟨1, ⟨some 18, none, (.move (.tmp 0))⟩, [], []⟩,
  ⟨2, ⟨some 19, none, (.nilCheck (.tmp 18))⟩, [], []⟩,
  ⟨3, ⟨some 20, none, (.fieldAddr 97 (.tmp 19) 0)⟩, [], []⟩,
  ⟨4, ⟨some 21, none, (.load 95 (.tmp 20))⟩, [], []⟩,
  ⟨5, ⟨some 22, none, (.move (.tmp 7))⟩, [], []⟩,
  ⟨6, ⟨some 23, none, (.move (.tmp 1))⟩, [], []⟩,
  ⟨7, ⟨some 24, none, (.load 72 (.tmp 5))⟩, [], []⟩,
  ⟨8, ⟨some 25, none, (.build 101 #[(0, (.tmp 23)), (1, (.tmp 24))])⟩, [], []⟩,
  ⟨9, ⟨some 26, none, (.buildSlice 95 1 #[(0, (.tmp 25))])⟩, [], []⟩,
  ⟨10, ⟨some 27, none, (.call { callee := (.value (.func 38)), args := #[(.tmp 21), (.tmp 22), (.tmp 26)], argTypes := #[95, 3, 95] })⟩, [], []⟩,
  ⟨11, ⟨some 28, none, (.nilCheck (.tmp 17))⟩, [], []⟩,
  ⟨12, ⟨some 29, none, (.fieldAddr 97 (.tmp 28) 0)⟩, [], []⟩,
  ⟨13, ⟨none, none, (.store 95 (.tmp 29) (.tmp 27))⟩, [], []⟩] [17, 18, 19, 20, 21, 22, 23, 24, 25, 26, 27, 28, 29] []
@[simp] noncomputable def F25_r9 : CC := .reg [⟨some 6, none, (.assign (.const (.int .i64 0)))⟩] [6]
noncomputable def F25 : CC := (.seq F25_r0 (.seq (.seq F25_r1 (.cond (.tmp 10) (.seq F25_r2 .ret) .skip)) (.seq F25_r3 (.seq (.block 0 (.seq F25_r5 (.cond (.tmp 30) F25_r6 (.seq F25_r7 (.cond (.tmp 40) (.seq F25_r8 .ret) F25_r4))))) (.seq F25_r9 .ret)))))
noncomputable def F25_inf : Nat → RI
  | 0 => ⟨[0, 1, 5], [], []⟩
  | 1 => ⟨[0, 1, 5, 10], [], []⟩
  | 2 => ⟨[6], [], []⟩
  | 3 => ⟨[0, 1, 5, 7, 8], [], []⟩
  | 5 => ⟨[0, 1, 5, 7, 30], [], []⟩
  | 6 => ⟨[], [0, 1, 3, 7, 0, 0, 63, 127, 255], [(0, []), (1, []), (2, []), (3, []), (4, []), (5, []), (6, []), (7, []), (8, [])]⟩
  | 7 => ⟨[0, 1, 5, 7, 40], [0, 1, 3, 7, 15, 0, 32, 96, 224, 511, 1023], [(0, []), (1, []), (2, []), (3, []), (4, []), (5, []), (6, []), (7, []), (8, []), (9, []), (10, [])]⟩
  | 8 => ⟨[6], [], []⟩
  | 4 => ⟨[], [0, 0, 2, 6, 14, 0, 0, 0, 192, 448, 1022, 2047, 4095, 8191], [(0, []), (1, []), (2, []), (3, []), (4, []), (5, []), (6, []), (7, []), (8, []), (9, []), (10, []), (11, []), (12, []), (13, [])]⟩
  | 9 => ⟨[6], [], []⟩
  | _ => ⟨[], [], []⟩
noncomputable def F25_c : Code := Try.f25.body.getD .skip
theorem F25_b : Try.f25.body = some F25_c := by kernel_rfl
theorem F25_rs : Try.f25.results.toList = ([.tmp 6] : List ResultVar) := by kernel_rfl
theorem F25_n : Try.f25.ntmps = 51 := by kernel_rfl
theorem F25_ok : toCC [] 51 F25_inf F25_c = some F25 := by kernel_rfl
theorem F25_in {args : List AV} {G : Hp} {post : AV → Hp → Prop} (ha : args.all AV.plain = true) (hn : args.length ≤ 51) (h : BDs args → awp Try.prog [] F25 (AEnds Try.prog [.tmp 6] post) (initT args) G) : ACalls Try.prog 25 args G post :=
  acalls_cc Try.func25 F25_b F25_rs F25_n F25_ok mixed ha hn h

/- 26 (*ostiary/shelf.Shelf[uint32, ostiary/plan.one]).Keys -/
@[simp] noncomputable def F26_r0 : CC := .reg [⟨some 2, none, (.assign (.const (.slice none 0 0)))⟩] [0]
@[simp] noncomputable def F26_r1 : CC := .reg [⟨some 3, none, (.assign (.const (.slice none 0 0)))⟩] [0, 3]
@[simp] noncomputable def F26_r2 : CC := .reg [⟨some 5, none, (.move (.tmp 0))⟩,
  ⟨some 6, none, (.call { callee := (.value (.func 23)), args := #[(.tmp 5)], argTypes := #[69] })⟩,
  ⟨some 7, none, (.move (.const (.int .i64 0)))⟩] [0, 3, 6, 7]
@[simp] noncomputable def F26_r3 : CC := .reg [⟨some 8, none, (.binOp .lss 3 (.tmp 7) (.tmp 6) 3)⟩] [0, 3, 6, 7, 8]
@[simp] noncomputable def F26_r4 : CC := .reg [⟨some 9, none, (.move (.tmp 7))⟩,
  ⟨some 4, none, (.assign (.tmp 9))⟩] [0, 3, 4, 6, 7]
@[simp] noncomputable def F26_r5 : CC := .reg [⟨some 10, none, (.move (.tmp 3))⟩,
  ⟨some 11, none, (.move (.tmp 0))⟩,
  ⟨some 12, none, (.nilCheck (.tmp 11))⟩,
  ⟨some 13, none, (.fieldAddr 97 (.tmp 12) 0)⟩,
  ⟨some 14, none, (.load 95 (.tmp 13))⟩,
  ⟨some 15, none, (.move (.tmp 4))⟩,
  ⟨some 16, none, (.indexAddr 95 (.tmp 14) (.tmp 15))⟩,
  ⟨some 17, none, (.fieldAddr 101 (.tmp 16) 0)⟩,
  ⟨some 18, none, (.load 22 (.tmp 17))⟩,
  ⟨some 19, none, (.buildSlice 47 1 #[(0, (.tmp 18))])⟩,
  ⟨some 20, none, (.call { callee := (.builtin .append), args := #[(.tmp 10), (.tmp 19)], argTypes := #[47, 47] })⟩,
  ⟨some 3, none, (.assign (.tmp 20))⟩] [0, 3, 6, 7]
@[simp] noncomputable def F26_r6 : CC := .reg [⟨some 21, none, (.binOp .add 3 (.tmp 7) (.const (.int .i64 1)) 3)⟩,
  ⟨some 7, none, (.move (.tmp 21))⟩] [0, 3, 6, 7]
noncomputable def F26_l0 : CC := (.seq F26_r3 (.seq (.cond (.tmp 8) .skip (.exit 0)) (.seq (.block 1 (.seq F26_r4 F26_r5)) F26_r6)))
@[simp] noncomputable def F26_r7 : CC := .reg [⟨some 22, none, (.move (.tmp 3))⟩,
  ⟨some 2, none, (.assign (.tmp 22))⟩] [2]
noncomputable def F26 : CC := (.seq F26_r0 (.seq F26_r1 (.seq (.seq F26_r2 (.block 0 (.loop F26_l0))) (.seq F26_r7 .ret))))
noncomputable def F26_inf : Nat → RI
  | 0 => ⟨[0], [], []⟩
  | 1 => ⟨[0, 3], [], []⟩
  | 2 => ⟨[0, 3, 6, 7], [], []⟩
  | 3 => ⟨[0, 3, 6, 7, 8], [], []⟩
  | 4 => ⟨[0, 3, 4, 6, 7], [], []⟩
  | 5 => ⟨[0, 3, 6, 7], [], []⟩
  | 6 => ⟨[0, 3, 6, 7], [], []⟩
  | 7 => ⟨[2], [], []⟩
  | _ => ⟨[], [], []⟩
noncomputable def F26_c : Code := Try.f26.body.getD .skip
theorem F26_b : Try.f26.body = some F26_c := by kernel_rfl
theorem F26_rs : Try.f26.results.toList = ([.tmp 2] : List ResultVar) := by kernel_rfl
theorem F26_n : Try.f26.ntmps = 23 := by kernel_rfl
theorem F26_ok : toCC [] 23 F26_inf F26_c = some F26 := by kernel_rfl
theorem F26_in {args : List AV} {G : Hp} {post : AV → Hp → Prop} (ha : args.all AV.plain = true) (hn : args.length ≤ 23) (h : BDs args → awp Try.prog [] F26 (AEnds Try.prog [.tmp 2] post) (initT args) G) : ACalls Try.prog 26 args G post :=
  acalls_cc Try.func26 F26_b F26_rs F26_n F26_ok mixed ha hn h
end Go.Proofs.Ytgideonigiokbaa
