import Derived.Test.YtmomphnkngbgjaaC0K
set_option linter.unusedVariables false
set_option linter.unusedSimpArgs false
set_option maxRecDepth 100000
namespace Go.Proofs.Ytmomphnkngbgjaa
open Go Go.Al

/- 3 ostiary/ostiarylaw25.BindSpoof -/
@[simp] noncomputable def F3_r0 : CC := .reg [⟨some 5, none, (.box 24 (.tmp 1))⟩,
  ⟨some 8, none, (.assign (.const (.bool false)))⟩] [0, 2, 3, 5]
@[simp] noncomputable def F3_r1 : CC := .reg [⟨some 18, none, (.call { callee := (.value (.func 8)), args := #[], argTypes := #[] })⟩,
  ⟨some 9, none, (.assign (.tmp 18))⟩] [0, 2, 3, 5, 9]
@[simp] noncomputable def F3_r2 : CC := .reg [⟨some 10, none, (.assign (.const (.slice none 0 0)))⟩] [0, 2, 3, 5, 9, 10]
@[simp] noncomputable def F3_r3 : CC := .reg [⟨some 19, none, (.move (.tmp 0))⟩,
  ⟨some 20, none, (.call { callee := (.builtin .len), args := #[(.tmp 19)], argTypes := #[22] })⟩,
  ⟨some 21, none, (.move (.const (.int .i64 0)))⟩] [2, 3, 5, 9, 10, 19, 20, 21]
@[simp] noncomputable def F3_r4 : CC := .reg [⟨some 22, none, (.binOp .lss 3 (.tmp 21) (.tmp 20) 3)⟩] [2, 3, 5, 9, 10, 19, 20, 21, 22]
@[simp] noncomputable def F3_r5 : CC := .reg [⟨some 23, none, (.move (.tmp 21))⟩,
  ⟨some 24, none, (.indexAddr 22 (.tmp 19) (.tmp 21))⟩,
  ⟨some 25, none, (.load 33 (.tmp 24))⟩,
  ⟨some 12, none, (.alloc 33)⟩,
  ⟨some 11, none, (.assign (.tmp 23))⟩,
  ⟨none, none, (.store 33 (.tmp 12) (.tmp 25))⟩] [2, 3, 5, 9, 10, 11, 12, 19, 20, 21]
@[simp] noncomputable def F3_r6 : CC := .reg [⟨some 26, none, (.move (.tmp 11))⟩,
  ⟨some 27, none, (.binOp .lss 3 (.tmp 26) (.const (.int .i64 50)) 3)⟩] [2, 3, 5, 9, 10, 12, 19, 20, 21, 27]
@[simp] noncomputable def F3_r7 : CC := .reg [⟨some 29, none, (.move (.tmp 9))⟩,
  ⟨some 30, none, (.move (.tmp 10))⟩,
  ⟨some 31, none, (.load 33 (.tmp 12))⟩,
  ⟨some 32, none, (.call { callee := (.value (.func 10)), args := #[(.tmp 31)], argTypes := #[33] })⟩,
  ⟨some 33, none, (.call { callee := (.value (.func 9)), args := #[(.tmp 29), (.tmp 30), (.tmp 32)], argTypes := #[27, 29, 33] })⟩,
  ⟨some 28, none, (.move (.tmp 33))⟩,
  ⟨some 34, none, (.extract (.tmp 28) 0)⟩,
  ⟨some 35, none, (.extract (.tmp 28) 1)⟩,
  ⟨some 10, none, (.assign (.tmp 34))⟩] [2, 3, 5, 9, 10, 19, 20, 21]
@[simp] noncomputable def F3_r8 : CC := .reg [⟨some 36, none, (.binOp .add 3 (.tmp 21) (.const (.int .i64 1)) 3)⟩,
  ⟨some 21, none, (.move (.tmp 36))⟩] [2, 3, 5, 9, 10, 19, 20, 21]
noncomputable def F3_l0 : CC := (.seq F3_r4 (.seq (.cond (.tmp 22) .skip (.exit 0)) (.seq (.block 1 (.seq F3_r5 (.seq F3_r6 (.cond (.tmp 27) F3_r7 .skip)))) F3_r8)))
@[simp] noncomputable def F3_r9 : CC := .reg [⟨some 38, none, (.move (.tmp 9))⟩,
  ⟨some 39, none, (.load 24 (.tmp 5))⟩,
  ⟨some 40, none, (.move (.tmp 2))⟩,
  ⟨some 41, none, (.move (.tmp 3))⟩,
  ⟨some 42, none, (.call { callee := (.value (.func 11)), args := #[(.tmp 38), (.tmp 39), (.tmp 40), (.tmp 41)], argTypes := #[27, 24, 37, 38] })⟩,
  ⟨some 37, none, (.move (.tmp 42))⟩,
  ⟨some 43, none, (.extract (.tmp 37) 0)⟩,
  ⟨some 44, none, (.extract (.tmp 37) 1)⟩,
  ⟨some 13, none, (.alloc 40)⟩,
  ⟨none, none, (.store 40 (.tmp 13) (.tmp 43))⟩,
  ⟨some 14, none, (.assign (.tmp 44))⟩] [2, 3, 5, 10, 13, 14]
@[simp] noncomputable def F3_r10 : CC := .reg [⟨some 15, none, (.assign (.const (.bool false)))⟩] [2, 3, 5, 10, 13, 14, 15]
@[simp] noncomputable def F3_r11 : CC := .reg [⟨some 45, none, (.move (.tmp 10))⟩,
  ⟨some 46, none, (.call { callee := (.builtin .len), args := #[(.tmp 45)], argTypes := #[29] })⟩,
  ⟨some 47, none, (.move (.const (.int .i64 0)))⟩] [2, 3, 5, 13, 14, 15, 45, 46, 47]
@[simp] noncomputable def F3_r12 : CC := .reg [⟨some 48, none, (.binOp .lss 3 (.tmp 47) (.tmp 46) 3)⟩] [2, 3, 5, 13, 14, 15, 45, 46, 47, 48]
@[simp] noncomputable def F3_r13 : CC := .reg [⟨some 49, none, (.indexAddr 29 (.tmp 45) (.tmp 47))⟩,
  ⟨some 50, none, (.load 31 (.tmp 49))⟩,
  ⟨some 17, none, (.alloc 31)⟩,
  ⟨none, none, (.store 31 (.tmp 17) (.tmp 50))⟩] [2, 3, 5, 13, 14, 15, 17, 45, 46, 47]
@[simp] noncomputable def F3_r14 : CC := .reg [⟨some 51, none, (.move (.tmp 15))⟩,
  ⟨some 52, none, (.move (.tmp 51))⟩,
  ⟨some 53, some (52, false), (.fieldAddr 31 (.tmp 17) 2)⟩,
  ⟨some 54, some (52, false), (.load 24 (.tmp 53))⟩,
  ⟨some 55, some (52, false), (.load 24 (.tmp 5))⟩,
  ⟨some 56, some (52, false), (.binOp .eql 24 (.tmp 54) (.tmp 55) 24)⟩,
  ⟨some 57, some (52, false), (.move (.tmp 56))⟩,
  ⟨some 58, some (57, true), (.fieldAddr 31 (.tmp 17) 0)⟩,
  ⟨some 59, some (57, true), (.load 25 (.tmp 58))⟩,
  ⟨some 60, some (57, true), (.move (.tmp 2))⟩,
  ⟨some 61, some (57, true), (.binOp .eql 25 (.tmp 59) (.tmp 60) 25)⟩,
  ⟨some 62, some (52, false), (.pick (.tmp 57) (.tmp 61) (.const (.bool false)))⟩,
  ⟨some 63, some (52, false), (.move (.tmp 62))⟩,
  ⟨some 64, some (63, true), (.fieldAddr 31 (.tmp 17) 1)⟩,
  ⟨some 65, some (63, true), (.load 26 (.tmp 64))⟩,
  ⟨some 66, some (63, true), (.move (.tmp 3))⟩,
  ⟨some 67, some (63, true), (.binOp .eql 26 (.tmp 65) (.tmp 66) 26)⟩,
  ⟨some 68, some (52, false), (.pick (.tmp 63) (.tmp 67) (.const (.bool false)))⟩,
  ⟨some 69, some (52, false), (.move (.tmp 68))⟩,
  ⟨some 70, some (69, true), (.fieldAddr 31 (.tmp 17) 4)⟩,
  ⟨some 71, some (69, true), (.load 9 (.tmp 70))⟩,
  ⟨some 72, some (69, true), (.binOp .neq 9 (.tmp 71) (.const (.string { data := #[] })) 9)⟩,
  ⟨some 73, some (52, false), (.pick (.tmp 69) (.tmp 72) (.const (.bool false)))⟩,
  ⟨some 74, none, (.pick (.tmp 52) (.const (.bool true)) (.tmp 73))⟩,
  ⟨some 15, none, (.assign (.tmp 74))⟩] [2, 3, 5, 13, 14, 15, 45, 46, 47]
@[simp] noncomputable def F3_r15 : CC := .reg [⟨some 75, none, (.binOp .add 3 (.tmp 47) (.const (.int .i64 1)) 3)⟩,
  ⟨some 47, none, (.move (.tmp 75))⟩] [2, 3, 5, 13, 14, 15, 45, 46, 47]
noncomputable def F3_l1 : CC := (.seq F3_r12 (.seq (.cond (.tmp 48) .skip (.exit 2)) (.seq (.block 3 (.seq F3_r13 F3_r14)) F3_r15)))
@[simp] noncomputable def F3_r16 : CC := .reg [⟨some 76, none, (.move (.tmp 14))⟩,
  ⟨some 77, none, (.binOp .eql 41 (.tmp 76) (.const (.int .i64 0)) 41)⟩,
  ⟨some 78, none, (.move (.tmp 15))⟩,
  ⟨some 79, none, (.binOp .neq 4 (.tmp 77) (.tmp 78) 4)⟩] [2, 3, 5, 13, 14, 79]
@[simp] noncomputable def F3_r17 : CC := .reg [⟨some 8, none, (.assign (.const (.bool false)))⟩] [8]
@[simp] noncomputable def F3_r18 : CC := .reg [⟨some 80, none, (.move (.tmp 14))⟩,
  ⟨some 81, none, (.binOp .neq 41 (.tmp 80) (.const (.int .i64 0)) 41)⟩,
  ⟨some 82, none, (.move (.tmp 81))⟩,
  ⟨some 83, some (82, false), (.fieldAddr 40 (.tmp 13) 0)⟩,
  ⟨some 84, some (82, false), (.load 37 (.tmp 83))⟩,
  ⟨some 85, some (82, false), (.move (.tmp 2))⟩,
  ⟨some 86, some (82, false), (.binOp .eql 25 (.tmp 84) (.tmp 85) 25)⟩,
  ⟨some 87, some (82, false), (.move (.tmp 86))⟩,
  ⟨some 88, some (87, true), (.fieldAddr 40 (.tmp 13) 1)⟩,
  ⟨some 89, some (87, true), (.load 38 (.tmp 88))⟩,
  ⟨some 90, some (87, true), (.move (.tmp 3))⟩,
  ⟨some 91, some (87, true), (.binOp .eql 26 (.tmp 89) (.tmp 90) 26)⟩,
  ⟨some 92, some (82, false), (.pick (.tmp 87) (.tmp 91) (.const (.bool false)))⟩,
  ⟨some 93, some (82, false), (.move (.tmp 92))⟩,
  ⟨some 94, some (93, true), (.fieldAddr 40 (.tmp 13) 2)⟩,
  ⟨some 95, some (93, true), (.load 24 (.tmp 94))⟩,
  ⟨some 96, some (93, true), (.load 24 (.tmp 5))⟩,
  ⟨some 97, some (93, true), (.binOp .eql 24 (.tmp 95) (.tmp 96) 24)⟩,
  ⟨some 98, some (82, false), (.pick (.tmp 93) (.tmp 97) (.const (.bool false)))⟩,
  ⟨some 99, some (82, false), (.move (.tmp 98))⟩,
  ⟨some 100, some (99, true), (.fieldAddr 40 (.tmp 13) 4)⟩,
  ⟨some 101, some (99, true), (.load 9 (.tmp 100))⟩,
  ⟨some 102, some (99, true), (.call { callee := (.value (.func 12)), args := #[(.tmp 101)], argTypes := #[9] })⟩,
  ⟨some 103, some (82, false), (.pick (.tmp 99) (.tmp 102) (.const (.bool false)))⟩,
  ⟨some 104, some (82, false), (.move (.tmp 103))⟩,
  ⟨some 105, some (104, true), (.fieldAddr 40 (.tmp 13) 3)⟩,
  ⟨some 106, some (104, true), (.load 9 (.tmp 105))⟩,
  ⟨some 107, some (104, true), (.call { callee := (.value (.func 12)), args := #[(.tmp 106)], argTypes := #[9] })⟩,
  ⟨some 108, some (82, false), (.pick (.tmp 104) (.tmp 107) (.const (.bool false)))⟩,
  ⟨some 109, none, (.pick (.tmp 82) (.const (.bool true)) (.tmp 108))⟩,
  ⟨some 110, none, (.move (.tmp 109))⟩,
  ⟨some 111, some (110, true), (.call { callee := (.value (.func 13)), args := #[], argTypes := #[] })⟩,
  ⟨some 112, none, (.pick (.tmp 110) (.tmp 111) (.const (.bool false)))⟩,
  ⟨some 8, none, (.assign (.tmp 112))⟩] [8]
noncomputable def F3 : CC := (.seq F3_r0 (.seq F3_r1 (.seq F3_r2 (.seq (.seq F3_r3 (.block 0 (.loop F3_l0))) (.seq F3_r9 (.seq F3_r10 (.seq (.seq F3_r11 (.block 2 (.loop F3_l1))) (.seq (.seq F3_r16 (.cond (.tmp 79) (.seq F3_r17 .ret) .skip)) (.seq F3_r18 .ret)))))))))
noncomputable def F3_inf : Nat → RI
  | 0 => ⟨[0, 2, 3, 5], [], []⟩
  | 1 => ⟨[0, 2, 3, 5, 9], [], []⟩
  | 2 => ⟨[0, 2, 3, 5, 9, 10], [], []⟩
  | 3 => ⟨[2, 3, 5, 9, 10, 19, 20, 21], [], []⟩
  | 4 => ⟨[2, 3, 5, 9, 10, 19, 20, 21, 22], [], []⟩
  | 5 => ⟨[2, 3, 5, 9, 10, 11, 12, 19, 20, 21], [], []⟩
  | 6 => ⟨[2, 3, 5, 9, 10, 12, 19, 20, 21, 27], [], []⟩
  | 7 => ⟨[2, 3, 5, 9, 10, 19, 20, 21], [], []⟩
  | 8 => ⟨[2, 3, 5, 9, 10, 19, 20, 21], [], []⟩
  | 9 => ⟨[2, 3, 5, 10, 13, 14], [], []⟩
  | 10 => ⟨[2, 3, 5, 10, 13, 14, 15], [], []⟩
  | 11 => ⟨[2, 3, 5, 13, 14, 15, 45, 46, 47], [], []⟩
  | 12 => ⟨[2, 3, 5, 13, 14, 15, 45, 46, 47, 48], [], []⟩
  | 13 => ⟨[2, 3, 5, 13, 14, 15, 17, 45, 46, 47], [], []⟩
  | 14 => ⟨[2, 3, 5, 13, 14, 15, 45, 46, 47], [], []⟩
  | 15 => ⟨[2, 3, 5, 13, 14, 15, 45, 46, 47], [], []⟩
  | 16 => ⟨[2, 3, 5, 13, 14, 79], [], []⟩
  | 17 => ⟨[8], [], []⟩
  | 18 => ⟨[8], [], []⟩
  | _ => ⟨[], [], []⟩
noncomputable def F3_c : Code := Try.f3.body.getD .skip
theorem F3_b : Try.f3.body = some F3_c := by kernel_rfl
theorem F3_rs : Try.f3.results.toList = ([.tmp 8] : List ResultVar) := by kernel_rfl
theorem F3_n : Try.f3.ntmps = 113 := by kernel_rfl
theorem F3_ok : toCC [] 113 F3_inf F3_c = some F3 := by kernel_rfl
theorem F3_in {args : List AV} {G : Hp} {post : AV → Hp → Prop} (ha : args.all AV.plain = true) (hn : args.length ≤ 113) (h : BDs args → awp Try.prog [] F3 (AEnds Try.prog [.tmp 8] post) (initT args) G) : ACalls Try.prog 3 args G post :=
  acalls_cc Try.func3 F3_b F3_rs F3_n F3_ok mixed ha hn h

/- 4 ostiary/ostiarylaw25.BindApart -/
@[simp] noncomputable def F4_r0 : CC := .reg [⟨some 2, none, (.assign (.const (.bool false)))⟩] [0]
@[simp] noncomputable def F4_r1 : CC := .reg [⟨some 12, none, (.call { callee := (.value (.func 8)), args := #[], argTypes := #[] })⟩,
  ⟨some 3, none, (.assign (.tmp 12))⟩] [0, 3]
@[simp] noncomputable def F4_r2 : CC := .reg [⟨some 4, none, (.assign (.const (.slice none 0 0)))⟩] [0, 3, 4]
@[simp] noncomputable def F4_r3 : CC := .reg [⟨some 13, none, (.move (.tmp 0))⟩,
  ⟨some 14, none, (.call { callee := (.builtin .len), args := #[(.tmp 13)], argTypes := #[22] })⟩,
  ⟨some 15, none, (.move (.const (.int .i64 0)))⟩] [3, 4, 13, 14, 15]
@[simp] noncomputable def F4_r4 : CC := .reg [⟨some 16, none, (.binOp .lss 3 (.tmp 15) (.tmp 14) 3)⟩] [3, 4, 13, 14, 15, 16]
@[simp] noncomputable def F4_r5 : CC := .reg [⟨some 17, none, (.move (.tmp 15))⟩,
  ⟨some 18, none, (.indexAddr 22 (.tmp 13) (.tmp 15))⟩,
  ⟨some 19, none, (.load 33 (.tmp 18))⟩,
  ⟨some 6, none, (.alloc 33)⟩,
  ⟨some 5, none, (.assign (.tmp 17))⟩,
  ⟨none, none, (.store 33 (.tmp 6) (.tmp 19))⟩] [3, 4, 5, 6, 13, 14, 15]
@[simp] noncomputable def F4_r6 : CC := .reg [⟨some 20, none, (.move (.tmp 5))⟩,
  ⟨some 21, none, (.binOp .geq 3 (.tmp 20) (.const (.int .i64 50)) 3)⟩] [3, 4, 6, 13, 14, 15, 21]
@[simp] noncomputable def F4_r7 : CC := .reg [⟨some 23, none, (.move (.tmp 3))⟩,
  ⟨some 24, none, (.move (.tmp 4))⟩,
  ⟨some 25, none, (.load 33 (.tmp 6))⟩,
  ⟨some 26, none, (.call { callee := (.value (.func 10)), args := #[(.tmp 25)], argTypes := #[33] })⟩,
  ⟨some 27, none, (.call { callee := (.value (.func 9)), args := #[(.tmp 23), (.tmp 24), (.tmp 26)], argTypes := #[27, 29, 33] })⟩,
  ⟨some 22, none, (.move (.tmp 27))⟩,
  ⟨some 28, none, (.extract (.tmp 22) 0)⟩,
  ⟨some 29, none, (.extract (.tmp 22) 1)⟩,
  ⟨some 4, none, (.assign (.tmp 28))⟩] [3, 4, 13, 14, 15]
@[simp] noncomputable def F4_r8 : CC := .reg [⟨some 30, none, (.move (.tmp 3))⟩,
  ⟨some 31, none, (.call { callee := (.value (.func 14)), args := #[(.tmp 30)], argTypes := #[27] })⟩,
  ⟨some 7, none, (.assign (.tmp 31))⟩] [3, 4, 7, 13, 14, 15]
@[simp] noncomputable def F4_r9 : CC := .reg [⟨some 32, none, (.move (.tmp 7))⟩,
  ⟨some 33, none, (.call { callee := (.builtin .len), args := #[(.tmp 32)], argTypes := #[47] })⟩,
  ⟨some 34, none, (.move (.const (.int .i64 0)))⟩] [3, 4, 7, 13, 14, 15, 32, 33, 34]
@[simp] noncomputable def F4_r10 : CC := .reg [⟨some 35, none, (.binOp .lss 3 (.tmp 34) (.tmp 33) 3)⟩] [3, 4, 7, 13, 14, 15, 32, 33, 34, 35]
@[simp] noncomputable def F4_r11 : CC := .reg [⟨some 36, none, (.move (.tmp 34))⟩,
  ⟨some 37, none, (.indexAddr 47 (.tmp 32) (.tmp 34))⟩,
  ⟨some 38, none, (.load 40 (.tmp 37))⟩,
  ⟨some 9, none, (.alloc 40)⟩,
  ⟨some 8, none, (.assign (.tmp 36))⟩,
  ⟨none, none, (.store 40 (.tmp 9) (.tmp 38))⟩] [3, 4, 7, 8, 9, 13, 14, 15, 32, 33, 34]
@[simp] noncomputable def F4_r12 : CC := .reg [⟨some 39, none, (.move (.tmp 7))⟩,
  ⟨some 40, none, (.move (.tmp 8))⟩,
  ⟨some 41, none, (.slice 47 (.tmp 39) none (some (.tmp 40)) none)⟩,
  ⟨some 42, none, (.call { callee := (.builtin .len), args := #[(.tmp 41)], argTypes := #[47] })⟩,
  ⟨some 43, none, (.move (.const (.int .i64 0)))⟩] [3, 4, 7, 9, 13, 14, 15, 32, 33, 34, 41, 42, 43]
@[simp] noncomputable def F4_r13 : CC := .reg [⟨some 44, none, (.binOp .lss 3 (.tmp 43) (.tmp 42) 3)⟩] [3, 4, 7, 9, 13, 14, 15, 32, 33, 34, 41, 42, 43, 44]
@[simp] noncomputable def F4_r14 : CC := .reg [⟨some 45, none, (.indexAddr 47 (.tmp 41) (.tmp 43))⟩,
  ⟨some 46, none, (.load 40 (.tmp 45))⟩,
  ⟨some 11, none, (.alloc 40)⟩,
  ⟨none, none, (.store 40 (.tmp 11) (.tmp 46))⟩] [3, 4, 7, 9, 11, 13, 14, 15, 32, 33, 34, 41, 42, 43]
@[simp] noncomputable def F4_r15 : CC := .reg [⟨some 47, none, (.fieldAddr 40 (.tmp 9) 0)⟩,
  ⟨some 48, none, (.load 37 (.tmp 47))⟩,
  ⟨some 49, none, (.fieldAddr 40 (.tmp 11) 0)⟩,
  ⟨some 50, none, (.load 37 (.tmp 49))⟩,
  ⟨some 51, none, (.binOp .leq 37 (.tmp 48) (.tmp 50) 37)⟩,
  ⟨some 52, none, (.move (.tmp 51))⟩,
  ⟨some 53, some (52, false), (.fieldAddr 40 (.tmp 9) 1)⟩,
  ⟨some 54, some (52, false), (.load 38 (.tmp 53))⟩,
  ⟨some 55, some (52, false), (.fieldAddr 40 (.tmp 11) 1)⟩,
  ⟨some 56, some (52, false), (.load 38 (.tmp 55))⟩,
  ⟨some 57, some (52, false), (.binOp .eql 38 (.tmp 54) (.tmp 56) 38)⟩,
  ⟨some 58, none, (.pick (.tmp 52) (.const (.bool true)) (.tmp 57))⟩,
  ⟨some 59, none, (.move (.tmp 58))⟩,
  ⟨some 60, some (59, false), (.fieldAddr 40 (.tmp 9) 2)⟩,
  ⟨some 61, some (59, false), (.load 24 (.tmp 60))⟩,
  ⟨some 62, some (59, false), (.fieldAddr 40 (.tmp 11) 2)⟩,
  ⟨some 63, some (59, false), (.load 24 (.tmp 62))⟩,
  ⟨some 64, some (59, false), (.binOp .eql 24 (.tmp 61) (.tmp 63) 24)⟩,
  ⟨some 65, none, (.pick (.tmp 59) (.const (.bool true)) (.tmp 64))⟩] [3, 4, 7, 9, 13, 14, 15, 32, 33, 34, 41, 42, 43, 65]
@[simp] noncomputable def F4_r16 : CC := .reg [⟨some 2, none, (.assign (.const (.bool false)))⟩] [2]
@[simp] noncomputable def F4_r17 : CC := .reg [⟨some 66, none, (.binOp .add 3 (.tmp 43) (.const (.int .i64 1)) 3)⟩,
  ⟨some 43, none, (.move (.tmp 66))⟩] [3, 4, 7, 9, 13, 14, 15, 32, 33, 34, 41, 42, 43]
noncomputable def F4_l0 : CC := (.seq F4_r13 (.seq (.cond (.tmp 44) .skip (.exit 4)) (.seq (.block 5 (.seq F4_r14 (.seq F4_r15 (.cond (.tmp 65) (.seq F4_r16 .ret) .skip)))) F4_r17)))
@[simp] noncomputable def F4_r18 : CC := .reg [⟨some 67, none, (.binOp .add 3 (.tmp 34) (.const (.int .i64 1)) 3)⟩,
  ⟨some 34, none, (.move (.tmp 67))⟩] [3, 4, 7, 13, 14, 15, 32, 33, 34]
noncomputable def F4_l1 : CC := (.seq F4_r10 (.seq (.cond (.tmp 35) .skip (.exit 2)) (.seq (.block 3 (.seq F4_r11 (.seq F4_r12 (.block 4 (.loop F4_l0))))) F4_r18)))
@[simp] noncomputable def F4_r19 : CC := .reg [⟨some 68, none, (.binOp .add 3 (.tmp 15) (.const (.int .i64 1)) 3)⟩,
  ⟨some 15, none, (.move (.tmp 68))⟩] [3, 4, 13, 14, 15]
noncomputable def F4_l2 : CC := (.seq F4_r4 (.seq (.cond (.tmp 16) .skip (.exit 0)) (.seq (.block 1 (.seq F4_r5 (.seq (.seq F4_r6 (.cond (.tmp 21) (.exit 0) .skip)) (.seq F4_r7 (.seq F4_r8 (.seq F4_r9 (.block 2 (.loop F4_l1)))))))) F4_r19)))
@[simp] noncomputable def F4_r20 : CC := .reg [⟨some 69, none, (.call { callee := (.value (.func 13)), args := #[], argTypes := #[] })⟩,
  ⟨some 2, none, (.assign (.tmp 69))⟩] [2]
noncomputable def F4 : CC := (.seq F4_r0 (.seq F4_r1 (.seq F4_r2 (.seq (.seq F4_r3 (.block 0 (.loop F4_l2))) (.seq F4_r20 .ret)))))
noncomputable def F4_inf : Nat → RI
  | 0 => ⟨[0], [], []⟩
  | 1 => ⟨[0, 3], [], []⟩
  | 2 => ⟨[0, 3, 4], [], []⟩
  | 3 => ⟨[3, 4, 13, 14, 15], [], []⟩
  | 4 => ⟨[3, 4, 13, 14, 15, 16], [], []⟩
  | 5 => ⟨[3, 4, 5, 6, 13, 14, 15], [], []⟩
  | 6 => ⟨[3, 4, 6, 13, 14, 15, 21], [], []⟩
  | 7 => ⟨[3, 4, 13, 14, 15], [], []⟩
  | 8 => ⟨[3, 4, 7, 13, 14, 15], [], []⟩
  | 9 => ⟨[3, 4, 7, 13, 14, 15, 32, 33, 34], [], []⟩
  | 10 => ⟨[3, 4, 7, 13, 14, 15, 32, 33, 34, 35], [], []⟩
  | 11 => ⟨[3, 4, 7, 8, 9, 13, 14, 15, 32, 33, 34], [], []⟩
  | 12 => ⟨[3, 4, 7, 9, 13, 14, 15, 32, 33, 34, 41, 42, 43], [], []⟩
  | 13 => ⟨[3, 4, 7, 9, 13, 14, 15, 32, 33, 34, 41, 42, 43, 44], [], []⟩
  | 14 => ⟨[3, 4, 7, 9, 11, 13, 14, 15, 32, 33, 34, 41, 42, 43], [], []⟩
  | 15 => ⟨[3, 4, 7, 9, 13, 14, 15, 32, 33, 34, 41, 42, 43, 65], [], []⟩
  | 16 => ⟨[2], [], []⟩
  | 17 => ⟨[3, 4, 7, 9, 13, 14, 15, 32, 33, 34, 41, 42, 43], [], []⟩
  | 18 => ⟨[3, 4, 7, 13, 14, 15, 32, 33, 34], [], []⟩
  | 19 => ⟨[3, 4, 13, 14, 15], [], []⟩
  | 20 => ⟨[2], [], []⟩
  | _ => ⟨[], [], []⟩
noncomputable def F4_c : Code := Try.f4.body.getD .skip
theorem F4_b : Try.f4.body = some F4_c := by kernel_rfl
theorem F4_rs : Try.f4.results.toList = ([.tmp 2] : List ResultVar) := by kernel_rfl
theorem F4_n : Try.f4.ntmps = 70 := by kernel_rfl
theorem F4_ok : toCC [] 70 F4_inf F4_c = some F4 := by kernel_rfl
theorem F4_in {args : List AV} {G : Hp} {post : AV → Hp → Prop} (ha : args.all AV.plain = true) (hn : args.length ≤ 70) (h : BDs args → awp Try.prog [] F4 (AEnds Try.prog [.tmp 2] post) (initT args) G) : ACalls Try.prog 4 args G post :=
  acalls_cc Try.func4 F4_b F4_rs F4_n F4_ok mixed ha hn h

/- 5 ostiary/ostiarylaw25.BindPlays -/
@[simp] noncomputable def F5_r0 : CC := .reg [⟨some 2, none, (.assign (.const (.bool false)))⟩] [0]
@[simp] noncomputable def F5_r1 : CC := .reg [⟨some 8, none, (.call { callee := (.value (.func 8)), args := #[], argTypes := #[] })⟩,
  ⟨some 3, none, (.assign (.tmp 8))⟩] [0, 3]
@[simp] noncomputable def F5_r2 : CC := .reg [⟨some 4, none, (.assign (.const (.slice none 0 0)))⟩] [0, 3, 4]
@[simp] noncomputable def F5_r3 : CC := .reg [⟨some 5, none, (.assign (.const (.bool true)))⟩] [0, 3, 4, 5]
@[simp] noncomputable def F5_r4 : CC := .reg [⟨some 9, none, (.move (.tmp 0))⟩,
  ⟨some 10, none, (.call { callee := (.builtin .len), args := #[(.tmp 9)], argTypes := #[22] })⟩,
  ⟨some 11, none, (.move (.const (.int .i64 0)))⟩] [3, 4, 5, 9, 10, 11]
@[simp] noncomputable def F5_r5 : CC := .reg [⟨some 12, none, (.binOp .lss 3 (.tmp 11) (.tmp 10) 3)⟩] [3, 4, 5, 9, 10, 11, 12]
@[simp] noncomputable def F5_r6 : CC := .reg [⟨some 13, none, (.move (.tmp 11))⟩,
  ⟨some 14, none, (.indexAddr 22 (.tmp 9) (.tmp 11))⟩,
  ⟨some 15, none, (.load 33 (.tmp 14))⟩,
  ⟨some 7, none, (.alloc 33)⟩,
  ⟨some 6, none, (.assign (.tmp 13))⟩,
  ⟨none, none, (.store 33 (.tmp 7) (.tmp 15))⟩] [3, 4, 5, 6, 7, 9, 10, 11]
@[simp] noncomputable def F5_r7 : CC := .reg [⟨some 16, none, (.move (.tmp 6))⟩,
  ⟨some 17, none, (.binOp .geq 3 (.tmp 16) (.const (.int .i64 50)) 3)⟩,
  ⟨some 18, none, (.move (.tmp 17))⟩,
  ⟨some 19, some (18, false), (.move (.tmp 5))⟩,
  ⟨some 20, some (18, false), (.unOp .not 4 (.tmp 19))⟩,
  ⟨some 21, none, (.pick (.tmp 18) (.const (.bool true)) (.tmp 20))⟩] [3, 4, 5, 7, 9, 10, 11, 21]
@[simp] noncomputable def F5_r8 : CC := .reg [⟨some 22, none, (.load 33 (.tmp 7))⟩,
  ⟨some 23, none, (.call { callee := (.value (.func 10)), args := #[(.tmp 22)], argTypes := #[33] })⟩,
  ⟨none, none, (.store 33 (.tmp 7) (.tmp 23))⟩] [3, 4, 7, 9, 10, 11]
@[simp] noncomputable def F5_r9 : CC := .reg [⟨some 25, none, (.move (.tmp 3))⟩,
  ⟨some 26, none, (.move (.tmp 4))⟩,
  ⟨some 27, none, (.load 33 (.tmp 7))⟩,
  ⟨some 28, none, (.call { callee := (.value (.func 9)), args := #[(.tmp 25), (.tmp 26), (.tmp 27)], argTypes := #[27, 29, 33] })⟩,
  ⟨some 24, none, (.move (.tmp 28))⟩,
  ⟨some 29, none, (.extract (.tmp 24) 0)⟩,
  ⟨some 30, none, (.extract (.tmp 24) 1)⟩,
  ⟨some 4, none, (.assign (.tmp 29))⟩,
  ⟨some 5, none, (.assign (.tmp 30))⟩] [3, 4, 5, 7, 9, 10, 11]
@[simp] noncomputable def F5_r10 : CC := .reg [⟨some 31, none, (.move (.tmp 5))⟩,
  ⟨some 32, none, (.move (.tmp 31))⟩,
  ⟨some 33, some (32, true), (.move (.tmp 3))⟩,
  ⟨some 34, some (32, true), (.move (.tmp 4))⟩,
  ⟨some 35, some (32, true), (.load 33 (.tmp 7))⟩,
  ⟨some 36, some (32, true), (.call { callee := (.value (.func 15)), args := #[(.tmp 33), (.tmp 34), (.tmp 35)], argTypes := #[27, 29, 33] })⟩,
  ⟨some 37, none, (.pick (.tmp 32) (.tmp 36) (.const (.bool false)))⟩,
  ⟨some 5, none, (.assign (.tmp 37))⟩] [3, 4, 5, 9, 10, 11]
@[simp] noncomputable def F5_r11 : CC := .reg [⟨some 38, none, (.binOp .add 3 (.tmp 11) (.const (.int .i64 1)) 3)⟩,
  ⟨some 11, none, (.move (.tmp 38))⟩] [3, 4, 5, 9, 10, 11]
noncomputable def F5_l0 : CC := (.seq F5_r5 (.seq (.cond (.tmp 12) .skip (.exit 0)) (.seq (.block 1 (.seq F5_r6 (.seq (.seq F5_r7 (.cond (.tmp 21) (.exit 0) .skip)) (.seq F5_r8 (.seq F5_r9 F5_r10))))) F5_r11)))
@[simp] noncomputable def F5_r12 : CC := .reg [⟨some 39, none, (.move (.tmp 5))⟩,
  ⟨some 40, none, (.move (.tmp 39))⟩,
  ⟨some 41, some (40, true), (.call { callee := (.value (.func 13)), args := #[], argTypes := #[] })⟩,
  ⟨some 42, none, (.pick (.tmp 40) (.tmp 41) (.const (.bool false)))⟩,
  ⟨some 2, none, (.assign (.tmp 42))⟩] [2]
noncomputable def F5 : CC := (.seq F5_r0 (.seq F5_r1 (.seq F5_r2 (.seq F5_r3 (.seq (.seq F5_r4 (.block 0 (.loop F5_l0))) (.seq F5_r12 .ret))))))
noncomputable def F5_inf : Nat → RI
  | 0 => ⟨[0], [], []⟩
  | 1 => ⟨[0, 3], [], []⟩
  | 2 => ⟨[0, 3, 4], [], []⟩
  | 3 => ⟨[0, 3, 4, 5], [], []⟩
  | 4 => ⟨[3, 4, 5, 9, 10, 11], [], []⟩
  | 5 => ⟨[3, 4, 5, 9, 10, 11, 12], [], []⟩
  | 6 => ⟨[3, 4, 5, 6, 7, 9, 10, 11], [], []⟩
  | 7 => ⟨[3, 4, 5, 7, 9, 10, 11, 21], [], []⟩
  | 8 => ⟨[3, 4, 7, 9, 10, 11], [], []⟩
  | 9 => ⟨[3, 4, 5, 7, 9, 10, 11], [], []⟩
  | 10 => ⟨[3, 4, 5, 9, 10, 11], [], []⟩
  | 11 => ⟨[3, 4, 5, 9, 10, 11], [], []⟩
  | 12 => ⟨[2], [], []⟩
  | _ => ⟨[], [], []⟩
noncomputable def F5_c : Code := Try.f5.body.getD .skip
theorem F5_b : Try.f5.body = some F5_c := by kernel_rfl
theorem F5_rs : Try.f5.results.toList = ([.tmp 2] : List ResultVar) := by kernel_rfl
theorem F5_n : Try.f5.ntmps = 43 := by kernel_rfl
theorem F5_ok : toCC [] 43 F5_inf F5_c = some F5 := by kernel_rfl
theorem F5_in {args : List AV} {G : Hp} {post : AV → Hp → Prop} (ha : args.all AV.plain = true) (hn : args.length ≤ 43) (h : BDs args → awp Try.prog [] F5 (AEnds Try.prog [.tmp 2] post) (initT args) G) : ACalls Try.prog 5 args G post :=
  acalls_cc Try.func5 F5_b F5_rs F5_n F5_ok mixed ha hn h

/- 6 ostiary/ostiarylaw25.BindNil -/
@[simp] noncomputable def F6_r0 : CC := .reg [⟨some 1, none, (.box 31 (.tmp 0))⟩,
  ⟨some 2, none, (.assign (.const (.bool false)))⟩] [1]
@[simp] noncomputable def F6_r1 : CC := .reg [⟨some 3, none, (.assign (.const (.pointer none)))⟩] [1, 3]
@[simp] noncomputable def F6_r2 : CC := .reg [⟨some 15, none, (.move (.tmp 3))⟩,
  ⟨some 16, none, (.load 31 (.tmp 1))⟩,
  ⟨some 17, none, (.call { callee := (.value (.func 17)), args := #[(.tmp 16)], argTypes := #[31] })⟩,
  ⟨some 18, none, (.call { callee := (.value (.func 16)), args := #[(.tmp 15), (.tmp 17)], argTypes := #[27, 40] })⟩,
  ⟨some 14, none, (.move (.tmp 18))⟩,
  ⟨some 19, none, (.extract (.tmp 14) 0)⟩,
  ⟨some 20, none, (.extract (.tmp 14) 1)⟩,
  ⟨some 4, none, (.assign (.tmp 19))⟩,
  ⟨some 5, none, (.assign (.tmp 20))⟩] [1, 3, 5]
@[simp] noncomputable def F6_r3 : CC := .reg [⟨some 22, none, (.move (.tmp 3))⟩,
  ⟨some 23, none, (.fieldAddr 31 (.tmp 1) 2)⟩,
  ⟨some 24, none, (.load 24 (.tmp 23))⟩,
  ⟨some 25, none, (.fieldAddr 31 (.tmp 1) 0)⟩,
  ⟨some 26, none, (.load 25 (.tmp 25))⟩,
  ⟨some 27, none, (.fieldAddr 31 (.tmp 1) 1)⟩,
  ⟨some 28, none, (.load 26 (.tmp 27))⟩,
  ⟨some 29, none, (.call { callee := (.value (.func 11)), args := #[(.tmp 22), (.tmp 24), (.tmp 26), (.tmp 28)], argTypes := #[27, 24, 37, 38] })⟩,
  ⟨some 21, none, (.move (.tmp 29))⟩,
  ⟨some 30, none, (.extract (.tmp 21) 0)⟩,
  ⟨some 31, none, (.extract (.tmp 21) 1)⟩,
  ⟨some 6, none, (.alloc 40)⟩,
  ⟨none, none, (.store 40 (.tmp 6) (.tmp 30))⟩,
  ⟨some 7, none, (.assign (.tmp 31))⟩] [1, 3, 5, 7]
@[simp] noncomputable def F6_r4 : CC := .reg [⟨some 33, none, (.move (.tmp 3))⟩,
  ⟨some 34, none, (.fieldAddr 31 (.tmp 1) 0)⟩,
  ⟨some 35, none, (.load 25 (.tmp 34))⟩,
  ⟨some 36, none, (.call { callee := (.value (.func 18)), args := #[(.tmp 33), (.tmp 35)], argTypes := #[27, 37] })⟩,
  ⟨some 32, none, (.move (.tmp 36))⟩,
  ⟨some 37, none, (.extract (.tmp 32) 0)⟩,
  ⟨some 38, none, (.extract (.tmp 32) 1)⟩,
  ⟨some 8, none, (.alloc 40)⟩,
  ⟨none, none, (.store 40 (.tmp 8) (.tmp 37))⟩,
  ⟨some 9, none, (.assign (.tmp 38))⟩] [1, 3, 5, 7, 9]
@[simp] noncomputable def F6_r5 : CC := .reg [⟨some 40, none, (.move (.tmp 3))⟩,
  ⟨some 41, none, (.fieldAddr 31 (.tmp 1) 1)⟩,
  ⟨some 42, none, (.load 26 (.tmp 41))⟩,
  ⟨some 43, none, (.call { callee := (.value (.func 19)), args := #[(.tmp 40), (.tmp 42)], argTypes := #[27, 38] })⟩,
  ⟨some 39, none, (.move (.tmp 43))⟩,
  ⟨some 44, none, (.extract (.tmp 39) 0)⟩,
  ⟨some 45, none, (.extract (.tmp 39) 1)⟩,
  ⟨some 10, none, (.alloc 40)⟩,
  ⟨none, none, (.store 40 (.tmp 10) (.tmp 44))⟩,
  ⟨some 11, none, (.assign (.tmp 45))⟩] [1, 3, 5, 7, 9, 11]
@[simp] noncomputable def F6_r6 : CC := .reg [⟨some 47, none, (.move (.tmp 3))⟩,
  ⟨some 48, none, (.fieldAddr 31 (.tmp 1) 2)⟩,
  ⟨some 49, none, (.load 24 (.tmp 48))⟩,
  ⟨some 50, none, (.call { callee := (.value (.func 20)), args := #[(.tmp 47), (.tmp 49)], argTypes := #[27, 24] })⟩,
  ⟨some 46, none, (.move (.tmp 50))⟩,
  ⟨some 51, none, (.extract (.tmp 46) 0)⟩,
  ⟨some 52, none, (.extract (.tmp 46) 1)⟩,
  ⟨some 12, none, (.alloc 40)⟩,
  ⟨none, none, (.store 40 (.tmp 12) (.tmp 51))⟩,
  ⟨some 13, none, (.assign (.tmp 52))⟩] [1, 3, 5, 7, 9, 11, 13]
@[simp] noncomputable def F6_r7 : CC := .reg [⟨some 53, none, (.move (.tmp 5))⟩,
  ⟨some 54, none, (.binOp .eql 41 (.tmp 53) (.const (.int .i64 11)) 41)⟩,
  ⟨some 55, none, (.move (.tmp 54))⟩,
  ⟨some 56, some (55, true), (.move (.tmp 7))⟩,
  ⟨some 57, some (55, true), (.binOp .eql 41 (.tmp 56) (.const (.int .i64 11)) 41)⟩,
  ⟨some 58, none, (.pick (.tmp 55) (.tmp 57) (.const (.bool false)))⟩,
  ⟨some 59, none, (.move (.tmp 58))⟩,
  ⟨some 60, some (59, true), (.move (.tmp 3))⟩,
  ⟨some 61, some (59, true), (.fieldAddr 31 (.tmp 1) 0)⟩,
  ⟨some 62, some (59, true), (.load 25 (.tmp 61))⟩,
  ⟨some 63, some (59, true), (.call { callee := (.value (.func 21)), args := #[(.tmp 60), (.tmp 62), (.const (.string { data := #[97, 110, 110] }))], argTypes := #[27, 37, 9] })⟩,
  ⟨some 64, some (59, true), (.unOp .not 4 (.tmp 63))⟩,
  ⟨some 65, none, (.pick (.tmp 59) (.tmp 64) (.const (.bool false)))⟩,
  ⟨some 66, none, (.move (.tmp 65))⟩,
  ⟨some 67, some (66, true), (.move (.tmp 9))⟩,
  ⟨some 68, some (66, true), (.unOp .not 4 (.tmp 67))⟩,
  ⟨some 69, none, (.pick (.tmp 66) (.tmp 68) (.const (.bool false)))⟩,
  ⟨some 70, none, (.move (.tmp 69))⟩,
  ⟨some 71, some (70, true), (.move (.tmp 11))⟩,
  ⟨some 72, some (70, true), (.unOp .not 4 (.tmp 71))⟩,
  ⟨some 73, none, (.pick (.tmp 70) (.tmp 72) (.const (.bool false)))⟩,
  ⟨some 74, none, (.move (.tmp 73))⟩,
  ⟨some 75, some (74, true), (.move (.tmp 13))⟩,
  ⟨some 76, some (74, true), (.unOp .not 4 (.tmp 75))⟩,
  ⟨some 77, none, (.pick (.tmp 74) (.tmp 76) (.const (.bool false)))⟩,
  ⟨some 78, none, (.move (.tmp 77))⟩,
  ⟨some 79, some (78, true), (.move (.tmp 3))⟩,
  ⟨some 80, some (78, true), (.fieldAddr 31 (.tmp 1) 2)⟩,
  ⟨some 81, some (78, true), (.load 24 (.tmp 80))⟩,
  ⟨some 82, some (78, true), (.buildSlice 77 1 #[(0, (.tmp 81))])⟩,
  ⟨some 83, some (78, true), (.call { callee := (.value (.func 22)), args := #[(.tmp 79), (.tmp 82)], argTypes := #[27, 77] })⟩,
  ⟨some 84, some (78, true), (.call { callee := (.builtin .len), args := #[(.tmp 83)], argTypes := #[47] })⟩,
  ⟨some 85, some (78, true), (.binOp .eql 3 (.tmp 84) (.const (.int .i64 0)) 3)⟩,
  ⟨some 86, none, (.pick (.tmp 78) (.tmp 85) (.const (.bool false)))⟩,
  ⟨some 87, none, (.move (.tmp 86))⟩,
  ⟨some 88, some (87, true), (.move (.tmp 3))⟩,
  ⟨some 89, some (87, true), (.fieldAddr 31 (.tmp 1) 3)⟩,
  ⟨some 90, some (87, true), (.load 9 (.tmp 89))⟩,
  ⟨some 91, some (87, true), (.call { callee := (.value (.func 23)), args := #[(.tmp 88), (.tmp 90)], argTypes := #[27, 9] })⟩,
  ⟨some 92, some (87, true), (.call { callee := (.builtin .len), args := #[(.tmp 91)], argTypes := #[47] })⟩,
  ⟨some 93, some (87, true), (.binOp .eql 3 (.tmp 92) (.const (.int .i64 0)) 3)⟩,
  ⟨some 94, none, (.pick (.tmp 87) (.tmp 93) (.const (.bool false)))⟩,
  ⟨some 95, none, (.move (.tmp 94))⟩,
  ⟨some 96, some (95, true), (.move (.tmp 3))⟩,
  ⟨some 97, some (95, true), (.call { callee := (.value (.func 24)), args := #[(.tmp 96), (.const (.int .i64 5))], argTypes := #[27, 2] })⟩,
  ⟨some 98, some (95, true), (.call { callee := (.builtin .len), args := #[(.tmp 97)], argTypes := #[47] })⟩,
  ⟨some 99, some (95, true), (.binOp .eql 3 (.tmp 98) (.const (.int .i64 0)) 3)⟩,
  ⟨some 100, none, (.pick (.tmp 95) (.tmp 99) (.const (.bool false)))⟩,
  ⟨some 101, none, (.move (.tmp 100))⟩,
  ⟨some 102, some (101, true), (.move (.tmp 3))⟩,
  ⟨some 103, some (101, true), (.call { callee := (.value (.func 14)), args := #[(.tmp 102)], argTypes := #[27] })⟩,
  ⟨some 104, some (101, true), (.call { callee := (.builtin .len), args := #[(.tmp 103)], argTypes := #[47] })⟩,
  ⟨some 105, some (101, true), (.binOp .eql 3 (.tmp 104) (.const (.int .i64 0)) 3)⟩,
  ⟨some 106, none, (.pick (.tmp 101) (.tmp 105) (.const (.bool false)))⟩,
  ⟨some 107, none, (.move (.tmp 106))⟩,
  ⟨some 108, some (107, true), (.call { callee := (.value (.func 13)), args := #[], argTypes := #[] })⟩,
  ⟨some 109, none, (.pick (.tmp 107) (.tmp 108) (.const (.bool false)))⟩,
  ⟨some 2, none, (.assign (.tmp 109))⟩] [2]
noncomputable def F6 : CC := (.seq F6_r0 (.seq F6_r1 (.seq F6_r2 (.seq F6_r3 (.seq F6_r4 (.seq F6_r5 (.seq F6_r6 (.seq F6_r7 .ret))))))))
noncomputable def F6_inf : Nat → RI
  | 0 => ⟨[1], [], []⟩
  | 1 => ⟨[1, 3], [], []⟩
  | 2 => ⟨[1, 3, 5], [], []⟩
  | 3 => ⟨[1, 3, 5, 7], [], []⟩
  | 4 => ⟨[1, 3, 5, 7, 9], [], []⟩
  | 5 => ⟨[1, 3, 5, 7, 9, 11], [], []⟩
  | 6 => ⟨[1, 3, 5, 7, 9, 11, 13], [], []⟩
  | 7 => ⟨[2], [], []⟩
  | _ => ⟨[], [], []⟩
noncomputable def F6_c : Code := Try.f6.body.getD .skip
theorem F6_b : Try.f6.body = some F6_c := by kernel_rfl
theorem F6_rs : Try.f6.results.toList = ([.tmp 2] : List ResultVar) := by kernel_rfl
theorem F6_n : Try.f6.ntmps = 110 := by kernel_rfl
theorem F6_ok : toCC [] 110 F6_inf F6_c = some F6 := by kernel_rfl
theorem F6_in {args : List AV} {G : Hp} {post : AV → Hp → Prop} (ha : args.all AV.plain = true) (hn : args.length ≤ 110) (h : BDs args → awp Try.prog [] F6 (AEnds Try.prog [.tmp 2] post) (initT args) G) : ACalls Try.prog 6 args G post :=
  acalls_cc Try.func6 F6_b F6_rs F6_n F6_ok mixed ha hn h

/- 7 ostiary/ostiarylaw25.BindFinds -/
@[simp] noncomputable def F7_r0 : CC := .reg [⟨some 3, none, (.box 31 (.tmp 1))⟩,
  ⟨some 4, none, (.assign (.const (.bool false)))⟩] [0, 3]
@[simp] noncomputable def F7_r1 : CC := .reg [⟨some 20, none, (.call { callee := (.value (.func 8)), args := #[], argTypes := #[] })⟩,
  ⟨some 5, none, (.assign (.tmp 20))⟩] [0, 3, 5]
@[simp] noncomputable def F7_r2 : CC := .reg [⟨some 6, none, (.assign (.const (.slice none 0 0)))⟩] [0, 3, 5, 6]
@[simp] noncomputable def F7_r3 : CC := .reg [⟨some 21, none, (.move (.tmp 0))⟩,
  ⟨some 22, none, (.call { callee := (.builtin .len), args := #[(.tmp 21)], argTypes := #[22] })⟩,
  ⟨some 23, none, (.move (.const (.int .i64 0)))⟩] [3, 5, 6, 21, 22, 23]
@[simp] noncomputable def F7_r4 : CC := .reg [⟨some 24, none, (.binOp .lss 3 (.tmp 23) (.tmp 22) 3)⟩] [3, 5, 6, 21, 22, 23, 24]
@[simp] noncomputable def F7_r5 : CC := .reg [⟨some 25, none, (.move (.tmp 23))⟩,
  ⟨some 26, none, (.indexAddr 22 (.tmp 21) (.tmp 23))⟩,
  ⟨some 27, none, (.load 33 (.tmp 26))⟩,
  ⟨some 8, none, (.alloc 33)⟩,
  ⟨some 7, none, (.assign (.tmp 25))⟩,
  ⟨none, none, (.store 33 (.tmp 8) (.tmp 27))⟩] [3, 5, 6, 7, 8, 21, 22, 23]
@[simp] noncomputable def F7_r6 : CC := .reg [⟨some 28, none, (.move (.tmp 7))⟩,
  ⟨some 29, none, (.binOp .lss 3 (.tmp 28) (.const (.int .i64 50)) 3)⟩] [3, 5, 6, 8, 21, 22, 23, 29]
@[simp] noncomputable def F7_r7 : CC := .reg [⟨some 31, none, (.move (.tmp 5))⟩,
  ⟨some 32, none, (.move (.tmp 6))⟩,
  ⟨some 33, none, (.load 33 (.tmp 8))⟩,
  ⟨some 34, none, (.call { callee := (.value (.func 10)), args := #[(.tmp 33)], argTypes := #[33] })⟩,
  ⟨some 35, none, (.call { callee := (.value (.func 9)), args := #[(.tmp 31), (.tmp 32), (.tmp 34)], argTypes := #[27, 29, 33] })⟩,
  ⟨some 30, none, (.move (.tmp 35))⟩,
  ⟨some 36, none, (.extract (.tmp 30) 0)⟩,
  ⟨some 37, none, (.extract (.tmp 30) 1)⟩,
  ⟨some 6, none, (.assign (.tmp 36))⟩] [3, 5, 6, 21, 22, 23]
@[simp] noncomputable def F7_r8 : CC := .reg [⟨some 38, none, (.binOp .add 3 (.tmp 23) (.const (.int .i64 1)) 3)⟩,
  ⟨some 23, none, (.move (.tmp 38))⟩] [3, 5, 6, 21, 22, 23]
noncomputable def F7_l0 : CC := (.seq F7_r4 (.seq (.cond (.tmp 24) .skip (.exit 0)) (.seq (.block 1 (.seq F7_r5 (.seq F7_r6 (.cond (.tmp 29) F7_r7 .skip)))) F7_r8)))
@[simp] noncomputable def F7_r9 : CC := .reg [⟨some 40, none, (.move (.tmp 5))⟩,
  ⟨some 41, none, (.load 31 (.tmp 3))⟩,
  ⟨some 42, none, (.call { callee := (.value (.func 17)), args := #[(.tmp 41)], argTypes := #[31] })⟩,
  ⟨some 43, none, (.call { callee := (.value (.func 16)), args := #[(.tmp 40), (.tmp 42)], argTypes := #[27, 40] })⟩,
  ⟨some 39, none, (.move (.tmp 43))⟩,
  ⟨some 44, none, (.extract (.tmp 39) 0)⟩,
  ⟨some 45, none, (.extract (.tmp 39) 1)⟩,
  ⟨some 9, none, (.assign (.tmp 44))⟩,
  ⟨some 10, none, (.assign (.tmp 45))⟩] [3, 5, 10]
@[simp] noncomputable def F7_r10 : CC := .reg [⟨some 46, none, (.load 31 (.tmp 3))⟩,
  ⟨some 47, none, (.call { callee := (.value (.func 25)), args := #[(.tmp 46)], argTypes := #[31] })⟩,
  ⟨some 48, none, (.unOp .not 4 (.tmp 47))⟩] [3, 5, 10, 48]
@[simp] noncomputable def F7_r11 : CC := .reg [⟨some 49, none, (.move (.tmp 10))⟩,
  ⟨some 50, none, (.binOp .eql 41 (.tmp 49) (.const (.int .i64 1)) 41)⟩,
  ⟨some 51, none, (.move (.tmp 50))⟩,
  ⟨some 52, some (51, true), (.call { callee := (.value (.func 13)), args := #[], argTypes := #[] })⟩,
  ⟨some 53, none, (.pick (.tmp 51) (.tmp 52) (.const (.bool false)))⟩,
  ⟨some 4, none, (.assign (.tmp 53))⟩] [4]
@[simp] noncomputable def F7_r12 : CC := .reg [⟨some 55, none, (.move (.tmp 5))⟩,
  ⟨some 56, none, (.fieldAddr 31 (.tmp 3) 1)⟩,
  ⟨some 57, none, (.load 26 (.tmp 56))⟩,
  ⟨some 58, none, (.call { callee := (.value (.func 19)), args := #[(.tmp 55), (.tmp 57)], argTypes := #[27, 38] })⟩,
  ⟨some 54, none, (.move (.tmp 58))⟩,
  ⟨some 59, none, (.extract (.tmp 54) 0)⟩,
  ⟨some 60, none, (.extract (.tmp 54) 1)⟩,
  ⟨some 11, none, (.alloc 40)⟩,
  ⟨none, none, (.store 40 (.tmp 11) (.tmp 59))⟩,
  ⟨some 12, none, (.assign (.tmp 60))⟩] [3, 5, 10, 11, 12]
@[simp] noncomputable def F7_r13 : CC := .reg [⟨some 62, none, (.move (.tmp 5))⟩,
  ⟨some 63, none, (.fieldAddr 31 (.tmp 3) 2)⟩,
  ⟨some 64, none, (.load 24 (.tmp 63))⟩,
  ⟨some 65, none, (.call { callee := (.value (.func 20)), args := #[(.tmp 62), (.tmp 64)], argTypes := #[27, 24] })⟩,
  ⟨some 61, none, (.move (.tmp 65))⟩,
  ⟨some 66, none, (.extract (.tmp 61) 0)⟩,
  ⟨some 67, none, (.extract (.tmp 61) 1)⟩,
  ⟨some 13, none, (.alloc 40)⟩,
  ⟨none, none, (.store 40 (.tmp 13) (.tmp 66))⟩,
  ⟨some 14, none, (.assign (.tmp 67))⟩] [3, 5, 10, 11, 12, 13, 14]
@[simp] noncomputable def F7_r14 : CC := .reg [⟨some 69, none, (.move (.tmp 5))⟩,
  ⟨some 70, none, (.fieldAddr 31 (.tmp 3) 2)⟩,
  ⟨some 71, none, (.load 24 (.tmp 70))⟩,
  ⟨some 72, none, (.fieldAddr 31 (.tmp 3) 0)⟩,
  ⟨some 73, none, (.load 25 (.tmp 72))⟩,
  ⟨some 74, none, (.fieldAddr 31 (.tmp 3) 1)⟩,
  ⟨some 75, none, (.load 26 (.tmp 74))⟩,
  ⟨some 76, none, (.call { callee := (.value (.func 11)), args := #[(.tmp 69), (.tmp 71), (.tmp 73), (.tmp 75)], argTypes := #[27, 24, 37, 38] })⟩,
  ⟨some 68, none, (.move (.tmp 76))⟩,
  ⟨some 77, none, (.extract (.tmp 68) 0)⟩,
  ⟨some 78, none, (.extract (.tmp 68) 1)⟩,
  ⟨some 15, none, (.alloc 40)⟩,
  ⟨none, none, (.store 40 (.tmp 15) (.tmp 77))⟩,
  ⟨some 16, none, (.assign (.tmp 78))⟩] [3, 5, 10, 11, 12, 13, 14, 15, 16]
@[simp] noncomputable def F7_r15 : CC := .drw [⟨0, ⟨some 79, none, (.move (.tmp 10))⟩, [], []⟩,
  ⟨1, ⟨some 80, none, (.binOp .neq 41 (.tmp 79) (.const (.int .i64 0)) 41)⟩, [], []⟩,
  ⟨2, ⟨some 81, none, (.move (.tmp 80))⟩, [], []⟩,
  ⟨3, ⟨some 82, some (81, false), (.move (.tmp 12))⟩, [], []⟩,
  ⟨4, ⟨some 83, some (81, false), (.unOp .not 4 (.tmp 82))⟩, [], []⟩,
  ⟨5, ⟨some 84, none, (.pick (.tmp 81) (.const (.bool true)) (.tmp 83))⟩, [], []⟩,
  ⟨6, ⟨some 85, none, (.move (.tmp 84))⟩, [], []⟩,
  ⟨7, ⟨some 86, some (85, false), (.move (.tmp 14))⟩, [], []⟩,
  ⟨8, ⟨some 87, some (85, false), (.unOp .not 4 (.tmp 86))⟩, [], []⟩,
  ⟨9, ⟨some 88, none, (.pick (.tmp 85) (.const (.bool true)) (.tmp 87))⟩, [], []⟩,
  ⟨10, ⟨some 89, none, (.move (.tmp 88))⟩, [], []⟩,
  ⟨11, ⟨some 90, some (89, false), (.load 40 (.tmp 11))⟩, [], []⟩,
  ⟨13, ⟨some 92, some (89, false), (.load 31 (.tmp 3))⟩, [], []⟩,
  ⟨12, ⟨some 91, some (89, false), (.call { callee := (.value (.func 26)), args := #[(.tmp 90)], argTypes := #[40] })⟩, [13], [⟨some 92, some (89, false), (.load 31 (.tmp 3))⟩]⟩,
  ⟨14, ⟨some 93, some (89, false), (.binOp .neq 31 (.tmp 91) (.tmp 92) 31)⟩, [], []⟩,
  ⟨15, ⟨some 94, none, (.pick (.tmp 89) (.const (.bool true)) (.tmp 93))⟩, [], []⟩,
  ⟨16, ⟨some 95, none, (.move (.tmp 94))⟩, [], []⟩,
  ⟨17, ⟨some 96, some (95, false), (.load 40 (.tmp 13))⟩, [], []⟩,
  ⟨19, ⟨some 98, some (95, false), (.load 31 (.tmp 3))⟩, [], []⟩,
  ⟨18, ⟨some 97, some (95, false), (.call { callee := (.value (.func 26)), args := #[(.tmp 96)], argTypes := #[40] })⟩, [19], [⟨some 98, some (95, false), (.load 31 (.tmp 3))⟩]⟩,
  ⟨20, ⟨some 99, some (95, false), (.binOp .neq 31 (.tmp 97) (.tmp 98) 31)⟩, [], []⟩,
  ⟨21, ⟨some 100, none, (.pick (.tmp 95) (.const (.bool true)) (.tmp 99))⟩, [], []⟩,
  ⟨22, ⟨some 101, none, (.move (.tmp 100))⟩, [], []⟩,
  ⟨23, ⟨some 102, some (101, false), (.load 40 (.tmp 15))⟩, [], []⟩,
  ⟨25, ⟨some 104, some (101, false), (.load 31 (.tmp 3))⟩, [], []⟩,
  ⟨24, ⟨some 103, some (101, false), (.call { callee := (.value (.func 26)), args := #[(.tmp 102)], argTypes := #[40] })⟩, [25], [⟨some 104, some (101, false), (.load 31 (.tmp 3))⟩]⟩,
  ⟨26, ⟨some 105, some (101, false), (.binOp .neq 31 (.tmp 103) (.tmp 104) 31)⟩, [], []⟩,
  ⟨27, ⟨some 106, none, (.pick (.tmp 101) (.const (.bool true)) (.tmp 105))⟩, [], []⟩,
  ⟨28, ⟨some 107, none, (.move (.tmp 106))⟩, [], []⟩,
  ⟨29, ⟨some 108, some (107, false), (.move (.tmp 16))⟩, [], []⟩,
  ⟨30, ⟨some 109, some (107, false), (.binOp .eql 41 (.tmp 108) (.const (.int .i64 0)) 41)⟩, [], []⟩,
  ⟨31, ⟨some 110, some (107, false), (.fieldAddr 31 (.tmp 3) 4)⟩, [], []⟩,
  ⟨32, ⟨some 111, some (107, false), (.load 9 (.tmp 110))⟩, [], []⟩,
  ⟨33, ⟨some 112, some (107, false), (.binOp .neq 9 (.tmp 111) (.const (.string { data := #[] })) 9)⟩, [], []⟩,
  ⟨34, ⟨some 113, some (107, false), (.binOp .neq 4 (.tmp 109) (.tmp 112) 4)⟩, [], []⟩,
  ⟨35, ⟨some 114, none, (.pick (.tmp 107) (.const (.bool true)) (.tmp 113))⟩, [], []⟩] [79, 80, 81, 82, 83, 84, 85, 86, 87, 88, 89, 90, 92, 91, 93, 94, 95, 96, 98, 97, 99, 100, 101, 102, 104, 103, 105, 106, 107, 108, 109, 110, 111, 112, 113, 114] [3, 5, 114]
@[simp] noncomputable def F7_r16 : CC := .reg [⟨some 4, none, (.assign (.const (.bool false)))⟩] [4]
@[simp] noncomputable def F7_r17 : CC := .reg [⟨some 115, none, (.move (.tmp 5))⟩,
  ⟨some 116, none, (.fieldAddr 31 (.tmp 3) 2)⟩,
  ⟨some 117, none, (.load 24 (.tmp 116))⟩,
  ⟨some 118, none, (.buildSlice 77 1 #[(0, (.tmp 117))])⟩,
  ⟨some 119, none, (.call { callee := (.value (.func 22)), args := #[(.tmp 115), (.tmp 118)], argTypes := #[27, 77] })⟩,
  ⟨some 17, none, (.assign (.tmp 119))⟩] [3, 5, 17]
@[simp] noncomputable def F7_r18 : CC := .reg [⟨some 121, none, (.move (.tmp 5))⟩,
  ⟨some 122, none, (.fieldAddr 31 (.tmp 3) 2)⟩,
  ⟨some 123, none, (.load 24 (.tmp 122))⟩,
  ⟨some 124, none, (.call { callee := (.value (.func 20)), args := #[(.tmp 121), (.tmp 123)], argTypes := #[27, 24] })⟩,
  ⟨some 120, none, (.move (.tmp 124))⟩,
  ⟨some 125, none, (.extract (.tmp 120) 0)⟩,
  ⟨some 126, none, (.extract (.tmp 120) 1)⟩,
  ⟨some 18, none, (.alloc 40)⟩,
  ⟨none, none, (.store 40 (.tmp 18) (.tmp 125))⟩,
  ⟨some 19, none, (.assign (.tmp 126))⟩] [3, 17, 19]
@[simp] noncomputable def F7_r19 : CC := .drw [⟨0, ⟨some 127, none, (.move (.tmp 17))⟩, [], []⟩,
  ⟨1, ⟨some 128, none, (.call { callee := (.builtin .len), args := #[(.tmp 127)], argTypes := #[47] })⟩, [], []⟩,
  ⟨2, ⟨some 129, none, (.binOp .eql 3 (.tmp 128) (.const (.int .i64 1)) 3)⟩, [], []⟩,
  ⟨3, ⟨some 130, none, (.move (.tmp 129))⟩, [], []⟩,
  ⟨4, ⟨some 131, some (130, true), (.move (.tmp 17))⟩, [], []⟩,
  ⟨5, ⟨some 132, some (130, true), (.indexAddr 47 (.tmp 131) (.const (.int .i64 0)))⟩, [], []⟩,
  ⟨6, ⟨some 133, some (130, true), (.load 40 (.tmp 132))⟩, [], []⟩,
  ⟨8, ⟨some 135, some (130, true), (.load 31 (.tmp 3))⟩, [], []⟩,
  ⟨7, ⟨some 134, some (130, true), (.call { callee := (.value (.func 26)), args := #[(.tmp 133)], argTypes := #[40] })⟩, [8], [⟨some 135, some (130, true), (.load 31 (.tmp 3))⟩]⟩,
  ⟨9, ⟨some 136, some (130, true), (.binOp .eql 31 (.tmp 134) (.tmp 135) 31)⟩, [], []⟩,
  ⟨10, ⟨some 137, none, (.pick (.tmp 130) (.tmp 136) (.const (.bool false)))⟩, [], []⟩,
  ⟨11, ⟨some 138, none, (.move (.tmp 137))⟩, [], []⟩,
  ⟨12, ⟨some 139, some (138, true), (.move (.tmp 19))⟩, [], []⟩,
  ⟨13, ⟨some 140, some (138, true), (.unOp .not 4 (.tmp 139))⟩, [], []⟩,
  ⟨14, ⟨some 141, none, (.pick (.tmp 138) (.tmp 140) (.const (.bool false)))⟩, [], []⟩,
  ⟨15, ⟨some 142, none, (.move (.tmp 141))⟩, [], []⟩,
  ⟨16, ⟨some 143, some (142, true), (.call { callee := (.value (.func 13)), args := #[], argTypes := #[] })⟩, [], []⟩,
  ⟨17, ⟨some 144, none, (.pick (.tmp 142) (.tmp 143) (.const (.bool false)))⟩, [], []⟩,
  ⟨18, ⟨some 4, none, (.assign (.tmp 144))⟩, [], []⟩] [127, 128, 129, 130, 131, 132, 133, 135, 134, 136, 137, 138, 139, 140, 141, 142, 143, 144, 4] [4]
noncomputable def F7 : CC := (.seq F7_r0 (.seq F7_r1 (.seq F7_r2 (.seq (.seq F7_r3 (.block 0 (.loop F7_l0))) (.seq F7_r9 (.seq (.seq F7_r10 (.cond (.tmp 48) (.seq F7_r11 .ret) .skip)) (.seq F7_r12 (.seq F7_r13 (.seq F7_r14 (.seq (.seq F7_r15 (.cond (.tmp 114) (.seq F7_r16 .ret) .skip)) (.seq F7_r17 (.seq F7_r18 (.seq F7_r19 .ret)))))))))))))
noncomputable def F7_inf : Nat → RI
  | 0 => ⟨[0, 3], [], []⟩
  | 1 => ⟨[0, 3, 5], [], []⟩
  | 2 => ⟨[0, 3, 5, 6], [], []⟩
  | 3 => ⟨[3, 5, 6, 21, 22, 23], [], []⟩
  | 4 => ⟨[3, 5, 6, 21, 22, 23, 24], [], []⟩
  | 5 => ⟨[3, 5, 6, 7, 8, 21, 22, 23], [], []⟩
  | 6 => ⟨[3, 5, 6, 8, 21, 22, 23, 29], [], []⟩
  | 7 => ⟨[3, 5, 6, 21, 22, 23], [], []⟩
  | 8 => ⟨[3, 5, 6, 21, 22, 23], [], []⟩
  | 9 => ⟨[3, 5, 10], [], []⟩
  | 10 => ⟨[3, 5, 10, 48], [], []⟩
  | 11 => ⟨[4], [], []⟩
  | 12 => ⟨[3, 5, 10, 11, 12], [], []⟩
  | 13 => ⟨[3, 5, 10, 11, 12, 13, 14], [], []⟩
  | 14 => ⟨[3, 5, 10, 11, 12, 13, 14, 15, 16], [], []⟩
  | 15 => ⟨[3, 5, 114], [0, 1, 3, 7, 15, 31, 63, 127, 255, 511, 1023, 2047, 4095, 2047, 16383, 32767, 65535, 131071, 262143, 131071, 1048575, 2097151, 4194303, 8388607, 16777215, 8388607, 67108863, 134217727, 268435455, 536870911, 1073741823, 536870911, 2684354559, 6979321855, 17179869183, 34359738367], [(0, []), (1, []), (2, []), (3, []), (4, []), (5, []), (6, []), (7, []), (8, []), (9, []), (10, []), (11, []), (13, []), (12, [13]), (14, []), (15, []), (16, []), (17, []), (19, []), (18, [19]), (20, []), (21, []), (22, []), (23, []), (25, []), (24, [25]), (26, []), (27, []), (28, []), (29, []), (30, []), (31, []), (32, []), (33, []), (34, []), (35, [])]⟩
  | 16 => ⟨[4], [], []⟩
  | 17 => ⟨[3, 5, 17], [], []⟩
  | 18 => ⟨[3, 17, 19], [], []⟩
  | 19 => ⟨[4], [0, 1, 3, 7, 15, 31, 63, 127, 15, 511, 1023, 2047, 4095, 8191, 16383, 32767, 65535, 131071, 262143], [(0, []), (1, []), (2, []), (3, []), (4, []), (5, []), (6, []), (8, []), (7, [8]), (9, []), (10, []), (11, []), (12, []), (13, []), (14, []), (15, []), (16, []), (17, []), (18, [])]⟩
  | _ => ⟨[], [], []⟩
noncomputable def F7_c : Code := Try.f7.body.getD .skip
theorem F7_b : Try.f7.body = some F7_c := by kernel_rfl
theorem F7_rs : Try.f7.results.toList = ([.tmp 4] : List ResultVar) := by kernel_rfl
theorem F7_n : Try.f7.ntmps = 145 := by kernel_rfl
theorem F7_ok : toCC [] 145 F7_inf F7_c = some F7 := by kernel_rfl
theorem F7_in {args : List AV} {G : Hp} {post : AV → Hp → Prop} (ha : args.all AV.plain = true) (hn : args.length ≤ 145) (h : BDs args → awp Try.prog [] F7 (AEnds Try.prog [.tmp 4] post) (initT args) G) : ACalls Try.prog 7 args G post :=
  acalls_cc Try.func7 F7_b F7_rs F7_n F7_ok mixed ha hn h

/- 8 ostiary/bind.New -/
@[simp] noncomputable def F8_r0 : CC := .reg [⟨some 0, none, (.assign (.const (.pointer none)))⟩] []
@[simp] noncomputable def F8_r1 : CC := .reg [⟨some 1, none, (.call { callee := (.value (.func 27)), args := #[(.const (.int .i64 64))], argTypes := #[3] })⟩,
  ⟨some 2, none, (.build 68 #[(0, (.tmp 1))])⟩,
  ⟨some 3, none, (.box 68 (.tmp 2))⟩,
  ⟨some 0, none, (.assign (.tmp 3))⟩] [0]
noncomputable def F8 : CC := (.seq F8_r0 (.seq F8_r1 .ret))
noncomputable def F8_inf : Nat → RI
  | 0 => ⟨[], [], []⟩
  | 1 => ⟨[0], [], []⟩
  | _ => ⟨[], [], []⟩
noncomputable def F8_c : Code := Try.f8.body.getD .skip
theorem F8_b : Try.f8.body = some F8_c := by kernel_rfl
theorem F8_rs : Try.f8.results.toList = ([.tmp 0] : List ResultVar) := by kernel_rfl
theorem F8_n : Try.f8.ntmps = 4 := by kernel_rfl
theorem F8_ok : toCC [3] 4 F8_inf F8_c = some F8 := by kernel_rfl
theorem F8_in {args : List AV} {G : Hp} {post : AV → Hp → Prop} (ha : args.all AV.plain = true) (hn : args.length ≤ 4) (h : BDs args → awp Try.prog [3] F8 (AEnds Try.prog [.tmp 0] post) (initT args) G) : ACalls Try.prog 8 args G post :=
  acalls_cc Try.func8 F8_b F8_rs F8_n F8_ok mixed ha hn h

/- 9 ostiary/ostiarylaw25.step -/
@[simp] noncomputable def F9_r0 : CC := .reg [⟨some 5, none, (.box 33 (.tmp 2))⟩,
  ⟨some 6, none, (.assign (.const (.slice none 0 0)))⟩,
  ⟨some 7, none, (.assign (.const (.bool false)))⟩] [0, 1, 5]
@[simp] noncomputable def F9_r1 : CC := .reg [⟨some 28, none, (.fieldAddr 33 (.tmp 5) 1)⟩,
  ⟨some 29, none, (.fieldAddr 31 (.tmp 28) 0)⟩,
  ⟨some 30, none, (.load 25 (.tmp 29))⟩,
  ⟨some 8, none, (.assign (.tmp 30))⟩] [0, 1, 5, 8]
@[simp] noncomputable def F9_r2 : CC := .reg [⟨some 31, none, (.fieldAddr 33 (.tmp 5) 0)⟩,
  ⟨some 32, none, (.load 3 (.tmp 31))⟩] [0, 1, 5, 8, 32]
@[simp] noncomputable def F9_r3 : CC := .reg [⟨some 34, none, (.binOp .eql 3 (.tmp 32) (.const (.int .i64 0)) 3)⟩,
  ⟨some 33, none, (.assign (.tmp 34))⟩] [0, 1, 5, 8, 32, 33]
@[simp] noncomputable def F9_r4 : CC := .reg [⟨some 35, none, (.binOp .eql 3 (.tmp 32) (.const (.int .i64 1)) 3)⟩,
  ⟨some 33, none, (.assign (.tmp 35))⟩] [0, 1, 5, 8, 32, 33]
@[simp] noncomputable def F9_r5 : CC := .reg [⟨some 36, none, (.binOp .eql 3 (.tmp 32) (.const (.int .i64 2)) 3)⟩,
  ⟨some 33, none, (.assign (.tmp 36))⟩] [0, 1, 5, 8, 32, 33]
@[simp] noncomputable def F9_r6 : CC := .reg [⟨some 38, none, (.move (.tmp 1))⟩,
  ⟨some 39, none, (.fieldAddr 33 (.tmp 5) 1)⟩,
  ⟨some 40, none, (.load 31 (.tmp 39))⟩,
  ⟨some 41, none, (.call { callee := (.value (.func 28)), args := #[(.tmp 38), (.tmp 40)], argTypes := #[29, 31] })⟩,
  ⟨some 37, none, (.move (.tmp 41))⟩,
  ⟨some 42, none, (.extract (.tmp 37) 0)⟩,
  ⟨some 43, none, (.extract (.tmp 37) 1)⟩,
  ⟨some 44, none, (.extract (.tmp 37) 2)⟩,
  ⟨some 9, none, (.assign (.tmp 42))⟩,
  ⟨some 10, none, (.assign (.tmp 43))⟩,
  ⟨some 11, none, (.assign (.tmp 44))⟩] [0, 5, 9, 10, 11]
@[simp] noncomputable def F9_r7 : CC := .reg [⟨some 46, none, (.move (.tmp 0))⟩,
  ⟨some 47, none, (.fieldAddr 33 (.tmp 5) 1)⟩,
  ⟨some 48, none, (.load 31 (.tmp 47))⟩,
  ⟨some 49, none, (.call { callee := (.value (.func 17)), args := #[(.tmp 48)], argTypes := #[31] })⟩,
  ⟨some 50, none, (.call { callee := (.value (.func 16)), args := #[(.tmp 46), (.tmp 49)], argTypes := #[27, 40] })⟩,
  ⟨some 45, none, (.move (.tmp 50))⟩,
  ⟨some 51, none, (.extract (.tmp 45) 0)⟩,
  ⟨some 52, none, (.extract (.tmp 45) 1)⟩,
  ⟨some 12, none, (.assign (.tmp 51))⟩,
  ⟨some 13, none, (.assign (.tmp 52))⟩] [9, 10, 11, 12, 13]
@[simp] noncomputable def F9_r8 : CC := .reg [⟨some 53, none, (.move (.tmp 9))⟩,
  ⟨some 54, none, (.move (.tmp 13))⟩,
  ⟨some 55, none, (.binOp .eql 41 (.tmp 54) (.const (.int .i64 0)) 41)⟩,
  ⟨some 56, none, (.move (.tmp 11))⟩,
  ⟨some 57, none, (.binOp .eql 4 (.tmp 55) (.tmp 56) 4)⟩,
  ⟨some 58, none, (.move (.tmp 57))⟩,
  ⟨some 59, some (58, true), (.move (.tmp 11))⟩,
  ⟨some 60, some (58, true), (.move (.tmp 59))⟩,
  ⟨some 61, some (60, false), (.move (.tmp 13))⟩,
  ⟨some 62, some (60, false), (.binOp .eql 41 (.tmp 61) (.const (.int .i64 1)) 41)⟩,
  ⟨some 63, some (58, true), (.pick (.tmp 60) (.const (.bool true)) (.tmp 62))⟩,
  ⟨some 64, none, (.pick (.tmp 58) (.tmp 63) (.const (.bool false)))⟩,
  ⟨some 65, none, (.move (.tmp 64))⟩,
  ⟨some 66, some (65, true), (.move (.tmp 12))⟩,
  ⟨some 67, some (65, true), (.call { callee := (.value (.func 30)), args := #[(.tmp 66)], argTypes := #[47] })⟩,
  ⟨some 68, some (65, true), (.move (.tmp 10))⟩,
  ⟨some 69, some (65, true), (.call { callee := (.value (.func 29)), args := #[(.tmp 67), (.tmp 68)], argTypes := #[29, 29] })⟩,
  ⟨some 70, none, (.pick (.tmp 65) (.tmp 69) (.const (.bool false)))⟩,
  ⟨some 6, none, (.assign (.tmp 53))⟩,
  ⟨some 7, none, (.assign (.tmp 70))⟩] [6, 7]
@[simp] noncomputable def F9_r9 : CC := .reg [⟨some 72, none, (.binOp .eql 3 (.tmp 32) (.const (.int .i64 3)) 3)⟩,
  ⟨some 71, none, (.assign (.tmp 72))⟩] [0, 1, 5, 8, 32, 71]
@[simp] noncomputable def F9_r10 : CC := .reg [⟨some 73, none, (.binOp .eql 3 (.tmp 32) (.const (.int .i64 4)) 3)⟩,
  ⟨some 71, none, (.assign (.tmp 73))⟩] [0, 1, 5, 8, 32, 71]
@[simp] noncomputable def F9_r11 : CC := .reg [⟨some 75, none, (.move (.tmp 1))⟩,
  ⟨some 76, none, (.fieldAddr 33 (.tmp 5) 1)⟩,
  ⟨some 77, none, (.fieldAddr 31 (.tmp 76) 0)⟩,
  ⟨some 78, none, (.load 25 (.tmp 77))⟩,
  ⟨some 79, none, (.fieldAddr 33 (.tmp 5) 1)⟩,
  ⟨some 80, none, (.fieldAddr 31 (.tmp 79) 4)⟩,
  ⟨some 81, none, (.load 9 (.tmp 80))⟩,
  ⟨some 82, none, (.call { callee := (.value (.func 31)), args := #[(.tmp 75), (.tmp 78), (.tmp 81)], argTypes := #[29, 25, 9] })⟩,
  ⟨some 74, none, (.move (.tmp 82))⟩,
  ⟨some 83, none, (.extract (.tmp 74) 0)⟩,
  ⟨some 84, none, (.extract (.tmp 74) 1)⟩,
  ⟨some 85, none, (.extract (.tmp 74) 2)⟩,
  ⟨some 15, none, (.alloc 31)⟩,
  ⟨some 14, none, (.assign (.tmp 83))⟩,
  ⟨none, none, (.store 31 (.tmp 15) (.tmp 84))⟩,
  ⟨some 16, none, (.assign (.tmp 85))⟩] [0, 1, 5, 8, 14, 16]
@[simp] noncomputable def F9_r12 : CC := .reg [⟨some 86, none, (.move (.tmp 16))⟩,
  ⟨some 87, none, (.move (.tmp 86))⟩,
  ⟨some 88, some (87, true), (.fieldAddr 33 (.tmp 5) 1)⟩,
  ⟨some 89, some (87, true), (.fieldAddr 31 (.tmp 88) 4)⟩,
  ⟨some 90, some (87, true), (.load 9 (.tmp 89))⟩,
  ⟨some 91, some (87, true), (.call { callee := (.value (.func 12)), args := #[(.tmp 90)], argTypes := #[9] })⟩,
  ⟨some 92, none, (.pick (.tmp 87) (.tmp 91) (.const (.bool false)))⟩,
  ⟨some 16, none, (.assign (.tmp 92))⟩] [0, 1, 5, 8, 14, 16]
@[simp] noncomputable def F9_r13 : CC := .reg [⟨some 93, none, (.move (.tmp 16))⟩,
  ⟨some 94, none, (.unOp .not 4 (.tmp 93))⟩] [0, 1, 5, 8, 14, 16, 94]
@[simp] noncomputable def F9_r14 : CC := .reg [⟨some 95, none, (.move (.tmp 1))⟩,
  ⟨some 14, none, (.assign (.tmp 95))⟩] [0, 5, 8, 14, 16]
@[simp] noncomputable def F9_r15 : CC := .reg [⟨some 96, none, (.move (.tmp 14))⟩,
  ⟨some 97, none, (.move (.tmp 0))⟩,
  ⟨some 98, none, (.move (.tmp 8))⟩,
  ⟨some 99, none, (.fieldAddr 33 (.tmp 5) 1)⟩,
  ⟨some 100, none, (.fieldAddr 31 (.tmp 99) 4)⟩,
  ⟨some 101, none, (.load 9 (.tmp 100))⟩,
  ⟨some 102, none, (.call { callee := (.value (.func 21)), args := #[(.tmp 97), (.tmp 98), (.tmp 101)], argTypes := #[27, 37, 9] })⟩,
  ⟨some 103, none, (.move (.tmp 16))⟩,
  ⟨some 104, none, (.binOp .eql 4 (.tmp 102) (.tmp 103) 4)⟩,
  ⟨some 6, none, (.assign (.tmp 96))⟩,
  ⟨some 7, none, (.assign (.tmp 104))⟩] [6, 7]
@[simp] noncomputable def F9_r16 : CC := .reg [⟨some 106, none, (.binOp .eql 3 (.tmp 32) (.const (.int .i64 5)) 3)⟩,
  ⟨some 105, none, (.assign (.tmp 106))⟩] [0, 1, 5, 8, 32, 105]
@[simp] noncomputable def F9_r17 : CC := .reg [⟨some 108, none, (.move (.tmp 1))⟩,
  ⟨some 109, none, (.fieldAddr 33 (.tmp 5) 1)⟩,
  ⟨some 110, none, (.fieldAddr 31 (.tmp 109) 0)⟩,
  ⟨some 111, none, (.load 25 (.tmp 110))⟩,
  ⟨some 112, none, (.call { callee := (.value (.func 31)), args := #[(.tmp 108), (.tmp 111), (.const (.string { data := #[] }))], argTypes := #[29, 25, 9] })⟩,
  ⟨some 107, none, (.move (.tmp 112))⟩,
  ⟨some 113, none, (.extract (.tmp 107) 0)⟩,
  ⟨some 114, none, (.extract (.tmp 107) 1)⟩,
  ⟨some 115, none, (.extract (.tmp 107) 2)⟩,
  ⟨some 18, none, (.alloc 31)⟩,
  ⟨some 17, none, (.assign (.tmp 113))⟩,
  ⟨none, none, (.store 31 (.tmp 18) (.tmp 114))⟩,
  ⟨some 19, none, (.assign (.tmp 115))⟩] [0, 8, 17, 18, 19]
@[simp] noncomputable def F9_r18 : CC := .reg [⟨some 117, none, (.move (.tmp 0))⟩,
  ⟨some 118, none, (.move (.tmp 8))⟩,
  ⟨some 119, none, (.call { callee := (.value (.func 18)), args := #[(.tmp 117), (.tmp 118)], argTypes := #[27, 37] })⟩,
  ⟨some 116, none, (.move (.tmp 119))⟩,
  ⟨some 120, none, (.extract (.tmp 116) 0)⟩,
  ⟨some 121, none, (.extract (.tmp 116) 1)⟩,
  ⟨some 20, none, (.alloc 40)⟩,
  ⟨none, none, (.store 40 (.tmp 20) (.tmp 120))⟩,
  ⟨some 21, none, (.assign (.tmp 121))⟩] [17, 18, 19, 20, 21]
@[simp] noncomputable def F9_r19 : CC := .reg [⟨some 122, none, (.move (.tmp 19))⟩,
  ⟨some 123, none, (.unOp .not 4 (.tmp 122))⟩,
  ⟨some 124, none, (.move (.tmp 123))⟩,
  ⟨some 125, some (124, false), (.fieldAddr 31 (.tmp 18) 4)⟩,
  ⟨some 126, some (124, false), (.load 9 (.tmp 125))⟩,
  ⟨some 127, some (124, false), (.binOp .eql 9 (.tmp 126) (.const (.string { data := #[] })) 9)⟩,
  ⟨some 128, none, (.pick (.tmp 124) (.const (.bool true)) (.tmp 127))⟩] [17, 18, 20, 21, 128]
@[simp] noncomputable def F9_r20 : CC := .drw [⟨0, ⟨some 129, none, (.move (.tmp 17))⟩, [], []⟩,
  ⟨1, ⟨some 130, none, (.move (.tmp 21))⟩, [], []⟩,
  ⟨2, ⟨some 131, none, (.unOp .not 4 (.tmp 130))⟩, [], []⟩,
  ⟨3, ⟨some 132, none, (.move (.tmp 131))⟩, [], []⟩,
  ⟨4, ⟨some 133, some (132, true), (.load 40 (.tmp 20))⟩, [], []⟩,
  ⟨6, ⟨some 135, some (132, true), (.build 31 #[])⟩, [], []⟩,
  ⟨5, ⟨some 134, some (132, true), (.call { callee := (.value (.func 26)), args := #[(.tmp 133)], argTypes := #[40] })⟩, [], []⟩,
  ⟨7, ⟨some 136, some (132, true), (.binOp .eql 31 (.tmp 134) (.tmp 135) 31)⟩, [], []⟩,
  ⟨8, ⟨some 137, none, (.pick (.tmp 132) (.tmp 136) (.const (.bool false)))⟩, [], []⟩,
  ⟨9, ⟨some 6, none, (.assign (.tmp 129))⟩, [], []⟩,
  ⟨10, ⟨some 7, none, (.assign (.tmp 137))⟩, [], []⟩] [129, 130, 131, 132, 133, 135, 134, 136, 137, 6, 7] [6, 7]
@[simp] noncomputable def F9_r21 : CC := .drw [⟨0, ⟨some 138, none, (.move (.tmp 17))⟩, [], []⟩,
  ⟨1, ⟨some 139, none, (.move (.tmp 21))⟩, [], []⟩,
  ⟨2, ⟨some 140, none, (.move (.tmp 139))⟩, [], []⟩,
  ⟨3, ⟨some 141, some (140, true), (.load 40 (.tmp 20))⟩, [], []⟩,
  ⟨5, ⟨some 143, some (140, true), (.load 31 (.tmp 18))⟩, [], []⟩,
  ⟨4, ⟨some 142, some (140, true), (.call { callee := (.value (.func 26)), args := #[(.tmp 141)], argTypes := #[40] })⟩, [5], [⟨some 143, some (140, true), (.load 31 (.tmp 18))⟩]⟩,
  ⟨6, ⟨some 144, some (140, true), (.binOp .eql 31 (.tmp 142) (.tmp 143) 31)⟩, [], []⟩,
  ⟨7, ⟨some 145, none, (.pick (.tmp 140) (.tmp 144) (.const (.bool false)))⟩, [], []⟩,
  ⟨8, ⟨some 6, none, (.assign (.tmp 138))⟩, [], []⟩,
  ⟨9, ⟨some 7, none, (.assign (.tmp 145))⟩, [], []⟩] [138, 139, 140, 141, 143, 142, 144, 145, 6, 7] [6, 7]
@[simp] noncomputable def F9_r22 : CC := .reg [⟨some 147, none, (.binOp .eql 3 (.tmp 32) (.const (.int .i64 6)) 3)⟩,
  ⟨some 146, none, (.assign (.tmp 147))⟩] [0, 1, 5, 32, 146]
@[simp] noncomputable def F9_r23 : CC := .reg [⟨some 149, none, (.move (.tmp 1))⟩,
  ⟨some 150, none, (.fieldAddr 33 (.tmp 5) 1)⟩,
  ⟨some 151, none, (.load 31 (.tmp 150))⟩,
  ⟨some 152, none, (.fieldAddr 33 (.tmp 5) 1)⟩,
  ⟨some 153, none, (.fieldAddr 31 (.tmp 152) 2)⟩,
  ⟨some 154, none, (.load 24 (.tmp 153))⟩,
  ⟨some 155, none, (.fieldAddr 33 (.tmp 5) 2)⟩,
  ⟨some 156, none, (.load 24 (.tmp 155))⟩,
  ⟨some 157, none, (.buildSlice 77 2 #[(0, (.tmp 154)), (1, (.tmp 156))])⟩,
  ⟨some 158, none, (.call { callee := (.value (.func 32)), args := #[(.tmp 149), (.const (.int .i64 1)), (.tmp 151), (.tmp 157), (.const (.string { data := #[] })), (.const (.int .i64 0))], argTypes := #[29, 3, 31, 77, 9, 2] })⟩,
  ⟨some 148, none, (.move (.tmp 158))⟩,
  ⟨some 159, none, (.extract (.tmp 148) 0)⟩,
  ⟨some 160, none, (.extract (.tmp 148) 1)⟩,
  ⟨some 22, none, (.assign (.tmp 159))⟩,
  ⟨some 23, none, (.assign (.tmp 160))⟩] [0, 5, 22, 23]
@[simp] noncomputable def F9_r24 : CC := .reg [⟨some 161, none, (.move (.tmp 23))⟩,
  ⟨some 162, none, (.move (.tmp 0))⟩,
  ⟨some 163, none, (.fieldAddr 33 (.tmp 5) 1)⟩,
  ⟨some 164, none, (.fieldAddr 31 (.tmp 163) 2)⟩,
  ⟨some 165, none, (.load 24 (.tmp 164))⟩,
  ⟨some 166, none, (.fieldAddr 33 (.tmp 5) 2)⟩,
  ⟨some 167, none, (.load 24 (.tmp 166))⟩,
  ⟨some 168, none, (.buildSlice 77 2 #[(0, (.tmp 165)), (1, (.tmp 167))])⟩,
  ⟨some 169, none, (.call { callee := (.value (.func 22)), args := #[(.tmp 162), (.tmp 168)], argTypes := #[27, 77] })⟩,
  ⟨some 170, none, (.call { callee := (.value (.func 30)), args := #[(.tmp 169)], argTypes := #[47] })⟩,
  ⟨some 171, none, (.move (.tmp 22))⟩,
  ⟨some 172, none, (.call { callee := (.value (.func 29)), args := #[(.tmp 170), (.tmp 171)], argTypes := #[29, 29] })⟩,
  ⟨some 6, none, (.assign (.tmp 161))⟩,
  ⟨some 7, none, (.assign (.tmp 172))⟩] [6, 7]
@[simp] noncomputable def F9_r25 : CC := .reg [⟨some 174, none, (.binOp .eql 3 (.tmp 32) (.const (.int .i64 7)) 3)⟩,
  ⟨some 173, none, (.assign (.tmp 174))⟩] [0, 1, 5, 32, 173]
@[simp] noncomputable def F9_r26 : CC := .reg [⟨some 176, none, (.move (.tmp 1))⟩,
  ⟨some 177, none, (.fieldAddr 33 (.tmp 5) 3)⟩,
  ⟨some 178, none, (.load 9 (.tmp 177))⟩,
  ⟨some 179, none, (.call { callee := (.value (.func 33)), args := #[(.tmp 176), (.tmp 178)], argTypes := #[29, 9] })⟩,
  ⟨some 175, none, (.move (.tmp 179))⟩,
  ⟨some 180, none, (.extract (.tmp 175) 0)⟩,
  ⟨some 181, none, (.extract (.tmp 175) 1)⟩,
  ⟨some 24, none, (.assign (.tmp 180))⟩,
  ⟨some 25, none, (.assign (.tmp 181))⟩] [0, 5, 24, 25]
@[simp] noncomputable def F9_r27 : CC := .reg [⟨some 182, none, (.move (.tmp 24))⟩,
  ⟨some 183, none, (.move (.tmp 0))⟩,
  ⟨some 184, none, (.fieldAddr 33 (.tmp 5) 3)⟩,
  ⟨some 185, none, (.load 9 (.tmp 184))⟩,
  ⟨some 186, none, (.call { callee := (.value (.func 23)), args := #[(.tmp 183), (.tmp 185)], argTypes := #[27, 9] })⟩,
  ⟨some 187, none, (.call { callee := (.value (.func 30)), args := #[(.tmp 186)], argTypes := #[47] })⟩,
  ⟨some 188, none, (.move (.tmp 25))⟩,
  ⟨some 189, none, (.call { callee := (.value (.func 29)), args := #[(.tmp 187), (.tmp 188)], argTypes := #[29, 29] })⟩,
  ⟨some 6, none, (.assign (.tmp 182))⟩,
  ⟨some 7, none, (.assign (.tmp 189))⟩] [6, 7]
@[simp] noncomputable def F9_r28 : CC := .reg [⟨some 191, none, (.binOp .eql 3 (.tmp 32) (.const (.int .i64 8)) 3)⟩,
  ⟨some 190, none, (.assign (.tmp 191))⟩] [0, 1, 5, 190]
@[simp] noncomputable def F9_r29 : CC := .reg [⟨some 193, none, (.move (.tmp 1))⟩,
  ⟨some 194, none, (.fieldAddr 33 (.tmp 5) 1)⟩,
  ⟨some 195, none, (.load 31 (.tmp 194))⟩,
  ⟨some 196, none, (.fieldAddr 33 (.tmp 5) 4)⟩,
  ⟨some 197, none, (.load 2 (.tmp 196))⟩,
  ⟨some 198, none, (.call { callee := (.value (.func 32)), args := #[(.tmp 193), (.const (.int .i64 3)), (.tmp 195), (.const (.slice none 0 0)), (.const (.string { data := #[] })), (.tmp 197)], argTypes := #[29, 3, 31, 77, 9, 2] })⟩,
  ⟨some 192, none, (.move (.tmp 198))⟩,
  ⟨some 199, none, (.extract (.tmp 192) 0)⟩,
  ⟨some 200, none, (.extract (.tmp 192) 1)⟩,
  ⟨some 26, none, (.assign (.tmp 199))⟩,
  ⟨some 27, none, (.assign (.tmp 200))⟩] [0, 5, 26, 27]
@[simp] noncomputable def F9_r30 : CC := .reg [⟨some 201, none, (.move (.tmp 27))⟩,
  ⟨some 202, none, (.move (.tmp 0))⟩,
  ⟨some 203, none, (.fieldAddr 33 (.tmp 5) 4)⟩,
  ⟨some 204, none, (.load 2 (.tmp 203))⟩,
  ⟨some 205, none, (.call { callee := (.value (.func 24)), args := #[(.tmp 202), (.tmp 204)], argTypes := #[27, 2] })⟩,
  ⟨some 206, none, (.call { callee := (.value (.func 30)), args := #[(.tmp 205)], argTypes := #[47] })⟩,
  ⟨some 207, none, (.move (.tmp 26))⟩,
  ⟨some 208, none, (.call { callee := (.value (.func 29)), args := #[(.tmp 206), (.tmp 207)], argTypes := #[29, 29] })⟩,
  ⟨some 6, none, (.assign (.tmp 201))⟩,
  ⟨some 7, none, (.assign (.tmp 208))⟩] [6, 7]
@[simp] noncomputable def F9_r31 : CC := .reg [⟨some 209, none, (.move (.tmp 1))⟩,
  ⟨some 6, none, (.assign (.tmp 209))⟩,
  ⟨some 7, none, (.assign (.const (.bool true)))⟩] [6, 7]
noncomputable def F9 : CC := (.seq F9_r0 (.seq F9_r1 (.seq (.seq F9_r2 (.block 0 (.seq (.seq F9_r3 (.cond (.tmp 33) .skip (.seq F9_r4 (.cond (.tmp 33) .skip F9_r5)))) (.cond (.tmp 33) (.seq F9_r6 (.seq F9_r7 (.seq F9_r8 .ret))) (.seq (.seq F9_r9 (.cond (.tmp 71) .skip F9_r10)) (.cond (.tmp 71) (.seq F9_r11 (.seq F9_r12 (.seq (.seq F9_r13 (.cond (.tmp 94) F9_r14 .skip)) (.seq F9_r15 .ret)))) (.seq F9_r16 (.cond (.tmp 105) (.seq F9_r17 (.seq F9_r18 (.seq (.seq F9_r19 (.cond (.tmp 128) (.seq F9_r20 .ret) .skip)) (.seq F9_r21 .ret)))) (.seq F9_r22 (.cond (.tmp 146) (.seq F9_r23 (.seq F9_r24 .ret)) (.seq F9_r25 (.cond (.tmp 173) (.seq F9_r26 (.seq F9_r27 .ret)) (.seq F9_r28 (.cond (.tmp 190) (.seq F9_r29 (.seq F9_r30 .ret)) .skip)))))))))))))) (.seq F9_r31 .ret))))
noncomputable def F9_inf : Nat → RI
  | 0 => ⟨[0, 1, 5], [], []⟩
  | 1 => ⟨[0, 1, 5, 8], [], []⟩
  | 2 => ⟨[0, 1, 5, 8, 32], [], []⟩
  | 3 => ⟨[0, 1, 5, 8, 32, 33], [], []⟩
  | 4 => ⟨[0, 1, 5, 8, 32, 33], [], []⟩
  | 5 => ⟨[0, 1, 5, 8, 32, 33], [], []⟩
  | 6 => ⟨[0, 5, 9, 10, 11], [], []⟩
  | 7 => ⟨[9, 10, 11, 12, 13], [], []⟩
  | 8 => ⟨[6, 7], [], []⟩
  | 9 => ⟨[0, 1, 5, 8, 32, 71], [], []⟩
  | 10 => ⟨[0, 1, 5, 8, 32, 71], [], []⟩
  | 11 => ⟨[0, 1, 5, 8, 14, 16], [], []⟩
  | 12 => ⟨[0, 1, 5, 8, 14, 16], [], []⟩
  | 13 => ⟨[0, 1, 5, 8, 14, 16, 94], [], []⟩
  | 14 => ⟨[0, 5, 8, 14, 16], [], []⟩
  | 15 => ⟨[6, 7], [], []⟩
  | 16 => ⟨[0, 1, 5, 8, 32, 105], [], []⟩
  | 17 => ⟨[0, 8, 17, 18, 19], [], []⟩
  | 18 => ⟨[17, 18, 19, 20, 21], [], []⟩
  | 19 => ⟨[17, 18, 20, 21, 128], [], []⟩
  | 20 => ⟨[6, 7], [0, 0, 2, 6, 14, 30, 14, 126, 254, 63, 1023], [(0, []), (1, []), (2, []), (3, []), (4, []), (6, []), (5, []), (7, []), (8, []), (9, []), (10, [])]⟩
  | 21 => ⟨[6, 7], [0, 0, 2, 6, 14, 6, 62, 126, 31, 511], [(0, []), (1, []), (2, []), (3, []), (5, []), (4, [5]), (6, []), (7, []), (8, []), (9, [])]⟩
  | 22 => ⟨[0, 1, 5, 32, 146], [], []⟩
  | 23 => ⟨[0, 5, 22, 23], [], []⟩
  | 24 => ⟨[6, 7], [], []⟩
  | 25 => ⟨[0, 1, 5, 32, 173], [], []⟩
  | 26 => ⟨[0, 5, 24, 25], [], []⟩
  | 27 => ⟨[6, 7], [], []⟩
  | 28 => ⟨[0, 1, 5, 190], [], []⟩
  | 29 => ⟨[0, 5, 26, 27], [], []⟩
  | 30 => ⟨[6, 7], [], []⟩
  | 31 => ⟨[6, 7], [], []⟩
  | _ => ⟨[], [], []⟩
noncomputable def F9_c : Code := Try.f9.body.getD .skip
theorem F9_b : Try.f9.body = some F9_c := by kernel_rfl
theorem F9_rs : Try.f9.results.toList = ([.tmp 6, .tmp 7] : List ResultVar) := by kernel_rfl
theorem F9_n : Try.f9.ntmps = 210 := by kernel_rfl
theorem F9_ok : toCC [] 210 F9_inf F9_c = some F9 := by kernel_rfl
theorem F9_in {args : List AV} {G : Hp} {post : AV → Hp → Prop} (ha : args.all AV.plain = true) (hn : args.length ≤ 210) (h : BDs args → awp Try.prog [] F9 (AEnds Try.prog [.tmp 6, .tmp 7] post) (initT args) G) : ACalls Try.prog 9 args G post :=
  acalls_cc Try.func9 F9_b F9_rs F9_n F9_ok mixed ha hn h

/- 10 ostiary/ostiarylaw25.Cut -/
@[simp] noncomputable def F10_r0 : CC := .reg [⟨some 1, none, (.box 33 (.tmp 0))⟩,
  ⟨some 2, none, (.alloc 33)⟩] [1, 2]
@[simp] noncomputable def F10_r1 : CC := .reg [⟨some 3, none, (.fieldAddr 33 (.tmp 1) 3)⟩,
  ⟨some 4, none, (.load 9 (.tmp 3))⟩,
  ⟨some 5, none, (.call { callee := (.builtin .len), args := #[(.tmp 4)], argTypes := #[9] })⟩,
  ⟨some 6, none, (.binOp .gtr 3 (.tmp 5) (.const (.int .i64 12)) 3)⟩] [1, 2, 6]
@[simp] noncomputable def F10_r2 : CC := .reg [⟨some 7, none, (.fieldAddr 33 (.tmp 1) 3)⟩,
  ⟨some 8, none, (.load 9 (.tmp 7))⟩,
  ⟨some 9, none, (.slice 9 (.tmp 8) none (some (.const (.int .i64 12))) none)⟩,
  ⟨some 10, none, (.fieldAddr 33 (.tmp 1) 3)⟩,
  ⟨none, none, (.store 9 (.tmp 10) (.tmp 9))⟩] [1, 2]
@[simp] noncomputable def F10_r3 : CC := .reg [⟨some 11, none, (.fieldAddr 33 (.tmp 1) 1)⟩,
  ⟨some 12, none, (.fieldAddr 31 (.tmp 11) 3)⟩,
  ⟨some 13, none, (.load 9 (.tmp 12))⟩,
  ⟨some 14, none, (.call { callee := (.builtin .len), args := #[(.tmp 13)], argTypes := #[9] })⟩,
  ⟨some 15, none, (.binOp .gtr 3 (.tmp 14) (.const (.int .i64 12)) 3)⟩] [1, 2, 15]
@[simp] noncomputable def F10_r4 : CC := .reg [⟨some 16, none, (.fieldAddr 33 (.tmp 1) 1)⟩,
  ⟨some 17, none, (.fieldAddr 31 (.tmp 16) 3)⟩,
  ⟨some 18, none, (.load 9 (.tmp 17))⟩,
  ⟨some 19, none, (.slice 9 (.tmp 18) none (some (.const (.int .i64 12))) none)⟩,
  ⟨some 20, none, (.fieldAddr 33 (.tmp 1) 1)⟩,
  ⟨some 21, none, (.fieldAddr 31 (.tmp 20) 3)⟩,
  ⟨none, none, (.store 9 (.tmp 21) (.tmp 19))⟩] [1, 2]
@[simp] noncomputable def F10_r5 : CC := .reg [⟨some 22, none, (.fieldAddr 33 (.tmp 1) 1)⟩,
  ⟨some 23, none, (.fieldAddr 31 (.tmp 22) 4)⟩,
  ⟨some 24, none, (.load 9 (.tmp 23))⟩,
  ⟨some 25, none, (.call { callee := (.builtin .len), args := #[(.tmp 24)], argTypes := #[9] })⟩,
  ⟨some 26, none, (.binOp .gtr 3 (.tmp 25) (.const (.int .i64 12)) 3)⟩] [1, 2, 26]
@[simp] noncomputable def F10_r6 : CC := .reg [⟨some 27, none, (.fieldAddr 33 (.tmp 1) 1)⟩,
  ⟨some 28, none, (.fieldAddr 31 (.tmp 27) 4)⟩,
  ⟨some 29, none, (.load 9 (.tmp 28))⟩,
  ⟨some 30, none, (.slice 9 (.tmp 29) none (some (.const (.int .i64 12))) none)⟩,
  ⟨some 31, none, (.fieldAddr 33 (.tmp 1) 1)⟩,
  ⟨some 32, none, (.fieldAddr 31 (.tmp 31) 4)⟩,
  ⟨none, none, (.store 9 (.tmp 32) (.tmp 30))⟩] [1, 2]
@[simp] noncomputable def F10_r7 : CC := .reg [⟨some 33, none, (.load 33 (.tmp 1))⟩,
  ⟨none, none, (.store 33 (.tmp 2) (.tmp 33))⟩] [2]
noncomputable def F10 : CC := (.seq F10_r0 (.seq (.seq F10_r1 (.cond (.tmp 6) F10_r2 .skip)) (.seq (.seq F10_r3 (.cond (.tmp 15) F10_r4 .skip)) (.seq (.seq F10_r5 (.cond (.tmp 26) F10_r6 .skip)) (.seq F10_r7 .ret)))))
noncomputable def F10_inf : Nat → RI
  | 0 => ⟨[1, 2], [], []⟩
  | 1 => ⟨[1, 2, 6], [], []⟩
  | 2 => ⟨[1, 2], [], []⟩
  | 3 => ⟨[1, 2, 15], [], []⟩
  | 4 => ⟨[1, 2], [], []⟩
  | 5 => ⟨[1, 2, 26], [], []⟩
  | 6 => ⟨[1, 2], [], []⟩
  | 7 => ⟨[2], [], []⟩
  | _ => ⟨[], [], []⟩
noncomputable def F10_c : Code := Try.f10.body.getD .skip
theorem F10_b : Try.f10.body = some F10_c := by kernel_rfl
theorem F10_rs : Try.f10.results.toList = ([.cell 2 33] : List ResultVar) := by kernel_rfl
theorem F10_n : Try.f10.ntmps = 34 := by kernel_rfl
theorem F10_ok : toCC [] 34 F10_inf F10_c = some F10 := by kernel_rfl
theorem F10_in {args : List AV} {G : Hp} {post : AV → Hp → Prop} (ha : args.all AV.plain = true) (hn : args.length ≤ 34) (h : BDs args → awp Try.prog [] F10 (AEnds Try.prog [.cell 2 33] post) (initT args) G) : ACalls Try.prog 10 args G post :=
  acalls_cc Try.func10 F10_b F10_rs F10_n F10_ok mixed ha hn h

/- 11 (*ostiary/bind.Table).Check -/
@[simp] noncomputable def F11_r0 : CC := .reg [⟨some 5, none, (.box 24 (.tmp 1))⟩,
  ⟨some 8, none, (.alloc 40)⟩,
  ⟨some 9, none, (.assign (.const (.int .i64 0)))⟩] [0, 2, 3, 5, 8]
@[simp] noncomputable def F11_r1 : CC := .reg [⟨some 12, none, (.move (.tmp 0))⟩,
  ⟨some 13, none, (.binOp .eql 27 (.tmp 12) (.const (.pointer none)) 27)⟩] [0, 2, 3, 5, 8, 13]
@[simp] noncomputable def F11_r2 : CC := .reg [⟨some 14, none, (.build 40 #[])⟩,
  ⟨none, none, (.store 40 (.tmp 8) (.tmp 14))⟩,
  ⟨some 9, none, (.assign (.const (.int .i64 11)))⟩] [8, 9]
@[simp] noncomputable def F11_r3 : CC := .reg [⟨some 16, none, (.move (.tmp 0))⟩,
  ⟨some 17, none, (.load 24 (.tmp 5))⟩,
  ⟨some 18, none, (.call { callee := (.value (.func 20)), args := #[(.tmp 16), (.tmp 17)], argTypes := #[27, 24] })⟩,
  ⟨some 15, none, (.move (.tmp 18))⟩,
  ⟨some 19, none, (.extract (.tmp 15) 0)⟩,
  ⟨some 20, none, (.extract (.tmp 15) 1)⟩,
  ⟨some 10, none, (.alloc 40)⟩,
  ⟨none, none, (.store 40 (.tmp 10) (.tmp 19))⟩,
  ⟨some 11, none, (.assign (.tmp 20))⟩] [2, 3, 8, 10, 11]
@[simp] noncomputable def F11_r4 : CC := .reg [⟨some 22, none, (.move (.tmp 11))⟩,
  ⟨some 23, none, (.unOp .not 4 (.tmp 22))⟩,
  ⟨some 21, none, (.assign (.tmp 23))⟩] [2, 3, 8, 10, 21]
@[simp] noncomputable def F11_r5 : CC := .reg [⟨some 24, none, (.build 40 #[])⟩,
  ⟨none, none, (.store 40 (.tmp 8) (.tmp 24))⟩,
  ⟨some 9, none, (.assign (.const (.int .i64 2)))⟩] [8, 9]
@[simp] noncomputable def F11_r6 : CC := .reg [⟨some 26, none, (.fieldAddr 40 (.tmp 10) 0)⟩,
  ⟨some 27, none, (.load 37 (.tmp 26))⟩,
  ⟨some 28, none, (.move (.tmp 2))⟩,
  ⟨some 29, none, (.binOp .neq 37 (.tmp 27) (.tmp 28) 37)⟩,
  ⟨some 30, none, (.move (.tmp 29))⟩,
  ⟨some 31, some (30, false), (.fieldAddr 40 (.tmp 10) 1)⟩,
  ⟨some 32, some (30, false), (.load 38 (.tmp 31))⟩,
  ⟨some 33, some (30, false), (.move (.tmp 3))⟩,
  ⟨some 34, some (30, false), (.binOp .neq 38 (.tmp 32) (.tmp 33) 38)⟩,
  ⟨some 35, none, (.pick (.tmp 30) (.const (.bool true)) (.tmp 34))⟩,
  ⟨some 25, none, (.assign (.tmp 35))⟩] [8, 10, 25]
@[simp] noncomputable def F11_r7 : CC := .reg [⟨some 36, none, (.build 40 #[])⟩,
  ⟨none, none, (.store 40 (.tmp 8) (.tmp 36))⟩,
  ⟨some 9, none, (.assign (.const (.int .i64 40)))⟩] [8, 9]
@[simp] noncomputable def F11_r8 : CC := .reg [⟨some 38, none, (.fieldAddr 40 (.tmp 10) 4)⟩,
  ⟨some 39, none, (.load 9 (.tmp 38))⟩,
  ⟨some 40, none, (.binOp .eql 9 (.tmp 39) (.const (.string { data := #[] })) 9)⟩,
  ⟨some 37, none, (.assign (.tmp 40))⟩] [8, 10, 37]
@[simp] noncomputable def F11_r9 : CC := .reg [⟨some 41, none, (.load 40 (.tmp 10))⟩,
  ⟨none, none, (.store 40 (.tmp 8) (.tmp 41))⟩,
  ⟨some 9, none, (.assign (.const (.int .i64 41)))⟩] [8, 9]
@[simp] noncomputable def F11_r10 : CC := .reg [⟨some 42, none, (.load 40 (.tmp 10))⟩,
  ⟨none, none, (.store 40 (.tmp 8) (.tmp 42))⟩,
  ⟨some 9, none, (.assign (.const (.int .i64 0)))⟩] [8, 9]
noncomputable def F11 : CC := (.seq F11_r0 (.seq (.seq F11_r1 (.cond (.tmp 13) (.seq F11_r2 .ret) .skip)) (.seq F11_r3 (.seq (.block 0 (.seq F11_r4 (.cond (.tmp 21) (.seq F11_r5 .ret) (.seq F11_r6 (.cond (.tmp 25) (.seq F11_r7 .ret) (.seq F11_r8 (.cond (.tmp 37) (.seq F11_r9 .ret) .skip))))))) (.seq F11_r10 .ret)))))
noncomputable def F11_inf : Nat → RI
  | 0 => ⟨[0, 2, 3, 5, 8], [], []⟩
  | 1 => ⟨[0, 2, 3, 5, 8, 13], [], []⟩
  | 2 => ⟨[8, 9], [], []⟩
  | 3 => ⟨[2, 3, 8, 10, 11], [], []⟩
  | 4 => ⟨[2, 3, 8, 10, 21], [], []⟩
  | 5 => ⟨[8, 9], [], []⟩
  | 6 => ⟨[8, 10, 25], [], []⟩
  | 7 => ⟨[8, 9], [], []⟩
  | 8 => ⟨[8, 10, 37], [], []⟩
  | 9 => ⟨[8, 9], [], []⟩
  | 10 => ⟨[8, 9], [], []⟩
  | _ => ⟨[], [], []⟩
noncomputable def F11_c : Code := Try.f11.body.getD .skip
theorem F11_b : Try.f11.body = some F11_c := by kernel_rfl
theorem F11_rs : Try.f11.results.toList = ([.cell 8 40, .tmp 9] : List ResultVar) := by kernel_rfl
theorem F11_n : Try.f11.ntmps = 43 := by kernel_rfl
theorem F11_ok : toCC [] 43 F11_inf F11_c = some F11 := by kernel_rfl
theorem F11_in {args : List AV} {G : Hp} {post : AV → Hp → Prop} (ha : args.all AV.plain = true) (hn : args.length ≤ 43) (h : BDs args → awp Try.prog [] F11 (AEnds Try.prog [.cell 8 40, .tmp 9] post) (initT args) G) : ACalls Try.prog 11 args G post :=
  acalls_cc Try.func11 F11_b F11_rs F11_n F11_ok mixed ha hn h

/- 12 ostiary/ostiaryref07.Name -/
@[simp] noncomputable def F12_r0 : CC := .reg [⟨some 2, none, (.assign (.const (.bool false)))⟩] [0]
@[simp] noncomputable def F12_r1 : CC := .reg [⟨some 5, none, (.move (.tmp 0))⟩,
  ⟨some 6, none, (.call { callee := (.builtin .len), args := #[(.tmp 5)], argTypes := #[9] })⟩,
  ⟨some 7, none, (.binOp .lss 3 (.tmp 6) (.const (.int .i64 1)) 3)⟩,
  ⟨some 8, none, (.move (.tmp 7))⟩,
  ⟨some 9, some (8, false), (.move (.tmp 0))⟩,
  ⟨some 10, some (8, false), (.call { callee := (.builtin .len), args := #[(.tmp 9)], argTypes := #[9] })⟩,
  ⟨some 11, some (8, false), (.binOp .gtr 3 (.tmp 10) (.const (.int .i64 8)) 3)⟩,
  ⟨some 12, none, (.pick (.tmp 8) (.const (.bool true)) (.tmp 11))⟩] [0, 12]
@[simp] noncomputable def F12_r2 : CC := .reg [⟨some 2, none, (.assign (.const (.bool false)))⟩] [2]
@[simp] noncomputable def F12_r3 : CC := .reg [⟨some 3, none, (.assign (.const (.int .i64 0)))⟩] [0, 3]
@[simp] noncomputable def F12_r4 : CC := .reg [⟨some 13, none, (.move (.tmp 3))⟩,
  ⟨some 14, none, (.move (.tmp 0))⟩,
  ⟨some 15, none, (.call { callee := (.builtin .len), args := #[(.tmp 14)], argTypes := #[9] })⟩,
  ⟨some 16, none, (.binOp .lss 3 (.tmp 13) (.tmp 15) 3)⟩] [0, 3, 16]
@[simp] noncomputable def F12_r6 : CC := .reg [⟨some 19, none, (.move (.tmp 0))⟩,
  ⟨some 20, none, (.move (.tmp 3))⟩,
  ⟨some 21, none, (.index 9 (.tmp 19) (.tmp 20))⟩,
  ⟨some 4, none, (.assign (.tmp 21))⟩] [0, 3, 4]
@[simp] noncomputable def F12_r7 : CC := .reg [⟨some 22, none, (.move (.tmp 4))⟩,
  ⟨some 23, none, (.binOp .geq 5 (.tmp 22) (.const (.int .u8 97)) 5)⟩,
  ⟨some 24, none, (.move (.tmp 23))⟩,
  ⟨some 25, some (24, true), (.move (.tmp 4))⟩,
  ⟨some 26, some (24, true), (.binOp .leq 5 (.tmp 25) (.const (.int .u8 122)) 5)⟩,
  ⟨some 27, none, (.pick (.tmp 24) (.tmp 26) (.const (.bool false)))⟩,
  ⟨some 28, none, (.unOp .not 4 (.tmp 27))⟩,
  ⟨some 29, none, (.move (.tmp 28))⟩,
  ⟨some 30, some (29, true), (.move (.tmp 3))⟩,
  ⟨some 31, some (29, true), (.binOp .gtr 3 (.tmp 30) (.const (.int .i64 0)) 3)⟩,
  ⟨some 32, some (29, true), (.move (.tmp 31))⟩,
  ⟨some 33, some (32, true), (.move (.tmp 4))⟩,
  ⟨some 34, some (32, true), (.binOp .geq 5 (.tmp 33) (.const (.int .u8 48)) 5)⟩,
  ⟨some 35, some (29, true), (.pick (.tmp 32) (.tmp 34) (.const (.bool false)))⟩,
  ⟨some 36, some (29, true), (.move (.tmp 35))⟩,
  ⟨some 37, some (36, true), (.move (.tmp 4))⟩,
  ⟨some 38, some (36, true), (.binOp .leq 5 (.tmp 37) (.const (.int .u8 57)) 5)⟩,
  ⟨some 39, some (29, true), (.pick (.tmp 36) (.tmp 38) (.const (.bool false)))⟩,
  ⟨some 40, some (29, true), (.unOp .not 4 (.tmp 39))⟩,
  ⟨some 41, none, (.pick (.tmp 29) (.tmp 40) (.const (.bool false)))⟩] [0, 3, 41]
@[simp] noncomputable def F12_r8 : CC := .reg [⟨some 2, none, (.assign (.const (.bool false)))⟩] [2]
@[simp] noncomputable def F12_r5 : CC := .reg [⟨some 17, none, (.move (.tmp 3))⟩,
  ⟨some 18, none, (.binOp .add 3 (.tmp 17) (.const (.int .i64 1)) 3)⟩,
  ⟨some 3, none, (.assign (.tmp 18))⟩] [0, 3]
noncomputable def F12_l0 : CC := (.seq (.seq F12_r4 (.cond (.tmp 16) .skip (.exit 0))) (.seq (.block 1 (.seq F12_r6 (.seq F12_r7 (.cond (.tmp 41) (.seq F12_r8 .ret) .skip)))) F12_r5))
@[simp] noncomputable def F12_r9 : CC := .reg [⟨some 2, none, (.assign (.const (.bool true)))⟩] [2]
noncomputable def F12 : CC := (.seq F12_r0 (.seq (.seq F12_r1 (.cond (.tmp 12) (.seq F12_r2 .ret) .skip)) (.seq (.seq F12_r3 (.block 0 (.loop F12_l0))) (.seq F12_r9 .ret))))
noncomputable def F12_inf : Nat → RI
  | 0 => ⟨[0], [], []⟩
  | 1 => ⟨[0, 12], [], []⟩
  | 2 => ⟨[2], [], []⟩
  | 3 => ⟨[0, 3], [], []⟩
  | 4 => ⟨[0, 3, 16], [], []⟩
  | 6 => ⟨[0, 3, 4], [], []⟩
  | 7 => ⟨[0, 3, 41], [], []⟩
  | 8 => ⟨[2], [], []⟩
  | 5 => ⟨[0, 3], [], []⟩
  | 9 => ⟨[2], [], []⟩
  | _ => ⟨[], [], []⟩
noncomputable def F12_c : Code := Try.f12.body.getD .skip
theorem F12_b : Try.f12.body = some F12_c := by kernel_rfl
theorem F12_rs : Try.f12.results.toList = ([.tmp 2] : List ResultVar) := by kernel_rfl
theorem F12_n : Try.f12.ntmps = 42 := by kernel_rfl
theorem F12_ok : toCC [] 42 F12_inf F12_c = some F12 := by kernel_rfl
theorem F12_in {args : List AV} {G : Hp} {post : AV → Hp → Prop} (ha : args.all AV.plain = true) (hn : args.length ≤ 42) (h : BDs args → awp Try.prog [] F12 (AEnds Try.prog [.tmp 2] post) (initT args) G) : ACalls Try.prog 12 args G post :=
  acalls_cc Try.func12 F12_b F12_rs F12_n F12_ok mixed ha hn h

/- 13 ostiary/ostiarylaw25.awake -/
@[simp] noncomputable def F13_r0 : CC := .reg [⟨some 0, none, (.assign (.const (.bool false)))⟩] []
@[simp] noncomputable def F13_r1 : CC := .reg [⟨some 11, none, (.call { callee := (.value (.func 8)), args := #[], argTypes := #[] })⟩,
  ⟨some 1, none, (.assign (.tmp 11))⟩] [1]
@[simp] noncomputable def F13_r2 : CC := .reg [⟨some 13, none, (.move (.tmp 1))⟩,
  ⟨some 14, none, (.call { callee := (.value (.func 34)), args := #[(.const (.int .i64 1)), (.const (.int .i64 2))], argTypes := #[3, 3] })⟩,
  ⟨some 15, none, (.build 40 #[(0, (.const (.int .u64 7))), (1, (.const (.int .u32 11))), (2, (.tmp 14)), (3, (.const (.string { data := #[104, 49] })))])⟩,
  ⟨some 16, none, (.call { callee := (.value (.func 16)), args := #[(.tmp 13), (.tmp 15)], argTypes := #[27, 40] })⟩,
  ⟨some 12, none, (.move (.tmp 16))⟩,
  ⟨some 17, none, (.extract (.tmp 12) 0)⟩,
  ⟨some 18, none, (.extract (.tmp 12) 1)⟩,
  ⟨some 2, none, (.assign (.tmp 17))⟩,
  ⟨some 3, none, (.assign (.tmp 18))⟩] [1, 2, 3]
@[simp] noncomputable def F13_r3 : CC := .reg [⟨some 19, none, (.move (.tmp 1))⟩,
  ⟨some 20, none, (.call { callee := (.value (.func 21)), args := #[(.tmp 19), (.const (.int .u64 7)), (.const (.string { data := #[97, 110, 110] }))], argTypes := #[27, 37, 9] })⟩,
  ⟨some 4, none, (.assign (.tmp 20))⟩] [1, 2, 3, 4]
@[simp] noncomputable def F13_r4 : CC := .reg [⟨some 22, none, (.move (.tmp 1))⟩,
  ⟨some 23, none, (.call { callee := (.value (.func 34)), args := #[(.const (.int .i64 1)), (.const (.int .i64 2))], argTypes := #[3, 3] })⟩,
  ⟨some 24, none, (.call { callee := (.value (.func 11)), args := #[(.tmp 22), (.tmp 23), (.const (.int .u64 7)), (.const (.int .u32 11))], argTypes := #[27, 24, 37, 38] })⟩,
  ⟨some 21, none, (.move (.tmp 24))⟩,
  ⟨some 25, none, (.extract (.tmp 21) 0)⟩,
  ⟨some 26, none, (.extract (.tmp 21) 1)⟩,
  ⟨some 5, none, (.alloc 40)⟩,
  ⟨none, none, (.store 40 (.tmp 5) (.tmp 25))⟩,
  ⟨some 6, none, (.assign (.tmp 26))⟩] [1, 2, 3, 4, 5, 6]
@[simp] noncomputable def F13_r5 : CC := .reg [⟨some 28, none, (.move (.tmp 1))⟩,
  ⟨some 29, none, (.call { callee := (.value (.func 34)), args := #[(.const (.int .i64 1)), (.const (.int .i64 3))], argTypes := #[3, 3] })⟩,
  ⟨some 30, none, (.call { callee := (.value (.func 11)), args := #[(.tmp 28), (.tmp 29), (.const (.int .u64 7)), (.const (.int .u32 11))], argTypes := #[27, 24, 37, 38] })⟩,
  ⟨some 27, none, (.move (.tmp 30))⟩,
  ⟨some 31, none, (.extract (.tmp 27) 0)⟩,
  ⟨some 32, none, (.extract (.tmp 27) 1)⟩,
  ⟨some 7, none, (.alloc 40)⟩,
  ⟨none, none, (.store 40 (.tmp 7) (.tmp 31))⟩,
  ⟨some 8, none, (.assign (.tmp 32))⟩] [1, 2, 3, 4, 5, 6, 8]
@[simp] noncomputable def F13_r6 : CC := .reg [⟨some 34, none, (.move (.tmp 1))⟩,
  ⟨some 35, none, (.call { callee := (.value (.func 34)), args := #[(.const (.int .i64 1)), (.const (.int .i64 2))], argTypes := #[3, 3] })⟩,
  ⟨some 36, none, (.call { callee := (.value (.func 11)), args := #[(.tmp 34), (.tmp 35), (.const (.int .u64 8)), (.const (.int .u32 11))], argTypes := #[27, 24, 37, 38] })⟩,
  ⟨some 33, none, (.move (.tmp 36))⟩,
  ⟨some 37, none, (.extract (.tmp 33) 0)⟩,
  ⟨some 38, none, (.extract (.tmp 33) 1)⟩,
  ⟨some 9, none, (.alloc 40)⟩,
  ⟨none, none, (.store 40 (.tmp 9) (.tmp 37))⟩,
  ⟨some 10, none, (.assign (.tmp 38))⟩] [2, 3, 4, 5, 6, 8, 10]
@[simp] noncomputable def F13_r7 : CC := .reg [⟨some 39, none, (.move (.tmp 2))⟩,
  ⟨some 40, none, (.call { callee := (.builtin .len), args := #[(.tmp 39)], argTypes := #[47] })⟩,
  ⟨some 41, none, (.binOp .eql 3 (.tmp 40) (.const (.int .i64 0)) 3)⟩,
  ⟨some 42, none, (.move (.tmp 41))⟩,
  ⟨some 43, some (42, true), (.move (.tmp 3))⟩,
  ⟨some 44, some (42, true), (.binOp .eql 41 (.tmp 43) (.const (.int .i64 0)) 41)⟩,
  ⟨some 45, none, (.pick (.tmp 42) (.tmp 44) (.const (.bool false)))⟩,
  ⟨some 46, none, (.move (.tmp 45))⟩,
  ⟨some 47, some (46, true), (.move (.tmp 4))⟩,
  ⟨some 48, none, (.pick (.tmp 46) (.tmp 47) (.const (.bool false)))⟩,
  ⟨some 49, none, (.move (.tmp 48))⟩,
  ⟨some 50, some (49, true), (.fieldAddr 40 (.tmp 5) 4)⟩,
  ⟨some 51, some (49, true), (.load 9 (.tmp 50))⟩,
  ⟨some 52, some (49, true), (.binOp .eql 9 (.tmp 51) (.const (.string { data := #[97, 110, 110] })) 9)⟩,
  ⟨some 53, none, (.pick (.tmp 49) (.tmp 52) (.const (.bool false)))⟩,
  ⟨some 54, none, (.move (.tmp 53))⟩,
  ⟨some 55, some (54, true), (.move (.tmp 6))⟩,
  ⟨some 56, some (54, true), (.binOp .eql 41 (.tmp 55) (.const (.int .i64 0)) 41)⟩,
  ⟨some 57, none, (.pick (.tmp 54) (.tmp 56) (.const (.bool false)))⟩,
  ⟨some 58, none, (.move (.tmp 57))⟩,
  ⟨some 59, some (58, true), (.move (.tmp 8))⟩,
  ⟨some 60, some (58, true), (.binOp .eql 41 (.tmp 59) (.const (.int .i64 2)) 41)⟩,
  ⟨some 61, none, (.pick (.tmp 58) (.tmp 60) (.const (.bool false)))⟩,
  ⟨some 62, none, (.move (.tmp 61))⟩,
  ⟨some 63, some (62, true), (.move (.tmp 10))⟩,
  ⟨some 64, some (62, true), (.binOp .eql 41 (.tmp 63) (.const (.int .i64 40)) 41)⟩,
  ⟨some 65, none, (.pick (.tmp 62) (.tmp 64) (.const (.bool false)))⟩,
  ⟨some 0, none, (.assign (.tmp 65))⟩] [0]
noncomputable def F13 : CC := (.seq F13_r0 (.seq F13_r1 (.seq F13_r2 (.seq F13_r3 (.seq F13_r4 (.seq F13_r5 (.seq F13_r6 (.seq F13_r7 .ret))))))))
noncomputable def F13_inf : Nat → RI
  | 0 => ⟨[], [], []⟩
  | 1 => ⟨[1], [], []⟩
  | 2 => ⟨[1, 2, 3], [], []⟩
  | 3 => ⟨[1, 2, 3, 4], [], []⟩
  | 4 => ⟨[1, 2, 3, 4, 5, 6], [], []⟩
  | 5 => ⟨[1, 2, 3, 4, 5, 6, 8], [], []⟩
  | 6 => ⟨[2, 3, 4, 5, 6, 8, 10], [], []⟩
  | 7 => ⟨[0], [], []⟩
  | _ => ⟨[], [], []⟩
noncomputable def F13_c : Code := Try.f13.body.getD .skip
theorem F13_b : Try.f13.body = some F13_c := by kernel_rfl
theorem F13_rs : Try.f13.results.toList = ([.tmp 0] : List ResultVar) := by kernel_rfl
theorem F13_n : Try.f13.ntmps = 66 := by kernel_rfl
theorem F13_ok : toCC [] 66 F13_inf F13_c = some F13 := by kernel_rfl
theorem F13_in {args : List AV} {G : Hp} {post : AV → Hp → Prop} (ha : args.all AV.plain = true) (hn : args.length ≤ 66) (h : BDs args → awp Try.prog [] F13 (AEnds Try.prog [.tmp 0] post) (initT args) G) : ACalls Try.prog 13 args G post :=
  acalls_cc Try.func13 F13_b F13_rs F13_n F13_ok mixed ha hn h

/- 14 (*ostiary/bind.Table).All -/
@[simp] noncomputable def F14_r0 : CC := .reg [⟨some 2, none, (.assign (.const (.slice none 0 0)))⟩] [0]
@[simp] noncomputable def F14_r1 : CC := .reg [⟨some 3, none, (.move (.tmp 0))⟩,
  ⟨some 4, none, (.binOp .eql 27 (.tmp 3) (.const (.pointer none)) 27)⟩] [0, 4]
@[simp] noncomputable def F14_r2 : CC := .reg [⟨some 2, none, (.assign (.const (.slice none 0 0)))⟩] [2]
@[simp] noncomputable def F14_r3 : CC := .reg [⟨some 5, none, (.move (.tmp 0))⟩,
  ⟨some 6, none, (.nilCheck (.tmp 5))⟩,
  ⟨some 7, none, (.fieldAddr 68 (.tmp 6) 0)⟩,
  ⟨some 8, none, (.load 65 (.tmp 7))⟩,
  ⟨some 9, none, (.call { callee := (.value (.func 35)), args := #[(.tmp 8)], argTypes := #[65] })⟩,
  ⟨some 2, none, (.assign (.tmp 9))⟩] [2]
noncomputable def F14 : CC := (.seq F14_r0 (.seq (.seq F14_r1 (.cond (.tmp 4) (.seq F14_r2 .ret) .skip)) (.seq F14_r3 .ret)))
noncomputable def F14_inf : Nat → RI
  | 0 => ⟨[0], [], []⟩
  | 1 => ⟨[0, 4], [], []⟩
  | 2 => ⟨[2], [], []⟩
  | 3 => ⟨[2], [], []⟩
  | _ => ⟨[], [], []⟩
noncomputable def F14_c : Code := Try.f14.body.getD .skip
theorem F14_b : Try.f14.body = some F14_c := by kernel_rfl
theorem F14_rs : Try.f14.results.toList = ([.tmp 2] : List ResultVar) := by kernel_rfl
theorem F14_n : Try.f14.ntmps = 10 := by kernel_rfl
theorem F14_ok : toCC [] 10 F14_inf F14_c = some F14 := by kernel_rfl
theorem F14_in {args : List AV} {G : Hp} {post : AV → Hp → Prop} (ha : args.all AV.plain = true) (hn : args.length ≤ 10) (h : BDs args → awp Try.prog [] F14 (AEnds Try.prog [.tmp 2] post) (initT args) G) : ACalls Try.prog 14 args G post :=
  acalls_cc Try.func14 F14_b F14_rs F14_n F14_ok mixed ha hn h
end Go.Proofs.Ytmomphnkngbgjaa
