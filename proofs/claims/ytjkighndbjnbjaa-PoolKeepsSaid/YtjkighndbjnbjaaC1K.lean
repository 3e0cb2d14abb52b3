import Derived.Test.YtjkighndbjnbjaaC0K
set_option linter.unusedVariables false
set_option linter.unusedSimpArgs false
set_option maxRecDepth 100000
namespace Go.Proofs.Ytjkighndbjnbjaa
open Go Go.Al

/- 3 ostiary/ostiarylaw23.PoolApart -/
@[simp] noncomputable def F3_r0 : CC := .reg [⟨some 8, none, (.assign (.const (.bool false)))⟩] [0, 1, 2, 3]
@[simp] noncomputable def F3_r1 : CC := .reg [⟨some 22, none, (.move (.tmp 0))⟩,
  ⟨some 23, none, (.move (.tmp 1))⟩,
  ⟨some 24, none, (.move (.tmp 2))⟩,
  ⟨some 25, none, (.call { callee := (.value (.func 7)), args := #[(.tmp 22), (.tmp 23), (.tmp 24)], argTypes := #[28, 3, 2] })⟩,
  ⟨some 21, none, (.move (.tmp 25))⟩,
  ⟨some 26, none, (.extract (.tmp 21) 0)⟩,
  ⟨some 27, none, (.extract (.tmp 21) 1)⟩,
  ⟨some 9, none, (.assign (.tmp 26))⟩,
  ⟨some 10, none, (.assign (.tmp 27))⟩] [0, 1, 2, 3, 9, 10]
@[simp] noncomputable def F3_r2 : CC := .reg [⟨some 29, none, (.move (.tmp 0))⟩,
  ⟨some 30, none, (.move (.tmp 1))⟩,
  ⟨some 31, none, (.move (.tmp 2))⟩,
  ⟨some 32, none, (.call { callee := (.value (.func 8)), args := #[(.tmp 29), (.tmp 30), (.tmp 31)], argTypes := #[22, 3, 2] })⟩,
  ⟨some 28, none, (.move (.tmp 32))⟩,
  ⟨some 33, none, (.extract (.tmp 28) 0)⟩,
  ⟨some 34, none, (.extract (.tmp 28) 1)⟩,
  ⟨some 11, none, (.assign (.tmp 33))⟩,
  ⟨some 12, none, (.assign (.tmp 34))⟩] [0, 1, 3, 9, 10, 11, 12]
@[simp] noncomputable def F3_r3 : CC := .reg [⟨some 35, none, (.move (.tmp 12))⟩,
  ⟨some 36, none, (.unOp .not 4 (.tmp 35))⟩,
  ⟨some 37, none, (.move (.tmp 36))⟩,
  ⟨some 38, some (37, false), (.move (.tmp 10))⟩,
  ⟨some 39, some (37, false), (.binOp .neq 25 (.tmp 38) (.const (.int .i64 0)) 25)⟩,
  ⟨some 40, none, (.pick (.tmp 37) (.const (.bool true)) (.tmp 39))⟩] [0, 1, 3, 9, 10, 11, 12, 40]
@[simp] noncomputable def F3_r4 : CC := .reg [⟨some 41, none, (.move (.tmp 12))⟩,
  ⟨some 42, none, (.unOp .not 4 (.tmp 41))⟩,
  ⟨some 43, none, (.move (.tmp 42))⟩,
  ⟨some 44, some (43, true), (.move (.tmp 10))⟩,
  ⟨some 45, some (43, true), (.binOp .eql 25 (.tmp 44) (.const (.int .i64 1)) 25)⟩,
  ⟨some 46, none, (.pick (.tmp 43) (.tmp 45) (.const (.bool false)))⟩,
  ⟨some 47, none, (.move (.tmp 46))⟩,
  ⟨some 48, some (47, true), (.call { callee := (.value (.func 9)), args := #[], argTypes := #[] })⟩,
  ⟨some 49, none, (.pick (.tmp 47) (.tmp 48) (.const (.bool false)))⟩,
  ⟨some 8, none, (.assign (.tmp 49))⟩] [8]
@[simp] noncomputable def F3_r5 : CC := .reg [⟨some 13, none, (.assign (.const (.int .i64 0)))⟩] [0, 1, 3, 9, 11, 13]
@[simp] noncomputable def F3_r6 : CC := .reg [⟨some 50, none, (.move (.tmp 3))⟩,
  ⟨some 51, none, (.call { callee := (.builtin .len), args := #[(.tmp 50)], argTypes := #[23] })⟩,
  ⟨some 52, none, (.move (.const (.int .i64 0)))⟩] [0, 1, 9, 11, 13, 50, 51, 52]
@[simp] noncomputable def F3_r7 : CC := .reg [⟨some 53, none, (.binOp .lss 3 (.tmp 52) (.tmp 51) 3)⟩] [0, 1, 9, 11, 13, 50, 51, 52, 53]
@[simp] noncomputable def F3_r8 : CC := .reg [⟨some 54, none, (.move (.tmp 52))⟩,
  ⟨some 55, none, (.indexAddr 23 (.tmp 50) (.tmp 52))⟩,
  ⟨some 56, none, (.load 35 (.tmp 55))⟩,
  ⟨some 15, none, (.alloc 35)⟩,
  ⟨some 14, none, (.assign (.tmp 54))⟩,
  ⟨none, none, (.store 35 (.tmp 15) (.tmp 56))⟩] [0, 1, 9, 11, 13, 14, 15, 50, 51, 52]
@[simp] noncomputable def F3_r9 : CC := .reg [⟨some 57, none, (.move (.tmp 14))⟩,
  ⟨some 58, none, (.binOp .geq 3 (.tmp 57) (.const (.int .i64 40)) 3)⟩] [0, 1, 9, 11, 13, 15, 50, 51, 52, 58]
@[simp] noncomputable def F3_r10 : CC := .reg [⟨some 59, none, (.move (.tmp 13))⟩,
  ⟨some 60, none, (.fieldAddr 35 (.tmp 15) 4)⟩,
  ⟨some 61, none, (.load 3 (.tmp 60))⟩,
  ⟨some 62, none, (.binOp .and 3 (.tmp 61) (.const (.int .i64 31)) 3)⟩,
  ⟨some 63, none, (.binOp .add 2 (.tmp 59) (.tmp 62) 2)⟩,
  ⟨some 13, none, (.assign (.tmp 63))⟩] [0, 1, 9, 11, 13, 15, 50, 51, 52]
@[simp] noncomputable def F3_r11 : CC := .reg [⟨some 64, none, (.move (.tmp 9))⟩,
  ⟨some 65, none, (.move (.tmp 11))⟩,
  ⟨some 66, none, (.load 35 (.tmp 15))⟩,
  ⟨some 67, none, (.move (.tmp 13))⟩,
  ⟨some 68, none, (.call { callee := (.value (.func 10)), args := #[(.tmp 64), (.tmp 65), (.tmp 66), (.tmp 67)], argTypes := #[24, 29, 35, 2] })⟩] [0, 1, 9, 11, 13, 50, 51, 52]
@[simp] noncomputable def F3_r12 : CC := .reg [⟨some 69, none, (.move (.tmp 9))⟩,
  ⟨some 70, none, (.call { callee := (.value (.func 11)), args := #[(.tmp 69)], argTypes := #[24] })⟩,
  ⟨some 16, none, (.assign (.tmp 70))⟩] [0, 1, 9, 11, 13, 16, 50, 51, 52]
@[simp] noncomputable def F3_r13 : CC := .reg [⟨some 71, none, (.move (.tmp 16))⟩,
  ⟨some 72, none, (.call { callee := (.builtin .len), args := #[(.tmp 71)], argTypes := #[37] })⟩,
  ⟨some 73, none, (.move (.const (.int .i64 0)))⟩] [0, 1, 9, 11, 13, 16, 50, 51, 52, 71, 72, 73]
@[simp] noncomputable def F3_r14 : CC := .reg [⟨some 74, none, (.binOp .lss 3 (.tmp 73) (.tmp 72) 3)⟩] [0, 1, 9, 11, 13, 16, 50, 51, 52, 71, 72, 73, 74]
@[simp] noncomputable def F3_r15 : CC := .reg [⟨some 75, none, (.move (.tmp 73))⟩,
  ⟨some 76, none, (.indexAddr 37 (.tmp 71) (.tmp 73))⟩,
  ⟨some 77, none, (.load 41 (.tmp 76))⟩,
  ⟨some 18, none, (.alloc 41)⟩,
  ⟨some 17, none, (.assign (.tmp 75))⟩,
  ⟨none, none, (.store 41 (.tmp 18) (.tmp 77))⟩] [0, 1, 9, 11, 13, 16, 17, 18, 50, 51, 52, 71, 72, 73]
@[simp] noncomputable def F3_r16 : CC := .reg [⟨some 78, none, (.fieldAddr 41 (.tmp 18) 1)⟩,
  ⟨some 79, none, (.load 28 (.tmp 78))⟩,
  ⟨some 80, none, (.move (.tmp 0))⟩,
  ⟨some 81, none, (.binOp .leq 22 (.tmp 79) (.tmp 80) 22)⟩,
  ⟨some 82, none, (.move (.tmp 81))⟩,
  ⟨some 83, some (82, false), (.fieldAddr 41 (.tmp 18) 1)⟩,
  ⟨some 84, some (82, false), (.load 28 (.tmp 83))⟩,
  ⟨some 85, some (82, false), (.move (.tmp 0))⟩,
  ⟨some 86, some (82, false), (.binOp .sub 22 (.tmp 84) (.tmp 85) 22)⟩,
  ⟨some 87, some (82, false), (.move (.tmp 1))⟩,
  ⟨some 88, some (82, false), (.convert 3 22 (.tmp 87))⟩,
  ⟨some 89, some (82, false), (.binOp .gtr 22 (.tmp 86) (.tmp 88) 22)⟩,
  ⟨some 90, none, (.pick (.tmp 82) (.const (.bool true)) (.tmp 89))⟩] [0, 1, 9, 11, 13, 16, 17, 18, 50, 51, 52, 71, 72, 73, 90]
@[simp] noncomputable def F3_r17 : CC := .reg [⟨some 8, none, (.assign (.const (.bool false)))⟩] [8]
@[simp] noncomputable def F3_r18 : CC := .reg [⟨some 91, none, (.move (.tmp 16))⟩,
  ⟨some 92, none, (.move (.tmp 17))⟩,
  ⟨some 93, none, (.slice 37 (.tmp 91) none (some (.tmp 92)) none)⟩,
  ⟨some 94, none, (.call { callee := (.builtin .len), args := #[(.tmp 93)], argTypes := #[37] })⟩,
  ⟨some 95, none, (.move (.const (.int .i64 0)))⟩] [0, 1, 9, 11, 13, 16, 18, 50, 51, 52, 71, 72, 73, 93, 94, 95]
@[simp] noncomputable def F3_r19 : CC := .reg [⟨some 96, none, (.binOp .lss 3 (.tmp 95) (.tmp 94) 3)⟩] [0, 1, 9, 11, 13, 16, 18, 50, 51, 52, 71, 72, 73, 93, 94, 95, 96]
@[simp] noncomputable def F3_r20 : CC := .reg [⟨some 97, none, (.indexAddr 37 (.tmp 93) (.tmp 95))⟩,
  ⟨some 98, none, (.load 41 (.tmp 97))⟩,
  ⟨some 20, none, (.alloc 41)⟩,
  ⟨none, none, (.store 41 (.tmp 20) (.tmp 98))⟩] [0, 1, 9, 11, 13, 16, 18, 20, 50, 51, 52, 71, 72, 73, 93, 94, 95]
@[simp] noncomputable def F3_r21 : CC := .reg [⟨some 99, none, (.fieldAddr 41 (.tmp 18) 1)⟩,
  ⟨some 100, none, (.load 28 (.tmp 99))⟩,
  ⟨some 101, none, (.fieldAddr 41 (.tmp 20) 1)⟩,
  ⟨some 102, none, (.load 28 (.tmp 101))⟩,
  ⟨some 103, none, (.binOp .leq 28 (.tmp 100) (.tmp 102) 28)⟩,
  ⟨some 104, none, (.move (.tmp 103))⟩,
  ⟨some 105, some (104, false), (.fieldAddr 41 (.tmp 18) 0)⟩,
  ⟨some 106, some (104, false), (.load 39 (.tmp 105))⟩,
  ⟨some 107, some (104, false), (.fieldAddr 41 (.tmp 20) 0)⟩,
  ⟨some 108, some (104, false), (.load 39 (.tmp 107))⟩,
  ⟨some 109, some (104, false), (.binOp .eql 39 (.tmp 106) (.tmp 108) 39)⟩,
  ⟨some 110, none, (.pick (.tmp 104) (.const (.bool true)) (.tmp 109))⟩] [0, 1, 9, 11, 13, 16, 18, 50, 51, 52, 71, 72, 73, 93, 94, 95, 110]
@[simp] noncomputable def F3_r22 : CC := .reg [⟨some 8, none, (.assign (.const (.bool false)))⟩] [8]
@[simp] noncomputable def F3_r23 : CC := .reg [⟨some 111, none, (.binOp .add 3 (.tmp 95) (.const (.int .i64 1)) 3)⟩,
  ⟨some 95, none, (.move (.tmp 111))⟩] [0, 1, 9, 11, 13, 16, 18, 50, 51, 52, 71, 72, 73, 93, 94, 95]
noncomputable def F3_l0 : CC := (.seq F3_r19 (.seq (.cond (.tmp 96) .skip (.exit 4)) (.seq (.block 5 (.seq F3_r20 (.seq F3_r21 (.cond (.tmp 110) (.seq F3_r22 .ret) .skip)))) F3_r23)))
@[simp] noncomputable def F3_r24 : CC := .reg [⟨some 112, none, (.binOp .add 3 (.tmp 73) (.const (.int .i64 1)) 3)⟩,
  ⟨some 73, none, (.move (.tmp 112))⟩] [0, 1, 9, 11, 13, 16, 50, 51, 52, 71, 72, 73]
noncomputable def F3_l1 : CC := (.seq F3_r14 (.seq (.cond (.tmp 74) .skip (.exit 2)) (.seq (.block 3 (.seq F3_r15 (.seq (.seq F3_r16 (.cond (.tmp 90) (.seq F3_r17 .ret) .skip)) (.seq F3_r18 (.block 4 (.loop F3_l0)))))) F3_r24)))
@[simp] noncomputable def F3_r25 : CC := .reg [⟨some 113, none, (.binOp .add 3 (.tmp 52) (.const (.int .i64 1)) 3)⟩,
  ⟨some 52, none, (.move (.tmp 113))⟩] [0, 1, 9, 11, 13, 50, 51, 52]
noncomputable def F3_l2 : CC := (.seq F3_r7 (.seq (.cond (.tmp 53) .skip (.exit 0)) (.seq (.block 1 (.seq F3_r8 (.seq (.seq F3_r9 (.cond (.tmp 58) (.exit 0) .skip)) (.seq F3_r10 (.seq F3_r11 (.seq F3_r12 (.seq F3_r13 (.block 2 (.loop F3_l1))))))))) F3_r25)))
@[simp] noncomputable def F3_r26 : CC := .reg [⟨some 114, none, (.call { callee := (.value (.func 9)), args := #[], argTypes := #[] })⟩,
  ⟨some 8, none, (.assign (.tmp 114))⟩] [8]
noncomputable def F3 : CC := (.seq F3_r0 (.seq F3_r1 (.seq F3_r2 (.seq (.seq F3_r3 (.cond (.tmp 40) (.seq F3_r4 .ret) .skip)) (.seq F3_r5 (.seq (.seq F3_r6 (.block 0 (.loop F3_l2))) (.seq F3_r26 .ret)))))))
noncomputable def F3_inf : Nat → RI
  | 0 => ⟨[0, 1, 2, 3], [], []⟩
  | 1 => ⟨[0, 1, 2, 3, 9, 10], [], []⟩
  | 2 => ⟨[0, 1, 3, 9, 10, 11, 12], [], []⟩
  | 3 => ⟨[0, 1, 3, 9, 10, 11, 12, 40], [], []⟩
  | 4 => ⟨[8], [], []⟩
  | 5 => ⟨[0, 1, 3, 9, 11, 13], [], []⟩
  | 6 => ⟨[0, 1, 9, 11, 13, 50, 51, 52], [], []⟩
  | 7 => ⟨[0, 1, 9, 11, 13, 50, 51, 52, 53], [], []⟩
  | 8 => ⟨[0, 1, 9, 11, 13, 14, 15, 50, 51, 52], [], []⟩
  | 9 => ⟨[0, 1, 9, 11, 13, 15, 50, 51, 52, 58], [], []⟩
  | 10 => ⟨[0, 1, 9, 11, 13, 15, 50, 51, 52], [], []⟩
  | 11 => ⟨[0, 1, 9, 11, 13, 50, 51, 52], [], []⟩
  | 12 => ⟨[0, 1, 9, 11, 13, 16, 50, 51, 52], [], []⟩
  | 13 => ⟨[0, 1, 9, 11, 13, 16, 50, 51, 52, 71, 72, 73], [], []⟩
  | 14 => ⟨[0, 1, 9, 11, 13, 16, 50, 51, 52, 71, 72, 73, 74], [], []⟩
  | 15 => ⟨[0, 1, 9, 11, 13, 16, 17, 18, 50, 51, 52, 71, 72, 73], [], []⟩
  | 16 => ⟨[0, 1, 9, 11, 13, 16, 17, 18, 50, 51, 52, 71, 72, 73, 90], [], []⟩
  | 17 => ⟨[8], [], []⟩
  | 18 => ⟨[0, 1, 9, 11, 13, 16, 18, 50, 51, 52, 71, 72, 73, 93, 94, 95], [], []⟩
  | 19 => ⟨[0, 1, 9, 11, 13, 16, 18, 50, 51, 52, 71, 72, 73, 93, 94, 95, 96], [], []⟩
  | 20 => ⟨[0, 1, 9, 11, 13, 16, 18, 20, 50, 51, 52, 71, 72, 73, 93, 94, 95], [], []⟩
  | 21 => ⟨[0, 1, 9, 11, 13, 16, 18, 50, 51, 52, 71, 72, 73, 93, 94, 95, 110], [], []⟩
  | 22 => ⟨[8], [], []⟩
  | 23 => ⟨[0, 1, 9, 11, 13, 16, 18, 50, 51, 52, 71, 72, 73, 93, 94, 95], [], []⟩
  | 24 => ⟨[0, 1, 9, 11, 13, 16, 50, 51, 52, 71, 72, 73], [], []⟩
  | 25 => ⟨[0, 1, 9, 11, 13, 50, 51, 52], [], []⟩
  | 26 => ⟨[8], [], []⟩
  | _ => ⟨[], [], []⟩
noncomputable def F3_c : Code := Try.f3.body.getD .skip
theorem F3_b : Try.f3.body = some F3_c := by kernel_rfl
theorem F3_rs : Try.f3.results.toList = ([.tmp 8] : List ResultVar) := by kernel_rfl
theorem F3_n : Try.f3.ntmps = 115 := by kernel_rfl
theorem F3_ok : toCC [] 115 F3_inf F3_c = some F3 := by kernel_rfl
theorem F3_in {args : List AV} {G : Hp} {post : AV → Hp → Prop} (ha : args.all AV.plain = true) (hn : args.length ≤ 115) (h : BDs args → awp Try.prog [] F3 (AEnds Try.prog [.tmp 8] post) (initT args) G) : ACalls Try.prog 3 args G post :=
  acalls_cc Try.func3 F3_b F3_rs F3_n F3_ok mixed ha hn h

/- 4 ostiary/ostiarylaw23.PoolOffers -/
@[simp] noncomputable def F4_r0 : CC := .reg [⟨some 10, none, (.assign (.const (.bool false)))⟩] [0, 1, 2, 3, 4]
@[simp] noncomputable def F4_r1 : CC := .reg [⟨some 25, none, (.move (.tmp 0))⟩,
  ⟨some 26, none, (.move (.tmp 1))⟩,
  ⟨some 27, none, (.move (.tmp 2))⟩,
  ⟨some 28, none, (.call { callee := (.value (.func 7)), args := #[(.tmp 25), (.tmp 26), (.tmp 27)], argTypes := #[28, 3, 2] })⟩,
  ⟨some 24, none, (.move (.tmp 28))⟩,
  ⟨some 29, none, (.extract (.tmp 24) 0)⟩,
  ⟨some 30, none, (.extract (.tmp 24) 1)⟩,
  ⟨some 11, none, (.assign (.tmp 29))⟩,
  ⟨some 12, none, (.assign (.tmp 30))⟩] [0, 1, 2, 3, 4, 11, 12]
@[simp] noncomputable def F4_r2 : CC := .reg [⟨some 32, none, (.move (.tmp 0))⟩,
  ⟨some 33, none, (.move (.tmp 1))⟩,
  ⟨some 34, none, (.move (.tmp 2))⟩,
  ⟨some 35, none, (.call { callee := (.value (.func 8)), args := #[(.tmp 32), (.tmp 33), (.tmp 34)], argTypes := #[22, 3, 2] })⟩,
  ⟨some 31, none, (.move (.tmp 35))⟩,
  ⟨some 36, none, (.extract (.tmp 31) 0)⟩,
  ⟨some 37, none, (.extract (.tmp 31) 1)⟩,
  ⟨some 13, none, (.assign (.tmp 36))⟩,
  ⟨some 14, none, (.assign (.tmp 37))⟩] [2, 3, 4, 11, 12, 13, 14]
@[simp] noncomputable def F4_r3 : CC := .reg [⟨some 38, none, (.move (.tmp 14))⟩,
  ⟨some 39, none, (.unOp .not 4 (.tmp 38))⟩,
  ⟨some 40, none, (.move (.tmp 39))⟩,
  ⟨some 41, some (40, false), (.move (.tmp 12))⟩,
  ⟨some 42, some (40, false), (.binOp .neq 25 (.tmp 41) (.const (.int .i64 0)) 25)⟩,
  ⟨some 43, none, (.pick (.tmp 40) (.const (.bool true)) (.tmp 42))⟩] [2, 3, 4, 11, 12, 13, 14, 43]
@[simp] noncomputable def F4_r4 : CC := .reg [⟨some 44, none, (.move (.tmp 14))⟩,
  ⟨some 45, none, (.unOp .not 4 (.tmp 44))⟩,
  ⟨some 46, none, (.move (.tmp 45))⟩,
  ⟨some 47, some (46, true), (.move (.tmp 12))⟩,
  ⟨some 48, some (46, true), (.binOp .eql 25 (.tmp 47) (.const (.int .i64 1)) 25)⟩,
  ⟨some 49, none, (.pick (.tmp 46) (.tmp 48) (.const (.bool false)))⟩,
  ⟨some 50, none, (.move (.tmp 49))⟩,
  ⟨some 51, some (50, true), (.call { callee := (.value (.func 9)), args := #[], argTypes := #[] })⟩,
  ⟨some 52, none, (.pick (.tmp 50) (.tmp 51) (.const (.bool false)))⟩,
  ⟨some 10, none, (.assign (.tmp 52))⟩] [10]
@[simp] noncomputable def F4_r5 : CC := .reg [⟨some 15, none, (.assign (.const (.int .i64 0)))⟩] [2, 3, 4, 11, 13, 15]
@[simp] noncomputable def F4_r6 : CC := .reg [⟨some 53, none, (.move (.tmp 3))⟩,
  ⟨some 54, none, (.call { callee := (.builtin .len), args := #[(.tmp 53)], argTypes := #[23] })⟩,
  ⟨some 55, none, (.move (.const (.int .i64 0)))⟩] [2, 4, 11, 13, 15, 53, 54, 55]
@[simp] noncomputable def F4_r7 : CC := .reg [⟨some 56, none, (.binOp .lss 3 (.tmp 55) (.tmp 54) 3)⟩] [2, 4, 11, 13, 15, 53, 54, 55, 56]
@[simp] noncomputable def F4_r8 : CC := .reg [⟨some 57, none, (.move (.tmp 55))⟩,
  ⟨some 58, none, (.indexAddr 23 (.tmp 53) (.tmp 55))⟩,
  ⟨some 59, none, (.load 35 (.tmp 58))⟩,
  ⟨some 17, none, (.alloc 35)⟩,
  ⟨some 16, none, (.assign (.tmp 57))⟩,
  ⟨none, none, (.store 35 (.tmp 17) (.tmp 59))⟩] [2, 4, 11, 13, 15, 16, 17, 53, 54, 55]
@[simp] noncomputable def F4_r9 : CC := .reg [⟨some 60, none, (.move (.tmp 16))⟩,
  ⟨some 61, none, (.binOp .lss 3 (.tmp 60) (.const (.int .i64 40)) 3)⟩] [2, 4, 11, 13, 15, 17, 53, 54, 55, 61]
@[simp] noncomputable def F4_r10 : CC := .reg [⟨some 62, none, (.move (.tmp 15))⟩,
  ⟨some 63, none, (.fieldAddr 35 (.tmp 17) 4)⟩,
  ⟨some 64, none, (.load 3 (.tmp 63))⟩,
  ⟨some 65, none, (.binOp .and 3 (.tmp 64) (.const (.int .i64 31)) 3)⟩,
  ⟨some 66, none, (.binOp .add 2 (.tmp 62) (.tmp 65) 2)⟩,
  ⟨some 15, none, (.assign (.tmp 66))⟩] [2, 4, 11, 13, 15, 17, 53, 54, 55]
@[simp] noncomputable def F4_r11 : CC := .reg [⟨some 67, none, (.move (.tmp 11))⟩,
  ⟨some 68, none, (.move (.tmp 13))⟩,
  ⟨some 69, none, (.load 35 (.tmp 17))⟩,
  ⟨some 70, none, (.move (.tmp 15))⟩,
  ⟨some 71, none, (.call { callee := (.value (.func 10)), args := #[(.tmp 67), (.tmp 68), (.tmp 69), (.tmp 70)], argTypes := #[24, 29, 35, 2] })⟩] [2, 4, 11, 13, 15, 53, 54, 55]
@[simp] noncomputable def F4_r12 : CC := .reg [⟨some 72, none, (.binOp .add 3 (.tmp 55) (.const (.int .i64 1)) 3)⟩,
  ⟨some 55, none, (.move (.tmp 72))⟩] [2, 4, 11, 13, 15, 53, 54, 55]
noncomputable def F4_l0 : CC := (.seq F4_r7 (.seq (.cond (.tmp 56) .skip (.exit 0)) (.seq (.block 1 (.seq F4_r8 (.seq F4_r9 (.cond (.tmp 61) (.seq F4_r10 F4_r11) .skip)))) F4_r12)))
@[simp] noncomputable def F4_r13 : CC := .reg [⟨some 74, none, (.move (.tmp 11))⟩,
  ⟨some 75, none, (.move (.tmp 4))⟩,
  ⟨some 76, none, (.move (.tmp 15))⟩,
  ⟨some 77, none, (.call { callee := (.value (.func 12)), args := #[(.tmp 74), (.tmp 75), (.tmp 76)], argTypes := #[24, 39, 2] })⟩,
  ⟨some 73, none, (.move (.tmp 77))⟩,
  ⟨some 78, none, (.extract (.tmp 73) 0)⟩,
  ⟨some 79, none, (.extract (.tmp 73) 1)⟩,
  ⟨some 18, none, (.assign (.tmp 78))⟩,
  ⟨some 19, none, (.assign (.tmp 79))⟩] [2, 4, 11, 15, 18, 19]
@[simp] noncomputable def F4_r14 : CC := .reg [⟨some 80, none, (.move (.tmp 19))⟩,
  ⟨some 81, none, (.binOp .neq 25 (.tmp 80) (.const (.int .i64 0)) 25)⟩] [2, 4, 11, 15, 18, 19, 81]
@[simp] noncomputable def F4_r15 : CC := .reg [⟨some 82, none, (.move (.tmp 19))⟩,
  ⟨some 83, none, (.binOp .eql 25 (.tmp 82) (.const (.int .i64 4)) 25)⟩,
  ⟨some 84, none, (.move (.tmp 83))⟩,
  ⟨some 85, some (84, true), (.call { callee := (.value (.func 9)), args := #[], argTypes := #[] })⟩,
  ⟨some 86, none, (.pick (.tmp 84) (.tmp 85) (.const (.bool false)))⟩,
  ⟨some 10, none, (.assign (.tmp 86))⟩] [10]
@[simp] noncomputable def F4_r16 : CC := .reg [⟨some 88, none, (.move (.tmp 11))⟩,
  ⟨some 89, none, (.move (.tmp 4))⟩,
  ⟨some 90, none, (.move (.tmp 18))⟩,
  ⟨some 91, none, (.move (.tmp 15))⟩,
  ⟨some 92, none, (.call { callee := (.value (.func 13)), args := #[(.tmp 88), (.tmp 89), (.tmp 90), (.tmp 91)], argTypes := #[24, 39, 28, 2] })⟩,
  ⟨some 87, none, (.move (.tmp 92))⟩,
  ⟨some 93, none, (.extract (.tmp 87) 0)⟩,
  ⟨some 94, none, (.extract (.tmp 87) 1)⟩,
  ⟨some 20, none, (.assign (.tmp 93))⟩,
  ⟨some 21, none, (.assign (.tmp 94))⟩] [2, 4, 11, 15, 18, 20, 21]
@[simp] noncomputable def F4_r17 : CC := .reg [⟨some 96, none, (.move (.tmp 11))⟩,
  ⟨some 97, none, (.move (.tmp 4))⟩,
  ⟨some 98, none, (.call { callee := (.value (.func 14)), args := #[(.tmp 96), (.tmp 97)], argTypes := #[24, 39] })⟩,
  ⟨some 95, none, (.move (.tmp 98))⟩,
  ⟨some 99, none, (.extract (.tmp 95) 0)⟩,
  ⟨some 100, none, (.extract (.tmp 95) 1)⟩,
  ⟨some 22, none, (.alloc 41)⟩,
  ⟨none, none, (.store 41 (.tmp 22) (.tmp 99))⟩,
  ⟨some 23, none, (.assign (.tmp 100))⟩] [2, 15, 18, 20, 21, 22, 23]
@[simp] noncomputable def F4_r18 : CC := .reg [⟨some 101, none, (.move (.tmp 21))⟩,
  ⟨some 102, none, (.binOp .eql 25 (.tmp 101) (.const (.int .i64 0)) 25)⟩,
  ⟨some 103, none, (.move (.tmp 102))⟩,
  ⟨some 104, some (103, true), (.move (.tmp 20))⟩,
  ⟨some 105, some (103, true), (.move (.tmp 15))⟩,
  ⟨some 106, some (103, true), (.move (.tmp 2))⟩,
  ⟨some 107, some (103, true), (.binOp .add 2 (.tmp 105) (.tmp 106) 2)⟩,
  ⟨some 108, some (103, true), (.binOp .eql 2 (.tmp 104) (.tmp 107) 2)⟩,
  ⟨some 109, none, (.pick (.tmp 103) (.tmp 108) (.const (.bool false)))⟩,
  ⟨some 110, none, (.move (.tmp 109))⟩,
  ⟨some 111, some (110, true), (.move (.tmp 23))⟩,
  ⟨some 112, none, (.pick (.tmp 110) (.tmp 111) (.const (.bool false)))⟩,
  ⟨some 113, none, (.move (.tmp 112))⟩,
  ⟨some 114, some (113, true), (.fieldAddr 41 (.tmp 22) 1)⟩,
  ⟨some 115, some (113, true), (.load 28 (.tmp 114))⟩,
  ⟨some 116, some (113, true), (.move (.tmp 18))⟩,
  ⟨some 117, some (113, true), (.binOp .eql 28 (.tmp 115) (.tmp 116) 28)⟩,
  ⟨some 118, none, (.pick (.tmp 113) (.tmp 117) (.const (.bool false)))⟩,
  ⟨some 119, none, (.move (.tmp 118))⟩,
  ⟨some 120, some (119, true), (.fieldAddr 41 (.tmp 22) 2)⟩,
  ⟨some 121, some (119, true), (.load 2 (.tmp 120))⟩,
  ⟨some 122, some (119, true), (.move (.tmp 20))⟩,
  ⟨some 123, some (119, true), (.binOp .eql 2 (.tmp 121) (.tmp 122) 2)⟩,
  ⟨some 124, none, (.pick (.tmp 119) (.tmp 123) (.const (.bool false)))⟩,
  ⟨some 125, none, (.move (.tmp 124))⟩,
  ⟨some 126, some (125, true), (.call { callee := (.value (.func 9)), args := #[], argTypes := #[] })⟩,
  ⟨some 127, none, (.pick (.tmp 125) (.tmp 126) (.const (.bool false)))⟩,
  ⟨some 10, none, (.assign (.tmp 127))⟩] [10]
noncomputable def F4 : CC := (.seq F4_r0 (.seq F4_r1 (.seq F4_r2 (.seq (.seq F4_r3 (.cond (.tmp 43) (.seq F4_r4 .ret) .skip)) (.seq F4_r5 (.seq (.seq F4_r6 (.block 0 (.loop F4_l0))) (.seq F4_r13 (.seq (.seq F4_r14 (.cond (.tmp 81) (.seq F4_r15 .ret) .skip)) (.seq F4_r16 (.seq F4_r17 (.seq F4_r18 .ret)))))))))))
noncomputable def F4_inf : Nat → RI
  | 0 => ⟨[0, 1, 2, 3, 4], [], []⟩
  | 1 => ⟨[0, 1, 2, 3, 4, 11, 12], [], []⟩
  | 2 => ⟨[2, 3, 4, 11, 12, 13, 14], [], []⟩
  | 3 => ⟨[2, 3, 4, 11, 12, 13, 14, 43], [], []⟩
  | 4 => ⟨[10], [], []⟩
  | 5 => ⟨[2, 3, 4, 11, 13, 15], [], []⟩
  | 6 => ⟨[2, 4, 11, 13, 15, 53, 54, 55], [], []⟩
  | 7 => ⟨[2, 4, 11, 13, 15, 53, 54, 55, 56], [], []⟩
  | 8 => ⟨[2, 4, 11, 13, 15, 16, 17, 53, 54, 55], [], []⟩
  | 9 => ⟨[2, 4, 11, 13, 15, 17, 53, 54, 55, 61], [], []⟩
  | 10 => ⟨[2, 4, 11, 13, 15, 17, 53, 54, 55], [], []⟩
  | 11 => ⟨[2, 4, 11, 13, 15, 53, 54, 55], [], []⟩
  | 12 => ⟨[2, 4, 11, 13, 15, 53, 54, 55], [], []⟩
  | 13 => ⟨[2, 4, 11, 15, 18, 19], [], []⟩
  | 14 => ⟨[2, 4, 11, 15, 18, 19, 81], [], []⟩
  | 15 => ⟨[10], [], []⟩
  | 16 => ⟨[2, 4, 11, 15, 18, 20, 21], [], []⟩
  | 17 => ⟨[2, 15, 18, 20, 21, 22, 23], [], []⟩
  | 18 => ⟨[10], [], []⟩
  | _ => ⟨[], [], []⟩
noncomputable def F4_c : Code := Try.f4.body.getD .skip
theorem F4_b : Try.f4.body = some F4_c := by kernel_rfl
theorem F4_rs : Try.f4.results.toList = ([.tmp 10] : List ResultVar) := by kernel_rfl
theorem F4_n : Try.f4.ntmps = 128 := by kernel_rfl
theorem F4_ok : toCC [] 128 F4_inf F4_c = some F4 := by kernel_rfl
theorem F4_in {args : List AV} {G : Hp} {post : AV → Hp → Prop} (ha : args.all AV.plain = true) (hn : args.length ≤ 128) (h : BDs args → awp Try.prog [] F4 (AEnds Try.prog [.tmp 10] post) (initT args) G) : ACalls Try.prog 4 args G post :=
  acalls_cc Try.func4 F4_b F4_rs F4_n F4_ok mixed ha hn h

/- 5 ostiary/ostiarylaw23.PoolNil -/
@[simp] noncomputable def F5_r0 : CC := .reg [⟨some 4, none, (.assign (.const (.bool false)))⟩] [0, 1]
@[simp] noncomputable def F5_r1 : CC := .reg [⟨some 5, none, (.assign (.const (.pointer none)))⟩] [0, 1, 5]
@[simp] noncomputable def F5_r2 : CC := .reg [⟨some 17, none, (.move (.tmp 5))⟩,
  ⟨some 18, none, (.move (.tmp 0))⟩,
  ⟨some 19, none, (.call { callee := (.value (.func 12)), args := #[(.tmp 17), (.tmp 18), (.const (.int .i64 0))], argTypes := #[24, 39, 2] })⟩,
  ⟨some 16, none, (.move (.tmp 19))⟩,
  ⟨some 20, none, (.extract (.tmp 16) 0)⟩,
  ⟨some 21, none, (.extract (.tmp 16) 1)⟩,
  ⟨some 6, none, (.assign (.tmp 20))⟩,
  ⟨some 7, none, (.assign (.tmp 21))⟩] [0, 1, 5, 7]
@[simp] noncomputable def F5_r3 : CC := .reg [⟨some 23, none, (.move (.tmp 5))⟩,
  ⟨some 24, none, (.move (.tmp 0))⟩,
  ⟨some 25, none, (.move (.tmp 1))⟩,
  ⟨some 26, none, (.call { callee := (.value (.func 13)), args := #[(.tmp 23), (.tmp 24), (.tmp 25), (.const (.int .i64 0))], argTypes := #[24, 39, 28, 2] })⟩,
  ⟨some 22, none, (.move (.tmp 26))⟩,
  ⟨some 27, none, (.extract (.tmp 22) 0)⟩,
  ⟨some 28, none, (.extract (.tmp 22) 1)⟩,
  ⟨some 8, none, (.assign (.tmp 27))⟩,
  ⟨some 9, none, (.assign (.tmp 28))⟩] [0, 1, 5, 7, 9]
@[simp] noncomputable def F5_r4 : CC := .reg [⟨some 30, none, (.move (.tmp 5))⟩,
  ⟨some 31, none, (.move (.tmp 0))⟩,
  ⟨some 32, none, (.call { callee := (.value (.func 15)), args := #[(.tmp 30), (.tmp 31)], argTypes := #[24, 39] })⟩,
  ⟨some 29, none, (.move (.tmp 32))⟩,
  ⟨some 33, none, (.extract (.tmp 29) 0)⟩,
  ⟨some 34, none, (.extract (.tmp 29) 1)⟩,
  ⟨some 10, none, (.alloc 41)⟩,
  ⟨none, none, (.store 41 (.tmp 10) (.tmp 33))⟩,
  ⟨some 11, none, (.assign (.tmp 34))⟩] [0, 1, 5, 7, 9, 11]
@[simp] noncomputable def F5_r5 : CC := .reg [⟨some 36, none, (.move (.tmp 5))⟩,
  ⟨some 37, none, (.move (.tmp 0))⟩,
  ⟨some 38, none, (.call { callee := (.value (.func 14)), args := #[(.tmp 36), (.tmp 37)], argTypes := #[24, 39] })⟩,
  ⟨some 35, none, (.move (.tmp 38))⟩,
  ⟨some 39, none, (.extract (.tmp 35) 0)⟩,
  ⟨some 40, none, (.extract (.tmp 35) 1)⟩,
  ⟨some 12, none, (.alloc 41)⟩,
  ⟨none, none, (.store 41 (.tmp 12) (.tmp 39))⟩,
  ⟨some 13, none, (.assign (.tmp 40))⟩] [1, 5, 7, 9, 11, 13]
@[simp] noncomputable def F5_r6 : CC := .reg [⟨some 42, none, (.move (.tmp 5))⟩,
  ⟨some 43, none, (.move (.tmp 1))⟩,
  ⟨some 44, none, (.call { callee := (.value (.func 16)), args := #[(.tmp 42), (.tmp 43)], argTypes := #[24, 28] })⟩,
  ⟨some 41, none, (.move (.tmp 44))⟩,
  ⟨some 45, none, (.extract (.tmp 41) 0)⟩,
  ⟨some 46, none, (.extract (.tmp 41) 1)⟩,
  ⟨some 14, none, (.alloc 41)⟩,
  ⟨none, none, (.store 41 (.tmp 14) (.tmp 45))⟩,
  ⟨some 15, none, (.assign (.tmp 46))⟩] [5, 7, 9, 11, 13, 15]
@[simp] noncomputable def F5_r7 : CC := .reg [⟨some 47, none, (.move (.tmp 7))⟩,
  ⟨some 48, none, (.binOp .eql 25 (.tmp 47) (.const (.int .i64 11)) 25)⟩,
  ⟨some 49, none, (.move (.tmp 48))⟩,
  ⟨some 50, some (49, true), (.move (.tmp 9))⟩,
  ⟨some 51, some (49, true), (.binOp .eql 25 (.tmp 50) (.const (.int .i64 11)) 25)⟩,
  ⟨some 52, none, (.pick (.tmp 49) (.tmp 51) (.const (.bool false)))⟩,
  ⟨some 53, none, (.move (.tmp 52))⟩,
  ⟨some 54, some (53, true), (.move (.tmp 11))⟩,
  ⟨some 55, some (53, true), (.unOp .not 4 (.tmp 54))⟩,
  ⟨some 56, none, (.pick (.tmp 53) (.tmp 55) (.const (.bool false)))⟩,
  ⟨some 57, none, (.move (.tmp 56))⟩,
  ⟨some 58, some (57, true), (.move (.tmp 13))⟩,
  ⟨some 59, some (57, true), (.unOp .not 4 (.tmp 58))⟩,
  ⟨some 60, none, (.pick (.tmp 57) (.tmp 59) (.const (.bool false)))⟩,
  ⟨some 61, none, (.move (.tmp 60))⟩,
  ⟨some 62, some (61, true), (.move (.tmp 15))⟩,
  ⟨some 63, some (61, true), (.unOp .not 4 (.tmp 62))⟩,
  ⟨some 64, none, (.pick (.tmp 61) (.tmp 63) (.const (.bool false)))⟩,
  ⟨some 65, none, (.move (.tmp 64))⟩,
  ⟨some 66, some (65, true), (.move (.tmp 5))⟩,
  ⟨some 67, some (65, true), (.build 41 #[])⟩,
  ⟨some 68, some (65, true), (.call { callee := (.value (.func 17)), args := #[(.tmp 66), (.tmp 67)], argTypes := #[24, 41] })⟩,
  ⟨some 69, some (65, true), (.binOp .eql 25 (.tmp 68) (.const (.int .i64 11)) 25)⟩,
  ⟨some 70, none, (.pick (.tmp 65) (.tmp 69) (.const (.bool false)))⟩,
  ⟨some 71, none, (.move (.tmp 70))⟩,
  ⟨some 72, some (71, true), (.move (.tmp 5))⟩,
  ⟨some 73, some (71, true), (.call { callee := (.value (.func 18)), args := #[(.tmp 72), (.const (.int .i64 5))], argTypes := #[24, 2] })⟩,
  ⟨some 74, some (71, true), (.call { callee := (.builtin .len), args := #[(.tmp 73)], argTypes := #[37] })⟩,
  ⟨some 75, some (71, true), (.binOp .eql 3 (.tmp 74) (.const (.int .i64 0)) 3)⟩,
  ⟨some 76, none, (.pick (.tmp 71) (.tmp 75) (.const (.bool false)))⟩,
  ⟨some 77, none, (.move (.tmp 76))⟩,
  ⟨some 78, some (77, true), (.move (.tmp 5))⟩,
  ⟨some 79, some (77, true), (.call { callee := (.value (.func 11)), args := #[(.tmp 78)], argTypes := #[24] })⟩,
  ⟨some 80, some (77, true), (.call { callee := (.builtin .len), args := #[(.tmp 79)], argTypes := #[37] })⟩,
  ⟨some 81, some (77, true), (.binOp .eql 3 (.tmp 80) (.const (.int .i64 0)) 3)⟩,
  ⟨some 82, none, (.pick (.tmp 77) (.tmp 81) (.const (.bool false)))⟩,
  ⟨some 83, none, (.move (.tmp 82))⟩,
  ⟨some 84, some (83, true), (.call { callee := (.value (.func 9)), args := #[], argTypes := #[] })⟩,
  ⟨some 85, none, (.pick (.tmp 83) (.tmp 84) (.const (.bool false)))⟩,
  ⟨some 4, none, (.assign (.tmp 85))⟩] [4]
noncomputable def F5 : CC := (.seq F5_r0 (.seq F5_r1 (.seq F5_r2 (.seq F5_r3 (.seq F5_r4 (.seq F5_r5 (.seq F5_r6 (.seq F5_r7 .ret))))))))
noncomputable def F5_inf : Nat → RI
  | 0 => ⟨[0, 1], [], []⟩
  | 1 => ⟨[0, 1, 5], [], []⟩
  | 2 => ⟨[0, 1, 5, 7], [], []⟩
  | 3 => ⟨[0, 1, 5, 7, 9], [], []⟩
  | 4 => ⟨[0, 1, 5, 7, 9, 11], [], []⟩
  | 5 => ⟨[1, 5, 7, 9, 11, 13], [], []⟩
  | 6 => ⟨[5, 7, 9, 11, 13, 15], [], []⟩
  | 7 => ⟨[4], [], []⟩
  | _ => ⟨[], [], []⟩
noncomputable def F5_c : Code := Try.f5.body.getD .skip
theorem F5_b : Try.f5.body = some F5_c := by kernel_rfl
theorem F5_rs : Try.f5.results.toList = ([.tmp 4] : List ResultVar) := by kernel_rfl
theorem F5_n : Try.f5.ntmps = 86 := by kernel_rfl
theorem F5_ok : toCC [] 86 F5_inf F5_c = some F5 := by kernel_rfl
theorem F5_in {args : List AV} {G : Hp} {post : AV → Hp → Prop} (ha : args.all AV.plain = true) (hn : args.length ≤ 86) (h : BDs args → awp Try.prog [] F5 (AEnds Try.prog [.tmp 4] post) (initT args) G) : ACalls Try.prog 5 args G post :=
  acalls_cc Try.func5 F5_b F5_rs F5_n F5_ok mixed ha hn h

/- 6 ostiary/ostiarylaw23.PoolKeeps -/
@[simp] noncomputable def F6_r0 : CC := .reg [⟨some 10, none, (.assign (.const (.bool false)))⟩] [0, 1, 2, 3, 4]
@[simp] noncomputable def F6_r1 : CC := .reg [⟨some 25, none, (.move (.tmp 0))⟩,
  ⟨some 26, none, (.move (.tmp 1))⟩,
  ⟨some 27, none, (.move (.tmp 2))⟩,
  ⟨some 28, none, (.call { callee := (.value (.func 7)), args := #[(.tmp 25), (.tmp 26), (.tmp 27)], argTypes := #[28, 3, 2] })⟩,
  ⟨some 24, none, (.move (.tmp 28))⟩,
  ⟨some 29, none, (.extract (.tmp 24) 0)⟩,
  ⟨some 30, none, (.extract (.tmp 24) 1)⟩,
  ⟨some 11, none, (.assign (.tmp 29))⟩,
  ⟨some 12, none, (.assign (.tmp 30))⟩] [0, 1, 2, 3, 4, 11, 12]
@[simp] noncomputable def F6_r2 : CC := .reg [⟨some 32, none, (.move (.tmp 0))⟩,
  ⟨some 33, none, (.move (.tmp 1))⟩,
  ⟨some 34, none, (.move (.tmp 2))⟩,
  ⟨some 35, none, (.call { callee := (.value (.func 8)), args := #[(.tmp 32), (.tmp 33), (.tmp 34)], argTypes := #[22, 3, 2] })⟩,
  ⟨some 31, none, (.move (.tmp 35))⟩,
  ⟨some 36, none, (.extract (.tmp 31) 0)⟩,
  ⟨some 37, none, (.extract (.tmp 31) 1)⟩,
  ⟨some 13, none, (.assign (.tmp 36))⟩,
  ⟨some 14, none, (.assign (.tmp 37))⟩] [2, 3, 4, 11, 12, 13, 14]
@[simp] noncomputable def F6_r3 : CC := .reg [⟨some 38, none, (.move (.tmp 14))⟩,
  ⟨some 39, none, (.unOp .not 4 (.tmp 38))⟩,
  ⟨some 40, none, (.move (.tmp 39))⟩,
  ⟨some 41, some (40, false), (.move (.tmp 12))⟩,
  ⟨some 42, some (40, false), (.binOp .neq 25 (.tmp 41) (.const (.int .i64 0)) 25)⟩,
  ⟨some 43, none, (.pick (.tmp 40) (.const (.bool true)) (.tmp 42))⟩] [2, 3, 4, 11, 12, 13, 14, 43]
@[simp] noncomputable def F6_r4 : CC := .reg [⟨some 44, none, (.move (.tmp 14))⟩,
  ⟨some 45, none, (.unOp .not 4 (.tmp 44))⟩,
  ⟨some 46, none, (.move (.tmp 45))⟩,
  ⟨some 47, some (46, true), (.move (.tmp 12))⟩,
  ⟨some 48, some (46, true), (.binOp .eql 25 (.tmp 47) (.const (.int .i64 1)) 25)⟩,
  ⟨some 49, none, (.pick (.tmp 46) (.tmp 48) (.const (.bool false)))⟩,
  ⟨some 50, none, (.move (.tmp 49))⟩,
  ⟨some 51, some (50, true), (.call { callee := (.value (.func 9)), args := #[], argTypes := #[] })⟩,
  ⟨some 52, none, (.pick (.tmp 50) (.tmp 51) (.const (.bool false)))⟩,
  ⟨some 10, none, (.assign (.tmp 52))⟩] [10]
@[simp] noncomputable def F6_r5 : CC := .reg [⟨some 15, none, (.assign (.const (.int .i64 0)))⟩] [2, 3, 4, 11, 13, 15]
@[simp] noncomputable def F6_r6 : CC := .reg [⟨some 53, none, (.move (.tmp 3))⟩,
  ⟨some 54, none, (.call { callee := (.builtin .len), args := #[(.tmp 53)], argTypes := #[23] })⟩,
  ⟨some 55, none, (.move (.const (.int .i64 0)))⟩] [2, 4, 11, 13, 15, 53, 54, 55]
@[simp] noncomputable def F6_r7 : CC := .reg [⟨some 56, none, (.binOp .lss 3 (.tmp 55) (.tmp 54) 3)⟩] [2, 4, 11, 13, 15, 53, 54, 55, 56]
@[simp] noncomputable def F6_r8 : CC := .reg [⟨some 57, none, (.move (.tmp 55))⟩,
  ⟨some 58, none, (.indexAddr 23 (.tmp 53) (.tmp 55))⟩,
  ⟨some 59, none, (.load 35 (.tmp 58))⟩,
  ⟨some 17, none, (.alloc 35)⟩,
  ⟨some 16, none, (.assign (.tmp 57))⟩,
  ⟨none, none, (.store 35 (.tmp 17) (.tmp 59))⟩] [2, 4, 11, 13, 15, 16, 17, 53, 54, 55]
@[simp] noncomputable def F6_r9 : CC := .reg [⟨some 60, none, (.move (.tmp 16))⟩,
  ⟨some 61, none, (.binOp .lss 3 (.tmp 60) (.const (.int .i64 40)) 3)⟩] [2, 4, 11, 13, 15, 17, 53, 54, 55, 61]
@[simp] noncomputable def F6_r10 : CC := .reg [⟨some 62, none, (.move (.tmp 15))⟩,
  ⟨some 63, none, (.fieldAddr 35 (.tmp 17) 4)⟩,
  ⟨some 64, none, (.load 3 (.tmp 63))⟩,
  ⟨some 65, none, (.binOp .and 3 (.tmp 64) (.const (.int .i64 31)) 3)⟩,
  ⟨some 66, none, (.binOp .add 2 (.tmp 62) (.tmp 65) 2)⟩,
  ⟨some 15, none, (.assign (.tmp 66))⟩] [2, 4, 11, 13, 15, 17, 53, 54, 55]
@[simp] noncomputable def F6_r11 : CC := .reg [⟨some 67, none, (.move (.tmp 11))⟩,
  ⟨some 68, none, (.move (.tmp 13))⟩,
  ⟨some 69, none, (.load 35 (.tmp 17))⟩,
  ⟨some 70, none, (.move (.tmp 15))⟩,
  ⟨some 71, none, (.call { callee := (.value (.func 10)), args := #[(.tmp 67), (.tmp 68), (.tmp 69), (.tmp 70)], argTypes := #[24, 29, 35, 2] })⟩] [2, 4, 11, 13, 15, 53, 54, 55]
@[simp] noncomputable def F6_r12 : CC := .reg [⟨some 72, none, (.binOp .add 3 (.tmp 55) (.const (.int .i64 1)) 3)⟩,
  ⟨some 55, none, (.move (.tmp 72))⟩] [2, 4, 11, 13, 15, 53, 54, 55]
noncomputable def F6_l0 : CC := (.seq F6_r7 (.seq (.cond (.tmp 56) .skip (.exit 0)) (.seq (.block 1 (.seq F6_r8 (.seq F6_r9 (.cond (.tmp 61) (.seq F6_r10 F6_r11) .skip)))) F6_r12)))
@[simp] noncomputable def F6_r13 : CC := .reg [⟨some 74, none, (.move (.tmp 11))⟩,
  ⟨some 75, none, (.move (.tmp 4))⟩,
  ⟨some 76, none, (.call { callee := (.value (.func 14)), args := #[(.tmp 74), (.tmp 75)], argTypes := #[24, 39] })⟩,
  ⟨some 73, none, (.move (.tmp 76))⟩,
  ⟨some 77, none, (.extract (.tmp 73) 0)⟩,
  ⟨some 78, none, (.extract (.tmp 73) 1)⟩,
  ⟨some 18, none, (.alloc 41)⟩,
  ⟨none, none, (.store 41 (.tmp 18) (.tmp 77))⟩,
  ⟨some 19, none, (.assign (.tmp 78))⟩] [2, 4, 11, 15, 18, 19]
@[simp] noncomputable def F6_r14 : CC := .reg [⟨some 79, none, (.move (.tmp 19))⟩,
  ⟨some 80, none, (.unOp .not 4 (.tmp 79))⟩] [2, 4, 11, 15, 18, 80]
@[simp] noncomputable def F6_r15 : CC := .reg [⟨some 81, none, (.call { callee := (.value (.func 9)), args := #[], argTypes := #[] })⟩,
  ⟨some 10, none, (.assign (.tmp 81))⟩] [10]
@[simp] noncomputable def F6_r16 : CC := .reg [⟨some 83, none, (.move (.tmp 11))⟩,
  ⟨some 84, none, (.move (.tmp 4))⟩,
  ⟨some 85, none, (.move (.tmp 15))⟩,
  ⟨some 86, none, (.call { callee := (.value (.func 12)), args := #[(.tmp 83), (.tmp 84), (.tmp 85)], argTypes := #[24, 39, 2] })⟩,
  ⟨some 82, none, (.move (.tmp 86))⟩,
  ⟨some 87, none, (.extract (.tmp 82) 0)⟩,
  ⟨some 88, none, (.extract (.tmp 82) 1)⟩,
  ⟨some 20, none, (.assign (.tmp 87))⟩,
  ⟨some 21, none, (.assign (.tmp 88))⟩] [2, 4, 11, 15, 18, 20, 21]
@[simp] noncomputable def F6_r17 : CC := .reg [⟨some 90, none, (.move (.tmp 11))⟩,
  ⟨some 91, none, (.move (.tmp 4))⟩,
  ⟨some 92, none, (.fieldAddr 41 (.tmp 18) 1)⟩,
  ⟨some 93, none, (.load 28 (.tmp 92))⟩,
  ⟨some 94, none, (.move (.tmp 15))⟩,
  ⟨some 95, none, (.call { callee := (.value (.func 13)), args := #[(.tmp 90), (.tmp 91), (.tmp 93), (.tmp 94)], argTypes := #[24, 39, 28, 2] })⟩,
  ⟨some 89, none, (.move (.tmp 95))⟩,
  ⟨some 96, none, (.extract (.tmp 89) 0)⟩,
  ⟨some 97, none, (.extract (.tmp 89) 1)⟩,
  ⟨some 22, none, (.assign (.tmp 96))⟩,
  ⟨some 23, none, (.assign (.tmp 97))⟩] [2, 15, 18, 20, 21, 22, 23]
@[simp] noncomputable def F6_r18 : CC := .reg [⟨some 98, none, (.move (.tmp 21))⟩,
  ⟨some 99, none, (.binOp .eql 25 (.tmp 98) (.const (.int .i64 0)) 25)⟩,
  ⟨some 100, none, (.move (.tmp 99))⟩,
  ⟨some 101, some (100, true), (.move (.tmp 20))⟩,
  ⟨some 102, some (100, true), (.fieldAddr 41 (.tmp 18) 1)⟩,
  ⟨some 103, some (100, true), (.load 28 (.tmp 102))⟩,
  ⟨some 104, some (100, true), (.binOp .eql 28 (.tmp 101) (.tmp 103) 28)⟩,
  ⟨some 105, none, (.pick (.tmp 100) (.tmp 104) (.const (.bool false)))⟩,
  ⟨some 106, none, (.move (.tmp 105))⟩,
  ⟨some 107, some (106, true), (.move (.tmp 23))⟩,
  ⟨some 108, some (106, true), (.binOp .eql 25 (.tmp 107) (.const (.int .i64 0)) 25)⟩,
  ⟨some 109, none, (.pick (.tmp 106) (.tmp 108) (.const (.bool false)))⟩,
  ⟨some 110, none, (.move (.tmp 109))⟩,
  ⟨some 111, some (110, true), (.move (.tmp 22))⟩,
  ⟨some 112, some (110, true), (.move (.tmp 15))⟩,
  ⟨some 113, some (110, true), (.move (.tmp 2))⟩,
  ⟨some 114, some (110, true), (.binOp .add 2 (.tmp 112) (.tmp 113) 2)⟩,
  ⟨some 115, some (110, true), (.binOp .eql 2 (.tmp 111) (.tmp 114) 2)⟩,
  ⟨some 116, none, (.pick (.tmp 110) (.tmp 115) (.const (.bool false)))⟩,
  ⟨some 117, none, (.move (.tmp 116))⟩,
  ⟨some 118, some (117, true), (.call { callee := (.value (.func 9)), args := #[], argTypes := #[] })⟩,
  ⟨some 119, none, (.pick (.tmp 117) (.tmp 118) (.const (.bool false)))⟩,
  ⟨some 10, none, (.assign (.tmp 119))⟩] [10]
noncomputable def F6 : CC := (.seq F6_r0 (.seq F6_r1 (.seq F6_r2 (.seq (.seq F6_r3 (.cond (.tmp 43) (.seq F6_r4 .ret) .skip)) (.seq F6_r5 (.seq (.seq F6_r6 (.block 0 (.loop F6_l0))) (.seq F6_r13 (.seq (.seq F6_r14 (.cond (.tmp 80) (.seq F6_r15 .ret) .skip)) (.seq F6_r16 (.seq F6_r17 (.seq F6_r18 .ret)))))))))))
noncomputable def F6_inf : Nat → RI
  | 0 => ⟨[0, 1, 2, 3, 4], [], []⟩
  | 1 => ⟨[0, 1, 2, 3, 4, 11, 12], [], []⟩
  | 2 => ⟨[2, 3, 4, 11, 12, 13, 14], [], []⟩
  | 3 => ⟨[2, 3, 4, 11, 12, 13, 14, 43], [], []⟩
  | 4 => ⟨[10], [], []⟩
  | 5 => ⟨[2, 3, 4, 11, 13, 15], [], []⟩
  | 6 => ⟨[2, 4, 11, 13, 15, 53, 54, 55], [], []⟩
  | 7 => ⟨[2, 4, 11, 13, 15, 53, 54, 55, 56], [], []⟩
  | 8 => ⟨[2, 4, 11, 13, 15, 16, 17, 53, 54, 55], [], []⟩
  | 9 => ⟨[2, 4, 11, 13, 15, 17, 53, 54, 55, 61], [], []⟩
  | 10 => ⟨[2, 4, 11, 13, 15, 17, 53, 54, 55], [], []⟩
  | 11 => ⟨[2, 4, 11, 13, 15, 53, 54, 55], [], []⟩
  | 12 => ⟨[2, 4, 11, 13, 15, 53, 54, 55], [], []⟩
  | 13 => ⟨[2, 4, 11, 15, 18, 19], [], []⟩
  | 14 => ⟨[2, 4, 11, 15, 18, 80], [], []⟩
  | 15 => ⟨[10], [], []⟩
  | 16 => ⟨[2, 4, 11, 15, 18, 20, 21], [], []⟩
  | 17 => ⟨[2, 15, 18, 20, 21, 22, 23], [], []⟩
  | 18 => ⟨[10], [], []⟩
  | _ => ⟨[], [], []⟩
noncomputable def F6_c : Code := Try.f6.body.getD .skip
theorem F6_b : Try.f6.body = some F6_c := by kernel_rfl
theorem F6_rs : Try.f6.results.toList = ([.tmp 10] : List ResultVar) := by kernel_rfl
theorem F6_n : Try.f6.ntmps = 120 := by kernel_rfl
theorem F6_ok : toCC [] 120 F6_inf F6_c = some F6 := by kernel_rfl
theorem F6_in {args : List AV} {G : Hp} {post : AV → Hp → Prop} (ha : args.all AV.plain = true) (hn : args.length ≤ 120) (h : BDs args → awp Try.prog [] F6 (AEnds Try.prog [.tmp 10] post) (initT args) G) : ACalls Try.prog 6 args G post :=
  acalls_cc Try.func6 F6_b F6_rs F6_n F6_ok mixed ha hn h

/- 7 ostiary/pool.New -/
@[simp] noncomputable def F7_r0 : CC := .reg [⟨some 6, none, (.assign (.const (.pointer none)))⟩,
  ⟨some 7, none, (.assign (.const (.int .i64 0)))⟩] [0, 1, 2]
@[simp] noncomputable def F7_r1 : CC := .reg [⟨some 8, none, (.move (.tmp 1))⟩,
  ⟨some 9, none, (.binOp .lss 3 (.tmp 8) (.const (.int .i64 1)) 3)⟩,
  ⟨some 10, none, (.move (.tmp 9))⟩,
  ⟨some 11, some (10, false), (.move (.tmp 1))⟩,
  ⟨some 12, some (10, false), (.binOp .gtr 3 (.tmp 11) (.const (.int .i64 64)) 3)⟩,
  ⟨some 13, none, (.pick (.tmp 10) (.const (.bool true)) (.tmp 12))⟩,
  ⟨some 14, none, (.move (.tmp 13))⟩,
  ⟨some 15, some (14, false), (.move (.tmp 0))⟩,
  ⟨some 16, some (14, false), (.convert 28 2 (.tmp 15))⟩,
  ⟨some 17, some (14, false), (.move (.tmp 1))⟩,
  ⟨some 18, some (14, false), (.binOp .sub 2 (.const (.int .i64 4294967295)) (.tmp 17) 2)⟩,
  ⟨some 19, some (14, false), (.binOp .gtr 2 (.tmp 16) (.tmp 18) 2)⟩,
  ⟨some 20, none, (.pick (.tmp 14) (.const (.bool true)) (.tmp 19))⟩,
  ⟨some 21, none, (.move (.tmp 20))⟩,
  ⟨some 22, some (21, false), (.move (.tmp 2))⟩,
  ⟨some 23, some (21, false), (.binOp .lss 2 (.tmp 22) (.const (.int .i64 1)) 2)⟩,
  ⟨some 24, none, (.pick (.tmp 21) (.const (.bool true)) (.tmp 23))⟩,
  ⟨some 25, none, (.move (.tmp 24))⟩,
  ⟨some 26, some (25, false), (.move (.tmp 2))⟩,
  ⟨some 27, some (25, false), (.binOp .gtr 2 (.tmp 26) (.const (.int .i64 1048576)) 2)⟩,
  ⟨some 28, none, (.pick (.tmp 25) (.const (.bool true)) (.tmp 27))⟩] [0, 1, 2, 28]
@[simp] noncomputable def F7_r2 : CC := .reg [⟨some 6, none, (.assign (.const (.pointer none)))⟩,
  ⟨some 7, none, (.assign (.const (.int .i64 1)))⟩] [6, 7]
@[simp] noncomputable def F7_r3 : CC := .reg [⟨some 29, none, (.move (.tmp 0))⟩,
  ⟨some 30, none, (.move (.tmp 1))⟩,
  ⟨some 31, none, (.move (.tmp 2))⟩,
  ⟨some 32, none, (.move (.tmp 1))⟩,
  ⟨some 33, none, (.call { callee := (.value (.func 19)), args := #[(.tmp 32)], argTypes := #[3] })⟩,
  ⟨some 34, none, (.build 57 #[(0, (.tmp 29)), (1, (.tmp 30)), (2, (.tmp 31)), (3, (.tmp 33))])⟩,
  ⟨some 35, none, (.box 57 (.tmp 34))⟩,
  ⟨some 6, none, (.assign (.tmp 35))⟩,
  ⟨some 7, none, (.assign (.const (.int .i64 0)))⟩] [6, 7]
noncomputable def F7 : CC := (.seq F7_r0 (.seq (.seq F7_r1 (.cond (.tmp 28) (.seq F7_r2 .ret) .skip)) (.seq F7_r3 .ret)))
noncomputable def F7_inf : Nat → RI
  | 0 => ⟨[0, 1, 2], [], []⟩
  | 1 => ⟨[0, 1, 2, 28], [], []⟩
  | 2 => ⟨[6, 7], [], []⟩
  | 3 => ⟨[6, 7], [], []⟩
  | _ => ⟨[], [], []⟩
noncomputable def F7_c : Code := Try.f7.body.getD .skip
theorem F7_b : Try.f7.body = some F7_c := by kernel_rfl
theorem F7_rs : Try.f7.results.toList = ([.tmp 6, .tmp 7] : List ResultVar) := by kernel_rfl
theorem F7_n : Try.f7.ntmps = 36 := by kernel_rfl
theorem F7_ok : toCC [35] 36 F7_inf F7_c = some F7 := by kernel_rfl
theorem F7_in {args : List AV} {G : Hp} {post : AV → Hp → Prop} (ha : args.all AV.plain = true) (hn : args.length ≤ 36) (h : BDs args → awp Try.prog [35] F7 (AEnds Try.prog [.tmp 6, .tmp 7] post) (initT args) G) : ACalls Try.prog 7 args G post :=
  acalls_cc Try.func7 F7_b F7_rs F7_n F7_ok mixed ha hn h

/- 8 ostiary/ostiaryref23.New -/
@[simp] noncomputable def F8_r0 : CC := .reg [⟨some 6, none, (.assign (.const (.pointer none)))⟩,
  ⟨some 7, none, (.assign (.const (.bool false)))⟩] [0, 1, 2]
@[simp] noncomputable def F8_r1 : CC := .reg [⟨some 8, none, (.move (.tmp 1))⟩,
  ⟨some 9, none, (.binOp .lss 3 (.tmp 8) (.const (.int .i64 1)) 3)⟩,
  ⟨some 10, none, (.move (.tmp 9))⟩,
  ⟨some 11, some (10, false), (.move (.tmp 1))⟩,
  ⟨some 12, some (10, false), (.binOp .gtr 3 (.tmp 11) (.const (.int .i64 64)) 3)⟩,
  ⟨some 13, none, (.pick (.tmp 10) (.const (.bool true)) (.tmp 12))⟩,
  ⟨some 14, none, (.move (.tmp 13))⟩,
  ⟨some 15, some (14, false), (.move (.tmp 2))⟩,
  ⟨some 16, some (14, false), (.binOp .lss 2 (.tmp 15) (.const (.int .i64 1)) 2)⟩,
  ⟨some 17, none, (.pick (.tmp 14) (.const (.bool true)) (.tmp 16))⟩,
  ⟨some 18, none, (.move (.tmp 17))⟩,
  ⟨some 19, some (18, false), (.move (.tmp 2))⟩,
  ⟨some 20, some (18, false), (.binOp .gtr 2 (.tmp 19) (.const (.int .i64 1048576)) 2)⟩,
  ⟨some 21, none, (.pick (.tmp 18) (.const (.bool true)) (.tmp 20))⟩,
  ⟨some 22, none, (.move (.tmp 21))⟩,
  ⟨some 23, some (22, false), (.move (.tmp 0))⟩,
  ⟨some 24, some (22, false), (.convert 22 2 (.tmp 23))⟩,
  ⟨some 25, some (22, false), (.move (.tmp 1))⟩,
  ⟨some 26, some (22, false), (.binOp .add 2 (.tmp 24) (.tmp 25) 2)⟩,
  ⟨some 27, some (22, false), (.binOp .gtr 2 (.tmp 26) (.const (.int .i64 4294967295)) 2)⟩,
  ⟨some 28, none, (.pick (.tmp 22) (.const (.bool true)) (.tmp 27))⟩] [0, 1, 2, 28]
@[simp] noncomputable def F8_r2 : CC := .reg [⟨some 6, none, (.assign (.const (.pointer none)))⟩,
  ⟨some 7, none, (.assign (.const (.bool false)))⟩] [6, 7]
@[simp] noncomputable def F8_r3 : CC := .drw [⟨0, ⟨some 29, none, (.move (.tmp 0))⟩, [], []⟩,
  ⟨1, ⟨some 30, none, (.move (.tmp 2))⟩, [], []⟩,
  ⟨2, ⟨some 31, none, (.move (.tmp 1))⟩, [], []⟩,
  ⟨4, ⟨some 33, none, (.move (.tmp 1))⟩, [], []⟩,
  ⟨3, ⟨some 32, none, (.makeSlice 58 (.tmp 31) (.tmp 31))⟩, [], []⟩,
  ⟨5, ⟨some 34, none, (.makeSlice 59 (.tmp 33) (.tmp 33))⟩, [], []⟩,
  ⟨6, ⟨some 35, none, (.build 61 #[(0, (.tmp 29)), (1, (.tmp 30)), (2, (.tmp 32)), (3, (.tmp 34))])⟩, [], []⟩,
  ⟨7, ⟨some 36, none, (.box 61 (.tmp 35))⟩, [], []⟩,
  ⟨8, ⟨some 6, none, (.assign (.tmp 36))⟩, [], []⟩,
  ⟨9, ⟨some 7, none, (.assign (.const (.bool true)))⟩, [], []⟩] [29, 30, 31, 33, 32, 34, 35, 36, 6, 7] [6, 7]
noncomputable def F8 : CC := (.seq F8_r0 (.seq (.seq F8_r1 (.cond (.tmp 28) (.seq F8_r2 .ret) .skip)) (.seq F8_r3 .ret)))
noncomputable def F8_inf : Nat → RI
  | 0 => ⟨[0, 1, 2], [], []⟩
  | 1 => ⟨[0, 1, 2, 28], [], []⟩
  | 2 => ⟨[6, 7], [], []⟩
  | 3 => ⟨[6, 7], [0, 0, 0, 4, 0, 16, 63, 127, 255, 511], [(0, []), (1, []), (2, []), (4, []), (3, []), (5, []), (6, []), (7, []), (8, []), (9, [])]⟩
  | _ => ⟨[], [], []⟩
noncomputable def F8_c : Code := Try.f8.body.getD .skip
theorem F8_b : Try.f8.body = some F8_c := by kernel_rfl
theorem F8_rs : Try.f8.results.toList = ([.tmp 6, .tmp 7] : List ResultVar) := by kernel_rfl
theorem F8_n : Try.f8.ntmps = 37 := by kernel_rfl
theorem F8_ok : toCC [32, 34, 36] 37 F8_inf F8_c = some F8 := by kernel_rfl
theorem F8_in {args : List AV} {G : Hp} {post : AV → Hp → Prop} (ha : args.all AV.plain = true) (hn : args.length ≤ 37) (h : BDs args → awp Try.prog [32, 34, 36] F8 (AEnds Try.prog [.tmp 6, .tmp 7] post) (initT args) G) : ACalls Try.prog 8 args G post :=
  acalls_cc Try.func8 F8_b F8_rs F8_n F8_ok mixed ha hn h

/- 9 ostiary/ostiarylaw23.awake -/
@[simp] noncomputable def F9_r0 : CC := .reg [⟨some 0, none, (.assign (.const (.bool false)))⟩] []
@[simp] noncomputable def F9_r1 : CC := .reg [⟨some 11, none, (.call { callee := (.value (.func 7)), args := #[(.const (.int .u32 10)), (.const (.int .i64 2)), (.const (.int .i64 50))], argTypes := #[28, 3, 2] })⟩,
  ⟨some 10, none, (.move (.tmp 11))⟩,
  ⟨some 12, none, (.extract (.tmp 10) 0)⟩,
  ⟨some 13, none, (.extract (.tmp 10) 1)⟩,
  ⟨some 1, none, (.assign (.tmp 12))⟩,
  ⟨some 2, none, (.assign (.tmp 13))⟩] [1, 2]
@[simp] noncomputable def F9_r2 : CC := .reg [⟨some 15, none, (.move (.tmp 1))⟩,
  ⟨some 16, none, (.call { callee := (.value (.func 12)), args := #[(.tmp 15), (.const (.int .u64 7)), (.const (.int .i64 0))], argTypes := #[24, 39, 2] })⟩,
  ⟨some 14, none, (.move (.tmp 16))⟩,
  ⟨some 17, none, (.extract (.tmp 14) 0)⟩,
  ⟨some 18, none, (.extract (.tmp 14) 1)⟩,
  ⟨some 3, none, (.assign (.tmp 17))⟩,
  ⟨some 4, none, (.assign (.tmp 18))⟩] [1, 2, 3, 4]
@[simp] noncomputable def F9_r3 : CC := .reg [⟨some 20, none, (.move (.tmp 1))⟩,
  ⟨some 21, none, (.call { callee := (.value (.func 13)), args := #[(.tmp 20), (.const (.int .u64 7)), (.const (.int .u32 11)), (.const (.int .i64 0))], argTypes := #[24, 39, 28, 2] })⟩,
  ⟨some 19, none, (.move (.tmp 21))⟩,
  ⟨some 22, none, (.extract (.tmp 19) 0)⟩,
  ⟨some 23, none, (.extract (.tmp 19) 1)⟩,
  ⟨some 5, none, (.assign (.tmp 22))⟩,
  ⟨some 6, none, (.assign (.tmp 23))⟩] [1, 2, 3, 4, 5, 6]
@[simp] noncomputable def F9_r4 : CC := .reg [⟨some 25, none, (.move (.tmp 1))⟩,
  ⟨some 26, none, (.call { callee := (.value (.func 12)), args := #[(.tmp 25), (.const (.int .u64 8)), (.const (.int .i64 0))], argTypes := #[24, 39, 2] })⟩,
  ⟨some 24, none, (.move (.tmp 26))⟩,
  ⟨some 27, none, (.extract (.tmp 24) 0)⟩,
  ⟨some 28, none, (.extract (.tmp 24) 1)⟩,
  ⟨some 7, none, (.assign (.tmp 27))⟩,
  ⟨some 8, none, (.assign (.tmp 28))⟩] [1, 2, 3, 4, 5, 6, 7, 8]
@[simp] noncomputable def F9_r5 : CC := .reg [⟨some 29, none, (.move (.tmp 1))⟩,
  ⟨some 30, none, (.call { callee := (.value (.func 18)), args := #[(.tmp 29), (.const (.int .i64 50))], argTypes := #[24, 2] })⟩,
  ⟨some 9, none, (.assign (.tmp 30))⟩] [2, 3, 4, 5, 6, 7, 8, 9]
@[simp] noncomputable def F9_r6 : CC := .reg [⟨some 31, none, (.move (.tmp 2))⟩,
  ⟨some 32, none, (.binOp .eql 25 (.tmp 31) (.const (.int .i64 0)) 25)⟩,
  ⟨some 33, none, (.move (.tmp 32))⟩,
  ⟨some 34, some (33, true), (.move (.tmp 3))⟩,
  ⟨some 35, some (33, true), (.binOp .eql 28 (.tmp 34) (.const (.int .u32 11)) 28)⟩,
  ⟨some 36, none, (.pick (.tmp 33) (.tmp 35) (.const (.bool false)))⟩,
  ⟨some 37, none, (.move (.tmp 36))⟩,
  ⟨some 38, some (37, true), (.move (.tmp 4))⟩,
  ⟨some 39, some (37, true), (.binOp .eql 25 (.tmp 38) (.const (.int .i64 0)) 25)⟩,
  ⟨some 40, none, (.pick (.tmp 37) (.tmp 39) (.const (.bool false)))⟩,
  ⟨some 41, none, (.move (.tmp 40))⟩,
  ⟨some 42, some (41, true), (.move (.tmp 5))⟩,
  ⟨some 43, some (41, true), (.binOp .eql 2 (.tmp 42) (.const (.int .i64 50)) 2)⟩,
  ⟨some 44, none, (.pick (.tmp 41) (.tmp 43) (.const (.bool false)))⟩,
  ⟨some 45, none, (.move (.tmp 44))⟩,
  ⟨some 46, some (45, true), (.move (.tmp 6))⟩,
  ⟨some 47, some (45, true), (.binOp .eql 25 (.tmp 46) (.const (.int .i64 0)) 25)⟩,
  ⟨some 48, none, (.pick (.tmp 45) (.tmp 47) (.const (.bool false)))⟩,
  ⟨some 49, none, (.move (.tmp 48))⟩,
  ⟨some 50, some (49, true), (.move (.tmp 7))⟩,
  ⟨some 51, some (49, true), (.binOp .eql 28 (.tmp 50) (.const (.int .u32 12)) 28)⟩,
  ⟨some 52, none, (.pick (.tmp 49) (.tmp 51) (.const (.bool false)))⟩,
  ⟨some 53, none, (.move (.tmp 52))⟩,
  ⟨some 54, some (53, true), (.move (.tmp 8))⟩,
  ⟨some 55, some (53, true), (.binOp .eql 25 (.tmp 54) (.const (.int .i64 0)) 25)⟩,
  ⟨some 56, none, (.pick (.tmp 53) (.tmp 55) (.const (.bool false)))⟩,
  ⟨some 57, none, (.move (.tmp 56))⟩,
  ⟨some 58, some (57, true), (.move (.tmp 9))⟩,
  ⟨some 59, some (57, true), (.call { callee := (.builtin .len), args := #[(.tmp 58)], argTypes := #[37] })⟩,
  ⟨some 60, some (57, true), (.binOp .eql 3 (.tmp 59) (.const (.int .i64 1)) 3)⟩,
  ⟨some 61, none, (.pick (.tmp 57) (.tmp 60) (.const (.bool false)))⟩,
  ⟨some 62, none, (.move (.tmp 61))⟩,
  ⟨some 63, some (62, true), (.move (.tmp 9))⟩,
  ⟨some 64, some (62, true), (.indexAddr 37 (.tmp 63) (.const (.int .i64 0)))⟩,
  ⟨some 65, some (62, true), (.fieldAddr 41 (.tmp 64) 0)⟩,
  ⟨some 66, some (62, true), (.load 39 (.tmp 65))⟩,
  ⟨some 67, some (62, true), (.binOp .eql 39 (.tmp 66) (.const (.int .u64 7)) 39)⟩,
  ⟨some 68, none, (.pick (.tmp 62) (.tmp 67) (.const (.bool false)))⟩,
  ⟨some 0, none, (.assign (.tmp 68))⟩] [0]
noncomputable def F9 : CC := (.seq F9_r0 (.seq F9_r1 (.seq F9_r2 (.seq F9_r3 (.seq F9_r4 (.seq F9_r5 (.seq F9_r6 .ret)))))))
noncomputable def F9_inf : Nat → RI
  | 0 => ⟨[], [], []⟩
  | 1 => ⟨[1, 2], [], []⟩
  | 2 => ⟨[1, 2, 3, 4], [], []⟩
  | 3 => ⟨[1, 2, 3, 4, 5, 6], [], []⟩
  | 4 => ⟨[1, 2, 3, 4, 5, 6, 7, 8], [], []⟩
  | 5 => ⟨[2, 3, 4, 5, 6, 7, 8, 9], [], []⟩
  | 6 => ⟨[0], [], []⟩
  | _ => ⟨[], [], []⟩
noncomputable def F9_c : Code := Try.f9.body.getD .skip
theorem F9_b : Try.f9.body = some F9_c := by kernel_rfl
theorem F9_rs : Try.f9.results.toList = ([.tmp 0] : List ResultVar) := by kernel_rfl
theorem F9_n : Try.f9.ntmps = 69 := by kernel_rfl
theorem F9_ok : toCC [] 69 F9_inf F9_c = some F9 := by kernel_rfl
theorem F9_in {args : List AV} {G : Hp} {post : AV → Hp → Prop} (ha : args.all AV.plain = true) (hn : args.length ≤ 69) (h : BDs args → awp Try.prog [] F9 (AEnds Try.prog [.tmp 0] post) (initT args) G) : ACalls Try.prog 9 args G post :=
  acalls_cc Try.func9 F9_b F9_rs F9_n F9_ok mixed ha hn h

/- 10 ostiary/ostiarylaw23.step -/
@[simp] noncomputable def F10_r0 : CC := .reg [⟨some 6, none, (.box 35 (.tmp 2))⟩,
  ⟨some 8, none, (.assign (.const (.bool false)))⟩] [0, 1, 3, 6]
@[simp] noncomputable def F10_r1 : CC := .drw [⟨0, ⟨some 23, none, (.fieldAddr 35 (.tmp 6) 1)⟩, [], []⟩,
  ⟨1, ⟨some 24, none, (.load 33 (.tmp 23))⟩, [], []⟩,
  ⟨2, ⟨some 25, none, (.fieldAddr 35 (.tmp 6) 2)⟩, [], []⟩,
  ⟨3, ⟨some 26, none, (.load 22 (.tmp 25))⟩, [], []⟩,
  ⟨4, ⟨some 9, none, (.assign (.tmp 24))⟩, [], []⟩,
  ⟨5, ⟨some 10, none, (.assign (.tmp 26))⟩, [], []⟩] [23, 24, 25, 26, 9, 10] [0, 1, 3, 6, 9, 10]
@[simp] noncomputable def F10_r2 : CC := .reg [⟨some 27, none, (.fieldAddr 35 (.tmp 6) 0)⟩,
  ⟨some 28, none, (.load 3 (.tmp 27))⟩] [0, 1, 3, 6, 9, 10, 28]
@[simp] noncomputable def F10_r3 : CC := .reg [⟨some 30, none, (.binOp .eql 3 (.tmp 28) (.const (.int .i64 0)) 3)⟩,
  ⟨some 29, none, (.assign (.tmp 30))⟩] [0, 1, 3, 6, 9, 10, 28, 29]
@[simp] noncomputable def F10_r4 : CC := .reg [⟨some 32, none, (.move (.tmp 0))⟩,
  ⟨some 33, none, (.move (.tmp 9))⟩,
  ⟨some 34, none, (.move (.tmp 3))⟩,
  ⟨some 35, none, (.call { callee := (.value (.func 12)), args := #[(.tmp 32), (.tmp 33), (.tmp 34)], argTypes := #[24, 39, 2] })⟩,
  ⟨some 31, none, (.move (.tmp 35))⟩,
  ⟨some 36, none, (.extract (.tmp 31) 0)⟩,
  ⟨some 37, none, (.extract (.tmp 31) 1)⟩,
  ⟨some 11, none, (.assign (.tmp 36))⟩,
  ⟨some 12, none, (.assign (.tmp 37))⟩] [1, 3, 6, 11, 12]
@[simp] noncomputable def F10_r5 : CC := .reg [⟨some 39, none, (.move (.tmp 1))⟩,
  ⟨some 40, none, (.fieldAddr 35 (.tmp 6) 1)⟩,
  ⟨some 41, none, (.load 33 (.tmp 40))⟩,
  ⟨some 42, none, (.move (.tmp 3))⟩,
  ⟨some 43, none, (.call { callee := (.value (.func 20)), args := #[(.tmp 39), (.tmp 41), (.tmp 42)], argTypes := #[29, 33, 2] })⟩,
  ⟨some 38, none, (.move (.tmp 43))⟩,
  ⟨some 44, none, (.extract (.tmp 38) 0)⟩,
  ⟨some 45, none, (.extract (.tmp 38) 1)⟩,
  ⟨some 13, none, (.assign (.tmp 44))⟩,
  ⟨some 14, none, (.assign (.tmp 45))⟩] [11, 12, 13, 14]
@[simp] noncomputable def F10_r6 : CC := .reg [⟨some 46, none, (.move (.tmp 11))⟩,
  ⟨some 47, none, (.move (.tmp 13))⟩,
  ⟨some 48, none, (.binOp .eql 22 (.tmp 46) (.tmp 47) 22)⟩,
  ⟨some 49, none, (.move (.tmp 48))⟩,
  ⟨some 50, some (49, true), (.move (.tmp 12))⟩,
  ⟨some 51, some (49, true), (.move (.tmp 14))⟩,
  ⟨some 52, some (49, true), (.binOp .eql 25 (.tmp 50) (.tmp 51) 25)⟩,
  ⟨some 53, none, (.pick (.tmp 49) (.tmp 52) (.const (.bool false)))⟩,
  ⟨some 8, none, (.assign (.tmp 53))⟩] [8]
@[simp] noncomputable def F10_r7 : CC := .reg [⟨some 55, none, (.binOp .eql 3 (.tmp 28) (.const (.int .i64 1)) 3)⟩,
  ⟨some 54, none, (.assign (.tmp 55))⟩] [0, 1, 3, 6, 9, 10, 28, 54]
@[simp] noncomputable def F10_r8 : CC := .reg [⟨some 56, none, (.binOp .eql 3 (.tmp 28) (.const (.int .i64 2)) 3)⟩,
  ⟨some 54, none, (.assign (.tmp 56))⟩] [0, 1, 3, 6, 9, 10, 28, 54]
@[simp] noncomputable def F10_r9 : CC := .reg [⟨some 58, none, (.move (.tmp 0))⟩,
  ⟨some 59, none, (.move (.tmp 9))⟩,
  ⟨some 60, none, (.move (.tmp 10))⟩,
  ⟨some 61, none, (.move (.tmp 3))⟩,
  ⟨some 62, none, (.call { callee := (.value (.func 13)), args := #[(.tmp 58), (.tmp 59), (.tmp 60), (.tmp 61)], argTypes := #[24, 39, 28, 2] })⟩,
  ⟨some 57, none, (.move (.tmp 62))⟩,
  ⟨some 63, none, (.extract (.tmp 57) 0)⟩,
  ⟨some 64, none, (.extract (.tmp 57) 1)⟩,
  ⟨some 15, none, (.assign (.tmp 63))⟩,
  ⟨some 16, none, (.assign (.tmp 64))⟩] [1, 3, 6, 15, 16]
@[simp] noncomputable def F10_r10 : CC := .reg [⟨some 66, none, (.move (.tmp 1))⟩,
  ⟨some 67, none, (.fieldAddr 35 (.tmp 6) 1)⟩,
  ⟨some 68, none, (.load 33 (.tmp 67))⟩,
  ⟨some 69, none, (.fieldAddr 35 (.tmp 6) 2)⟩,
  ⟨some 70, none, (.load 22 (.tmp 69))⟩,
  ⟨some 71, none, (.move (.tmp 3))⟩,
  ⟨some 72, none, (.call { callee := (.value (.func 21)), args := #[(.tmp 66), (.tmp 68), (.tmp 70), (.tmp 71)], argTypes := #[29, 33, 22, 2] })⟩,
  ⟨some 65, none, (.move (.tmp 72))⟩,
  ⟨some 73, none, (.extract (.tmp 65) 0)⟩,
  ⟨some 74, none, (.extract (.tmp 65) 1)⟩,
  ⟨some 17, none, (.assign (.tmp 73))⟩,
  ⟨some 18, none, (.assign (.tmp 74))⟩] [15, 16, 17, 18]
@[simp] noncomputable def F10_r11 : CC := .reg [⟨some 75, none, (.move (.tmp 15))⟩,
  ⟨some 76, none, (.move (.tmp 17))⟩,
  ⟨some 77, none, (.binOp .eql 2 (.tmp 75) (.tmp 76) 2)⟩,
  ⟨some 78, none, (.move (.tmp 77))⟩,
  ⟨some 79, some (78, true), (.move (.tmp 16))⟩,
  ⟨some 80, some (78, true), (.move (.tmp 18))⟩,
  ⟨some 81, some (78, true), (.binOp .eql 25 (.tmp 79) (.tmp 80) 25)⟩,
  ⟨some 82, none, (.pick (.tmp 78) (.tmp 81) (.const (.bool false)))⟩,
  ⟨some 8, none, (.assign (.tmp 82))⟩] [8]
@[simp] noncomputable def F10_r12 : CC := .reg [⟨some 84, none, (.binOp .eql 3 (.tmp 28) (.const (.int .i64 3)) 3)⟩,
  ⟨some 83, none, (.assign (.tmp 84))⟩] [0, 1, 3, 6, 9, 10, 28, 83]
@[simp] noncomputable def F10_r13 : CC := .reg [⟨some 86, none, (.move (.tmp 0))⟩,
  ⟨some 87, none, (.move (.tmp 9))⟩,
  ⟨some 88, none, (.call { callee := (.value (.func 15)), args := #[(.tmp 86), (.tmp 87)], argTypes := #[24, 39] })⟩,
  ⟨some 85, none, (.move (.tmp 88))⟩,
  ⟨some 89, none, (.extract (.tmp 85) 0)⟩,
  ⟨some 90, none, (.extract (.tmp 85) 1)⟩,
  ⟨some 19, none, (.alloc 41)⟩,
  ⟨none, none, (.store 41 (.tmp 19) (.tmp 89))⟩,
  ⟨some 20, none, (.assign (.tmp 90))⟩] [1, 6, 19, 20]
@[simp] noncomputable def F10_r14 : CC := .reg [⟨some 92, none, (.move (.tmp 1))⟩,
  ⟨some 93, none, (.fieldAddr 35 (.tmp 6) 1)⟩,
  ⟨some 94, none, (.load 33 (.tmp 93))⟩,
  ⟨some 95, none, (.call { callee := (.value (.func 22)), args := #[(.tmp 92), (.tmp 94)], argTypes := #[29, 33] })⟩,
  ⟨some 91, none, (.move (.tmp 95))⟩,
  ⟨some 96, none, (.extract (.tmp 91) 0)⟩,
  ⟨some 97, none, (.extract (.tmp 91) 1)⟩,
  ⟨some 21, none, (.alloc 66)⟩,
  ⟨none, none, (.store 66 (.tmp 21) (.tmp 96))⟩,
  ⟨some 22, none, (.assign (.tmp 97))⟩] [19, 20, 21, 22]
@[simp] noncomputable def F10_r15 : CC := .drw [⟨0, ⟨some 98, none, (.load 41 (.tmp 19))⟩, [], []⟩,
  ⟨2, ⟨some 100, none, (.load 66 (.tmp 21))⟩, [], []⟩,
  ⟨1, ⟨some 99, none, (.call { callee := (.value (.func 23)), args := #[(.tmp 98)], argTypes := #[41] })⟩, [2], [⟨some 100, none, (.load 66 (.tmp 21))⟩]⟩,
  ⟨3, ⟨some 101, none, (.binOp .eql 66 (.tmp 99) (.tmp 100) 66)⟩, [], []⟩,
  ⟨4, ⟨some 102, none, (.move (.tmp 101))⟩, [], []⟩,
  ⟨5, ⟨some 103, some (102, true), (.move (.tmp 20))⟩, [], []⟩,
  ⟨6, ⟨some 104, some (102, true), (.move (.tmp 22))⟩, [], []⟩,
  ⟨7, ⟨some 105, some (102, true), (.binOp .eql 4 (.tmp 103) (.tmp 104) 4)⟩, [], []⟩,
  ⟨8, ⟨some 106, none, (.pick (.tmp 102) (.tmp 105) (.const (.bool false)))⟩, [], []⟩,
  ⟨9, ⟨some 8, none, (.assign (.tmp 106))⟩, [], []⟩] [98, 100, 99, 101, 102, 103, 104, 105, 106, 8] [8]
@[simp] noncomputable def F10_r16 : CC := .reg [⟨some 108, none, (.binOp .eql 3 (.tmp 28) (.const (.int .i64 4)) 3)⟩,
  ⟨some 107, none, (.assign (.tmp 108))⟩] [0, 1, 3, 6, 9, 10, 28, 107]
@[simp] noncomputable def F10_r17 : CC := .reg [⟨some 109, none, (.move (.tmp 0))⟩,
  ⟨some 110, none, (.move (.tmp 3))⟩,
  ⟨some 111, none, (.call { callee := (.value (.func 18)), args := #[(.tmp 109), (.tmp 110)], argTypes := #[24, 2] })⟩,
  ⟨some 112, none, (.call { callee := (.value (.func 25)), args := #[(.tmp 111)], argTypes := #[37] })⟩,
  ⟨some 113, none, (.move (.tmp 1))⟩,
  ⟨some 114, none, (.move (.tmp 3))⟩,
  ⟨some 115, none, (.call { callee := (.value (.func 26)), args := #[(.tmp 113), (.tmp 114)], argTypes := #[29, 2] })⟩,
  ⟨some 116, none, (.call { callee := (.value (.func 24)), args := #[(.tmp 112), (.tmp 115)], argTypes := #[59, 59] })⟩,
  ⟨some 8, none, (.assign (.tmp 116))⟩] [8]
@[simp] noncomputable def F10_r18 : CC := .reg [⟨some 118, none, (.binOp .eql 3 (.tmp 28) (.const (.int .i64 5)) 3)⟩,
  ⟨some 117, none, (.assign (.tmp 118))⟩] [0, 1, 6, 9, 10, 117]
@[simp] noncomputable def F10_r19 : CC := .drw [⟨0, ⟨some 119, none, (.move (.tmp 0))⟩, [], []⟩,
  ⟨1, ⟨some 120, none, (.move (.tmp 9))⟩, [], []⟩,
  ⟨2, ⟨some 121, none, (.move (.tmp 10))⟩, [], []⟩,
  ⟨3, ⟨some 122, none, (.fieldAddr 35 (.tmp 6) 3)⟩, [], []⟩,
  ⟨4, ⟨some 123, none, (.load 2 (.tmp 122))⟩, [], []⟩,
  ⟨5, ⟨some 124, none, (.binOp .and 2 (.tmp 123) (.const (.int .i64 549755813887)) 2)⟩, [], []⟩,
  ⟨6, ⟨some 125, none, (.build 41 #[(0, (.tmp 120)), (1, (.tmp 121)), (2, (.tmp 124))])⟩, [], []⟩,
  ⟨8, ⟨some 127, none, (.move (.tmp 1))⟩, [], []⟩,
  ⟨9, ⟨some 128, none, (.fieldAddr 35 (.tmp 6) 1)⟩, [], []⟩,
  ⟨10, ⟨some 129, none, (.load 33 (.tmp 128))⟩, [], []⟩,
  ⟨11, ⟨some 130, none, (.fieldAddr 35 (.tmp 6) 2)⟩, [], []⟩,
  ⟨12, ⟨some 131, none, (.load 22 (.tmp 130))⟩, [], []⟩,
  ⟨13, ⟨some 132, none, (.fieldAddr 35 (.tmp 6) 3)⟩, [], []⟩,
  ⟨14, ⟨some 133, none, (.load 2 (.tmp 132))⟩, [], []⟩,
  ⟨15, ⟨some 134, none, (.binOp .and 2 (.tmp 133) (.const (.int .i64 549755813887)) 2)⟩, [], []⟩,
  ⟨16, ⟨some 135, none, (.build 66 #[(0, (.tmp 129)), (1, (.tmp 131)), (2, (.tmp 134))])⟩, [], []⟩,
  ⟨7, ⟨some 126, none, (.call { callee := (.value (.func 17)), args := #[(.tmp 119), (.tmp 125)], argTypes := #[24, 41] })⟩, [10, 12, 14], [⟨some 129, none, (.load 33 (.tmp 128))⟩, ⟨some 131, none, (.load 22 (.tmp 130))⟩, ⟨some 133, none, (.load 2 (.tmp 132))⟩]⟩,
  ⟨17, ⟨some 136, none, (.call { callee := (.value (.func 27)), args := #[(.tmp 127), (.tmp 135)], argTypes := #[29, 66] })⟩, [], []⟩,
  ⟨18, ⟨some 137, none, (.binOp .eql 25 (.tmp 126) (.tmp 136) 25)⟩, [], []⟩,
  ⟨19, ⟨some 8, none, (.assign (.tmp 137))⟩, [], []⟩] [119, 120, 121, 122, 123, 124, 125, 127, 128, 129, 130, 131, 132, 133, 134, 135, 126, 136, 137, 8] [8]
@[simp] noncomputable def F10_r20 : CC := .reg [⟨some 8, none, (.assign (.const (.bool true)))⟩] [8]
noncomputable def F10 : CC := (.seq F10_r0 (.seq F10_r1 (.seq (.seq F10_r2 (.block 0 (.seq F10_r3 (.cond (.tmp 29) (.seq F10_r4 (.seq F10_r5 (.seq F10_r6 .ret))) (.seq (.seq F10_r7 (.cond (.tmp 54) .skip F10_r8)) (.cond (.tmp 54) (.seq F10_r9 (.seq F10_r10 (.seq F10_r11 .ret))) (.seq F10_r12 (.cond (.tmp 83) (.seq F10_r13 (.seq F10_r14 (.seq F10_r15 .ret))) (.seq F10_r16 (.cond (.tmp 107) (.seq F10_r17 .ret) (.seq F10_r18 (.cond (.tmp 117) (.seq F10_r19 .ret) .skip)))))))))))) (.seq F10_r20 .ret))))
noncomputable def F10_inf : Nat → RI
  | 0 => ⟨[0, 1, 3, 6], [], []⟩
  | 1 => ⟨[0, 1, 3, 6, 9, 10], [0, 1, 0, 4, 3, 31], [(0, []), (1, []), (2, []), (3, []), (4, []), (5, [])]⟩
  | 2 => ⟨[0, 1, 3, 6, 9, 10, 28], [], []⟩
  | 3 => ⟨[0, 1, 3, 6, 9, 10, 28, 29], [], []⟩
  | 4 => ⟨[1, 3, 6, 11, 12], [], []⟩
  | 5 => ⟨[11, 12, 13, 14], [], []⟩
  | 6 => ⟨[8], [], []⟩
  | 7 => ⟨[0, 1, 3, 6, 9, 10, 28, 54], [], []⟩
  | 8 => ⟨[0, 1, 3, 6, 9, 10, 28, 54], [], []⟩
  | 9 => ⟨[1, 3, 6, 15, 16], [], []⟩
  | 10 => ⟨[15, 16, 17, 18], [], []⟩
  | 11 => ⟨[8], [], []⟩
  | 12 => ⟨[0, 1, 3, 6, 9, 10, 28, 83], [], []⟩
  | 13 => ⟨[1, 6, 19, 20], [], []⟩
  | 14 => ⟨[19, 20, 21, 22], [], []⟩
  | 15 => ⟨[8], [0, 1, 0, 7, 15, 31, 31, 127, 255, 511], [(0, []), (2, []), (1, [2]), (3, []), (4, []), (5, []), (6, []), (7, []), (8, []), (9, [])]⟩
  | 16 => ⟨[0, 1, 3, 6, 9, 10, 28, 107], [], []⟩
  | 17 => ⟨[8], [], []⟩
  | 18 => ⟨[0, 1, 6, 9, 10, 117], [], []⟩
  | 19 => ⟨[8], [0, 0, 0, 0, 8, 24, 62, 127, 0, 0, 512, 0, 2048, 0, 8192, 24576, 65024, 131071, 262143, 524287], [(0, []), (1, []), (2, []), (3, []), (4, []), (5, []), (6, []), (8, []), (9, []), (10, []), (11, []), (12, []), (13, []), (14, []), (15, []), (16, []), (7, [10, 12, 14]), (17, []), (18, []), (19, [])]⟩
  | 20 => ⟨[8], [], []⟩
  | _ => ⟨[], [], []⟩
noncomputable def F10_c : Code := Try.f10.body.getD .skip
theorem F10_b : Try.f10.body = some F10_c := by kernel_rfl
theorem F10_rs : Try.f10.results.toList = ([.tmp 8] : List ResultVar) := by kernel_rfl
theorem F10_n : Try.f10.ntmps = 138 := by kernel_rfl
theorem F10_ok : toCC [] 138 F10_inf F10_c = some F10 := by kernel_rfl
theorem F10_in {args : List AV} {G : Hp} {post : AV → Hp → Prop} (ha : args.all AV.plain = true) (hn : args.length ≤ 138) (h : BDs args → awp Try.prog [] F10 (AEnds Try.prog [.tmp 8] post) (initT args) G) : ACalls Try.prog 10 args G post :=
  acalls_cc Try.func10 F10_b F10_rs F10_n F10_ok mixed ha hn h

/- 11 (*ostiary/pool.Pool).All -/
@[simp] noncomputable def F11_r0 : CC := .reg [⟨some 2, none, (.assign (.const (.slice none 0 0)))⟩] [0]
@[simp] noncomputable def F11_r1 : CC := .reg [⟨some 3, none, (.move (.tmp 0))⟩,
  ⟨some 4, none, (.binOp .eql 24 (.tmp 3) (.const (.pointer none)) 24)⟩] [0, 4]
@[simp] noncomputable def F11_r2 : CC := .reg [⟨some 2, none, (.assign (.const (.slice none 0 0)))⟩] [2]
@[simp] noncomputable def F11_r3 : CC := .reg [⟨some 5, none, (.move (.tmp 0))⟩,
  ⟨some 6, none, (.nilCheck (.tmp 5))⟩,
  ⟨some 7, none, (.fieldAddr 57 (.tmp 6) 3)⟩,
  ⟨some 8, none, (.load 54 (.tmp 7))⟩,
  ⟨some 9, none, (.call { callee := (.value (.func 28)), args := #[(.tmp 8)], argTypes := #[54] })⟩,
  ⟨some 2, none, (.assign (.tmp 9))⟩] [2]
noncomputable def F11 : CC := (.seq F11_r0 (.seq (.seq F11_r1 (.cond (.tmp 4) (.seq F11_r2 .ret) .skip)) (.seq F11_r3 .ret)))
noncomputable def F11_inf : Nat → RI
  | 0 => ⟨[0], [], []⟩
  | 1 => ⟨[0, 4], [], []⟩
  | 2 => ⟨[2], [], []⟩
  | 3 => ⟨[2], [], []⟩
  | _ => ⟨[], [], []⟩
noncomputable def F11_c : Code := Try.f11.body.getD .skip
theorem F11_b : Try.f11.body = some F11_c := by kernel_rfl
theorem F11_rs : Try.f11.results.toList = ([.tmp 2] : List ResultVar) := by kernel_rfl
theorem F11_n : Try.f11.ntmps = 10 := by kernel_rfl
theorem F11_ok : toCC [] 10 F11_inf F11_c = some F11 := by kernel_rfl
theorem F11_in {args : List AV} {G : Hp} {post : AV → Hp → Prop} (ha : args.all AV.plain = true) (hn : args.length ≤ 10) (h : BDs args → awp Try.prog [] F11 (AEnds Try.prog [.tmp 2] post) (initT args) G) : ACalls Try.prog 11 args G post :=
  acalls_cc Try.func11 F11_b F11_rs F11_n F11_ok mixed ha hn h

/- 12 (*ostiary/pool.Pool).Offer -/
@[simp] noncomputable def F12_r0 : CC := .reg [⟨some 6, none, (.assign (.const (.int .u32 0)))⟩,
  ⟨some 7, none, (.assign (.const (.int .i64 0)))⟩] [0, 1, 2]
@[simp] noncomputable def F12_r1 : CC := .reg [⟨some 14, none, (.move (.tmp 0))⟩,
  ⟨some 15, none, (.binOp .eql 24 (.tmp 14) (.const (.pointer none)) 24)⟩] [0, 1, 2, 15]
@[simp] noncomputable def F12_r2 : CC := .reg [⟨some 6, none, (.assign (.const (.int .u32 0)))⟩,
  ⟨some 7, none, (.assign (.const (.int .i64 11)))⟩] [6, 7]
@[simp] noncomputable def F12_r3 : CC := .reg [⟨some 17, none, (.move (.tmp 0))⟩,
  ⟨some 18, none, (.move (.tmp 1))⟩,
  ⟨some 19, none, (.call { callee := (.value (.func 14)), args := #[(.tmp 17), (.tmp 18)], argTypes := #[24, 39] })⟩,
  ⟨some 16, none, (.move (.tmp 19))⟩,
  ⟨some 20, none, (.extract (.tmp 16) 0)⟩,
  ⟨some 21, none, (.extract (.tmp 16) 1)⟩,
  ⟨some 8, none, (.alloc 41)⟩,
  ⟨none, none, (.store 41 (.tmp 8) (.tmp 20))⟩,
  ⟨some 9, none, (.assign (.tmp 21))⟩] [0, 2, 8, 9]
@[simp] noncomputable def F12_r4 : CC := .reg [⟨some 22, none, (.move (.tmp 9))⟩] [0, 2, 8, 22]
@[simp] noncomputable def F12_r5 : CC := .reg [⟨some 23, none, (.fieldAddr 41 (.tmp 8) 1)⟩,
  ⟨some 24, none, (.load 28 (.tmp 23))⟩,
  ⟨some 6, none, (.assign (.tmp 24))⟩,
  ⟨some 7, none, (.assign (.const (.int .i64 0)))⟩] [6, 7]
@[simp] noncomputable def F12_r6 : CC := .reg [⟨some 25, none, (.move (.tmp 0))⟩,
  ⟨some 26, none, (.nilCheck (.tmp 25))⟩,
  ⟨some 27, none, (.fieldAddr 57 (.tmp 26) 1)⟩,
  ⟨some 28, none, (.load 3 (.tmp 27))⟩,
  ⟨some 29, none, (.move (.const (.int .i64 0)))⟩] [0, 2, 28, 29]
@[simp] noncomputable def F12_r7 : CC := .reg [⟨some 30, none, (.binOp .lss 3 (.tmp 29) (.tmp 28) 3)⟩] [0, 2, 28, 29, 30]
@[simp] noncomputable def F12_r8 : CC := .reg [⟨some 31, none, (.move (.tmp 29))⟩,
  ⟨some 10, none, (.assign (.tmp 31))⟩] [0, 2, 10, 28, 29]
@[simp] noncomputable def F12_r9 : CC := .reg [⟨some 32, none, (.move (.tmp 0))⟩,
  ⟨some 33, none, (.nilCheck (.tmp 32))⟩,
  ⟨some 34, none, (.fieldAddr 57 (.tmp 33) 0)⟩,
  ⟨some 35, none, (.load 28 (.tmp 34))⟩,
  ⟨some 36, none, (.binOp .add 28 (.tmp 35) (.const (.int .u32 1)) 28)⟩,
  ⟨some 37, none, (.move (.tmp 10))⟩,
  ⟨some 38, none, (.convert 3 28 (.tmp 37))⟩,
  ⟨some 39, none, (.binOp .add 28 (.tmp 36) (.tmp 38) 28)⟩,
  ⟨some 11, none, (.assign (.tmp 39))⟩] [0, 2, 11, 28, 29]
@[simp] noncomputable def F12_r10 : CC := .reg [⟨some 41, none, (.move (.tmp 0))⟩,
  ⟨some 42, none, (.nilCheck (.tmp 41))⟩,
  ⟨some 43, none, (.fieldAddr 57 (.tmp 42) 3)⟩,
  ⟨some 44, none, (.load 54 (.tmp 43))⟩,
  ⟨some 45, none, (.move (.tmp 11))⟩,
  ⟨some 46, none, (.call { callee := (.value (.func 29)), args := #[(.tmp 44), (.tmp 45)], argTypes := #[54, 28] })⟩,
  ⟨some 40, none, (.move (.tmp 46))⟩,
  ⟨some 47, none, (.extract (.tmp 40) 0)⟩,
  ⟨some 48, none, (.extract (.tmp 40) 1)⟩,
  ⟨some 12, none, (.alloc 41)⟩,
  ⟨none, none, (.store 41 (.tmp 12) (.tmp 47))⟩,
  ⟨some 13, none, (.assign (.tmp 48))⟩] [0, 2, 11, 12, 13, 28, 29]
@[simp] noncomputable def F12_r11 : CC := .reg [⟨some 49, none, (.move (.tmp 13))⟩,
  ⟨some 50, none, (.unOp .not 4 (.tmp 49))⟩,
  ⟨some 51, none, (.move (.tmp 50))⟩,
  ⟨some 52, some (51, false), (.fieldAddr 41 (.tmp 12) 2)⟩,
  ⟨some 53, some (51, false), (.load 2 (.tmp 52))⟩,
  ⟨some 54, some (51, false), (.move (.tmp 2))⟩,
  ⟨some 55, some (51, false), (.binOp .leq 2 (.tmp 53) (.tmp 54) 2)⟩,
  ⟨some 56, none, (.pick (.tmp 51) (.const (.bool true)) (.tmp 55))⟩] [0, 2, 11, 28, 29, 56]
@[simp] noncomputable def F12_r12 : CC := .reg [⟨some 57, none, (.move (.tmp 11))⟩,
  ⟨some 6, none, (.assign (.tmp 57))⟩,
  ⟨some 7, none, (.assign (.const (.int .i64 0)))⟩] [6, 7]
@[simp] noncomputable def F12_r13 : CC := .reg [⟨some 58, none, (.binOp .add 3 (.tmp 29) (.const (.int .i64 1)) 3)⟩,
  ⟨some 29, none, (.move (.tmp 58))⟩] [0, 2, 28, 29]
noncomputable def F12_l0 : CC := (.seq F12_r7 (.seq (.cond (.tmp 30) .skip (.exit 0)) (.seq (.block 1 (.seq F12_r8 (.seq F12_r9 (.seq F12_r10 (.seq F12_r11 (.cond (.tmp 56) (.seq F12_r12 .ret) .skip)))))) F12_r13)))
@[simp] noncomputable def F12_r14 : CC := .reg [⟨some 6, none, (.assign (.const (.int .u32 0)))⟩,
  ⟨some 7, none, (.assign (.const (.int .i64 4)))⟩] [6, 7]
noncomputable def F12 : CC := (.seq F12_r0 (.seq (.seq F12_r1 (.cond (.tmp 15) (.seq F12_r2 .ret) .skip)) (.seq (.seq F12_r3 (.seq F12_r4 (.cond (.tmp 22) (.seq F12_r5 .ret) .skip))) (.seq (.seq F12_r6 (.block 0 (.loop F12_l0))) (.seq F12_r14 .ret)))))
noncomputable def F12_inf : Nat → RI
  | 0 => ⟨[0, 1, 2], [], []⟩
  | 1 => ⟨[0, 1, 2, 15], [], []⟩
  | 2 => ⟨[6, 7], [], []⟩
  | 3 => ⟨[0, 2, 8, 9], [], []⟩
  | 4 => ⟨[0, 2, 8, 22], [], []⟩
  | 5 => ⟨[6, 7], [], []⟩
  | 6 => ⟨[0, 2, 28, 29], [], []⟩
  | 7 => ⟨[0, 2, 28, 29, 30], [], []⟩
  | 8 => ⟨[0, 2, 10, 28, 29], [], []⟩
  | 9 => ⟨[0, 2, 11, 28, 29], [], []⟩
  | 10 => ⟨[0, 2, 11, 12, 13, 28, 29], [], []⟩
  | 11 => ⟨[0, 2, 11, 28, 29, 56], [], []⟩
  | 12 => ⟨[6, 7], [], []⟩
  | 13 => ⟨[0, 2, 28, 29], [], []⟩
  | 14 => ⟨[6, 7], [], []⟩
  | _ => ⟨[], [], []⟩
noncomputable def F12_c : Code := Try.f12.body.getD .skip
theorem F12_b : Try.f12.body = some F12_c := by kernel_rfl
theorem F12_rs : Try.f12.results.toList = ([.tmp 6, .tmp 7] : List ResultVar) := by kernel_rfl
theorem F12_n : Try.f12.ntmps = 59 := by kernel_rfl
theorem F12_ok : toCC [] 59 F12_inf F12_c = some F12 := by kernel_rfl
theorem F12_in {args : List AV} {G : Hp} {post : AV → Hp → Prop} (ha : args.all AV.plain = true) (hn : args.length ≤ 59) (h : BDs args → awp Try.prog [] F12 (AEnds Try.prog [.tmp 6, .tmp 7] post) (initT args) G) : ACalls Try.prog 12 args G post :=
  acalls_cc Try.func12 F12_b F12_rs F12_n F12_ok mixed ha hn h

/- 13 (*ostiary/pool.Pool).Grant -/
@[simp] noncomputable def F13_r0 : CC := .reg [⟨some 8, none, (.assign (.const (.int .i64 0)))⟩,
  ⟨some 9, none, (.assign (.const (.int .i64 0)))⟩] [0, 1, 2, 3]
@[simp] noncomputable def F13_r1 : CC := .reg [⟨some 13, none, (.move (.tmp 0))⟩,
  ⟨some 14, none, (.binOp .eql 24 (.tmp 13) (.const (.pointer none)) 24)⟩,
  ⟨some 12, none, (.assign (.tmp 14))⟩] [0, 1, 2, 3, 12]
@[simp] noncomputable def F13_r2 : CC := .reg [⟨some 8, none, (.assign (.const (.int .i64 0)))⟩,
  ⟨some 9, none, (.assign (.const (.int .i64 11)))⟩] [8, 9]
@[simp] noncomputable def F13_r3 : CC := .reg [⟨some 16, none, (.move (.tmp 0))⟩,
  ⟨some 17, none, (.move (.tmp 2))⟩,
  ⟨some 18, none, (.call { callee := (.value (.func 30)), args := #[(.tmp 16), (.tmp 17)], argTypes := #[24, 28] })⟩,
  ⟨some 19, none, (.unOp .not 4 (.tmp 18))⟩,
  ⟨some 15, none, (.assign (.tmp 19))⟩] [0, 1, 2, 3, 15]
@[simp] noncomputable def F13_r4 : CC := .reg [⟨some 8, none, (.assign (.const (.int .i64 0)))⟩,
  ⟨some 9, none, (.assign (.const (.int .i64 7)))⟩] [8, 9]
@[simp] noncomputable def F13_r5 : CC := .reg [⟨some 21, none, (.move (.tmp 0))⟩,
  ⟨some 22, none, (.nilCheck (.tmp 21))⟩,
  ⟨some 23, none, (.fieldAddr 57 (.tmp 22) 3)⟩,
  ⟨some 24, none, (.load 54 (.tmp 23))⟩,
  ⟨some 25, none, (.move (.tmp 2))⟩,
  ⟨some 26, none, (.call { callee := (.value (.func 29)), args := #[(.tmp 24), (.tmp 25)], argTypes := #[54, 28] })⟩,
  ⟨some 20, none, (.move (.tmp 26))⟩,
  ⟨some 27, none, (.extract (.tmp 20) 0)⟩,
  ⟨some 28, none, (.extract (.tmp 20) 1)⟩,
  ⟨some 10, none, (.alloc 41)⟩,
  ⟨none, none, (.store 41 (.tmp 10) (.tmp 27))⟩,
  ⟨some 11, none, (.assign (.tmp 28))⟩] [0, 1, 2, 3, 10, 11]
@[simp] noncomputable def F13_r6 : CC := .reg [⟨some 29, none, (.move (.tmp 11))⟩,
  ⟨some 30, none, (.move (.tmp 29))⟩,
  ⟨some 31, some (30, true), (.fieldAddr 41 (.tmp 10) 0)⟩,
  ⟨some 32, some (30, true), (.load 39 (.tmp 31))⟩,
  ⟨some 33, some (30, true), (.move (.tmp 1))⟩,
  ⟨some 34, some (30, true), (.binOp .neq 39 (.tmp 32) (.tmp 33) 39)⟩,
  ⟨some 35, none, (.pick (.tmp 30) (.tmp 34) (.const (.bool false)))⟩,
  ⟨some 36, none, (.move (.tmp 35))⟩,
  ⟨some 37, some (36, true), (.fieldAddr 41 (.tmp 10) 2)⟩,
  ⟨some 38, some (36, true), (.load 2 (.tmp 37))⟩,
  ⟨some 39, some (36, true), (.move (.tmp 3))⟩,
  ⟨some 40, some (36, true), (.binOp .gtr 2 (.tmp 38) (.tmp 39) 2)⟩,
  ⟨some 41, none, (.pick (.tmp 36) (.tmp 40) (.const (.bool false)))⟩] [0, 1, 2, 3, 41]
@[simp] noncomputable def F13_r7 : CC := .reg [⟨some 8, none, (.assign (.const (.int .i64 0)))⟩,
  ⟨some 9, none, (.assign (.const (.int .i64 3)))⟩] [8, 9]
@[simp] noncomputable def F13_r8 : CC := .reg [⟨some 42, none, (.move (.tmp 0))⟩,
  ⟨some 43, none, (.move (.tmp 1))⟩,
  ⟨some 44, none, (.call { callee := (.value (.func 15)), args := #[(.tmp 42), (.tmp 43)], argTypes := #[24, 39] })⟩] [0, 1, 2, 3]
@[simp] noncomputable def F13_r9 : CC := .drw [⟨0, ⟨some 45, none, (.move (.tmp 0))⟩, [], []⟩,
  ⟨1, ⟨some 46, none, (.nilCheck (.tmp 45))⟩, [], []⟩,
  ⟨2, ⟨some 47, none, (.fieldAddr 57 (.tmp 46) 3)⟩, [], []⟩,
  ⟨3, ⟨some 48, none, (.load 54 (.tmp 47))⟩, [], []⟩,
  ⟨4, ⟨some 49, none, (.move (.tmp 2))⟩, [], []⟩,
  ⟨5, ⟨some 50, none, (.move (.tmp 1))⟩, [], []⟩,
  ⟨6, ⟨some 51, none, (.move (.tmp 2))⟩, [], []⟩,
  ⟨7, ⟨some 52, none, (.move (.tmp 3))⟩, [], []⟩,
  ⟨8, ⟨some 53, none, (.move (.tmp 0))⟩, [], []⟩,
  ⟨9, ⟨some 54, none, (.nilCheck (.tmp 53))⟩, [], []⟩,
  ⟨10, ⟨some 55, none, (.fieldAddr 57 (.tmp 54) 2)⟩, [], []⟩,
  ⟨11, ⟨some 56, none, (.load 2 (.tmp 55))⟩, [], []⟩,
  ⟨12, ⟨some 57, none, (.binOp .add 2 (.tmp 52) (.tmp 56) 2)⟩, [], []⟩,
  ⟨13, ⟨some 58, none, (.build 41 #[(0, (.tmp 50)), (1, (.tmp 51)), (2, (.tmp 57))])⟩, [], []⟩,
  ⟨14, ⟨some 59, none, (.call { callee := (.value (.func 31)), args := #[(.tmp 48), (.tmp 49), (.tmp 58)], argTypes := #[54, 28, 41] })⟩, [], []⟩] [45, 46, 47, 48, 49, 50, 51, 52, 53, 54, 55, 56, 57, 58, 59] [0, 3]
@[simp] noncomputable def F13_r10 : CC := .reg [⟨some 60, none, (.move (.tmp 3))⟩,
  ⟨some 61, none, (.move (.tmp 0))⟩,
  ⟨some 62, none, (.nilCheck (.tmp 61))⟩,
  ⟨some 63, none, (.fieldAddr 57 (.tmp 62) 2)⟩,
  ⟨some 64, none, (.load 2 (.tmp 63))⟩,
  ⟨some 65, none, (.binOp .add 2 (.tmp 60) (.tmp 64) 2)⟩,
  ⟨some 8, none, (.assign (.tmp 65))⟩,
  ⟨some 9, none, (.assign (.const (.int .i64 0)))⟩] [8, 9]
noncomputable def F13 : CC := (.seq F13_r0 (.seq (.block 0 (.seq F13_r1 (.cond (.tmp 12) (.seq F13_r2 .ret) (.seq F13_r3 (.cond (.tmp 15) (.seq F13_r4 .ret) .skip))))) (.seq (.seq F13_r5 (.seq F13_r6 (.cond (.tmp 41) (.seq F13_r7 .ret) .skip))) (.seq F13_r8 (.seq F13_r9 (.seq F13_r10 .ret))))))
noncomputable def F13_inf : Nat → RI
  | 0 => ⟨[0, 1, 2, 3], [], []⟩
  | 1 => ⟨[0, 1, 2, 3, 12], [], []⟩
  | 2 => ⟨[8, 9], [], []⟩
  | 3 => ⟨[0, 1, 2, 3, 15], [], []⟩
  | 4 => ⟨[8, 9], [], []⟩
  | 5 => ⟨[0, 1, 2, 3, 10, 11], [], []⟩
  | 6 => ⟨[0, 1, 2, 3, 41], [], []⟩
  | 7 => ⟨[8, 9], [], []⟩
  | 8 => ⟨[0, 1, 2, 3], [], []⟩
  | 9 => ⟨[0, 3], [0, 1, 3, 7, 0, 0, 0, 0, 0, 256, 768, 1792, 3968, 8160, 16383], [(0, []), (1, []), (2, []), (3, []), (4, []), (5, []), (6, []), (7, []), (8, []), (9, []), (10, []), (11, []), (12, []), (13, []), (14, [])]⟩
  | 10 => ⟨[8, 9], [], []⟩
  | _ => ⟨[], [], []⟩
noncomputable def F13_c : Code := Try.f13.body.getD .skip
theorem F13_b : Try.f13.body = some F13_c := by kernel_rfl
theorem F13_rs : Try.f13.results.toList = ([.tmp 8, .tmp 9] : List ResultVar) := by kernel_rfl
theorem F13_n : Try.f13.ntmps = 66 := by kernel_rfl
theorem F13_ok : toCC [] 66 F13_inf F13_c = some F13 := by kernel_rfl
theorem F13_in {args : List AV} {G : Hp} {post : AV → Hp → Prop} (ha : args.all AV.plain = true) (hn : args.length ≤ 66) (h : BDs args → awp Try.prog [] F13 (AEnds Try.prog [.tmp 8, .tmp 9] post) (initT args) G) : ACalls Try.prog 13 args G post :=
  acalls_cc Try.func13 F13_b F13_rs F13_n F13_ok mixed ha hn h

/- 14 (*ostiary/pool.Pool).Find -/
@[simp] noncomputable def F14_r0 : CC := .reg [⟨some 4, none, (.alloc 41)⟩,
  ⟨some 5, none, (.assign (.const (.bool false)))⟩] [0, 1, 4]
@[simp] noncomputable def F14_r1 : CC := .reg [⟨some 8, none, (.move (.tmp 0))⟩,
  ⟨some 9, none, (.call { callee := (.value (.func 11)), args := #[(.tmp 8)], argTypes := #[24] })⟩,
  ⟨some 10, none, (.call { callee := (.builtin .len), args := #[(.tmp 9)], argTypes := #[37] })⟩,
  ⟨some 11, none, (.move (.const (.int .i64 0)))⟩] [1, 4, 9, 10, 11]
@[simp] noncomputable def F14_r2 : CC := .reg [⟨some 12, none, (.binOp .lss 3 (.tmp 11) (.tmp 10) 3)⟩] [1, 4, 9, 10, 11, 12]
@[simp] noncomputable def F14_r3 : CC := .reg [⟨some 13, none, (.indexAddr 37 (.tmp 9) (.tmp 11))⟩,
  ⟨some 14, none, (.load 41 (.tmp 13))⟩,
  ⟨some 7, none, (.alloc 41)⟩,
  ⟨none, none, (.store 41 (.tmp 7) (.tmp 14))⟩] [1, 4, 7, 9, 10, 11]
@[simp] noncomputable def F14_r4 : CC := .reg [⟨some 15, none, (.fieldAddr 41 (.tmp 7) 0)⟩,
  ⟨some 16, none, (.load 39 (.tmp 15))⟩,
  ⟨some 17, none, (.move (.tmp 1))⟩,
  ⟨some 18, none, (.binOp .eql 39 (.tmp 16) (.tmp 17) 39)⟩] [1, 4, 7, 9, 10, 11, 18]
@[simp] noncomputable def F14_r5 : CC := .reg [⟨some 19, none, (.load 41 (.tmp 7))⟩,
  ⟨none, none, (.store 41 (.tmp 4) (.tmp 19))⟩,
  ⟨some 5, none, (.assign (.const (.bool true)))⟩] [4, 5]
@[simp] noncomputable def F14_r6 : CC := .reg [⟨some 20, none, (.binOp .add 3 (.tmp 11) (.const (.int .i64 1)) 3)⟩,
  ⟨some 11, none, (.move (.tmp 20))⟩] [1, 4, 9, 10, 11]
noncomputable def F14_l0 : CC := (.seq F14_r2 (.seq (.cond (.tmp 12) .skip (.exit 0)) (.seq (.block 1 (.seq F14_r3 (.seq F14_r4 (.cond (.tmp 18) (.seq F14_r5 .ret) .skip)))) F14_r6)))
@[simp] noncomputable def F14_r7 : CC := .reg [⟨some 21, none, (.build 41 #[])⟩,
  ⟨none, none, (.store 41 (.tmp 4) (.tmp 21))⟩,
  ⟨some 5, none, (.assign (.const (.bool false)))⟩] [4, 5]
noncomputable def F14 : CC := (.seq F14_r0 (.seq (.seq F14_r1 (.block 0 (.loop F14_l0))) (.seq F14_r7 .ret)))
noncomputable def F14_inf : Nat → RI
  | 0 => ⟨[0, 1, 4], [], []⟩
  | 1 => ⟨[1, 4, 9, 10, 11], [], []⟩
  | 2 => ⟨[1, 4, 9, 10, 11, 12], [], []⟩
  | 3 => ⟨[1, 4, 7, 9, 10, 11], [], []⟩
  | 4 => ⟨[1, 4, 7, 9, 10, 11, 18], [], []⟩
  | 5 => ⟨[4, 5], [], []⟩
  | 6 => ⟨[1, 4, 9, 10, 11], [], []⟩
  | 7 => ⟨[4, 5], [], []⟩
  | _ => ⟨[], [], []⟩
noncomputable def F14_c : Code := Try.f14.body.getD .skip
theorem F14_b : Try.f14.body = some F14_c := by kernel_rfl
theorem F14_rs : Try.f14.results.toList = ([.cell 4 41, .tmp 5] : List ResultVar) := by kernel_rfl
theorem F14_n : Try.f14.ntmps = 22 := by kernel_rfl
theorem F14_ok : toCC [] 22 F14_inf F14_c = some F14 := by kernel_rfl
theorem F14_in {args : List AV} {G : Hp} {post : AV → Hp → Prop} (ha : args.all AV.plain = true) (hn : args.length ≤ 22) (h : BDs args → awp Try.prog [] F14 (AEnds Try.prog [.cell 4 41, .tmp 5] post) (initT args) G) : ACalls Try.prog 14 args G post :=
  acalls_cc Try.func14 F14_b F14_rs F14_n F14_ok mixed ha hn h
end Go.Proofs.Ytjkighndbjnbjaa
