import Derived.Test.YtapocekfkbkefaaC0K
set_option linter.unusedVariables false
set_option linter.unusedSimpArgs false
set_option maxRecDepth 100000
namespace Go.Proofs.Ytapocekfkbkefaa
open Go Go.Al

/- 15 (*ostiary/view.View).Age -/
@[simp] noncomputable def F15_r0 : CC := .reg [⟨some 4, none, (.box 2 (.tmp 1))⟩,
  ⟨some 5, none, (.box 2 (.tmp 2))⟩,
  ⟨some 6, none, (.assign (.const (.slice none 0 0)))⟩] [0, 4, 5]
@[simp] noncomputable def F15_r1 : CC := .reg [⟨some 7, none, (.move (.tmp 0))⟩,
  ⟨some 8, none, (.binOp .eql 23 (.tmp 7) (.const (.pointer none)) 23)⟩] [0, 4, 5, 8]
@[simp] noncomputable def F15_r2 : CC := .reg [⟨some 6, none, (.assign (.const (.slice none 0 0)))⟩] [6]
@[simp] noncomputable def F15_r3 : CC := .reg [⟨some 9, none, (.move (.tmp 0))⟩,
  ⟨some 10, none, (.makeFunc (.func 37) #[] #[(.tmp 4), (.tmp 5)])⟩,
  ⟨some 11, none, (.call { callee := (.value (.func 35)), args := #[(.tmp 9), (.tmp 10)], argTypes := #[23, 73] })⟩,
  ⟨some 6, none, (.assign (.tmp 11))⟩] [6]
noncomputable def F15 : CC := (.seq F15_r0 (.seq (.seq F15_r1 (.cond (.tmp 8) (.seq F15_r2 .ret) .skip)) (.seq F15_r3 .ret)))
noncomputable def F15_inf : Nat → RI
  | 0 => ⟨[0, 4, 5], [], []⟩
  | 1 => ⟨[0, 4, 5, 8], [], []⟩
  | 2 => ⟨[6], [], []⟩
  | 3 => ⟨[6], [], []⟩
  | _ => ⟨[], [], []⟩
noncomputable def F15_c : Code := Try.f15.body.getD .skip
theorem F15_b : Try.f15.body = some F15_c := by kernel_rfl
theorem F15_rs : Try.f15.results.toList = ([.tmp 6] : List ResultVar) := by kernel_rfl
theorem F15_n : Try.f15.ntmps = 12 := by kernel_rfl
theorem F15_ok : toCC [4, 5] 12 F15_inf F15_c = some F15 := by kernel_rfl
theorem F15_in {args : List AV} {G : Hp} {post : AV → Hp → Prop} (ha : args.all AV.plain = true) (hn : args.length ≤ 12) (h : BDs args → awp Try.prog [4, 5] F15 (AEnds Try.prog [.tmp 6] post) (initT args) G) : ACalls Try.prog 15 args G post :=
  acalls_cc Try.func15 F15_b F15_rs F15_n F15_ok mixed ha hn h

/- 16 ostiary/ostiarylaw21.same -/
@[simp] noncomputable def F16_r0 : CC := .reg [⟨some 4, none, (.assign (.const (.bool false)))⟩] [0, 1]
@[simp] noncomputable def F16_r1 : CC := .reg [⟨some 5, none, (.assign (.const (.int .i64 0)))⟩] [0, 1, 5]
@[simp] noncomputable def F16_r2 : CC := .reg [⟨some 13, none, (.move (.tmp 5))⟩,
  ⟨some 14, none, (.binOp .leq 3 (.tmp 13) (.const (.int .i64 9)) 3)⟩] [0, 1, 5, 14]
@[simp] noncomputable def F16_r4 : CC := .reg [⟨some 6, none, (.assign (.const (.int .i64 0)))⟩] [0, 1, 5, 6]
@[simp] noncomputable def F16_r5 : CC := .reg [⟨some 17, none, (.move (.tmp 6))⟩,
  ⟨some 18, none, (.binOp .leq 3 (.tmp 17) (.const (.int .i64 9)) 3)⟩] [0, 1, 5, 6, 18]
@[simp] noncomputable def F16_r7 : CC := .reg [⟨some 21, none, (.move (.tmp 5))⟩,
  ⟨some 22, none, (.move (.tmp 6))⟩,
  ⟨some 23, none, (.build 32 #[(0, (.tmp 21)), (1, (.tmp 22))])⟩,
  ⟨some 7, none, (.alloc 32)⟩,
  ⟨none, none, (.store 32 (.tmp 7) (.tmp 23))⟩] [0, 1, 5, 6, 7]
@[simp] noncomputable def F16_r8 : CC := .drw [⟨0, ⟨some 24, none, (.move (.tmp 0))⟩, [], []⟩,
  ⟨1, ⟨some 25, none, (.load 32 (.tmp 7))⟩, [], []⟩,
  ⟨3, ⟨some 27, none, (.move (.tmp 1))⟩, [], []⟩,
  ⟨4, ⟨some 28, none, (.load 32 (.tmp 7))⟩, [], []⟩,
  ⟨2, ⟨some 26, none, (.call { callee := (.value (.func 10)), args := #[(.tmp 24), (.tmp 25)], argTypes := #[23, 32] })⟩, [4], [⟨some 28, none, (.load 32 (.tmp 7))⟩]⟩,
  ⟨5, ⟨some 29, none, (.call { callee := (.value (.func 38)), args := #[(.tmp 27), (.tmp 28)], argTypes := #[25, 32] })⟩, [], []⟩,
  ⟨6, ⟨some 30, none, (.binOp .neq 4 (.tmp 26) (.tmp 29) 4)⟩, [], []⟩,
  ⟨7, ⟨some 31, none, (.move (.tmp 30))⟩, [], []⟩,
  ⟨8, ⟨some 32, some (31, false), (.move (.tmp 0))⟩, [], []⟩,
  ⟨9, ⟨some 33, some (31, false), (.load 32 (.tmp 7))⟩, [], []⟩,
  ⟨11, ⟨some 35, some (31, false), (.move (.tmp 1))⟩, [], []⟩,
  ⟨12, ⟨some 36, some (31, false), (.load 32 (.tmp 7))⟩, [], []⟩,
  ⟨10, ⟨some 34, some (31, false), (.call { callee := (.value (.func 12)), args := #[(.tmp 32), (.tmp 33)], argTypes := #[23, 32] })⟩, [12], [⟨some 36, some (31, false), (.load 32 (.tmp 7))⟩]⟩,
  ⟨13, ⟨some 37, some (31, false), (.call { callee := (.value (.func 39)), args := #[(.tmp 35), (.tmp 36)], argTypes := #[25, 32] })⟩, [], []⟩,
  ⟨14, ⟨some 38, some (31, false), (.binOp .neq 4 (.tmp 34) (.tmp 37) 4)⟩, [], []⟩,
  ⟨15, ⟨some 39, none, (.pick (.tmp 31) (.const (.bool true)) (.tmp 38))⟩, [], []⟩] [24, 25, 27, 28, 26, 29, 30, 31, 32, 33, 35, 36, 34, 37, 38, 39] [0, 1, 5, 6, 39]
@[simp] noncomputable def F16_r9 : CC := .reg [⟨some 4, none, (.assign (.const (.bool false)))⟩] [4]
@[simp] noncomputable def F16_r6 : CC := .reg [⟨some 19, none, (.move (.tmp 6))⟩,
  ⟨some 20, none, (.binOp .add 3 (.tmp 19) (.const (.int .i64 1)) 3)⟩,
  ⟨some 6, none, (.assign (.tmp 20))⟩] [0, 1, 5, 6]
noncomputable def F16_l0 : CC := (.seq (.seq F16_r5 (.cond (.tmp 18) .skip (.exit 2))) (.seq (.block 3 (.seq F16_r7 (.seq F16_r8 (.cond (.tmp 39) (.seq F16_r9 .ret) .skip)))) F16_r6))
@[simp] noncomputable def F16_r3 : CC := .reg [⟨some 15, none, (.move (.tmp 5))⟩,
  ⟨some 16, none, (.binOp .add 3 (.tmp 15) (.const (.int .i64 1)) 3)⟩,
  ⟨some 5, none, (.assign (.tmp 16))⟩] [0, 1, 5]
noncomputable def F16_l1 : CC := (.seq (.seq F16_r2 (.cond (.tmp 14) .skip (.exit 0))) (.seq (.block 1 (.seq F16_r4 (.block 2 (.loop F16_l0)))) F16_r3))
@[simp] noncomputable def F16_r10 : CC := .reg [⟨some 8, none, (.assign (.const (.slice none 0 0)))⟩] [0, 1, 8]
@[simp] noncomputable def F16_r11 : CC := .reg [⟨some 40, none, (.move (.tmp 1))⟩,
  ⟨some 41, none, (.nilCheck (.tmp 40))⟩,
  ⟨some 42, none, (.fieldAddr 30 (.tmp 41) 0)⟩,
  ⟨some 43, none, (.load 26 (.tmp 42))⟩,
  ⟨some 44, none, (.move (.const (.int .i64 0)))⟩] [0, 1, 8, 43, 44]
@[simp] noncomputable def F16_r12 : CC := .reg [⟨some 45, none, (.binOp .lss 3 (.tmp 44) (.const (.int .i64 9)) 3)⟩] [0, 1, 8, 43, 44, 45]
@[simp] noncomputable def F16_r13 : CC := .reg [⟨some 46, none, (.move (.tmp 44))⟩,
  ⟨some 47, none, (.index 26 (.tmp 43) (.tmp 44))⟩,
  ⟨some 9, none, (.assign (.tmp 46))⟩,
  ⟨some 10, none, (.assign (.tmp 47))⟩] [0, 1, 8, 9, 10, 43, 44]
@[simp] noncomputable def F16_r14 : CC := .reg [⟨some 48, none, (.move (.tmp 10))⟩] [0, 1, 8, 9, 43, 44, 48]
@[simp] noncomputable def F16_r15 : CC := .reg [⟨some 49, none, (.move (.tmp 8))⟩,
  ⟨some 50, none, (.move (.tmp 9))⟩,
  ⟨some 51, none, (.buildSlice 51 1 #[(0, (.tmp 50))])⟩,
  ⟨some 52, none, (.call { callee := (.builtin .append), args := #[(.tmp 49), (.tmp 51)], argTypes := #[51, 51] })⟩,
  ⟨some 8, none, (.assign (.tmp 52))⟩] [0, 1, 8, 43, 44]
@[simp] noncomputable def F16_r16 : CC := .reg [⟨some 53, none, (.binOp .add 3 (.tmp 44) (.const (.int .i64 1)) 3)⟩,
  ⟨some 44, none, (.move (.tmp 53))⟩] [0, 1, 8, 43, 44]
noncomputable def F16_l2 : CC := (.seq F16_r12 (.seq (.cond (.tmp 45) .skip (.exit 4)) (.seq (.block 5 (.seq F16_r13 (.seq F16_r14 (.cond (.tmp 48) F16_r15 .skip)))) F16_r16)))
@[simp] noncomputable def F16_r17 : CC := .reg [⟨some 54, none, (.move (.tmp 0))⟩,
  ⟨some 55, none, (.call { callee := (.value (.func 19)), args := #[(.tmp 54)], argTypes := #[23] })⟩,
  ⟨some 11, none, (.assign (.tmp 55))⟩] [0, 1, 8, 11]
@[simp] noncomputable def F16_r18 : CC := .reg [⟨some 56, none, (.move (.tmp 11))⟩,
  ⟨some 57, none, (.call { callee := (.builtin .len), args := #[(.tmp 56)], argTypes := #[51] })⟩,
  ⟨some 58, none, (.move (.tmp 8))⟩,
  ⟨some 59, none, (.call { callee := (.builtin .len), args := #[(.tmp 58)], argTypes := #[51] })⟩,
  ⟨some 60, none, (.binOp .neq 3 (.tmp 57) (.tmp 59) 3)⟩] [0, 1, 8, 11, 60]
@[simp] noncomputable def F16_r19 : CC := .reg [⟨some 4, none, (.assign (.const (.bool false)))⟩] [4]
@[simp] noncomputable def F16_r20 : CC := .reg [⟨some 61, none, (.move (.tmp 11))⟩,
  ⟨some 62, none, (.call { callee := (.builtin .len), args := #[(.tmp 61)], argTypes := #[51] })⟩,
  ⟨some 63, none, (.move (.const (.int .i64 0)))⟩] [0, 1, 8, 11, 62, 63]
@[simp] noncomputable def F16_r21 : CC := .reg [⟨some 64, none, (.binOp .lss 3 (.tmp 63) (.tmp 62) 3)⟩] [0, 1, 8, 11, 62, 63, 64]
@[simp] noncomputable def F16_r22 : CC := .reg [⟨some 65, none, (.move (.tmp 63))⟩,
  ⟨some 12, none, (.assign (.tmp 65))⟩] [0, 1, 8, 11, 12, 62, 63]
@[simp] noncomputable def F16_r23 : CC := .drw [⟨0, ⟨some 66, none, (.move (.tmp 11))⟩, [], []⟩,
  ⟨1, ⟨some 67, none, (.move (.tmp 12))⟩, [], []⟩,
  ⟨2, ⟨some 68, none, (.indexAddr 51 (.tmp 66) (.tmp 67))⟩, [], []⟩,
  ⟨3, ⟨some 69, none, (.load 3 (.tmp 68))⟩, [], []⟩,
  ⟨4, ⟨some 70, none, (.move (.tmp 8))⟩, [], []⟩,
  ⟨5, ⟨some 71, none, (.move (.tmp 12))⟩, [], []⟩,
  ⟨6, ⟨some 72, none, (.indexAddr 51 (.tmp 70) (.tmp 71))⟩, [], []⟩,
  ⟨7, ⟨some 73, none, (.load 3 (.tmp 72))⟩, [], []⟩,
  ⟨8, ⟨some 74, none, (.binOp .neq 3 (.tmp 69) (.tmp 73) 3)⟩, [], []⟩] [66, 67, 68, 69, 70, 71, 72, 73, 74] [0, 1, 8, 11, 62, 63, 74]
@[simp] noncomputable def F16_r24 : CC := .reg [⟨some 4, none, (.assign (.const (.bool false)))⟩] [4]
@[simp] noncomputable def F16_r25 : CC := .reg [⟨some 75, none, (.binOp .add 3 (.tmp 63) (.const (.int .i64 1)) 3)⟩,
  ⟨some 63, none, (.move (.tmp 75))⟩] [0, 1, 8, 11, 62, 63]
noncomputable def F16_l3 : CC := (.seq F16_r21 (.seq (.cond (.tmp 64) .skip (.exit 6)) (.seq (.block 7 (.seq F16_r22 (.seq F16_r23 (.cond (.tmp 74) (.seq F16_r24 .ret) .skip)))) F16_r25)))
@[simp] noncomputable def F16_r26 : CC := .reg [⟨some 76, none, (.move (.tmp 0))⟩,
  ⟨some 77, none, (.call { callee := (.value (.func 9)), args := #[(.tmp 76)], argTypes := #[23] })⟩,
  ⟨some 78, none, (.move (.tmp 1))⟩,
  ⟨some 79, none, (.call { callee := (.value (.func 40)), args := #[(.tmp 78)], argTypes := #[25] })⟩,
  ⟨some 80, none, (.call { callee := (.value (.func 22)), args := #[(.tmp 77), (.tmp 79)], argTypes := #[36, 36] })⟩,
  ⟨some 4, none, (.assign (.tmp 80))⟩] [4]
noncomputable def F16 : CC := (.seq F16_r0 (.seq (.seq F16_r1 (.block 0 (.loop F16_l1))) (.seq F16_r10 (.seq (.seq F16_r11 (.block 4 (.loop F16_l2))) (.seq F16_r17 (.seq (.seq F16_r18 (.cond (.tmp 60) (.seq F16_r19 .ret) .skip)) (.seq (.seq F16_r20 (.block 6 (.loop F16_l3))) (.seq F16_r26 .ret))))))))
noncomputable def F16_inf : Nat → RI
  | 0 => ⟨[0, 1], [], []⟩
  | 1 => ⟨[0, 1, 5], [], []⟩
  | 2 => ⟨[0, 1, 5, 14], [], []⟩
  | 4 => ⟨[0, 1, 5, 6], [], []⟩
  | 5 => ⟨[0, 1, 5, 6, 18], [], []⟩
  | 7 => ⟨[0, 1, 5, 6, 7], [], []⟩
  | 8 => ⟨[0, 1, 5, 6, 39], [0, 0, 3, 0, 0, 31, 63, 127, 255, 255, 1023, 255, 255, 8191, 16383, 32767], [(0, []), (1, []), (3, []), (4, []), (2, [4]), (5, []), (6, []), (7, []), (8, []), (9, []), (11, []), (12, []), (10, [12]), (13, []), (14, []), (15, [])]⟩
  | 9 => ⟨[4], [], []⟩
  | 6 => ⟨[0, 1, 5, 6], [], []⟩
  | 3 => ⟨[0, 1, 5], [], []⟩
  | 10 => ⟨[0, 1, 8], [], []⟩
  | 11 => ⟨[0, 1, 8, 43, 44], [], []⟩
  | 12 => ⟨[0, 1, 8, 43, 44, 45], [], []⟩
  | 13 => ⟨[0, 1, 8, 9, 10, 43, 44], [], []⟩
  | 14 => ⟨[0, 1, 8, 9, 43, 44, 48], [], []⟩
  | 15 => ⟨[0, 1, 8, 43, 44], [], []⟩
  | 16 => ⟨[0, 1, 8, 43, 44], [], []⟩
  | 17 => ⟨[0, 1, 8, 11], [], []⟩
  | 18 => ⟨[0, 1, 8, 11, 60], [], []⟩
  | 19 => ⟨[4], [], []⟩
  | 20 => ⟨[0, 1, 8, 11, 62, 63], [], []⟩
  | 21 => ⟨[0, 1, 8, 11, 62, 63, 64], [], []⟩
  | 22 => ⟨[0, 1, 8, 11, 12, 62, 63], [], []⟩
  | 23 => ⟨[0, 1, 8, 11, 62, 63, 74], [0, 0, 3, 7, 0, 0, 48, 112, 255], [(0, []), (1, []), (2, []), (3, []), (4, []), (5, []), (6, []), (7, []), (8, [])]⟩
  | 24 => ⟨[4], [], []⟩
  | 25 => ⟨[0, 1, 8, 11, 62, 63], [], []⟩
  | 26 => ⟨[4], [], []⟩
  | _ => ⟨[], [], []⟩
noncomputable def F16_c : Code := Try.f16.body.getD .skip
theorem F16_b : Try.f16.body = some F16_c := by kernel_rfl
theorem F16_rs : Try.f16.results.toList = ([.tmp 4] : List ResultVar) := by kernel_rfl
theorem F16_n : Try.f16.ntmps = 81 := by kernel_rfl
theorem F16_ok : toCC [] 81 F16_inf F16_c = some F16 := by kernel_rfl
theorem F16_in {args : List AV} {G : Hp} {post : AV → Hp → Prop} (ha : args.all AV.plain = true) (hn : args.length ≤ 81) (h : BDs args → awp Try.prog [] F16 (AEnds Try.prog [.tmp 4] post) (initT args) G) : ACalls Try.prog 16 args G post :=
  acalls_cc Try.func16 F16_b F16_rs F16_n F16_ok mixed ha hn h

/- 17 (*ostiary/view.View).Ports -/
@[simp] noncomputable def F17_r0 : CC := .reg [⟨some 3, none, (.box 23 (.tmp 0))⟩,
  ⟨some 6, none, (.assign (.const (.slice none 0 0)))⟩] [1, 2, 3]
@[simp] noncomputable def F17_r1 : CC := .reg [⟨some 7, none, (.load 23 (.tmp 3))⟩,
  ⟨some 8, none, (.binOp .eql 23 (.tmp 7) (.const (.pointer none)) 23)⟩,
  ⟨some 9, none, (.move (.tmp 8))⟩,
  ⟨some 10, some (9, false), (.move (.tmp 1))⟩,
  ⟨some 11, some (9, false), (.build 32 #[(0, (.tmp 10)), (1, (.const (.int .i64 1)))])⟩,
  ⟨some 12, some (9, false), (.call { callee := (.value (.func 28)), args := #[(.tmp 11)], argTypes := #[32] })⟩,
  ⟨some 13, some (9, false), (.unOp .not 4 (.tmp 12))⟩,
  ⟨some 14, none, (.pick (.tmp 9) (.const (.bool true)) (.tmp 13))⟩,
  ⟨some 15, none, (.move (.tmp 14))⟩,
  ⟨some 16, some (15, false), (.move (.tmp 2))⟩,
  ⟨some 17, some (15, false), (.binOp .lss 3 (.tmp 16) (.const (.int .i64 0)) 3)⟩,
  ⟨some 18, none, (.pick (.tmp 15) (.const (.bool true)) (.tmp 17))⟩,
  ⟨some 19, none, (.move (.tmp 18))⟩,
  ⟨some 20, some (19, false), (.move (.tmp 2))⟩,
  ⟨some 21, some (19, false), (.binOp .gtr 3 (.tmp 20) (.const (.int .i64 255)) 3)⟩,
  ⟨some 22, none, (.pick (.tmp 19) (.const (.bool true)) (.tmp 21))⟩] [1, 2, 3, 22]
@[simp] noncomputable def F17_r2 : CC := .reg [⟨some 6, none, (.assign (.const (.slice none 0 0)))⟩] [6]
@[simp] noncomputable def F17_r3 : CC := .reg [⟨some 23, none, (.load 23 (.tmp 3))⟩,
  ⟨some 24, none, (.nilCheck (.tmp 23))⟩,
  ⟨some 25, none, (.fieldAddr 60 (.tmp 24) 0)⟩,
  ⟨some 26, none, (.load 53 (.tmp 25))⟩,
  ⟨some 27, none, (.move (.tmp 1))⟩,
  ⟨some 28, none, (.move (.tmp 2))⟩,
  ⟨some 29, none, (.call { callee := (.value (.func 41)), args := #[(.tmp 26), (.tmp 27), (.tmp 28)], argTypes := #[53, 3, 3] })⟩] [3]
@[simp] noncomputable def F17_r4 : CC := .reg [⟨some 30, none, (.load 23 (.tmp 3))⟩,
  ⟨some 31, none, (.makeFunc (.func 42) #[] #[(.tmp 3)])⟩,
  ⟨some 32, none, (.call { callee := (.value (.func 35)), args := #[(.tmp 30), (.tmp 31)], argTypes := #[23, 73] })⟩,
  ⟨some 6, none, (.assign (.tmp 32))⟩] [6]
noncomputable def F17 : CC := (.seq F17_r0 (.seq (.seq F17_r1 (.cond (.tmp 22) (.seq F17_r2 .ret) .skip)) (.seq F17_r3 (.seq F17_r4 .ret))))
noncomputable def F17_inf : Nat → RI
  | 0 => ⟨[1, 2, 3], [], []⟩
  | 1 => ⟨[1, 2, 3, 22], [], []⟩
  | 2 => ⟨[6], [], []⟩
  | 3 => ⟨[3], [], []⟩
  | 4 => ⟨[6], [], []⟩
  | _ => ⟨[], [], []⟩
noncomputable def F17_c : Code := Try.f17.body.getD .skip
theorem F17_b : Try.f17.body = some F17_c := by kernel_rfl
theorem F17_rs : Try.f17.results.toList = ([.tmp 6] : List ResultVar) := by kernel_rfl
theorem F17_n : Try.f17.ntmps = 33 := by kernel_rfl
theorem F17_ok : toCC [3] 33 F17_inf F17_c = some F17 := by kernel_rfl
theorem F17_in {args : List AV} {G : Hp} {post : AV → Hp → Prop} (ha : args.all AV.plain = true) (hn : args.length ≤ 33) (h : BDs args → awp Try.prog [3] F17 (AEnds Try.prog [.tmp 6] post) (initT args) G) : ACalls Try.prog 17 args G post :=
  acalls_cc Try.func17 F17_b F17_rs F17_n F17_ok mixed ha hn h

/- 18 (*ostiary/view.View).Drop -/
@[simp] noncomputable def F18_r0 : CC := .reg [⟨some 3, none, (.box 3 (.tmp 1))⟩,
  ⟨some 4, none, (.assign (.const (.slice none 0 0)))⟩] [0, 3]
@[simp] noncomputable def F18_r1 : CC := .reg [⟨some 5, none, (.move (.tmp 0))⟩,
  ⟨some 6, none, (.binOp .eql 23 (.tmp 5) (.const (.pointer none)) 23)⟩] [0, 3, 6]
@[simp] noncomputable def F18_r2 : CC := .reg [⟨some 4, none, (.assign (.const (.slice none 0 0)))⟩] [4]
@[simp] noncomputable def F18_r3 : CC := .drw [⟨0, ⟨some 7, none, (.move (.tmp 0))⟩, [], []⟩,
  ⟨1, ⟨some 8, none, (.nilCheck (.tmp 7))⟩, [], []⟩,
  ⟨2, ⟨some 9, none, (.fieldAddr 60 (.tmp 8) 0)⟩, [], []⟩,
  ⟨3, ⟨some 10, none, (.load 53 (.tmp 9))⟩, [], []⟩,
  ⟨4, ⟨some 11, none, (.load 3 (.tmp 3))⟩, [], []⟩,
  ⟨5, ⟨some 12, none, (.buildSlice 51 1 #[(0, (.tmp 11))])⟩, [], []⟩,
  ⟨6, ⟨some 13, none, (.call { callee := (.value (.func 43)), args := #[(.tmp 10), (.tmp 12)], argTypes := #[53, 51] })⟩, [], []⟩] [7, 8, 9, 10, 11, 12, 13] [0, 3]
@[simp] noncomputable def F18_r4 : CC := .reg [⟨some 14, none, (.move (.tmp 0))⟩,
  ⟨some 15, none, (.makeFunc (.func 44) #[] #[(.tmp 3)])⟩,
  ⟨some 16, none, (.call { callee := (.value (.func 35)), args := #[(.tmp 14), (.tmp 15)], argTypes := #[23, 73] })⟩,
  ⟨some 4, none, (.assign (.tmp 16))⟩] [4]
noncomputable def F18 : CC := (.seq F18_r0 (.seq (.seq F18_r1 (.cond (.tmp 6) (.seq F18_r2 .ret) .skip)) (.seq F18_r3 (.seq F18_r4 .ret))))
noncomputable def F18_inf : Nat → RI
  | 0 => ⟨[0, 3], [], []⟩
  | 1 => ⟨[0, 3, 6], [], []⟩
  | 2 => ⟨[4], [], []⟩
  | 3 => ⟨[0, 3], [0, 1, 3, 7, 0, 16, 63], [(0, []), (1, []), (2, []), (3, []), (4, []), (5, []), (6, [])]⟩
  | 4 => ⟨[4], [], []⟩
  | _ => ⟨[], [], []⟩
noncomputable def F18_c : Code := Try.f18.body.getD .skip
theorem F18_b : Try.f18.body = some F18_c := by kernel_rfl
theorem F18_rs : Try.f18.results.toList = ([.tmp 4] : List ResultVar) := by kernel_rfl
theorem F18_n : Try.f18.ntmps = 17 := by kernel_rfl
theorem F18_ok : toCC [3] 17 F18_inf F18_c = some F18 := by kernel_rfl
theorem F18_in {args : List AV} {G : Hp} {post : AV → Hp → Prop} (ha : args.all AV.plain = true) (hn : args.length ≤ 17) (h : BDs args → awp Try.prog [3] F18 (AEnds Try.prog [.tmp 4] post) (initT args) G) : ACalls Try.prog 18 args G post :=
  acalls_cc Try.func18 F18_b F18_rs F18_n F18_ok mixed ha hn h

/- 19 (*ostiary/view.View).Switches -/
@[simp] noncomputable def F19_r0 : CC := .reg [⟨some 2, none, (.assign (.const (.slice none 0 0)))⟩] [0]
@[simp] noncomputable def F19_r1 : CC := .reg [⟨some 3, none, (.move (.tmp 0))⟩,
  ⟨some 4, none, (.binOp .eql 23 (.tmp 3) (.const (.pointer none)) 23)⟩] [0, 4]
@[simp] noncomputable def F19_r2 : CC := .reg [⟨some 2, none, (.assign (.const (.slice none 0 0)))⟩] [2]
@[simp] noncomputable def F19_r3 : CC := .reg [⟨some 5, none, (.move (.tmp 0))⟩,
  ⟨some 6, none, (.nilCheck (.tmp 5))⟩,
  ⟨some 7, none, (.fieldAddr 60 (.tmp 6) 0)⟩,
  ⟨some 8, none, (.load 53 (.tmp 7))⟩,
  ⟨some 9, none, (.call { callee := (.value (.func 45)), args := #[(.tmp 8)], argTypes := #[53] })⟩,
  ⟨some 2, none, (.assign (.tmp 9))⟩] [2]
noncomputable def F19 : CC := (.seq F19_r0 (.seq (.seq F19_r1 (.cond (.tmp 4) (.seq F19_r2 .ret) .skip)) (.seq F19_r3 .ret)))
noncomputable def F19_inf : Nat → RI
  | 0 => ⟨[0], [], []⟩
  | 1 => ⟨[0, 4], [], []⟩
  | 2 => ⟨[2], [], []⟩
  | 3 => ⟨[2], [], []⟩
  | _ => ⟨[], [], []⟩
noncomputable def F19_c : Code := Try.f19.body.getD .skip
theorem F19_b : Try.f19.body = some F19_c := by kernel_rfl
theorem F19_rs : Try.f19.results.toList = ([.tmp 2] : List ResultVar) := by kernel_rfl
theorem F19_n : Try.f19.ntmps = 10 := by kernel_rfl
theorem F19_ok : toCC [] 10 F19_inf F19_c = some F19 := by kernel_rfl
theorem F19_in {args : List AV} {G : Hp} {post : AV → Hp → Prop} (ha : args.all AV.plain = true) (hn : args.length ≤ 10) (h : BDs args → awp Try.prog [] F19 (AEnds Try.prog [.tmp 2] post) (initT args) G) : ACalls Try.prog 19 args G post :=
  acalls_cc Try.func19 F19_b F19_rs F19_n F19_ok mixed ha hn h

/- 20 ostiary/shelf.NewShelf[int,int] -/
@[simp] noncomputable def F20_r0 : CC := .reg [⟨some 2, none, (.assign (.const (.pointer none)))⟩] [0]
@[simp] noncomputable def F20_r1 : CC := .reg [⟨some 3, none, (.move (.tmp 0))⟩,
  ⟨some 4, none, (.call { callee := (.builtin .max), args := #[(.tmp 3), (.const (.int .i64 0))], argTypes := #[3, 3] })⟩,
  ⟨some 5, none, (.build 78 #[(1, (.tmp 4))])⟩,
  ⟨some 6, none, (.box 78 (.tmp 5))⟩,
  ⟨some 2, none, (.assign (.tmp 6))⟩] [2]
noncomputable def F20 : CC := (.seq F20_r0 (.seq F20_r1 .ret))
noncomputable def F20_inf : Nat → RI
  | 0 => ⟨[0], [], []⟩
  | 1 => ⟨[2], [], []⟩
  | _ => ⟨[], [], []⟩
noncomputable def F20_c : Code := Try.f20.body.getD .skip
theorem F20_b : Try.f20.body = some F20_c := by kernel_rfl
theorem F20_rs : Try.f20.results.toList = ([.tmp 2] : List ResultVar) := by kernel_rfl
theorem F20_n : Try.f20.ntmps = 7 := by kernel_rfl
theorem F20_ok : toCC [6] 7 F20_inf F20_c = some F20 := by kernel_rfl
theorem F20_in {args : List AV} {G : Hp} {post : AV → Hp → Prop} (ha : args.all AV.plain = true) (hn : args.length ≤ 7) (h : BDs args → awp Try.prog [6] F20 (AEnds Try.prog [.tmp 2] post) (initT args) G) : ACalls Try.prog 20 args G post :=
  acalls_cc Try.func20 F20_b F20_rs F20_n F20_ok mixed ha hn h

/- 21 ostiary/shelf.NewShelf[int,ostiary/view.seen] -/
@[simp] noncomputable def F21_r0 : CC := .reg [⟨some 2, none, (.assign (.const (.pointer none)))⟩] [0]
@[simp] noncomputable def F21_r1 : CC := .reg [⟨some 3, none, (.move (.tmp 0))⟩,
  ⟨some 4, none, (.call { callee := (.builtin .max), args := #[(.tmp 3), (.const (.int .i64 0))], argTypes := #[3, 3] })⟩,
  ⟨some 5, none, (.build 81 #[(1, (.tmp 4))])⟩,
  ⟨some 6, none, (.box 81 (.tmp 5))⟩,
  ⟨some 2, none, (.assign (.tmp 6))⟩] [2]
noncomputable def F21 : CC := (.seq F21_r0 (.seq F21_r1 .ret))
noncomputable def F21_inf : Nat → RI
  | 0 => ⟨[0], [], []⟩
  | 1 => ⟨[2], [], []⟩
  | _ => ⟨[], [], []⟩
noncomputable def F21_c : Code := Try.f21.body.getD .skip
theorem F21_b : Try.f21.body = some F21_c := by kernel_rfl
theorem F21_rs : Try.f21.results.toList = ([.tmp 2] : List ResultVar) := by kernel_rfl
theorem F21_n : Try.f21.ntmps = 7 := by kernel_rfl
theorem F21_ok : toCC [6] 7 F21_inf F21_c = some F21 := by kernel_rfl
theorem F21_in {args : List AV} {G : Hp} {post : AV → Hp → Prop} (ha : args.all AV.plain = true) (hn : args.length ≤ 7) (h : BDs args → awp Try.prog [6] F21 (AEnds Try.prog [.tmp 2] post) (initT args) G) : ACalls Try.prog 21 args G post :=
  acalls_cc Try.func21 F21_b F21_rs F21_n F21_ok mixed ha hn h

/- 22 ostiary/ostiaryref21.Same -/
@[simp] noncomputable def F22_r0 : CC := .reg [⟨some 4, none, (.assign (.const (.bool false)))⟩] [0, 1]
@[simp] noncomputable def F22_r1 : CC := .reg [⟨some 6, none, (.move (.tmp 0))⟩,
  ⟨some 7, none, (.call { callee := (.builtin .len), args := #[(.tmp 6)], argTypes := #[36] })⟩,
  ⟨some 8, none, (.move (.tmp 1))⟩,
  ⟨some 9, none, (.call { callee := (.builtin .len), args := #[(.tmp 8)], argTypes := #[36] })⟩,
  ⟨some 10, none, (.binOp .neq 3 (.tmp 7) (.tmp 9) 3)⟩] [0, 1, 10]
@[simp] noncomputable def F22_r2 : CC := .reg [⟨some 4, none, (.assign (.const (.bool false)))⟩] [4]
@[simp] noncomputable def F22_r3 : CC := .reg [⟨some 11, none, (.move (.tmp 0))⟩,
  ⟨some 12, none, (.call { callee := (.builtin .len), args := #[(.tmp 11)], argTypes := #[36] })⟩,
  ⟨some 13, none, (.move (.const (.int .i64 0)))⟩] [0, 1, 12, 13]
@[simp] noncomputable def F22_r4 : CC := .reg [⟨some 14, none, (.binOp .lss 3 (.tmp 13) (.tmp 12) 3)⟩] [0, 1, 12, 13, 14]
@[simp] noncomputable def F22_r5 : CC := .reg [⟨some 15, none, (.move (.tmp 13))⟩,
  ⟨some 5, none, (.assign (.tmp 15))⟩] [0, 1, 5, 12, 13]
@[simp] noncomputable def F22_r6 : CC := .drw [⟨0, ⟨some 16, none, (.move (.tmp 0))⟩, [], []⟩,
  ⟨1, ⟨some 17, none, (.move (.tmp 5))⟩, [], []⟩,
  ⟨2, ⟨some 18, none, (.indexAddr 36 (.tmp 16) (.tmp 17))⟩, [], []⟩,
  ⟨3, ⟨some 19, none, (.load 39 (.tmp 18))⟩, [], []⟩,
  ⟨4, ⟨some 20, none, (.move (.tmp 1))⟩, [], []⟩,
  ⟨5, ⟨some 21, none, (.move (.tmp 5))⟩, [], []⟩,
  ⟨6, ⟨some 22, none, (.indexAddr 36 (.tmp 20) (.tmp 21))⟩, [], []⟩,
  ⟨7, ⟨some 23, none, (.load 39 (.tmp 22))⟩, [], []⟩,
  ⟨8, ⟨some 24, none, (.binOp .neq 39 (.tmp 19) (.tmp 23) 39)⟩, [], []⟩] [16, 17, 18, 19, 20, 21, 22, 23, 24] [0, 1, 12, 13, 24]
@[simp] noncomputable def F22_r7 : CC := .reg [⟨some 4, none, (.assign (.const (.bool false)))⟩] [4]
@[simp] noncomputable def F22_r8 : CC := .reg [⟨some 25, none, (.binOp .add 3 (.tmp 13) (.const (.int .i64 1)) 3)⟩,
  ⟨some 13, none, (.move (.tmp 25))⟩] [0, 1, 12, 13]
noncomputable def F22_l0 : CC := (.seq F22_r4 (.seq (.cond (.tmp 14) .skip (.exit 0)) (.seq (.block 1 (.seq F22_r5 (.seq F22_r6 (.cond (.tmp 24) (.seq F22_r7 .ret) .skip)))) F22_r8)))
@[simp] noncomputable def F22_r9 : CC := .reg [⟨some 4, none, (.assign (.const (.bool true)))⟩] [4]
noncomputable def F22 : CC := (.seq F22_r0 (.seq (.seq F22_r1 (.cond (.tmp 10) (.seq F22_r2 .ret) .skip)) (.seq (.seq F22_r3 (.block 0 (.loop F22_l0))) (.seq F22_r9 .ret))))
noncomputable def F22_inf : Nat → RI
  | 0 => ⟨[0, 1], [], []⟩
  | 1 => ⟨[0, 1, 10], [], []⟩
  | 2 => ⟨[4], [], []⟩
  | 3 => ⟨[0, 1, 12, 13], [], []⟩
  | 4 => ⟨[0, 1, 12, 13, 14], [], []⟩
  | 5 => ⟨[0, 1, 5, 12, 13], [], []⟩
  | 6 => ⟨[0, 1, 12, 13, 24], [0, 0, 3, 7, 0, 0, 48, 112, 255], [(0, []), (1, []), (2, []), (3, []), (4, []), (5, []), (6, []), (7, []), (8, [])]⟩
  | 7 => ⟨[4], [], []⟩
  | 8 => ⟨[0, 1, 12, 13], [], []⟩
  | 9 => ⟨[4], [], []⟩
  | _ => ⟨[], [], []⟩
noncomputable def F22_c : Code := Try.f22.body.getD .skip
theorem F22_b : Try.f22.body = some F22_c := by kernel_rfl
theorem F22_rs : Try.f22.results.toList = ([.tmp 4] : List ResultVar) := by kernel_rfl
theorem F22_n : Try.f22.ntmps = 26 := by kernel_rfl
theorem F22_ok : toCC [] 26 F22_inf F22_c = some F22 := by kernel_rfl
theorem F22_in {args : List AV} {G : Hp} {post : AV → Hp → Prop} (ha : args.all AV.plain = true) (hn : args.length ≤ 26) (h : BDs args → awp Try.prog [] F22 (AEnds Try.prog [.tmp 4] post) (initT args) G) : ACalls Try.prog 22 args G post :=
  acalls_cc Try.func22 F22_b F22_rs F22_n F22_ok mixed ha hn h

/- 23 (*ostiary/ostiaryref21.View).Ports -/
@[simp] noncomputable def F23_r0 : CC := .reg [⟨some 6, none, (.assign (.const (.slice none 0 0)))⟩] [0, 1, 2]
@[simp] noncomputable def F23_r1 : CC := .reg [⟨some 7, none, (.move (.tmp 1))⟩,
  ⟨some 8, none, (.binOp .lss 3 (.tmp 7) (.const (.int .i64 1)) 3)⟩,
  ⟨some 9, none, (.move (.tmp 8))⟩,
  ⟨some 10, some (9, false), (.move (.tmp 1))⟩,
  ⟨some 11, some (9, false), (.binOp .gtr 3 (.tmp 10) (.const (.int .i64 8)) 3)⟩,
  ⟨some 12, none, (.pick (.tmp 9) (.const (.bool true)) (.tmp 11))⟩,
  ⟨some 13, none, (.move (.tmp 12))⟩,
  ⟨some 14, some (13, false), (.move (.tmp 2))⟩,
  ⟨some 15, some (13, false), (.binOp .lss 3 (.tmp 14) (.const (.int .i64 0)) 3)⟩,
  ⟨some 16, none, (.pick (.tmp 13) (.const (.bool true)) (.tmp 15))⟩,
  ⟨some 17, none, (.move (.tmp 16))⟩,
  ⟨some 18, some (17, false), (.move (.tmp 2))⟩,
  ⟨some 19, some (17, false), (.binOp .gtr 3 (.tmp 18) (.const (.int .i64 255)) 3)⟩,
  ⟨some 20, none, (.pick (.tmp 17) (.const (.bool true)) (.tmp 19))⟩] [0, 1, 2, 20]
@[simp] noncomputable def F23_r2 : CC := .reg [⟨some 6, none, (.assign (.const (.slice none 0 0)))⟩] [6]
@[simp] noncomputable def F23_r3 : CC := .reg [⟨some 21, none, (.move (.tmp 0))⟩,
  ⟨some 22, none, (.move (.tmp 1))⟩,
  ⟨some 23, none, (.nilCheck (.tmp 21))⟩,
  ⟨some 24, none, (.fieldAddr 30 (.tmp 23) 0)⟩,
  ⟨some 25, none, (.indexAddr 26 (.tmp 24) (.tmp 22))⟩,
  ⟨none, none, (.store 4 (.tmp 25) (.const (.bool true)))⟩] [0, 1, 2]
@[simp] noncomputable def F23_r4 : CC := .reg [⟨some 26, none, (.move (.tmp 0))⟩,
  ⟨some 27, none, (.move (.tmp 1))⟩,
  ⟨some 28, none, (.move (.tmp 2))⟩,
  ⟨some 29, none, (.nilCheck (.tmp 26))⟩,
  ⟨some 30, none, (.fieldAddr 30 (.tmp 29) 1)⟩,
  ⟨some 31, none, (.indexAddr 27 (.tmp 30) (.tmp 27))⟩,
  ⟨none, none, (.store 3 (.tmp 31) (.tmp 28))⟩] [0]
@[simp] noncomputable def F23_r5 : CC := .reg [⟨some 32, none, (.move (.tmp 0))⟩,
  ⟨some 33, none, (.build 32 #[])⟩,
  ⟨some 34, none, (.build 32 #[])⟩,
  ⟨some 35, none, (.call { callee := (.value (.func 46)), args := #[(.tmp 32), (.const (.int .i64 0)), (.tmp 33), (.tmp 34), (.const (.int .i64 0)), (.const (.int .i64 0))], argTypes := #[25, 3, 32, 32, 2, 2] })⟩,
  ⟨some 6, none, (.assign (.tmp 35))⟩] [6]
noncomputable def F23 : CC := (.seq F23_r0 (.seq (.seq F23_r1 (.cond (.tmp 20) (.seq F23_r2 .ret) .skip)) (.seq F23_r3 (.seq F23_r4 (.seq F23_r5 .ret)))))
noncomputable def F23_inf : Nat → RI
  | 0 => ⟨[0, 1, 2], [], []⟩
  | 1 => ⟨[0, 1, 2, 20], [], []⟩
  | 2 => ⟨[6], [], []⟩
  | 3 => ⟨[0, 1, 2], [], []⟩
  | 4 => ⟨[0], [], []⟩
  | 5 => ⟨[6], [], []⟩
  | _ => ⟨[], [], []⟩
noncomputable def F23_c : Code := Try.f23.body.getD .skip
theorem F23_b : Try.f23.body = some F23_c := by kernel_rfl
theorem F23_rs : Try.f23.results.toList = ([.tmp 6] : List ResultVar) := by kernel_rfl
theorem F23_n : Try.f23.ntmps = 36 := by kernel_rfl
theorem F23_ok : toCC [] 36 F23_inf F23_c = some F23 := by kernel_rfl
theorem F23_in {args : List AV} {G : Hp} {post : AV → Hp → Prop} (ha : args.all AV.plain = true) (hn : args.length ≤ 36) (h : BDs args → awp Try.prog [] F23 (AEnds Try.prog [.tmp 6] post) (initT args) G) : ACalls Try.prog 23 args G post :=
  acalls_cc Try.func23 F23_b F23_rs F23_n F23_ok mixed ha hn h

/- 24 (*ostiary/ostiaryref21.View).Learn -/
@[simp] noncomputable def F24_r0 : CC := .reg [⟨some 5, none, (.box 32 (.tmp 1))⟩,
  ⟨some 6, none, (.box 32 (.tmp 2))⟩,
  ⟨some 8, none, (.assign (.const (.slice none 0 0)))⟩,
  ⟨some 9, none, (.assign (.const (.bool false)))⟩] [0, 3, 5, 6]
@[simp] noncomputable def F24_r1 : CC := .reg [⟨some 19, none, (.load 32 (.tmp 5))⟩,
  ⟨some 20, none, (.load 32 (.tmp 6))⟩,
  ⟨some 21, none, (.binOp .eql 32 (.tmp 19) (.tmp 20) 32)⟩,
  ⟨some 22, none, (.move (.tmp 21))⟩,
  ⟨some 23, some (22, false), (.move (.tmp 0))⟩,
  ⟨some 24, some (22, false), (.load 32 (.tmp 5))⟩,
  ⟨some 25, some (22, false), (.call { callee := (.value (.func 38)), args := #[(.tmp 23), (.tmp 24)], argTypes := #[25, 32] })⟩,
  ⟨some 26, some (22, false), (.unOp .not 4 (.tmp 25))⟩,
  ⟨some 27, none, (.pick (.tmp 22) (.const (.bool true)) (.tmp 26))⟩,
  ⟨some 28, none, (.move (.tmp 27))⟩,
  ⟨some 29, some (28, false), (.move (.tmp 0))⟩,
  ⟨some 30, some (28, false), (.load 32 (.tmp 6))⟩,
  ⟨some 31, some (28, false), (.call { callee := (.value (.func 38)), args := #[(.tmp 29), (.tmp 30)], argTypes := #[25, 32] })⟩,
  ⟨some 32, some (28, false), (.unOp .not 4 (.tmp 31))⟩,
  ⟨some 33, none, (.pick (.tmp 28) (.const (.bool true)) (.tmp 32))⟩] [0, 3, 5, 6, 33]
@[simp] noncomputable def F24_r2 : CC := .reg [⟨some 8, none, (.assign (.const (.slice none 0 0)))⟩,
  ⟨some 9, none, (.assign (.const (.bool false)))⟩] [8, 9]
@[simp] noncomputable def F24_r3 : CC := .drw [⟨0, ⟨some 34, none, (.load 32 (.tmp 5))⟩, [], []⟩,
  ⟨1, ⟨some 35, none, (.load 32 (.tmp 6))⟩, [], []⟩,
  ⟨2, ⟨some 10, none, (.alloc 32)⟩, [], []⟩,
  ⟨3, ⟨some 11, none, (.alloc 32)⟩, [], []⟩,
  ⟨4, ⟨none, none, (.store 32 (.tmp 10) (.tmp 34))⟩, [1], [⟨some 35, none, (.load 32 (.tmp 6))⟩]⟩,
  ⟨5, ⟨none, none, (.store 32 (.tmp 11) (.tmp 35))⟩, [], []⟩] [34, 35, 10, 11] [0, 3, 5, 6, 10, 11]
@[simp] noncomputable def F24_r4 : CC := .reg [⟨some 36, none, (.load 32 (.tmp 6))⟩,
  ⟨some 37, none, (.load 32 (.tmp 5))⟩,
  ⟨some 38, none, (.call { callee := (.value (.func 11)), args := #[(.tmp 36), (.tmp 37)], argTypes := #[32, 32] })⟩] [0, 3, 5, 6, 10, 11, 38]
@[simp] noncomputable def F24_r5 : CC := .drw [⟨0, ⟨some 39, none, (.load 32 (.tmp 6))⟩, [], []⟩,
  ⟨1, ⟨some 40, none, (.load 32 (.tmp 5))⟩, [], []⟩,
  ⟨2, ⟨none, none, (.store 32 (.tmp 10) (.tmp 39))⟩, [1], [⟨some 40, none, (.load 32 (.tmp 5))⟩]⟩,
  ⟨3, ⟨none, none, (.store 32 (.tmp 11) (.tmp 40))⟩, [], []⟩] [39, 40] [0, 3, 10, 11]
@[simp] noncomputable def F24_r6 : CC := .reg [⟨some 41, none, (.move (.tmp 0))⟩,
  ⟨some 42, none, (.nilCheck (.tmp 41))⟩,
  ⟨some 43, none, (.fieldAddr 30 (.tmp 42) 2)⟩,
  ⟨some 44, none, (.load 28 (.tmp 43))⟩,
  ⟨some 45, none, (.call { callee := (.builtin .len), args := #[(.tmp 44)], argTypes := #[28] })⟩,
  ⟨some 46, none, (.move (.const (.int .i64 0)))⟩] [0, 3, 10, 11, 44, 45, 46]
@[simp] noncomputable def F24_r7 : CC := .reg [⟨some 47, none, (.binOp .lss 3 (.tmp 46) (.tmp 45) 3)⟩] [0, 3, 10, 11, 44, 45, 46, 47]
@[simp] noncomputable def F24_r8 : CC := .reg [⟨some 48, none, (.move (.tmp 46))⟩,
  ⟨some 49, none, (.indexAddr 28 (.tmp 44) (.tmp 46))⟩,
  ⟨some 50, none, (.load 84 (.tmp 49))⟩,
  ⟨some 13, none, (.alloc 84)⟩,
  ⟨some 12, none, (.assign (.tmp 48))⟩,
  ⟨none, none, (.store 84 (.tmp 13) (.tmp 50))⟩] [0, 3, 10, 11, 12, 13, 44, 45, 46]
@[simp] noncomputable def F24_r9 : CC := .reg [⟨some 51, none, (.fieldAddr 84 (.tmp 13) 0)⟩,
  ⟨some 52, none, (.load 32 (.tmp 51))⟩,
  ⟨some 53, none, (.load 32 (.tmp 10))⟩,
  ⟨some 54, none, (.binOp .eql 32 (.tmp 52) (.tmp 53) 32)⟩,
  ⟨some 55, none, (.move (.tmp 54))⟩,
  ⟨some 56, some (55, true), (.fieldAddr 84 (.tmp 13) 1)⟩,
  ⟨some 57, some (55, true), (.load 32 (.tmp 56))⟩,
  ⟨some 58, some (55, true), (.load 32 (.tmp 11))⟩,
  ⟨some 59, some (55, true), (.binOp .eql 32 (.tmp 57) (.tmp 58) 32)⟩,
  ⟨some 60, none, (.pick (.tmp 55) (.tmp 59) (.const (.bool false)))⟩] [0, 3, 10, 11, 12, 44, 45, 46, 60]
@[simp] noncomputable def F24_r10 : CC := .reg [⟨some 61, none, (.move (.tmp 0))⟩,
  ⟨some 62, none, (.nilCheck (.tmp 61))⟩,
  ⟨some 63, none, (.fieldAddr 30 (.tmp 62) 2)⟩,
  ⟨some 64, none, (.load 28 (.tmp 63))⟩,
  ⟨some 65, none, (.move (.tmp 12))⟩,
  ⟨some 66, none, (.move (.tmp 3))⟩,
  ⟨some 67, none, (.indexAddr 28 (.tmp 64) (.tmp 65))⟩,
  ⟨some 68, none, (.fieldAddr 84 (.tmp 67) 2)⟩,
  ⟨none, none, (.store 2 (.tmp 68) (.tmp 66))⟩] []
@[simp] noncomputable def F24_r11 : CC := .reg [⟨some 8, none, (.assign (.const (.slice none 0 0)))⟩,
  ⟨some 9, none, (.assign (.const (.bool false)))⟩] [8, 9]
@[simp] noncomputable def F24_r12 : CC := .reg [⟨some 69, none, (.binOp .add 3 (.tmp 46) (.const (.int .i64 1)) 3)⟩,
  ⟨some 46, none, (.move (.tmp 69))⟩] [0, 3, 10, 11, 44, 45, 46]
noncomputable def F24_l0 : CC := (.seq F24_r7 (.seq (.cond (.tmp 47) .skip (.exit 0)) (.seq (.block 1 (.seq F24_r8 (.seq F24_r9 (.cond (.tmp 60) (.seq F24_r10 (.seq F24_r11 .ret)) .skip)))) F24_r12)))
@[simp] noncomputable def F24_r13 : CC := .reg [⟨some 70, none, (.move (.tmp 0))⟩,
  ⟨some 71, none, (.load 32 (.tmp 10))⟩,
  ⟨some 72, none, (.load 32 (.tmp 11))⟩,
  ⟨some 73, none, (.call { callee := (.value (.func 46)), args := #[(.tmp 70), (.const (.int .i64 1)), (.tmp 71), (.tmp 72), (.const (.int .i64 0)), (.const (.int .i64 0))], argTypes := #[25, 3, 32, 32, 2, 2] })⟩,
  ⟨some 14, none, (.assign (.tmp 73))⟩] [0, 3, 10, 11, 14]
@[simp] noncomputable def F24_r14 : CC := .reg [⟨some 15, none, (.assign (.const (.slice none 0 0)))⟩] [0, 3, 10, 11, 14, 15]
@[simp] noncomputable def F24_r15 : CC := .reg [⟨some 16, none, (.assign (.const (.bool false)))⟩] [0, 3, 10, 11, 14, 15, 16]
@[simp] noncomputable def F24_r16 : CC := .reg [⟨some 74, none, (.move (.tmp 0))⟩,
  ⟨some 75, none, (.nilCheck (.tmp 74))⟩,
  ⟨some 76, none, (.fieldAddr 30 (.tmp 75) 2)⟩,
  ⟨some 77, none, (.load 28 (.tmp 76))⟩,
  ⟨some 78, none, (.call { callee := (.builtin .len), args := #[(.tmp 77)], argTypes := #[28] })⟩,
  ⟨some 79, none, (.move (.const (.int .i64 0)))⟩] [0, 3, 10, 11, 14, 15, 16, 77, 78, 79]
@[simp] noncomputable def F24_r17 : CC := .reg [⟨some 80, none, (.binOp .lss 3 (.tmp 79) (.tmp 78) 3)⟩] [0, 3, 10, 11, 14, 15, 16, 77, 78, 79, 80]
@[simp] noncomputable def F24_r18 : CC := .reg [⟨some 81, none, (.indexAddr 28 (.tmp 77) (.tmp 79))⟩,
  ⟨some 82, none, (.load 84 (.tmp 81))⟩,
  ⟨some 18, none, (.alloc 84)⟩,
  ⟨none, none, (.store 84 (.tmp 18) (.tmp 82))⟩] [0, 3, 10, 11, 14, 15, 16, 18, 77, 78, 79]
@[simp] noncomputable def F24_r19 : CC := .reg [⟨some 83, none, (.move (.tmp 16))⟩,
  ⟨some 84, none, (.unOp .not 4 (.tmp 83))⟩,
  ⟨some 85, none, (.move (.tmp 84))⟩,
  ⟨some 86, some (85, true), (.load 32 (.tmp 10))⟩,
  ⟨some 87, some (85, true), (.fieldAddr 84 (.tmp 18) 0)⟩,
  ⟨some 88, some (85, true), (.load 32 (.tmp 87))⟩,
  ⟨some 89, some (85, true), (.call { callee := (.value (.func 11)), args := #[(.tmp 86), (.tmp 88)], argTypes := #[32, 32] })⟩,
  ⟨some 90, none, (.pick (.tmp 85) (.tmp 89) (.const (.bool false)))⟩] [0, 3, 10, 11, 14, 15, 16, 18, 77, 78, 79, 90]
@[simp] noncomputable def F24_r20 : CC := .reg [⟨some 91, none, (.move (.tmp 15))⟩,
  ⟨some 92, none, (.load 32 (.tmp 10))⟩,
  ⟨some 93, none, (.load 32 (.tmp 11))⟩,
  ⟨some 94, none, (.move (.tmp 3))⟩,
  ⟨some 95, none, (.build 84 #[(0, (.tmp 92)), (1, (.tmp 93)), (2, (.tmp 94))])⟩,
  ⟨some 96, none, (.buildSlice 28 1 #[(0, (.tmp 95))])⟩,
  ⟨some 97, none, (.call { callee := (.builtin .append), args := #[(.tmp 91), (.tmp 96)], argTypes := #[28, 28] })⟩,
  ⟨some 15, none, (.assign (.tmp 97))⟩] [0, 3, 10, 11, 14, 15, 18, 77, 78, 79]
@[simp] noncomputable def F24_r21 : CC := .reg [⟨some 16, none, (.assign (.const (.bool true)))⟩] [0, 3, 10, 11, 14, 15, 16, 18, 77, 78, 79]
@[simp] noncomputable def F24_r22 : CC := .reg [⟨some 98, none, (.move (.tmp 15))⟩,
  ⟨some 99, none, (.load 84 (.tmp 18))⟩,
  ⟨some 100, none, (.buildSlice 28 1 #[(0, (.tmp 99))])⟩,
  ⟨some 101, none, (.call { callee := (.builtin .append), args := #[(.tmp 98), (.tmp 100)], argTypes := #[28, 28] })⟩,
  ⟨some 15, none, (.assign (.tmp 101))⟩] [0, 3, 10, 11, 14, 15, 16, 77, 78, 79]
@[simp] noncomputable def F24_r23 : CC := .reg [⟨some 102, none, (.binOp .add 3 (.tmp 79) (.const (.int .i64 1)) 3)⟩,
  ⟨some 79, none, (.move (.tmp 102))⟩] [0, 3, 10, 11, 14, 15, 16, 77, 78, 79]
noncomputable def F24_l1 : CC := (.seq F24_r17 (.seq (.cond (.tmp 80) .skip (.exit 2)) (.seq (.block 3 (.seq F24_r18 (.seq (.seq F24_r19 (.cond (.tmp 90) (.seq F24_r20 F24_r21) .skip)) F24_r22))) F24_r23)))
@[simp] noncomputable def F24_r24 : CC := .reg [⟨some 103, none, (.move (.tmp 16))⟩,
  ⟨some 104, none, (.unOp .not 4 (.tmp 103))⟩] [0, 3, 10, 11, 14, 15, 104]
@[simp] noncomputable def F24_r25 : CC := .reg [⟨some 105, none, (.move (.tmp 15))⟩,
  ⟨some 106, none, (.load 32 (.tmp 10))⟩,
  ⟨some 107, none, (.load 32 (.tmp 11))⟩,
  ⟨some 108, none, (.move (.tmp 3))⟩,
  ⟨some 109, none, (.build 84 #[(0, (.tmp 106)), (1, (.tmp 107)), (2, (.tmp 108))])⟩,
  ⟨some 110, none, (.buildSlice 28 1 #[(0, (.tmp 109))])⟩,
  ⟨some 111, none, (.call { callee := (.builtin .append), args := #[(.tmp 105), (.tmp 110)], argTypes := #[28, 28] })⟩,
  ⟨some 15, none, (.assign (.tmp 111))⟩] [0, 14, 15]
@[simp] noncomputable def F24_r26 : CC := .reg [⟨some 112, none, (.move (.tmp 0))⟩,
  ⟨some 113, none, (.move (.tmp 15))⟩,
  ⟨some 114, none, (.nilCheck (.tmp 112))⟩,
  ⟨some 115, none, (.fieldAddr 30 (.tmp 114) 2)⟩,
  ⟨none, none, (.store 28 (.tmp 115) (.tmp 113))⟩] [14]
@[simp] noncomputable def F24_r27 : CC := .reg [⟨some 116, none, (.move (.tmp 14))⟩,
  ⟨some 8, none, (.assign (.tmp 116))⟩,
  ⟨some 9, none, (.assign (.const (.bool true)))⟩] [8, 9]
noncomputable def F24 : CC := (.seq F24_r0 (.seq (.seq F24_r1 (.cond (.tmp 33) (.seq F24_r2 .ret) .skip)) (.seq F24_r3 (.seq (.seq F24_r4 (.cond (.tmp 38) F24_r5 .skip)) (.seq (.seq F24_r6 (.block 0 (.loop F24_l0))) (.seq F24_r13 (.seq F24_r14 (.seq F24_r15 (.seq (.seq F24_r16 (.block 2 (.loop F24_l1))) (.seq (.seq F24_r24 (.cond (.tmp 104) F24_r25 .skip)) (.seq F24_r26 (.seq F24_r27 .ret))))))))))))
noncomputable def F24_inf : Nat → RI
  | 0 => ⟨[0, 3, 5, 6], [], []⟩
  | 1 => ⟨[0, 3, 5, 6, 33], [], []⟩
  | 2 => ⟨[8, 9], [], []⟩
  | 3 => ⟨[0, 3, 5, 6, 10, 11], [0, 0, 0, 0, 13, 31], [(0, []), (1, []), (2, []), (3, []), (4, [1]), (5, [])]⟩
  | 4 => ⟨[0, 3, 5, 6, 10, 11, 38], [], []⟩
  | 5 => ⟨[0, 3, 10, 11], [0, 0, 1, 7], [(0, []), (1, []), (2, [1]), (3, [])]⟩
  | 6 => ⟨[0, 3, 10, 11, 44, 45, 46], [], []⟩
  | 7 => ⟨[0, 3, 10, 11, 44, 45, 46, 47], [], []⟩
  | 8 => ⟨[0, 3, 10, 11, 12, 13, 44, 45, 46], [], []⟩
  | 9 => ⟨[0, 3, 10, 11, 12, 44, 45, 46, 60], [], []⟩
  | 10 => ⟨[], [], []⟩
  | 11 => ⟨[8, 9], [], []⟩
  | 12 => ⟨[0, 3, 10, 11, 44, 45, 46], [], []⟩
  | 13 => ⟨[0, 3, 10, 11, 14], [], []⟩
  | 14 => ⟨[0, 3, 10, 11, 14, 15], [], []⟩
  | 15 => ⟨[0, 3, 10, 11, 14, 15, 16], [], []⟩
  | 16 => ⟨[0, 3, 10, 11, 14, 15, 16, 77, 78, 79], [], []⟩
  | 17 => ⟨[0, 3, 10, 11, 14, 15, 16, 77, 78, 79, 80], [], []⟩
  | 18 => ⟨[0, 3, 10, 11, 14, 15, 16, 18, 77, 78, 79], [], []⟩
  | 19 => ⟨[0, 3, 10, 11, 14, 15, 16, 18, 77, 78, 79, 90], [], []⟩
  | 20 => ⟨[0, 3, 10, 11, 14, 15, 18, 77, 78, 79], [], []⟩
  | 21 => ⟨[0, 3, 10, 11, 14, 15, 16, 18, 77, 78, 79], [], []⟩
  | 22 => ⟨[0, 3, 10, 11, 14, 15, 16, 77, 78, 79], [], []⟩
  | 23 => ⟨[0, 3, 10, 11, 14, 15, 16, 77, 78, 79], [], []⟩
  | 24 => ⟨[0, 3, 10, 11, 14, 15, 104], [], []⟩
  | 25 => ⟨[0, 14, 15], [], []⟩
  | 26 => ⟨[14], [], []⟩
  | 27 => ⟨[8, 9], [], []⟩
  | _ => ⟨[], [], []⟩
noncomputable def F24_c : Code := Try.f24.body.getD .skip
theorem F24_b : Try.f24.body = some F24_c := by kernel_rfl
theorem F24_rs : Try.f24.results.toList = ([.tmp 8, .tmp 9] : List ResultVar) := by kernel_rfl
theorem F24_n : Try.f24.ntmps = 117 := by kernel_rfl
theorem F24_ok : toCC [] 117 F24_inf F24_c = some F24 := by kernel_rfl
theorem F24_in {args : List AV} {G : Hp} {post : AV → Hp → Prop} (ha : args.all AV.plain = true) (hn : args.length ≤ 117) (h : BDs args → awp Try.prog [] F24 (AEnds Try.prog [.tmp 8, .tmp 9] post) (initT args) G) : ACalls Try.prog 24 args G post :=
  acalls_cc Try.func24 F24_b F24_rs F24_n F24_ok mixed ha hn h

/- 25 (*ostiary/ostiaryref21.View).Drop -/
@[simp] noncomputable def F25_r0 : CC := .reg [⟨some 4, none, (.assign (.const (.slice none 0 0)))⟩] [0, 1]
@[simp] noncomputable def F25_r1 : CC := .reg [⟨some 5, none, (.move (.tmp 1))⟩,
  ⟨some 6, none, (.binOp .geq 3 (.tmp 5) (.const (.int .i64 1)) 3)⟩,
  ⟨some 7, none, (.move (.tmp 6))⟩,
  ⟨some 8, some (7, true), (.move (.tmp 1))⟩,
  ⟨some 9, some (7, true), (.binOp .leq 3 (.tmp 8) (.const (.int .i64 8)) 3)⟩,
  ⟨some 10, none, (.pick (.tmp 7) (.tmp 9) (.const (.bool false)))⟩] [0, 1, 10]
@[simp] noncomputable def F25_r2 : CC := .reg [⟨some 11, none, (.move (.tmp 0))⟩,
  ⟨some 12, none, (.move (.tmp 1))⟩,
  ⟨some 13, none, (.nilCheck (.tmp 11))⟩,
  ⟨some 14, none, (.fieldAddr 30 (.tmp 13) 0)⟩,
  ⟨some 15, none, (.indexAddr 26 (.tmp 14) (.tmp 12))⟩,
  ⟨none, none, (.store 4 (.tmp 15) (.const (.bool false)))⟩] [0, 1]
@[simp] noncomputable def F25_r3 : CC := .reg [⟨some 16, none, (.move (.tmp 0))⟩,
  ⟨some 17, none, (.move (.tmp 1))⟩,
  ⟨some 18, none, (.nilCheck (.tmp 16))⟩,
  ⟨some 19, none, (.fieldAddr 30 (.tmp 18) 1)⟩,
  ⟨some 20, none, (.indexAddr 27 (.tmp 19) (.tmp 17))⟩,
  ⟨none, none, (.store 3 (.tmp 20) (.const (.int .i64 0)))⟩] [0, 1]
@[simp] noncomputable def F25_r4 : CC := .reg [⟨some 21, none, (.move (.tmp 0))⟩,
  ⟨some 22, none, (.move (.tmp 1))⟩,
  ⟨some 23, none, (.build 32 #[(0, (.tmp 22))])⟩,
  ⟨some 24, none, (.build 32 #[])⟩,
  ⟨some 25, none, (.call { callee := (.value (.func 46)), args := #[(.tmp 21), (.const (.int .i64 2)), (.tmp 23), (.tmp 24), (.const (.int .i64 0)), (.const (.int .i64 0))], argTypes := #[25, 3, 32, 32, 2, 2] })⟩,
  ⟨some 4, none, (.assign (.tmp 25))⟩] [4]
noncomputable def F25 : CC := (.seq F25_r0 (.seq (.seq F25_r1 (.cond (.tmp 10) (.seq F25_r2 F25_r3) .skip)) (.seq F25_r4 .ret)))
noncomputable def F25_inf : Nat → RI
  | 0 => ⟨[0, 1], [], []⟩
  | 1 => ⟨[0, 1, 10], [], []⟩
  | 2 => ⟨[0, 1], [], []⟩
  | 3 => ⟨[0, 1], [], []⟩
  | 4 => ⟨[4], [], []⟩
  | _ => ⟨[], [], []⟩
noncomputable def F25_c : Code := Try.f25.body.getD .skip
theorem F25_b : Try.f25.body = some F25_c := by kernel_rfl
theorem F25_rs : Try.f25.results.toList = ([.tmp 4] : List ResultVar) := by kernel_rfl
theorem F25_n : Try.f25.ntmps = 26 := by kernel_rfl
theorem F25_ok : toCC [] 26 F25_inf F25_c = some F25 := by kernel_rfl
theorem F25_in {args : List AV} {G : Hp} {post : AV → Hp → Prop} (ha : args.all AV.plain = true) (hn : args.length ≤ 26) (h : BDs args → awp Try.prog [] F25 (AEnds Try.prog [.tmp 4] post) (initT args) G) : ACalls Try.prog 25 args G post :=
  acalls_cc Try.func25 F25_b F25_rs F25_n F25_ok mixed ha hn h

/- 26 (*ostiary/ostiaryref21.View).Age -/
@[simp] noncomputable def F26_r0 : CC := .reg [⟨some 6, none, (.assign (.const (.slice none 0 0)))⟩] [0, 1, 2]
@[simp] noncomputable def F26_r1 : CC := .reg [⟨some 7, none, (.move (.tmp 0))⟩,
  ⟨some 8, none, (.build 32 #[])⟩,
  ⟨some 9, none, (.build 32 #[])⟩,
  ⟨some 10, none, (.move (.tmp 1))⟩,
  ⟨some 11, none, (.move (.tmp 2))⟩,
  ⟨some 12, none, (.call { callee := (.value (.func 46)), args := #[(.tmp 7), (.const (.int .i64 3)), (.tmp 8), (.tmp 9), (.tmp 10), (.tmp 11)], argTypes := #[25, 3, 32, 32, 2, 2] })⟩,
  ⟨some 6, none, (.assign (.tmp 12))⟩] [6]
noncomputable def F26 : CC := (.seq F26_r0 (.seq F26_r1 .ret))
noncomputable def F26_inf : Nat → RI
  | 0 => ⟨[0, 1, 2], [], []⟩
  | 1 => ⟨[6], [], []⟩
  | _ => ⟨[], [], []⟩
noncomputable def F26_c : Code := Try.f26.body.getD .skip
theorem F26_b : Try.f26.body = some F26_c := by kernel_rfl
theorem F26_rs : Try.f26.results.toList = ([.tmp 6] : List ResultVar) := by kernel_rfl
theorem F26_n : Try.f26.ntmps = 13 := by kernel_rfl
theorem F26_ok : toCC [] 13 F26_inf F26_c = some F26 := by kernel_rfl
theorem F26_in {args : List AV} {G : Hp} {post : AV → Hp → Prop} (ha : args.all AV.plain = true) (hn : args.length ≤ 13) (h : BDs args → awp Try.prog [] F26 (AEnds Try.prog [.tmp 6] post) (initT args) G) : ACalls Try.prog 26 args G post :=
  acalls_cc Try.func26 F26_b F26_rs F26_n F26_ok mixed ha hn h
end Go.Proofs.Ytapocekfkbkefaa
