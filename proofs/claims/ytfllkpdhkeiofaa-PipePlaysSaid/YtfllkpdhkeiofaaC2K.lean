import Derived.Test.YtfllkpdhkeiofaaC0K
set_option linter.unusedVariables false
set_option linter.unusedSimpArgs false
set_option maxRecDepth 100000
namespace Go.Proofs.Ytfllkpdhkeiofaa
open Go Go.Al

/- 15 ostiary/ostiarylaw20.awake -/
@[simp] noncomputable def F15_r0 : CC := .reg [⟨some 0, none, (.assign (.const (.bool false)))⟩] []
@[simp] noncomputable def F15_r1 : CC := .reg [⟨some 11, none, (.call { callee := (.value (.func 7)), args := #[(.const (.int .i64 2))], argTypes := #[3] })⟩,
  ⟨some 1, none, (.assign (.tmp 11))⟩] [1]
@[simp] noncomputable def F15_r2 : CC := .reg [⟨some 12, none, (.move (.tmp 1))⟩,
  ⟨some 13, none, (.buildSlice 25 3 #[(0, (.const (.int .i64 5))), (1, (.const (.int .i64 6))), (2, (.const (.int .i64 7)))])⟩,
  ⟨some 14, none, (.call { callee := (.value (.func 8)), args := #[(.tmp 12), (.tmp 13)], argTypes := #[23, 25] })⟩,
  ⟨some 15, none, (.move (.tmp 1))⟩,
  ⟨some 16, none, (.call { callee := (.value (.func 11)), args := #[(.tmp 15), (.const (.int .i64 0))], argTypes := #[23, 3] })⟩,
  ⟨some 17, none, (.move (.tmp 1))⟩,
  ⟨some 18, none, (.buildSlice 25 1 #[(0, (.const (.int .i64 0)))])⟩,
  ⟨some 19, none, (.call { callee := (.value (.func 12)), args := #[(.tmp 17), (.tmp 18)], argTypes := #[23, 25] })⟩,
  ⟨some 2, none, (.assign (.tmp 14))⟩,
  ⟨some 3, none, (.assign (.tmp 16))⟩,
  ⟨some 4, none, (.assign (.tmp 19))⟩] [1, 2, 3, 4]
@[simp] noncomputable def F15_r3 : CC := .reg [⟨some 21, none, (.move (.tmp 1))⟩,
  ⟨some 22, none, (.call { callee := (.value (.func 9)), args := #[(.tmp 21), (.const (.int .i64 0))], argTypes := #[23, 3] })⟩,
  ⟨some 20, none, (.move (.tmp 22))⟩,
  ⟨some 23, none, (.extract (.tmp 20) 0)⟩,
  ⟨some 24, none, (.extract (.tmp 20) 1)⟩,
  ⟨some 5, none, (.assign (.tmp 23))⟩,
  ⟨some 6, none, (.assign (.tmp 24))⟩] [1, 2, 3, 4, 5, 6]
@[simp] noncomputable def F15_r4 : CC := .reg [⟨some 26, none, (.move (.tmp 1))⟩,
  ⟨some 27, none, (.call { callee := (.value (.func 13)), args := #[(.tmp 26)], argTypes := #[23] })⟩,
  ⟨some 25, none, (.move (.tmp 27))⟩,
  ⟨some 28, none, (.extract (.tmp 25) 0)⟩,
  ⟨some 29, none, (.extract (.tmp 25) 1)⟩,
  ⟨some 30, none, (.extract (.tmp 25) 2)⟩,
  ⟨some 31, none, (.extract (.tmp 25) 3)⟩,
  ⟨some 7, none, (.assign (.tmp 28))⟩,
  ⟨some 8, none, (.assign (.tmp 29))⟩,
  ⟨some 9, none, (.assign (.tmp 30))⟩,
  ⟨some 10, none, (.assign (.tmp 31))⟩] [2, 3, 4, 5, 6, 7, 8, 9, 10]
@[simp] noncomputable def F15_r5 : CC := .reg [⟨some 32, none, (.move (.tmp 2))⟩,
  ⟨some 33, none, (.binOp .eql 3 (.tmp 32) (.const (.int .i64 2)) 3)⟩,
  ⟨some 34, none, (.move (.tmp 33))⟩,
  ⟨some 35, some (34, true), (.move (.tmp 3))⟩,
  ⟨some 36, some (34, true), (.unOp .not 4 (.tmp 35))⟩,
  ⟨some 37, none, (.pick (.tmp 34) (.tmp 36) (.const (.bool false)))⟩,
  ⟨some 38, none, (.move (.tmp 37))⟩,
  ⟨some 39, some (38, true), (.move (.tmp 4))⟩,
  ⟨some 40, some (38, true), (.binOp .eql 3 (.tmp 39) (.const (.int .i64 1)) 3)⟩,
  ⟨some 41, none, (.pick (.tmp 38) (.tmp 40) (.const (.bool false)))⟩,
  ⟨some 42, none, (.move (.tmp 41))⟩,
  ⟨some 43, some (42, true), (.move (.tmp 5))⟩,
  ⟨some 44, some (42, true), (.binOp .eql 3 (.tmp 43) (.const (.int .i64 6)) 3)⟩,
  ⟨some 45, none, (.pick (.tmp 42) (.tmp 44) (.const (.bool false)))⟩,
  ⟨some 46, none, (.move (.tmp 45))⟩,
  ⟨some 47, some (46, true), (.move (.tmp 6))⟩,
  ⟨some 48, none, (.pick (.tmp 46) (.tmp 47) (.const (.bool false)))⟩,
  ⟨some 49, none, (.move (.tmp 48))⟩,
  ⟨some 50, some (49, true), (.move (.tmp 7))⟩,
  ⟨some 51, some (49, true), (.binOp .eql 3 (.tmp 50) (.const (.int .i64 3)) 3)⟩,
  ⟨some 52, none, (.pick (.tmp 49) (.tmp 51) (.const (.bool false)))⟩,
  ⟨some 53, none, (.move (.tmp 52))⟩,
  ⟨some 54, some (53, true), (.move (.tmp 8))⟩,
  ⟨some 55, some (53, true), (.binOp .eql 3 (.tmp 54) (.const (.int .i64 1)) 3)⟩,
  ⟨some 56, none, (.pick (.tmp 53) (.tmp 55) (.const (.bool false)))⟩,
  ⟨some 57, none, (.move (.tmp 56))⟩,
  ⟨some 58, some (57, true), (.move (.tmp 9))⟩,
  ⟨some 59, some (57, true), (.binOp .eql 3 (.tmp 58) (.const (.int .i64 0)) 3)⟩,
  ⟨some 60, none, (.pick (.tmp 57) (.tmp 59) (.const (.bool false)))⟩,
  ⟨some 61, none, (.move (.tmp 60))⟩,
  ⟨some 62, some (61, true), (.move (.tmp 10))⟩,
  ⟨some 63, some (61, true), (.binOp .eql 3 (.tmp 62) (.const (.int .i64 2)) 3)⟩,
  ⟨some 64, none, (.pick (.tmp 61) (.tmp 63) (.const (.bool false)))⟩,
  ⟨some 0, none, (.assign (.tmp 64))⟩] [0]
noncomputable def F15 : CC := (.seq F15_r0 (.seq F15_r1 (.seq F15_r2 (.seq F15_r3 (.seq F15_r4 (.seq F15_r5 .ret))))))
noncomputable def F15_inf : Nat → RI
  | 0 => ⟨[], [], []⟩
  | 1 => ⟨[1], [], []⟩
  | 2 => ⟨[1, 2, 3, 4], [], []⟩
  | 3 => ⟨[1, 2, 3, 4, 5, 6], [], []⟩
  | 4 => ⟨[2, 3, 4, 5, 6, 7, 8, 9, 10], [], []⟩
  | 5 => ⟨[0], [], []⟩
  | _ => ⟨[], [], []⟩
noncomputable def F15_c : Code := Try.f15.body.getD .skip
theorem F15_b : Try.f15.body = some F15_c := by kernel_rfl
theorem F15_rs : Try.f15.results.toList = ([.tmp 0] : List ResultVar) := by kernel_rfl
theorem F15_n : Try.f15.ntmps = 65 := by kernel_rfl
theorem F15_ok : toCC [] 65 F15_inf F15_c = some F15 := by kernel_rfl
theorem F15_in {args : List AV} {G : Hp} {post : AV → Hp → Prop} (ha : args.all AV.plain = true) (hn : args.length ≤ 65) (h : BDs args → awp Try.prog [] F15 (AEnds Try.prog [.tmp 0] post) (initT args) G) : ACalls Try.prog 15 args G post :=
  acalls_cc Try.func15 F15_b F15_rs F15_n F15_ok mixed ha hn h

/- 16 ostiary/ostiaryref20.New -/
@[simp] noncomputable def F16_r0 : CC := .reg [⟨some 2, none, (.alloc 39)⟩] [0, 2]
@[simp] noncomputable def F16_r1 : CC := .reg [⟨some 3, none, (.move (.tmp 0))⟩,
  ⟨some 4, none, (.binOp .lss 3 (.tmp 3) (.const (.int .i64 1)) 3)⟩] [0, 2, 4]
@[simp] noncomputable def F16_r2 : CC := .reg [⟨some 0, none, (.assign (.const (.int .i64 1)))⟩] [0, 2]
@[simp] noncomputable def F16_r3 : CC := .reg [⟨some 5, none, (.move (.tmp 0))⟩,
  ⟨some 6, none, (.binOp .gtr 3 (.tmp 5) (.const (.int .i64 4096)) 3)⟩] [0, 2, 6]
@[simp] noncomputable def F16_r4 : CC := .reg [⟨some 0, none, (.assign (.const (.int .i64 4096)))⟩] [0, 2]
@[simp] noncomputable def F16_r5 : CC := .reg [⟨some 7, none, (.move (.tmp 0))⟩,
  ⟨some 8, none, (.build 39 #[(1, (.tmp 7))])⟩,
  ⟨none, none, (.store 39 (.tmp 2) (.tmp 8))⟩] [2]
noncomputable def F16 : CC := (.seq F16_r0 (.seq (.seq F16_r1 (.cond (.tmp 4) F16_r2 .skip)) (.seq (.seq F16_r3 (.cond (.tmp 6) F16_r4 .skip)) (.seq F16_r5 .ret))))
noncomputable def F16_inf : Nat → RI
  | 0 => ⟨[0, 2], [], []⟩
  | 1 => ⟨[0, 2, 4], [], []⟩
  | 2 => ⟨[0, 2], [], []⟩
  | 3 => ⟨[0, 2, 6], [], []⟩
  | 4 => ⟨[0, 2], [], []⟩
  | 5 => ⟨[2], [], []⟩
  | _ => ⟨[], [], []⟩
noncomputable def F16_c : Code := Try.f16.body.getD .skip
theorem F16_b : Try.f16.body = some F16_c := by kernel_rfl
theorem F16_rs : Try.f16.results.toList = ([.cell 2 39] : List ResultVar) := by kernel_rfl
theorem F16_n : Try.f16.ntmps = 9 := by kernel_rfl
theorem F16_ok : toCC [] 9 F16_inf F16_c = some F16 := by kernel_rfl
theorem F16_in {args : List AV} {G : Hp} {post : AV → Hp → Prop} (ha : args.all AV.plain = true) (hn : args.length ≤ 9) (h : BDs args → awp Try.prog [] F16 (AEnds Try.prog [.cell 2 39] post) (initT args) G) : ACalls Try.prog 16 args G post :=
  acalls_cc Try.func16 F16_b F16_rs F16_n F16_ok mixed ha hn h

/- 17 ostiary/ostiarylaw20.step -/
@[simp] noncomputable def F17_r0 : CC := .reg [⟨some 4, none, (.box 39 (.tmp 1))⟩,
  ⟨some 5, none, (.box 27 (.tmp 2))⟩,
  ⟨some 6, none, (.alloc 39)⟩,
  ⟨some 7, none, (.assign (.const (.bool false)))⟩] [0, 4, 5, 6]
@[simp] noncomputable def F17_r1 : CC := .reg [⟨some 22, none, (.fieldAddr 27 (.tmp 5) 3)⟩,
  ⟨some 23, none, (.load 25 (.tmp 22))⟩,
  ⟨some 24, none, (.call { callee := (.builtin .len), args := #[(.tmp 23)], argTypes := #[25] })⟩,
  ⟨some 25, none, (.binOp .gtr 3 (.tmp 24) (.const (.int .i64 6)) 3)⟩] [0, 4, 5, 6, 25]
@[simp] noncomputable def F17_r2 : CC := .reg [⟨some 26, none, (.fieldAddr 27 (.tmp 5) 3)⟩,
  ⟨some 27, none, (.load 25 (.tmp 26))⟩,
  ⟨some 28, none, (.slice 25 (.tmp 27) none (some (.const (.int .i64 6))) none)⟩,
  ⟨some 29, none, (.fieldAddr 27 (.tmp 5) 3)⟩,
  ⟨none, none, (.store 25 (.tmp 29) (.tmp 28))⟩] [0, 4, 5, 6]
@[simp] noncomputable def F17_r3 : CC := .reg [⟨some 30, none, (.fieldAddr 27 (.tmp 5) 0)⟩,
  ⟨some 31, none, (.load 3 (.tmp 30))⟩] [0, 4, 5, 6, 31]
@[simp] noncomputable def F17_r4 : CC := .reg [⟨some 33, none, (.binOp .eql 3 (.tmp 31) (.const (.int .i64 0)) 3)⟩,
  ⟨some 32, none, (.assign (.tmp 33))⟩] [0, 4, 5, 6, 31, 32]
@[simp] noncomputable def F17_r5 : CC := .reg [⟨some 34, none, (.binOp .eql 3 (.tmp 31) (.const (.int .i64 1)) 3)⟩,
  ⟨some 32, none, (.assign (.tmp 34))⟩] [0, 4, 5, 6, 31, 32]
@[simp] noncomputable def F17_r6 : CC := .reg [⟨some 8, none, (.assign (.const (.int .i64 0)))⟩] [0, 4, 5, 6, 8]
@[simp] noncomputable def F17_r7 : CC := .reg [⟨some 35, none, (.fieldAddr 27 (.tmp 5) 3)⟩,
  ⟨some 36, none, (.load 25 (.tmp 35))⟩,
  ⟨some 37, none, (.call { callee := (.builtin .len), args := #[(.tmp 36)], argTypes := #[25] })⟩,
  ⟨some 38, none, (.move (.const (.int .i64 0)))⟩] [0, 4, 5, 6, 8, 36, 37, 38]
@[simp] noncomputable def F17_r8 : CC := .reg [⟨some 39, none, (.binOp .lss 3 (.tmp 38) (.tmp 37) 3)⟩] [0, 4, 5, 6, 8, 36, 37, 38, 39]
@[simp] noncomputable def F17_r9 : CC := .reg [⟨some 40, none, (.indexAddr 25 (.tmp 36) (.tmp 38))⟩,
  ⟨some 41, none, (.load 3 (.tmp 40))⟩,
  ⟨some 10, none, (.assign (.tmp 41))⟩] [0, 4, 5, 6, 8, 10, 36, 37, 38]
@[simp] noncomputable def F17_r10 : CC := .reg [⟨some 43, none, (.load 39 (.tmp 4))⟩,
  ⟨some 44, none, (.move (.tmp 10))⟩,
  ⟨some 45, none, (.call { callee := (.value (.func 25)), args := #[(.tmp 43), (.tmp 44)], argTypes := #[39, 3] })⟩,
  ⟨some 42, none, (.move (.tmp 45))⟩,
  ⟨some 46, none, (.extract (.tmp 42) 0)⟩,
  ⟨some 47, none, (.extract (.tmp 42) 1)⟩,
  ⟨some 11, none, (.alloc 39)⟩,
  ⟨none, none, (.store 39 (.tmp 11) (.tmp 46))⟩,
  ⟨some 12, none, (.assign (.tmp 47))⟩] [0, 4, 5, 6, 8, 11, 12, 36, 37, 38]
@[simp] noncomputable def F17_r11 : CC := .reg [⟨some 48, none, (.load 39 (.tmp 11))⟩,
  ⟨none, none, (.store 39 (.tmp 4) (.tmp 48))⟩] [0, 4, 5, 6, 8, 12, 36, 37, 38]
@[simp] noncomputable def F17_r12 : CC := .reg [⟨some 49, none, (.move (.tmp 8))⟩,
  ⟨some 50, none, (.move (.tmp 12))⟩,
  ⟨some 51, none, (.binOp .add 3 (.tmp 49) (.tmp 50) 3)⟩,
  ⟨some 8, none, (.assign (.tmp 51))⟩] [0, 4, 5, 6, 8, 36, 37, 38]
@[simp] noncomputable def F17_r13 : CC := .reg [⟨some 52, none, (.binOp .add 3 (.tmp 38) (.const (.int .i64 1)) 3)⟩,
  ⟨some 38, none, (.move (.tmp 52))⟩] [0, 4, 5, 6, 8, 36, 37, 38]
noncomputable def F17_l0 : CC := (.seq F17_r8 (.seq (.cond (.tmp 39) .skip (.exit 1)) (.seq (.block 2 (.seq F17_r9 (.seq F17_r10 (.seq F17_r11 F17_r12)))) F17_r13)))
@[simp] noncomputable def F17_r14 : CC := .drw [⟨0, ⟨some 53, none, (.load 39 (.tmp 4))⟩, [], []⟩,
  ⟨1, ⟨some 54, none, (.move (.tmp 0))⟩, [], []⟩,
  ⟨2, ⟨some 55, none, (.fieldAddr 27 (.tmp 5) 3)⟩, [], []⟩,
  ⟨3, ⟨some 56, none, (.load 25 (.tmp 55))⟩, [], []⟩,
  ⟨5, ⟨some 58, none, (.move (.tmp 8))⟩, [], []⟩,
  ⟨4, ⟨some 57, none, (.call { callee := (.value (.func 8)), args := #[(.tmp 54), (.tmp 56)], argTypes := #[23, 25] })⟩, [0], [⟨some 53, none, (.load 39 (.tmp 4))⟩]⟩,
  ⟨6, ⟨some 59, none, (.binOp .eql 3 (.tmp 57) (.tmp 58) 3)⟩, [], []⟩,
  ⟨7, ⟨none, none, (.store 39 (.tmp 6) (.tmp 53))⟩, [], []⟩,
  ⟨8, ⟨some 7, none, (.assign (.tmp 59))⟩, [], []⟩] [53, 54, 55, 56, 58, 57, 59, 7] [6, 7]
@[simp] noncomputable def F17_r15 : CC := .reg [⟨some 61, none, (.binOp .eql 3 (.tmp 31) (.const (.int .i64 2)) 3)⟩,
  ⟨some 60, none, (.assign (.tmp 61))⟩] [0, 4, 5, 6, 31, 60]
@[simp] noncomputable def F17_r16 : CC := .reg [⟨some 62, none, (.binOp .eql 3 (.tmp 31) (.const (.int .i64 3)) 3)⟩,
  ⟨some 60, none, (.assign (.tmp 62))⟩] [0, 4, 5, 6, 31, 60]
@[simp] noncomputable def F17_r17 : CC := .reg [⟨some 64, none, (.move (.tmp 0))⟩,
  ⟨some 65, none, (.fieldAddr 27 (.tmp 5) 1)⟩,
  ⟨some 66, none, (.load 3 (.tmp 65))⟩,
  ⟨some 67, none, (.call { callee := (.value (.func 9)), args := #[(.tmp 64), (.tmp 66)], argTypes := #[23, 3] })⟩,
  ⟨some 63, none, (.move (.tmp 67))⟩,
  ⟨some 68, none, (.extract (.tmp 63) 0)⟩,
  ⟨some 69, none, (.extract (.tmp 63) 1)⟩,
  ⟨some 13, none, (.assign (.tmp 68))⟩,
  ⟨some 14, none, (.assign (.tmp 69))⟩] [4, 5, 6, 13, 14]
@[simp] noncomputable def F17_r18 : CC := .reg [⟨some 70, none, (.load 39 (.tmp 4))⟩,
  ⟨some 71, none, (.fieldAddr 27 (.tmp 5) 1)⟩,
  ⟨some 72, none, (.load 3 (.tmp 71))⟩,
  ⟨some 73, none, (.call { callee := (.value (.func 26)), args := #[(.tmp 70), (.tmp 72)], argTypes := #[39, 3] })⟩,
  ⟨some 74, none, (.unOp .not 4 (.tmp 73))⟩] [4, 5, 6, 13, 14, 74]
@[simp] noncomputable def F17_r19 : CC := .reg [⟨some 75, none, (.load 39 (.tmp 4))⟩,
  ⟨some 76, none, (.move (.tmp 14))⟩,
  ⟨some 77, none, (.unOp .not 4 (.tmp 76))⟩,
  ⟨some 78, none, (.move (.tmp 77))⟩,
  ⟨some 79, some (78, true), (.move (.tmp 13))⟩,
  ⟨some 80, some (78, true), (.binOp .eql 3 (.tmp 79) (.const (.int .i64 0)) 3)⟩,
  ⟨some 81, none, (.pick (.tmp 78) (.tmp 80) (.const (.bool false)))⟩,
  ⟨none, none, (.store 39 (.tmp 6) (.tmp 75))⟩,
  ⟨some 7, none, (.assign (.tmp 81))⟩] [6, 7]
@[simp] noncomputable def F17_r20 : CC := .reg [⟨some 82, none, (.fieldAddr 39 (.tmp 4) 0)⟩,
  ⟨some 83, none, (.load 25 (.tmp 82))⟩,
  ⟨some 84, none, (.fieldAddr 27 (.tmp 5) 1)⟩,
  ⟨some 85, none, (.load 3 (.tmp 84))⟩,
  ⟨some 86, none, (.indexAddr 25 (.tmp 83) (.tmp 85))⟩,
  ⟨some 87, none, (.load 3 (.tmp 86))⟩,
  ⟨some 15, none, (.assign (.tmp 87))⟩] [4, 5, 6, 13, 14, 15]
@[simp] noncomputable def F17_r21 : CC := .reg [⟨some 88, none, (.load 39 (.tmp 4))⟩,
  ⟨some 89, none, (.fieldAddr 27 (.tmp 5) 1)⟩,
  ⟨some 90, none, (.load 3 (.tmp 89))⟩,
  ⟨some 91, none, (.call { callee := (.value (.func 27)), args := #[(.tmp 88), (.tmp 90)], argTypes := #[39, 3] })⟩,
  ⟨none, none, (.store 39 (.tmp 4) (.tmp 91))⟩] [4, 6, 13, 14, 15]
@[simp] noncomputable def F17_r22 : CC := .reg [⟨some 92, none, (.fieldAddr 39 (.tmp 4) 3)⟩,
  ⟨some 93, none, (.load 3 (.tmp 92))⟩,
  ⟨some 94, none, (.binOp .add 3 (.tmp 93) (.const (.int .i64 1)) 3)⟩,
  ⟨some 95, none, (.fieldAddr 39 (.tmp 4) 3)⟩,
  ⟨none, none, (.store 3 (.tmp 95) (.tmp 94))⟩] [4, 6, 13, 14, 15]
@[simp] noncomputable def F17_r23 : CC := .reg [⟨some 96, none, (.load 39 (.tmp 4))⟩,
  ⟨some 97, none, (.move (.tmp 14))⟩,
  ⟨some 98, none, (.move (.tmp 97))⟩,
  ⟨some 99, some (98, true), (.move (.tmp 13))⟩,
  ⟨some 100, some (98, true), (.move (.tmp 15))⟩,
  ⟨some 101, some (98, true), (.binOp .eql 3 (.tmp 99) (.tmp 100) 3)⟩,
  ⟨some 102, none, (.pick (.tmp 98) (.tmp 101) (.const (.bool false)))⟩,
  ⟨none, none, (.store 39 (.tmp 6) (.tmp 96))⟩,
  ⟨some 7, none, (.assign (.tmp 102))⟩] [6, 7]
@[simp] noncomputable def F17_r24 : CC := .reg [⟨some 104, none, (.binOp .eql 3 (.tmp 31) (.const (.int .i64 4)) 3)⟩,
  ⟨some 103, none, (.assign (.tmp 104))⟩] [0, 4, 5, 6, 31, 103]
@[simp] noncomputable def F17_r25 : CC := .reg [⟨some 105, none, (.move (.tmp 0))⟩,
  ⟨some 106, none, (.fieldAddr 27 (.tmp 5) 1)⟩,
  ⟨some 107, none, (.load 3 (.tmp 106))⟩,
  ⟨some 108, none, (.call { callee := (.value (.func 11)), args := #[(.tmp 105), (.tmp 107)], argTypes := #[23, 3] })⟩,
  ⟨some 16, none, (.assign (.tmp 108))⟩] [4, 5, 6, 16]
@[simp] noncomputable def F17_r26 : CC := .reg [⟨some 109, none, (.load 39 (.tmp 4))⟩,
  ⟨some 110, none, (.fieldAddr 27 (.tmp 5) 1)⟩,
  ⟨some 111, none, (.load 3 (.tmp 110))⟩,
  ⟨some 112, none, (.call { callee := (.value (.func 26)), args := #[(.tmp 109), (.tmp 111)], argTypes := #[39, 3] })⟩,
  ⟨some 113, none, (.unOp .not 4 (.tmp 112))⟩,
  ⟨some 114, none, (.move (.tmp 113))⟩,
  ⟨some 115, some (114, false), (.fieldAddr 39 (.tmp 4) 0)⟩,
  ⟨some 116, some (114, false), (.load 25 (.tmp 115))⟩,
  ⟨some 117, some (114, false), (.call { callee := (.builtin .len), args := #[(.tmp 116)], argTypes := #[25] })⟩,
  ⟨some 118, some (114, false), (.fieldAddr 39 (.tmp 4) 1)⟩,
  ⟨some 119, some (114, false), (.load 3 (.tmp 118))⟩,
  ⟨some 120, some (114, false), (.binOp .geq 3 (.tmp 117) (.tmp 119) 3)⟩,
  ⟨some 121, none, (.pick (.tmp 114) (.const (.bool true)) (.tmp 120))⟩] [4, 5, 6, 16, 121]
@[simp] noncomputable def F17_r27 : CC := .reg [⟨some 122, none, (.load 39 (.tmp 4))⟩,
  ⟨some 123, none, (.move (.tmp 16))⟩,
  ⟨some 124, none, (.unOp .not 4 (.tmp 123))⟩,
  ⟨none, none, (.store 39 (.tmp 6) (.tmp 122))⟩,
  ⟨some 7, none, (.assign (.tmp 124))⟩] [6, 7]
@[simp] noncomputable def F17_r28 : CC := .drw [⟨1, ⟨some 126, none, (.fieldAddr 39 (.tmp 4) 0)⟩, [], []⟩,
  ⟨2, ⟨some 127, none, (.load 25 (.tmp 126))⟩, [], []⟩,
  ⟨4, ⟨some 129, none, (.fieldAddr 39 (.tmp 4) 0)⟩, [], []⟩,
  ⟨5, ⟨some 130, none, (.load 25 (.tmp 129))⟩, [], []⟩,
  ⟨6, ⟨some 131, none, (.fieldAddr 27 (.tmp 5) 1)⟩, [], []⟩,
  ⟨7, ⟨some 132, none, (.load 3 (.tmp 131))⟩, [], []⟩,
  ⟨8, ⟨some 133, none, (.indexAddr 25 (.tmp 130) (.tmp 132))⟩, [], []⟩,
  ⟨9, ⟨some 134, none, (.load 3 (.tmp 133))⟩, [], []⟩,
  ⟨10, ⟨some 135, none, (.buildSlice 25 1 #[(0, (.tmp 134))])⟩, [], []⟩,
  ⟨0, ⟨some 125, none, (.buildSlice 25 0 #[])⟩, [2, 5, 7, 9], [⟨some 127, none, (.load 25 (.tmp 126))⟩, ⟨some 130, none, (.load 25 (.tmp 129))⟩, ⟨some 132, none, (.load 3 (.tmp 131))⟩, ⟨some 134, none, (.load 3 (.tmp 133))⟩]⟩,
  ⟨3, ⟨some 128, none, (.call { callee := (.builtin .append), args := #[(.tmp 125), (.tmp 127)], argTypes := #[25, 25] })⟩, [5, 7, 9], [⟨some 130, none, (.load 25 (.tmp 129))⟩, ⟨some 132, none, (.load 3 (.tmp 131))⟩, ⟨some 134, none, (.load 3 (.tmp 133))⟩]⟩,
  ⟨11, ⟨some 136, none, (.call { callee := (.builtin .append), args := #[(.tmp 128), (.tmp 135)], argTypes := #[25, 25] })⟩, [], []⟩,
  ⟨12, ⟨some 137, none, (.fieldAddr 39 (.tmp 4) 0)⟩, [], []⟩,
  ⟨13, ⟨none, none, (.store 25 (.tmp 137) (.tmp 136))⟩, [], []⟩] [126, 127, 129, 130, 131, 132, 133, 134, 135, 125, 128, 136, 137] [4, 6, 16]
@[simp] noncomputable def F17_r29 : CC := .reg [⟨some 138, none, (.fieldAddr 39 (.tmp 4) 4)⟩,
  ⟨some 139, none, (.load 3 (.tmp 138))⟩,
  ⟨some 140, none, (.binOp .add 3 (.tmp 139) (.const (.int .i64 1)) 3)⟩,
  ⟨some 141, none, (.fieldAddr 39 (.tmp 4) 4)⟩,
  ⟨none, none, (.store 3 (.tmp 141) (.tmp 140))⟩] [4, 6, 16]
@[simp] noncomputable def F17_r30 : CC := .reg [⟨some 142, none, (.load 39 (.tmp 4))⟩,
  ⟨some 143, none, (.move (.tmp 16))⟩,
  ⟨none, none, (.store 39 (.tmp 6) (.tmp 142))⟩,
  ⟨some 7, none, (.assign (.tmp 143))⟩] [6, 7]
@[simp] noncomputable def F17_r31 : CC := .reg [⟨some 145, none, (.binOp .eql 3 (.tmp 31) (.const (.int .i64 5)) 3)⟩,
  ⟨some 144, none, (.assign (.tmp 145))⟩] [0, 4, 5, 6, 144]
@[simp] noncomputable def F17_r32 : CC := .reg [⟨some 17, none, (.assign (.const (.int .i64 0)))⟩] [0, 4, 5, 6, 17]
@[simp] noncomputable def F17_r33 : CC := .reg [⟨some 146, none, (.fieldAddr 27 (.tmp 5) 1)⟩,
  ⟨some 147, none, (.load 3 (.tmp 146))⟩,
  ⟨some 148, none, (.fieldAddr 27 (.tmp 5) 2)⟩,
  ⟨some 149, none, (.load 3 (.tmp 148))⟩,
  ⟨some 150, none, (.buildSlice 25 2 #[(0, (.tmp 147)), (1, (.tmp 149))])⟩,
  ⟨some 151, none, (.call { callee := (.builtin .len), args := #[(.tmp 150)], argTypes := #[25] })⟩,
  ⟨some 152, none, (.move (.const (.int .i64 0)))⟩] [0, 4, 5, 6, 17, 150, 151, 152]
@[simp] noncomputable def F17_r34 : CC := .reg [⟨some 153, none, (.binOp .lss 3 (.tmp 152) (.tmp 151) 3)⟩] [0, 4, 5, 6, 17, 150, 151, 152, 153]
@[simp] noncomputable def F17_r35 : CC := .reg [⟨some 154, none, (.indexAddr 25 (.tmp 150) (.tmp 152))⟩,
  ⟨some 155, none, (.load 3 (.tmp 154))⟩,
  ⟨some 19, none, (.assign (.tmp 155))⟩] [0, 4, 5, 6, 17, 19, 150, 151, 152]
@[simp] noncomputable def F17_r36 : CC := .reg [⟨some 156, none, (.load 39 (.tmp 4))⟩,
  ⟨some 157, none, (.move (.tmp 19))⟩,
  ⟨some 158, none, (.call { callee := (.value (.func 26)), args := #[(.tmp 156), (.tmp 157)], argTypes := #[39, 3] })⟩] [0, 4, 5, 6, 17, 19, 150, 151, 152, 158]
@[simp] noncomputable def F17_r37 : CC := .reg [⟨some 159, none, (.load 39 (.tmp 4))⟩,
  ⟨some 160, none, (.move (.tmp 19))⟩,
  ⟨some 161, none, (.call { callee := (.value (.func 27)), args := #[(.tmp 159), (.tmp 160)], argTypes := #[39, 3] })⟩,
  ⟨none, none, (.store 39 (.tmp 4) (.tmp 161))⟩] [0, 4, 5, 6, 17, 150, 151, 152]
@[simp] noncomputable def F17_r38 : CC := .reg [⟨some 162, none, (.fieldAddr 39 (.tmp 4) 5)⟩,
  ⟨some 163, none, (.load 3 (.tmp 162))⟩,
  ⟨some 164, none, (.binOp .add 3 (.tmp 163) (.const (.int .i64 1)) 3)⟩,
  ⟨some 165, none, (.fieldAddr 39 (.tmp 4) 5)⟩,
  ⟨none, none, (.store 3 (.tmp 165) (.tmp 164))⟩] [0, 4, 5, 6, 17, 150, 151, 152]
@[simp] noncomputable def F17_r39 : CC := .reg [⟨some 166, none, (.move (.tmp 17))⟩,
  ⟨some 167, none, (.binOp .add 3 (.tmp 166) (.const (.int .i64 1)) 3)⟩,
  ⟨some 17, none, (.assign (.tmp 167))⟩] [0, 4, 5, 6, 17, 150, 151, 152]
@[simp] noncomputable def F17_r40 : CC := .reg [⟨some 168, none, (.binOp .add 3 (.tmp 152) (.const (.int .i64 1)) 3)⟩,
  ⟨some 152, none, (.move (.tmp 168))⟩] [0, 4, 5, 6, 17, 150, 151, 152]
noncomputable def F17_l1 : CC := (.seq F17_r34 (.seq (.cond (.tmp 153) .skip (.exit 3)) (.seq (.block 4 (.seq F17_r35 (.seq F17_r36 (.cond (.tmp 158) (.seq F17_r37 (.seq F17_r38 F17_r39)) .skip)))) F17_r40)))
@[simp] noncomputable def F17_r41 : CC := .drw [⟨0, ⟨some 169, none, (.load 39 (.tmp 4))⟩, [], []⟩,
  ⟨1, ⟨some 170, none, (.move (.tmp 0))⟩, [], []⟩,
  ⟨2, ⟨some 171, none, (.fieldAddr 27 (.tmp 5) 1)⟩, [], []⟩,
  ⟨3, ⟨some 172, none, (.load 3 (.tmp 171))⟩, [], []⟩,
  ⟨4, ⟨some 173, none, (.fieldAddr 27 (.tmp 5) 2)⟩, [], []⟩,
  ⟨5, ⟨some 174, none, (.load 3 (.tmp 173))⟩, [], []⟩,
  ⟨6, ⟨some 175, none, (.buildSlice 25 2 #[(0, (.tmp 172)), (1, (.tmp 174))])⟩, [], []⟩,
  ⟨8, ⟨some 177, none, (.move (.tmp 17))⟩, [], []⟩,
  ⟨7, ⟨some 176, none, (.call { callee := (.value (.func 12)), args := #[(.tmp 170), (.tmp 175)], argTypes := #[23, 25] })⟩, [0], [⟨some 169, none, (.load 39 (.tmp 4))⟩]⟩,
  ⟨9, ⟨some 178, none, (.binOp .eql 3 (.tmp 176) (.tmp 177) 3)⟩, [], []⟩,
  ⟨10, ⟨none, none, (.store 39 (.tmp 6) (.tmp 169))⟩, [], []⟩,
  ⟨11, ⟨some 7, none, (.assign (.tmp 178))⟩, [], []⟩] [169, 170, 171, 172, 173, 174, 175, 177, 176, 178, 7] [6, 7]
@[simp] noncomputable def F17_r42 : CC := .reg [⟨some 180, none, (.move (.tmp 0))⟩,
  ⟨some 181, none, (.fieldAddr 27 (.tmp 5) 1)⟩,
  ⟨some 182, none, (.load 3 (.tmp 181))⟩,
  ⟨some 183, none, (.call { callee := (.value (.func 20)), args := #[(.tmp 180), (.tmp 182)], argTypes := #[23, 3] })⟩,
  ⟨some 179, none, (.move (.tmp 183))⟩,
  ⟨some 184, none, (.extract (.tmp 179) 0)⟩,
  ⟨some 185, none, (.extract (.tmp 179) 1)⟩,
  ⟨some 20, none, (.assign (.tmp 184))⟩,
  ⟨some 21, none, (.assign (.tmp 185))⟩] [4, 5, 6, 20, 21]
@[simp] noncomputable def F17_r43 : CC := .reg [⟨some 186, none, (.load 39 (.tmp 4))⟩,
  ⟨some 187, none, (.fieldAddr 27 (.tmp 5) 1)⟩,
  ⟨some 188, none, (.load 3 (.tmp 187))⟩,
  ⟨some 189, none, (.call { callee := (.value (.func 26)), args := #[(.tmp 186), (.tmp 188)], argTypes := #[39, 3] })⟩,
  ⟨some 190, none, (.unOp .not 4 (.tmp 189))⟩] [4, 5, 6, 20, 21, 190]
@[simp] noncomputable def F17_r44 : CC := .reg [⟨some 191, none, (.load 39 (.tmp 4))⟩,
  ⟨some 192, none, (.move (.tmp 21))⟩,
  ⟨some 193, none, (.unOp .not 4 (.tmp 192))⟩,
  ⟨some 194, none, (.move (.tmp 193))⟩,
  ⟨some 195, some (194, true), (.move (.tmp 20))⟩,
  ⟨some 196, some (194, true), (.binOp .eql 3 (.tmp 195) (.const (.int .i64 0)) 3)⟩,
  ⟨some 197, none, (.pick (.tmp 194) (.tmp 196) (.const (.bool false)))⟩,
  ⟨none, none, (.store 39 (.tmp 6) (.tmp 191))⟩,
  ⟨some 7, none, (.assign (.tmp 197))⟩] [6, 7]
@[simp] noncomputable def F17_r45 : CC := .drw [⟨0, ⟨some 198, none, (.load 39 (.tmp 4))⟩, [], []⟩,
  ⟨1, ⟨some 199, none, (.move (.tmp 21))⟩, [], []⟩,
  ⟨2, ⟨some 200, none, (.move (.tmp 199))⟩, [], []⟩,
  ⟨3, ⟨some 201, some (200, true), (.move (.tmp 20))⟩, [], []⟩,
  ⟨4, ⟨some 202, some (200, true), (.fieldAddr 39 (.tmp 4) 0)⟩, [], []⟩,
  ⟨5, ⟨some 203, some (200, true), (.load 25 (.tmp 202))⟩, [], []⟩,
  ⟨6, ⟨some 204, some (200, true), (.fieldAddr 27 (.tmp 5) 1)⟩, [], []⟩,
  ⟨7, ⟨some 205, some (200, true), (.load 3 (.tmp 204))⟩, [], []⟩,
  ⟨8, ⟨some 206, some (200, true), (.indexAddr 25 (.tmp 203) (.tmp 205))⟩, [], []⟩,
  ⟨9, ⟨some 207, some (200, true), (.load 3 (.tmp 206))⟩, [], []⟩,
  ⟨10, ⟨some 208, some (200, true), (.binOp .eql 3 (.tmp 201) (.tmp 207) 3)⟩, [], []⟩,
  ⟨11, ⟨some 209, none, (.pick (.tmp 200) (.tmp 208) (.const (.bool false)))⟩, [], []⟩,
  ⟨12, ⟨none, none, (.store 39 (.tmp 6) (.tmp 198))⟩, [5, 7, 9], [⟨some 203, some (200, true), (.load 25 (.tmp 202))⟩, ⟨some 205, some (200, true), (.load 3 (.tmp 204))⟩, ⟨some 207, some (200, true), (.load 3 (.tmp 206))⟩]⟩,
  ⟨13, ⟨some 7, none, (.assign (.tmp 209))⟩, [], []⟩] [198, 199, 200, 201, 202, 203, 204, 205, 206, 207, 208, 209, 7] [6, 7]
noncomputable def F17 : CC := (.seq F17_r0 (.seq (.seq F17_r1 (.cond (.tmp 25) F17_r2 .skip)) (.seq (.seq F17_r3 (.block 0 (.seq (.seq F17_r4 (.cond (.tmp 32) .skip F17_r5)) (.cond (.tmp 32) (.seq F17_r6 (.seq (.seq F17_r7 (.block 1 (.loop F17_l0))) (.seq F17_r14 .ret))) (.seq (.seq F17_r15 (.cond (.tmp 60) .skip F17_r16)) (.cond (.tmp 60) (.seq F17_r17 (.seq (.seq F17_r18 (.cond (.tmp 74) (.seq F17_r19 .ret) .skip)) (.seq F17_r20 (.seq F17_r21 (.seq F17_r22 (.seq F17_r23 .ret)))))) (.seq F17_r24 (.cond (.tmp 103) (.seq F17_r25 (.seq (.seq F17_r26 (.cond (.tmp 121) (.seq F17_r27 .ret) .skip)) (.seq F17_r28 (.seq F17_r29 (.seq F17_r30 .ret))))) (.seq F17_r31 (.cond (.tmp 144) (.seq F17_r32 (.seq (.seq F17_r33 (.block 3 (.loop F17_l1))) (.seq F17_r41 .ret))) .skip)))))))))) (.seq F17_r42 (.seq (.seq F17_r43 (.cond (.tmp 190) (.seq F17_r44 .ret) .skip)) (.seq F17_r45 .ret))))))
noncomputable def F17_inf : Nat → RI
  | 0 => ⟨[0, 4, 5, 6], [], []⟩
  | 1 => ⟨[0, 4, 5, 6, 25], [], []⟩
  | 2 => ⟨[0, 4, 5, 6], [], []⟩
  | 3 => ⟨[0, 4, 5, 6, 31], [], []⟩
  | 4 => ⟨[0, 4, 5, 6, 31, 32], [], []⟩
  | 5 => ⟨[0, 4, 5, 6, 31, 32], [], []⟩
  | 6 => ⟨[0, 4, 5, 6, 8], [], []⟩
  | 7 => ⟨[0, 4, 5, 6, 8, 36, 37, 38], [], []⟩
  | 8 => ⟨[0, 4, 5, 6, 8, 36, 37, 38, 39], [], []⟩
  | 9 => ⟨[0, 4, 5, 6, 8, 10, 36, 37, 38], [], []⟩
  | 10 => ⟨[0, 4, 5, 6, 8, 11, 12, 36, 37, 38], [], []⟩
  | 11 => ⟨[0, 4, 5, 6, 8, 12, 36, 37, 38], [], []⟩
  | 12 => ⟨[0, 4, 5, 6, 8, 36, 37, 38], [], []⟩
  | 13 => ⟨[0, 4, 5, 6, 8, 36, 37, 38], [], []⟩
  | 14 => ⟨[6, 7], [0, 0, 0, 4, 14, 0, 62, 31, 255], [(0, []), (1, []), (2, []), (3, []), (5, []), (4, [0]), (6, []), (7, []), (8, [])]⟩
  | 15 => ⟨[0, 4, 5, 6, 31, 60], [], []⟩
  | 16 => ⟨[0, 4, 5, 6, 31, 60], [], []⟩
  | 17 => ⟨[4, 5, 6, 13, 14], [], []⟩
  | 18 => ⟨[4, 5, 6, 13, 14, 74], [], []⟩
  | 19 => ⟨[6, 7], [], []⟩
  | 20 => ⟨[4, 5, 6, 13, 14, 15], [], []⟩
  | 21 => ⟨[4, 6, 13, 14, 15], [], []⟩
  | 22 => ⟨[4, 6, 13, 14, 15], [], []⟩
  | 23 => ⟨[6, 7], [], []⟩
  | 24 => ⟨[0, 4, 5, 6, 31, 103], [], []⟩
  | 25 => ⟨[4, 5, 6, 16], [], []⟩
  | 26 => ⟨[4, 5, 6, 16, 121], [], []⟩
  | 27 => ⟨[6, 7], [], []⟩
  | 28 => ⟨[4, 6, 16], [0, 0, 2, 7, 0, 16, 0, 64, 240, 496, 1008, 2047, 4095, 8191], [(1, []), (2, []), (4, []), (5, []), (6, []), (7, []), (8, []), (9, []), (10, []), (0, [2, 5, 7, 9]), (3, [5, 7, 9]), (11, []), (12, []), (13, [])]⟩
  | 29 => ⟨[4, 6, 16], [], []⟩
  | 30 => ⟨[6, 7], [], []⟩
  | 31 => ⟨[0, 4, 5, 6, 144], [], []⟩
  | 32 => ⟨[0, 4, 5, 6, 17], [], []⟩
  | 33 => ⟨[0, 4, 5, 6, 17, 150, 151, 152], [], []⟩
  | 34 => ⟨[0, 4, 5, 6, 17, 150, 151, 152, 153], [], []⟩
  | 35 => ⟨[0, 4, 5, 6, 17, 19, 150, 151, 152], [], []⟩
  | 36 => ⟨[0, 4, 5, 6, 17, 19, 150, 151, 152, 158], [], []⟩
  | 37 => ⟨[0, 4, 5, 6, 17, 150, 151, 152], [], []⟩
  | 38 => ⟨[0, 4, 5, 6, 17, 150, 151, 152], [], []⟩
  | 39 => ⟨[0, 4, 5, 6, 17, 150, 151, 152], [], []⟩
  | 40 => ⟨[0, 4, 5, 6, 17, 150, 151, 152], [], []⟩
  | 41 => ⟨[6, 7], [0, 0, 0, 4, 0, 16, 60, 126, 0, 510, 255, 2047], [(0, []), (1, []), (2, []), (3, []), (4, []), (5, []), (6, []), (8, []), (7, [0]), (9, []), (10, []), (11, [])]⟩
  | 42 => ⟨[4, 5, 6, 20, 21], [], []⟩
  | 43 => ⟨[4, 5, 6, 20, 21, 190], [], []⟩
  | 44 => ⟨[6, 7], [], []⟩
  | 45 => ⟨[6, 7], [0, 0, 2, 6, 6, 22, 6, 70, 246, 502, 1022, 2046, 7, 8191], [(0, []), (1, []), (2, []), (3, []), (4, []), (5, []), (6, []), (7, []), (8, []), (9, []), (10, []), (11, []), (12, [5, 7, 9]), (13, [])]⟩
  | _ => ⟨[], [], []⟩
noncomputable def F17_c : Code := Try.f17.body.getD .skip
theorem F17_b : Try.f17.body = some F17_c := by kernel_rfl
theorem F17_rs : Try.f17.results.toList = ([.cell 6 39, .tmp 7] : List ResultVar) := by kernel_rfl
theorem F17_n : Try.f17.ntmps = 210 := by kernel_rfl
theorem F17_ok : toCC [] 210 F17_inf F17_c = some F17 := by kernel_rfl
theorem F17_in {args : List AV} {G : Hp} {post : AV → Hp → Prop} (ha : args.all AV.plain = true) (hn : args.length ≤ 210) (h : BDs args → awp Try.prog [] F17 (AEnds Try.prog [.cell 6 39, .tmp 7] post) (initT args) G) : ACalls Try.prog 17 args G post :=
  acalls_cc Try.func17 F17_b F17_rs F17_n F17_ok mixed ha hn h

/- 18 ostiary/ostiaryref02.Same -/
@[simp] noncomputable def F18_r0 : CC := .reg [⟨some 4, none, (.assign (.const (.bool false)))⟩] [0, 1]
@[simp] noncomputable def F18_r1 : CC := .reg [⟨some 6, none, (.move (.tmp 0))⟩,
  ⟨some 7, none, (.call { callee := (.builtin .len), args := #[(.tmp 6)], argTypes := #[25] })⟩,
  ⟨some 8, none, (.move (.tmp 1))⟩,
  ⟨some 9, none, (.call { callee := (.builtin .len), args := #[(.tmp 8)], argTypes := #[25] })⟩,
  ⟨some 10, none, (.binOp .neq 3 (.tmp 7) (.tmp 9) 3)⟩] [0, 1, 10]
@[simp] noncomputable def F18_r2 : CC := .reg [⟨some 4, none, (.assign (.const (.bool false)))⟩] [4]
@[simp] noncomputable def F18_r3 : CC := .reg [⟨some 11, none, (.move (.tmp 0))⟩,
  ⟨some 12, none, (.call { callee := (.builtin .len), args := #[(.tmp 11)], argTypes := #[25] })⟩,
  ⟨some 13, none, (.move (.const (.int .i64 0)))⟩] [0, 1, 12, 13]
@[simp] noncomputable def F18_r4 : CC := .reg [⟨some 14, none, (.binOp .lss 3 (.tmp 13) (.tmp 12) 3)⟩] [0, 1, 12, 13, 14]
@[simp] noncomputable def F18_r5 : CC := .reg [⟨some 15, none, (.move (.tmp 13))⟩,
  ⟨some 5, none, (.assign (.tmp 15))⟩] [0, 1, 5, 12, 13]
@[simp] noncomputable def F18_r6 : CC := .drw [⟨0, ⟨some 16, none, (.move (.tmp 0))⟩, [], []⟩,
  ⟨1, ⟨some 17, none, (.move (.tmp 5))⟩, [], []⟩,
  ⟨2, ⟨some 18, none, (.indexAddr 25 (.tmp 16) (.tmp 17))⟩, [], []⟩,
  ⟨3, ⟨some 19, none, (.load 3 (.tmp 18))⟩, [], []⟩,
  ⟨4, ⟨some 20, none, (.move (.tmp 1))⟩, [], []⟩,
  ⟨5, ⟨some 21, none, (.move (.tmp 5))⟩, [], []⟩,
  ⟨6, ⟨some 22, none, (.indexAddr 25 (.tmp 20) (.tmp 21))⟩, [], []⟩,
  ⟨7, ⟨some 23, none, (.load 3 (.tmp 22))⟩, [], []⟩,
  ⟨8, ⟨some 24, none, (.binOp .neq 3 (.tmp 19) (.tmp 23) 3)⟩, [], []⟩] [16, 17, 18, 19, 20, 21, 22, 23, 24] [0, 1, 12, 13, 24]
@[simp] noncomputable def F18_r7 : CC := .reg [⟨some 4, none, (.assign (.const (.bool false)))⟩] [4]
@[simp] noncomputable def F18_r8 : CC := .reg [⟨some 25, none, (.binOp .add 3 (.tmp 13) (.const (.int .i64 1)) 3)⟩,
  ⟨some 13, none, (.move (.tmp 25))⟩] [0, 1, 12, 13]
noncomputable def F18_l0 : CC := (.seq F18_r4 (.seq (.cond (.tmp 14) .skip (.exit 0)) (.seq (.block 1 (.seq F18_r5 (.seq F18_r6 (.cond (.tmp 24) (.seq F18_r7 .ret) .skip)))) F18_r8)))
@[simp] noncomputable def F18_r9 : CC := .reg [⟨some 4, none, (.assign (.const (.bool true)))⟩] [4]
noncomputable def F18 : CC := (.seq F18_r0 (.seq (.seq F18_r1 (.cond (.tmp 10) (.seq F18_r2 .ret) .skip)) (.seq (.seq F18_r3 (.block 0 (.loop F18_l0))) (.seq F18_r9 .ret))))
noncomputable def F18_inf : Nat → RI
  | 0 => ⟨[0, 1], [], []⟩
  | 1 => ⟨[0, 1, 10], [], []⟩
  | 2 => ⟨[4], [], []⟩
  | 3 => ⟨[0, 1, 12, 13], [], []⟩
  | 4 => ⟨[0, 1, 12, 13, 14], [], []⟩
  | 5 => ⟨[0, 1, 5, 12, 13], [], []⟩
  | 6 => ⟨[0, 1, 12, 13, 24], [0, 0, 3, 7, 0, 0, 48, 112, 255], [(0, []), (1, []), (2, []), (3, []), (4, []), (5, []), (6, []), (7, []), (8, [])]⟩
  | 7 => ⟨[4], [], []⟩
  | 8 => ⟨[0, 1, 12, 13], [], []⟩
  | 9 => ⟨[4], [], []⟩
  | _ => ⟨[], [], []⟩
noncomputable def F18_c : Code := Try.f18.body.getD .skip
theorem F18_b : Try.f18.body = some F18_c := by kernel_rfl
theorem F18_rs : Try.f18.results.toList = ([.tmp 4] : List ResultVar) := by kernel_rfl
theorem F18_n : Try.f18.ntmps = 26 := by kernel_rfl
theorem F18_ok : toCC [] 26 F18_inf F18_c = some F18 := by kernel_rfl
theorem F18_in {args : List AV} {G : Hp} {post : AV → Hp → Prop} (ha : args.all AV.plain = true) (hn : args.length ≤ 26) (h : BDs args → awp Try.prog [] F18 (AEnds Try.prog [.tmp 4] post) (initT args) G) : ACalls Try.prog 18 args G post :=
  acalls_cc Try.func18 F18_b F18_rs F18_n F18_ok mixed ha hn h

/- 19 (*ostiary/pipe.Pipe[int]).All -/
@[simp] noncomputable def F19_r0 : CC := .reg [⟨some 2, none, (.assign (.const (.slice none 0 0)))⟩] [0]
@[simp] noncomputable def F19_r1 : CC := .reg [⟨some 3, none, (.move (.tmp 0))⟩,
  ⟨some 4, none, (.binOp .eql 23 (.tmp 3) (.const (.pointer none)) 23)⟩] [0, 4]
@[simp] noncomputable def F19_r2 : CC := .reg [⟨some 2, none, (.assign (.const (.slice none 0 0)))⟩] [2]
@[simp] noncomputable def F19_r3 : CC := .reg [⟨some 5, none, (.move (.tmp 0))⟩,
  ⟨some 6, none, (.nilCheck (.tmp 5))⟩,
  ⟨some 7, none, (.fieldAddr 50 (.tmp 6) 0)⟩,
  ⟨some 8, none, (.fieldAddr 48 (.tmp 7) 0)⟩,
  ⟨some 9, none, (.load 45 (.tmp 8))⟩,
  ⟨some 10, none, (.call { callee := (.value (.func 28)), args := #[(.tmp 9)], argTypes := #[45] })⟩,
  ⟨some 2, none, (.assign (.tmp 10))⟩] [2]
noncomputable def F19 : CC := (.seq F19_r0 (.seq (.seq F19_r1 (.cond (.tmp 4) (.seq F19_r2 .ret) .skip)) (.seq F19_r3 .ret)))
noncomputable def F19_inf : Nat → RI
  | 0 => ⟨[0], [], []⟩
  | 1 => ⟨[0, 4], [], []⟩
  | 2 => ⟨[2], [], []⟩
  | 3 => ⟨[2], [], []⟩
  | _ => ⟨[], [], []⟩
noncomputable def F19_c : Code := Try.f19.body.getD .skip
theorem F19_b : Try.f19.body = some F19_c := by kernel_rfl
theorem F19_rs : Try.f19.results.toList = ([.tmp 2] : List ResultVar) := by kernel_rfl
theorem F19_n : Try.f19.ntmps = 11 := by kernel_rfl
theorem F19_ok : toCC [] 11 F19_inf F19_c = some F19 := by kernel_rfl
theorem F19_in {args : List AV} {G : Hp} {post : AV → Hp → Prop} (ha : args.all AV.plain = true) (hn : args.length ≤ 11) (h : BDs args → awp Try.prog [] F19 (AEnds Try.prog [.tmp 2] post) (initT args) G) : ACalls Try.prog 19 args G post :=
  acalls_cc Try.func19 F19_b F19_rs F19_n F19_ok mixed ha hn h

/- 20 (*ostiary/pipe.Pipe[int]).At -/
@[simp] noncomputable def F20_r0 : CC := .reg [⟨some 4, none, (.assign (.const (.int .i64 0)))⟩,
  ⟨some 5, none, (.assign (.const (.bool false)))⟩] [0, 1]
@[simp] noncomputable def F20_r1 : CC := .reg [⟨some 7, none, (.move (.tmp 0))⟩,
  ⟨some 8, none, (.binOp .eql 23 (.tmp 7) (.const (.pointer none)) 23)⟩] [0, 1, 8]
@[simp] noncomputable def F20_r2 : CC := .reg [⟨some 6, none, (.assign (.const (.int .i64 0)))⟩] [6]
@[simp] noncomputable def F20_r3 : CC := .reg [⟨some 9, none, (.move (.tmp 6))⟩,
  ⟨some 4, none, (.assign (.tmp 9))⟩,
  ⟨some 5, none, (.assign (.const (.bool false)))⟩] [4, 5]
@[simp] noncomputable def F20_r4 : CC := .reg [⟨some 10, none, (.move (.tmp 0))⟩,
  ⟨some 11, none, (.nilCheck (.tmp 10))⟩,
  ⟨some 12, none, (.fieldAddr 50 (.tmp 11) 0)⟩,
  ⟨some 13, none, (.fieldAddr 48 (.tmp 12) 0)⟩,
  ⟨some 14, none, (.load 45 (.tmp 13))⟩,
  ⟨some 15, none, (.move (.tmp 1))⟩,
  ⟨some 16, none, (.call { callee := (.value (.func 29)), args := #[(.tmp 14), (.tmp 15)], argTypes := #[45, 3] })⟩,
  ⟨some 17, none, (.extract (.tmp 16) 0)⟩,
  ⟨some 18, none, (.extract (.tmp 16) 1)⟩,
  ⟨some 4, none, (.assign (.tmp 17))⟩,
  ⟨some 5, none, (.assign (.tmp 18))⟩] [4, 5]
noncomputable def F20 : CC := (.seq F20_r0 (.seq (.seq F20_r1 (.cond (.tmp 8) (.seq F20_r2 (.seq F20_r3 .ret)) .skip)) (.seq F20_r4 .ret)))
noncomputable def F20_inf : Nat → RI
  | 0 => ⟨[0, 1], [], []⟩
  | 1 => ⟨[0, 1, 8], [], []⟩
  | 2 => ⟨[6], [], []⟩
  | 3 => ⟨[4, 5], [], []⟩
  | 4 => ⟨[4, 5], [], []⟩
  | _ => ⟨[], [], []⟩
noncomputable def F20_c : Code := Try.f20.body.getD .skip
theorem F20_b : Try.f20.body = some F20_c := by kernel_rfl
theorem F20_rs : Try.f20.results.toList = ([.tmp 4, .tmp 5] : List ResultVar) := by kernel_rfl
theorem F20_n : Try.f20.ntmps = 19 := by kernel_rfl
theorem F20_ok : toCC [] 19 F20_inf F20_c = some F20 := by kernel_rfl
theorem F20_in {args : List AV} {G : Hp} {post : AV → Hp → Prop} (ha : args.all AV.plain = true) (hn : args.length ≤ 19) (h : BDs args → awp Try.prog [] F20 (AEnds Try.prog [.tmp 4, .tmp 5] post) (initT args) G) : ACalls Try.prog 20 args G post :=
  acalls_cc Try.func20 F20_b F20_rs F20_n F20_ok mixed ha hn h

/- 21 ostiary/shelf.NewRing[int] -/
@[simp] noncomputable def F21_r0 : CC := .reg [⟨some 2, none, (.assign (.const (.pointer none)))⟩] [0]
@[simp] noncomputable def F21_r1 : CC := .reg [⟨some 3, none, (.move (.tmp 0))⟩,
  ⟨some 4, none, (.call { callee := (.builtin .max), args := #[(.tmp 3), (.const (.int .i64 0))], argTypes := #[3, 3] })⟩,
  ⟨some 5, none, (.build 55 #[(1, (.tmp 4))])⟩,
  ⟨some 6, none, (.box 55 (.tmp 5))⟩,
  ⟨some 2, none, (.assign (.tmp 6))⟩] [2]
noncomputable def F21 : CC := (.seq F21_r0 (.seq F21_r1 .ret))
noncomputable def F21_inf : Nat → RI
  | 0 => ⟨[0], [], []⟩
  | 1 => ⟨[2], [], []⟩
  | _ => ⟨[], [], []⟩
noncomputable def F21_c : Code := Try.f21.body.getD .skip
theorem F21_b : Try.f21.body = some F21_c := by kernel_rfl
theorem F21_rs : Try.f21.results.toList = ([.tmp 2] : List ResultVar) := by kernel_rfl
theorem F21_n : Try.f21.ntmps = 7 := by kernel_rfl
theorem F21_ok : toCC [6] 7 F21_inf F21_c = some F21 := by kernel_rfl
theorem F21_in {args : List AV} {G : Hp} {post : AV → Hp → Prop} (ha : args.all AV.plain = true) (hn : args.length ≤ 7) (h : BDs args → awp Try.prog [6] F21 (AEnds Try.prog [.tmp 2] post) (initT args) G) : ACalls Try.prog 21 args G post :=
  acalls_cc Try.func21 F21_b F21_rs F21_n F21_ok mixed ha hn h

/- 22 (*ostiary/shelf.Ring[int]).Put -/
@[simp] noncomputable def F22_r0 : CC := .reg [⟨some 4, none, (.assign (.const (.bool false)))⟩] [0, 1]
@[simp] noncomputable def F22_r1 : CC := .drw [⟨0, ⟨some 5, none, (.move (.tmp 0))⟩, [], []⟩,
  ⟨1, ⟨some 6, none, (.binOp .eql 45 (.tmp 5) (.const (.pointer none)) 45)⟩, [], []⟩,
  ⟨2, ⟨some 7, none, (.move (.tmp 6))⟩, [], []⟩,
  ⟨3, ⟨some 8, some (7, false), (.move (.tmp 1))⟩, [], []⟩,
  ⟨4, ⟨some 9, some (7, false), (.call { callee := (.builtin .len), args := #[(.tmp 8)], argTypes := #[25] })⟩, [], []⟩,
  ⟨5, ⟨some 10, some (7, false), (.move (.tmp 0))⟩, [], []⟩,
  ⟨6, ⟨some 11, some (7, false), (.nilCheck (.tmp 10))⟩, [], []⟩,
  ⟨7, ⟨some 12, some (7, false), (.fieldAddr 55 (.tmp 11) 1)⟩, [], []⟩,
  ⟨8, ⟨some 13, some (7, false), (.load 3 (.tmp 12))⟩, [], []⟩,
  ⟨9, ⟨some 14, some (7, false), (.move (.tmp 0))⟩, [], []⟩,
  ⟨10, ⟨some 15, some (7, false), (.nilCheck (.tmp 14))⟩, [], []⟩,
  ⟨11, ⟨some 16, some (7, false), (.fieldAddr 55 (.tmp 15) 0)⟩, [], []⟩,
  ⟨12, ⟨some 17, some (7, false), (.load 25 (.tmp 16))⟩, [], []⟩,
  ⟨13, ⟨some 18, some (7, false), (.call { callee := (.builtin .len), args := #[(.tmp 17)], argTypes := #[25] })⟩, [], []⟩,
  ⟨14, ⟨some 19, some (7, false), (.binOp .sub 3 (.tmp 13) (.tmp 18) 3)⟩, [], []⟩,
  ⟨15, ⟨some 20, some (7, false), (.binOp .gtr 3 (.tmp 9) (.tmp 19) 3)⟩, [], []⟩,
  ⟨16, ⟨some 21, none, (.pick (.tmp 7) (.const (.bool true)) (.tmp 20))⟩, [], []⟩] [5, 6, 7, 8, 9, 10, 11, 12, 13, 14, 15, 16, 17, 18, 19, 20, 21] [0, 1, 21]
@[simp] noncomputable def F22_r2 : CC := .reg [⟨some 4, none, (.assign (.const (.bool false)))⟩] [4]
@[simp] noncomputable def F22_r3 : CC := .reg [⟨some 22, none, (.move (.tmp 0))⟩,
  ⟨some 23, none, (.move (.tmp 0))⟩,
  ⟨some 24, none, (.nilCheck (.tmp 23))⟩,
  ⟨some 25, none, (.fieldAddr 55 (.tmp 24) 0)⟩,
  ⟨some 26, none, (.load 25 (.tmp 25))⟩,
  ⟨some 27, none, (.move (.tmp 1))⟩,
  ⟨some 28, none, (.call { callee := (.builtin .append), args := #[(.tmp 26), (.tmp 27)], argTypes := #[25, 25] })⟩,
  ⟨some 29, none, (.nilCheck (.tmp 22))⟩,
  ⟨some 30, none, (.fieldAddr 55 (.tmp 29) 0)⟩,
  ⟨none, none, (.store 25 (.tmp 30) (.tmp 28))⟩] []
@[simp] noncomputable def F22_r4 : CC := .reg [⟨some 4, none, (.assign (.const (.bool true)))⟩] [4]
noncomputable def F22 : CC := (.seq F22_r0 (.seq (.seq F22_r1 (.cond (.tmp 21) (.seq F22_r2 .ret) .skip)) (.seq F22_r3 (.seq F22_r4 .ret))))
noncomputable def F22_inf : Nat → RI
  | 0 => ⟨[0, 1], [], []⟩
  | 1 => ⟨[0, 1, 21], [0, 1, 3, 7, 15, 7, 39, 103, 231, 7, 519, 1543, 3591, 7687, 16359, 32767, 65535], [(0, []), (1, []), (2, []), (3, []), (4, []), (5, []), (6, []), (7, []), (8, []), (9, []), (10, []), (11, []), (12, []), (13, []), (14, []), (15, []), (16, [])]⟩
  | 2 => ⟨[4], [], []⟩
  | 3 => ⟨[], [], []⟩
  | 4 => ⟨[4], [], []⟩
  | _ => ⟨[], [], []⟩
noncomputable def F22_c : Code := Try.f22.body.getD .skip
theorem F22_b : Try.f22.body = some F22_c := by kernel_rfl
theorem F22_rs : Try.f22.results.toList = ([.tmp 4] : List ResultVar) := by kernel_rfl
theorem F22_n : Try.f22.ntmps = 31 := by kernel_rfl
theorem F22_ok : toCC [] 31 F22_inf F22_c = some F22 := by kernel_rfl
theorem F22_in {args : List AV} {G : Hp} {post : AV → Hp → Prop} (ha : args.all AV.plain = true) (hn : args.length ≤ 31) (h : BDs args → awp Try.prog [] F22 (AEnds Try.prog [.tmp 4] post) (initT args) G) : ACalls Try.prog 22 args G post :=
  acalls_cc Try.func22 F22_b F22_rs F22_n F22_ok mixed ha hn h

/- 23 (*ostiary/shelf.Ring[int]).Cut -/
@[simp] noncomputable def F23_r0 : CC := .reg [⟨some 4, none, (.assign (.const (.int .i64 0)))⟩,
  ⟨some 5, none, (.assign (.const (.bool false)))⟩] [0, 1]
@[simp] noncomputable def F23_r1 : CC := .reg [⟨some 9, none, (.move (.tmp 0))⟩,
  ⟨some 10, none, (.move (.tmp 1))⟩,
  ⟨some 11, none, (.call { callee := (.value (.func 29)), args := #[(.tmp 9), (.tmp 10)], argTypes := #[45, 3] })⟩,
  ⟨some 8, none, (.move (.tmp 11))⟩,
  ⟨some 12, none, (.extract (.tmp 8) 0)⟩,
  ⟨some 13, none, (.extract (.tmp 8) 1)⟩,
  ⟨some 6, none, (.assign (.tmp 12))⟩,
  ⟨some 7, none, (.assign (.tmp 13))⟩] [0, 1, 6, 7]
@[simp] noncomputable def F23_r2 : CC := .reg [⟨some 14, none, (.move (.tmp 7))⟩] [0, 1, 6, 7, 14]
@[simp] noncomputable def F23_r3 : CC := .reg [⟨some 15, none, (.move (.tmp 0))⟩,
  ⟨some 16, none, (.move (.tmp 0))⟩,
  ⟨some 17, none, (.nilCheck (.tmp 16))⟩,
  ⟨some 18, none, (.fieldAddr 55 (.tmp 17) 0)⟩,
  ⟨some 19, none, (.load 25 (.tmp 18))⟩,
  ⟨some 20, none, (.call { callee := (.value (.func 31)), args := #[(.tmp 19)], argTypes := #[25] })⟩,
  ⟨some 21, none, (.move (.tmp 1))⟩,
  ⟨some 22, none, (.move (.tmp 1))⟩,
  ⟨some 23, none, (.binOp .add 3 (.tmp 22) (.const (.int .i64 1)) 3)⟩,
  ⟨some 24, none, (.call { callee := (.value (.func 30)), args := #[(.tmp 20), (.tmp 21), (.tmp 23)], argTypes := #[25, 3, 3] })⟩,
  ⟨some 25, none, (.nilCheck (.tmp 15))⟩,
  ⟨some 26, none, (.fieldAddr 55 (.tmp 25) 0)⟩,
  ⟨none, none, (.store 25 (.tmp 26) (.tmp 24))⟩] [6, 7]
@[simp] noncomputable def F23_r4 : CC := .reg [⟨some 27, none, (.move (.tmp 6))⟩,
  ⟨some 28, none, (.move (.tmp 7))⟩,
  ⟨some 4, none, (.assign (.tmp 27))⟩,
  ⟨some 5, none, (.assign (.tmp 28))⟩] [4, 5]
noncomputable def F23 : CC := (.seq F23_r0 (.seq F23_r1 (.seq (.seq F23_r2 (.cond (.tmp 14) F23_r3 .skip)) (.seq F23_r4 .ret))))
noncomputable def F23_inf : Nat → RI
  | 0 => ⟨[0, 1], [], []⟩
  | 1 => ⟨[0, 1, 6, 7], [], []⟩
  | 2 => ⟨[0, 1, 6, 7, 14], [], []⟩
  | 3 => ⟨[6, 7], [], []⟩
  | 4 => ⟨[4, 5], [], []⟩
  | _ => ⟨[], [], []⟩
noncomputable def F23_c : Code := Try.f23.body.getD .skip
theorem F23_b : Try.f23.body = some F23_c := by kernel_rfl
theorem F23_rs : Try.f23.results.toList = ([.tmp 4, .tmp 5] : List ResultVar) := by kernel_rfl
theorem F23_n : Try.f23.ntmps = 29 := by kernel_rfl
theorem F23_ok : toCC [] 29 F23_inf F23_c = some F23 := by kernel_rfl
theorem F23_in {args : List AV} {G : Hp} {post : AV → Hp → Prop} (ha : args.all AV.plain = true) (hn : args.length ≤ 29) (h : BDs args → awp Try.prog [] F23 (AEnds Try.prog [.tmp 4, .tmp 5] post) (initT args) G) : ACalls Try.prog 23 args G post :=
  acalls_cc Try.func23 F23_b F23_rs F23_n F23_ok mixed ha hn h

/- 24 (*ostiary/shelf.Ring[int]).Len -/
@[simp] noncomputable def F24_r0 : CC := .reg [⟨some 2, none, (.assign (.const (.int .i64 0)))⟩] [0]
@[simp] noncomputable def F24_r1 : CC := .reg [⟨some 3, none, (.move (.tmp 0))⟩,
  ⟨some 4, none, (.binOp .eql 45 (.tmp 3) (.const (.pointer none)) 45)⟩] [0, 4]
@[simp] noncomputable def F24_r2 : CC := .reg [⟨some 2, none, (.assign (.const (.int .i64 0)))⟩] [2]
@[simp] noncomputable def F24_r3 : CC := .reg [⟨some 5, none, (.move (.tmp 0))⟩,
  ⟨some 6, none, (.nilCheck (.tmp 5))⟩,
  ⟨some 7, none, (.fieldAddr 55 (.tmp 6) 0)⟩,
  ⟨some 8, none, (.load 25 (.tmp 7))⟩,
  ⟨some 9, none, (.call { callee := (.builtin .len), args := #[(.tmp 8)], argTypes := #[25] })⟩,
  ⟨some 2, none, (.assign (.tmp 9))⟩] [2]
noncomputable def F24 : CC := (.seq F24_r0 (.seq (.seq F24_r1 (.cond (.tmp 4) (.seq F24_r2 .ret) .skip)) (.seq F24_r3 .ret)))
noncomputable def F24_inf : Nat → RI
  | 0 => ⟨[0], [], []⟩
  | 1 => ⟨[0, 4], [], []⟩
  | 2 => ⟨[2], [], []⟩
  | 3 => ⟨[2], [], []⟩
  | _ => ⟨[], [], []⟩
noncomputable def F24_c : Code := Try.f24.body.getD .skip
theorem F24_b : Try.f24.body = some F24_c := by kernel_rfl
theorem F24_rs : Try.f24.results.toList = ([.tmp 2] : List ResultVar) := by kernel_rfl
theorem F24_n : Try.f24.ntmps = 10 := by kernel_rfl
theorem F24_ok : toCC [] 10 F24_inf F24_c = some F24 := by kernel_rfl
theorem F24_in {args : List AV} {G : Hp} {post : AV → Hp → Prop} (ha : args.all AV.plain = true) (hn : args.length ≤ 10) (h : BDs args → awp Try.prog [] F24 (AEnds Try.prog [.tmp 2] post) (initT args) G) : ACalls Try.prog 24 args G post :=
  acalls_cc Try.func24 F24_b F24_rs F24_n F24_ok mixed ha hn h

/- 25 (ostiary/ostiaryref20.Pipe).Send -/
@[simp] noncomputable def F25_r0 : CC := .reg [⟨some 2, none, (.box 39 (.tmp 0))⟩,
  ⟨some 4, none, (.alloc 39)⟩,
  ⟨some 5, none, (.assign (.const (.int .i64 0)))⟩] [1, 2, 4]
@[simp] noncomputable def F25_r1 : CC := .reg [⟨some 6, none, (.fieldAddr 39 (.tmp 2) 2)⟩,
  ⟨some 7, none, (.load 3 (.tmp 6))⟩,
  ⟨some 8, none, (.binOp .add 3 (.tmp 7) (.const (.int .i64 1)) 3)⟩,
  ⟨some 9, none, (.fieldAddr 39 (.tmp 2) 2)⟩,
  ⟨none, none, (.store 3 (.tmp 9) (.tmp 8))⟩] [1, 2, 4]
@[simp] noncomputable def F25_r2 : CC := .reg [⟨some 10, none, (.fieldAddr 39 (.tmp 2) 0)⟩,
  ⟨some 11, none, (.load 25 (.tmp 10))⟩,
  ⟨some 12, none, (.call { callee := (.builtin .len), args := #[(.tmp 11)], argTypes := #[25] })⟩,
  ⟨some 13, none, (.fieldAddr 39 (.tmp 2) 1)⟩,
  ⟨some 14, none, (.load 3 (.tmp 13))⟩,
  ⟨some 15, none, (.binOp .geq 3 (.tmp 12) (.tmp 14) 3)⟩] [1, 2, 4, 15]
@[simp] noncomputable def F25_r3 : CC := .reg [⟨some 16, none, (.fieldAddr 39 (.tmp 2) 5)⟩,
  ⟨some 17, none, (.load 3 (.tmp 16))⟩,
  ⟨some 18, none, (.binOp .add 3 (.tmp 17) (.const (.int .i64 1)) 3)⟩,
  ⟨some 19, none, (.fieldAddr 39 (.tmp 2) 5)⟩,
  ⟨none, none, (.store 3 (.tmp 19) (.tmp 18))⟩] [2, 4]
@[simp] noncomputable def F25_r4 : CC := .reg [⟨some 20, none, (.load 39 (.tmp 2))⟩,
  ⟨none, none, (.store 39 (.tmp 4) (.tmp 20))⟩,
  ⟨some 5, none, (.assign (.const (.int .i64 0)))⟩] [4, 5]
@[simp] noncomputable def F25_r5 : CC := .reg [⟨some 21, none, (.buildSlice 25 0 #[])⟩,
  ⟨some 22, none, (.fieldAddr 39 (.tmp 2) 0)⟩,
  ⟨some 23, none, (.load 25 (.tmp 22))⟩,
  ⟨some 24, none, (.call { callee := (.builtin .append), args := #[(.tmp 21), (.tmp 23)], argTypes := #[25, 25] })⟩,
  ⟨some 25, none, (.move (.tmp 1))⟩,
  ⟨some 26, none, (.buildSlice 25 1 #[(0, (.tmp 25))])⟩,
  ⟨some 27, none, (.call { callee := (.builtin .append), args := #[(.tmp 24), (.tmp 26)], argTypes := #[25, 25] })⟩,
  ⟨some 28, none, (.fieldAddr 39 (.tmp 2) 0)⟩,
  ⟨none, none, (.store 25 (.tmp 28) (.tmp 27))⟩] [2, 4]
@[simp] noncomputable def F25_r6 : CC := .reg [⟨some 29, none, (.load 39 (.tmp 2))⟩,
  ⟨none, none, (.store 39 (.tmp 4) (.tmp 29))⟩,
  ⟨some 5, none, (.assign (.const (.int .i64 1)))⟩] [4, 5]
noncomputable def F25 : CC := (.seq F25_r0 (.seq F25_r1 (.seq (.seq F25_r2 (.cond (.tmp 15) (.seq F25_r3 (.seq F25_r4 .ret)) .skip)) (.seq F25_r5 (.seq F25_r6 .ret)))))
noncomputable def F25_inf : Nat → RI
  | 0 => ⟨[1, 2, 4], [], []⟩
  | 1 => ⟨[1, 2, 4], [], []⟩
  | 2 => ⟨[1, 2, 4, 15], [], []⟩
  | 3 => ⟨[2, 4], [], []⟩
  | 4 => ⟨[4, 5], [], []⟩
  | 5 => ⟨[2, 4], [], []⟩
  | 6 => ⟨[4, 5], [], []⟩
  | _ => ⟨[], [], []⟩
noncomputable def F25_c : Code := Try.f25.body.getD .skip
theorem F25_b : Try.f25.body = some F25_c := by kernel_rfl
theorem F25_rs : Try.f25.results.toList = ([.cell 4 39, .tmp 5] : List ResultVar) := by kernel_rfl
theorem F25_n : Try.f25.ntmps = 30 := by kernel_rfl
theorem F25_ok : toCC [] 30 F25_inf F25_c = some F25 := by kernel_rfl
theorem F25_in {args : List AV} {G : Hp} {post : AV → Hp → Prop} (ha : args.all AV.plain = true) (hn : args.length ≤ 30) (h : BDs args → awp Try.prog [] F25 (AEnds Try.prog [.cell 4 39, .tmp 5] post) (initT args) G) : ACalls Try.prog 25 args G post :=
  acalls_cc Try.func25 F25_b F25_rs F25_n F25_ok mixed ha hn h

/- 26 (ostiary/ostiaryref20.Pipe).Has -/
@[simp] noncomputable def F26_r0 : CC := .reg [⟨some 2, none, (.box 39 (.tmp 0))⟩,
  ⟨some 4, none, (.assign (.const (.bool false)))⟩] [1, 2]
@[simp] noncomputable def F26_r1 : CC := .reg [⟨some 5, none, (.move (.tmp 1))⟩,
  ⟨some 6, none, (.binOp .geq 3 (.tmp 5) (.const (.int .i64 0)) 3)⟩,
  ⟨some 7, none, (.move (.tmp 6))⟩,
  ⟨some 8, some (7, true), (.move (.tmp 1))⟩,
  ⟨some 9, some (7, true), (.fieldAddr 39 (.tmp 2) 0)⟩,
  ⟨some 10, some (7, true), (.load 25 (.tmp 9))⟩,
  ⟨some 11, some (7, true), (.call { callee := (.builtin .len), args := #[(.tmp 10)], argTypes := #[25] })⟩,
  ⟨some 12, some (7, true), (.binOp .lss 3 (.tmp 8) (.tmp 11) 3)⟩,
  ⟨some 13, none, (.pick (.tmp 7) (.tmp 12) (.const (.bool false)))⟩,
  ⟨some 4, none, (.assign (.tmp 13))⟩] [4]
noncomputable def F26 : CC := (.seq F26_r0 (.seq F26_r1 .ret))
noncomputable def F26_inf : Nat → RI
  | 0 => ⟨[1, 2], [], []⟩
  | 1 => ⟨[4], [], []⟩
  | _ => ⟨[], [], []⟩
noncomputable def F26_c : Code := Try.f26.body.getD .skip
theorem F26_b : Try.f26.body = some F26_c := by kernel_rfl
theorem F26_rs : Try.f26.results.toList = ([.tmp 4] : List ResultVar) := by kernel_rfl
theorem F26_n : Try.f26.ntmps = 14 := by kernel_rfl
theorem F26_ok : toCC [] 14 F26_inf F26_c = some F26 := by kernel_rfl
theorem F26_in {args : List AV} {G : Hp} {post : AV → Hp → Prop} (ha : args.all AV.plain = true) (hn : args.length ≤ 14) (h : BDs args → awp Try.prog [] F26 (AEnds Try.prog [.tmp 4] post) (initT args) G) : ACalls Try.prog 26 args G post :=
  acalls_cc Try.func26 F26_b F26_rs F26_n F26_ok mixed ha hn h
end Go.Proofs.Ytfllkpdhkeiofaa
