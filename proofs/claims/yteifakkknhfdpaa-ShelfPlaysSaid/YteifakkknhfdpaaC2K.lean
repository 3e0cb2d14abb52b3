import Derived.Test.YteifakkknhfdpaaC0K
set_option linter.unusedVariables false
set_option linter.unusedSimpArgs false
set_option maxRecDepth 100000
namespace Go.Proofs.Yteifakkknhfdpaa
open Go Go.Al

/- 15 ostiary/shelf.NewRing[int] -/
@[simp] noncomputable def F15_r0 : CC := .reg [⟨some 2, none, (.assign (.const (.pointer none)))⟩] [0]
@[simp] noncomputable def F15_r1 : CC := .reg [⟨some 3, none, (.move (.tmp 0))⟩,
  ⟨some 4, none, (.call { callee := (.builtin .max), args := #[(.tmp 3), (.const (.int .i64 0))], argTypes := #[3, 3] })⟩,
  ⟨some 5, none, (.build 71 #[(1, (.tmp 4))])⟩,
  ⟨some 6, none, (.box 71 (.tmp 5))⟩,
  ⟨some 2, none, (.assign (.tmp 6))⟩] [2]
noncomputable def F15 : CC := (.seq F15_r0 (.seq F15_r1 .ret))
noncomputable def F15_inf : Nat → RI
  | 0 => ⟨[0], [], []⟩
  | 1 => ⟨[2], [], []⟩
  | _ => ⟨[], [], []⟩
noncomputable def F15_c : Code := Try.f15.body.getD .skip
theorem F15_b : Try.f15.body = some F15_c := by kernel_rfl
theorem F15_rs : Try.f15.results.toList = ([.tmp 2] : List ResultVar) := by kernel_rfl
theorem F15_n : Try.f15.ntmps = 7 := by kernel_rfl
theorem F15_ok : toCC [6] 7 F15_inf F15_c = some F15 := by kernel_rfl
theorem F15_in {args : List AV} {G : Hp} {post : AV → Hp → Prop} (ha : args.all AV.plain = true) (hn : args.length ≤ 7) (h : BDs args → awp Try.prog [6] F15 (AEnds Try.prog [.tmp 2] post) (initT args) G) : ACalls Try.prog 15 args G post :=
  acalls_cc Try.func15 F15_b F15_rs F15_n F15_ok mixed ha hn h

/- 16 ostiary/ostiarylaw02.ring -/
@[simp] noncomputable def F16_r0 : CC := .reg [⟨some 7, none, (.box 37 (.tmp 3))⟩,
  ⟨some 8, none, (.assign (.const (.slice none 0 0)))⟩,
  ⟨some 9, none, (.assign (.const (.bool false)))⟩] [0, 1, 2, 7]
@[simp] noncomputable def F16_r1 : CC := .reg [⟨some 17, none, (.fieldAddr 37 (.tmp 7) 0)⟩,
  ⟨some 18, none, (.load 3 (.tmp 17))⟩] [0, 1, 2, 7, 18]
@[simp] noncomputable def F16_r2 : CC := .reg [⟨some 20, none, (.binOp .eql 3 (.tmp 18) (.const (.int .i64 0)) 3)⟩,
  ⟨some 19, none, (.assign (.tmp 20))⟩] [0, 1, 2, 7, 18, 19]
@[simp] noncomputable def F16_r3 : CC := .reg [⟨some 21, none, (.move (.tmp 0))⟩,
  ⟨some 22, none, (.fieldAddr 37 (.tmp 7) 2)⟩,
  ⟨some 23, none, (.load 3 (.tmp 22))⟩,
  ⟨some 24, none, (.fieldAddr 37 (.tmp 7) 3)⟩,
  ⟨some 25, none, (.load 3 (.tmp 24))⟩,
  ⟨some 26, none, (.buildSlice 22 2 #[(0, (.tmp 23)), (1, (.tmp 25))])⟩,
  ⟨some 27, none, (.call { callee := (.value (.func 24)), args := #[(.tmp 21), (.tmp 26)], argTypes := #[34, 22] })⟩,
  ⟨some 10, none, (.assign (.tmp 27))⟩] [1, 2, 7, 10]
@[simp] noncomputable def F16_r4 : CC := .reg [⟨some 28, none, (.move (.tmp 2))⟩,
  ⟨some 29, none, (.move (.tmp 1))⟩,
  ⟨some 30, none, (.call { callee := (.builtin .len), args := #[(.tmp 29)], argTypes := #[22] })⟩,
  ⟨some 31, none, (.binOp .sub 3 (.tmp 28) (.tmp 30) 3)⟩,
  ⟨some 32, none, (.binOp .lss 3 (.tmp 31) (.const (.int .i64 2)) 3)⟩] [1, 7, 10, 32]
@[simp] noncomputable def F16_r5 : CC := .reg [⟨some 33, none, (.move (.tmp 1))⟩,
  ⟨some 34, none, (.move (.tmp 10))⟩,
  ⟨some 35, none, (.unOp .not 4 (.tmp 34))⟩,
  ⟨some 8, none, (.assign (.tmp 33))⟩,
  ⟨some 9, none, (.assign (.tmp 35))⟩] [8, 9]
@[simp] noncomputable def F16_r6 : CC := .drw [⟨1, ⟨some 37, none, (.move (.tmp 1))⟩, [], []⟩,
  ⟨3, ⟨some 39, none, (.fieldAddr 37 (.tmp 7) 2)⟩, [], []⟩,
  ⟨4, ⟨some 40, none, (.load 3 (.tmp 39))⟩, [], []⟩,
  ⟨5, ⟨some 41, none, (.fieldAddr 37 (.tmp 7) 3)⟩, [], []⟩,
  ⟨6, ⟨some 42, none, (.load 3 (.tmp 41))⟩, [], []⟩,
  ⟨7, ⟨some 43, none, (.buildSlice 22 2 #[(0, (.tmp 40)), (1, (.tmp 42))])⟩, [], []⟩,
  ⟨9, ⟨some 45, none, (.move (.tmp 10))⟩, [], []⟩,
  ⟨0, ⟨some 36, none, (.buildSlice 22 0 #[])⟩, [4, 6], [⟨some 40, none, (.load 3 (.tmp 39))⟩, ⟨some 42, none, (.load 3 (.tmp 41))⟩]⟩,
  ⟨2, ⟨some 38, none, (.call { callee := (.builtin .append), args := #[(.tmp 36), (.tmp 37)], argTypes := #[22, 22] })⟩, [4, 6], [⟨some 40, none, (.load 3 (.tmp 39))⟩, ⟨some 42, none, (.load 3 (.tmp 41))⟩]⟩,
  ⟨8, ⟨some 44, none, (.call { callee := (.builtin .append), args := #[(.tmp 38), (.tmp 43)], argTypes := #[22, 22] })⟩, [], []⟩,
  ⟨10, ⟨some 8, none, (.assign (.tmp 44))⟩, [], []⟩,
  ⟨11, ⟨some 9, none, (.assign (.tmp 45))⟩, [], []⟩] [37, 39, 40, 41, 42, 43, 45, 36, 38, 44, 8, 9] [8, 9]
@[simp] noncomputable def F16_r7 : CC := .reg [⟨some 47, none, (.binOp .eql 3 (.tmp 18) (.const (.int .i64 1)) 3)⟩,
  ⟨some 46, none, (.assign (.tmp 47))⟩] [0, 1, 2, 7, 18, 46]
@[simp] noncomputable def F16_r8 : CC := .reg [⟨some 49, none, (.move (.tmp 0))⟩,
  ⟨some 50, none, (.fieldAddr 37 (.tmp 7) 2)⟩,
  ⟨some 51, none, (.load 3 (.tmp 50))⟩,
  ⟨some 52, none, (.call { callee := (.value (.func 19)), args := #[(.tmp 49), (.tmp 51)], argTypes := #[34, 3] })⟩,
  ⟨some 48, none, (.move (.tmp 52))⟩,
  ⟨some 53, none, (.extract (.tmp 48) 0)⟩,
  ⟨some 54, none, (.extract (.tmp 48) 1)⟩,
  ⟨some 11, none, (.assign (.tmp 53))⟩,
  ⟨some 12, none, (.assign (.tmp 54))⟩] [1, 2, 7, 11, 12]
@[simp] noncomputable def F16_r9 : CC := .reg [⟨some 55, none, (.move (.tmp 2))⟩,
  ⟨some 56, none, (.binOp .eql 3 (.tmp 55) (.const (.int .i64 0)) 3)⟩] [1, 2, 7, 11, 12, 56]
@[simp] noncomputable def F16_r10 : CC := .drw [⟨0, ⟨some 57, none, (.move (.tmp 1))⟩, [], []⟩,
  ⟨1, ⟨some 58, none, (.move (.tmp 12))⟩, [], []⟩,
  ⟨2, ⟨some 59, none, (.move (.tmp 58))⟩, [], []⟩,
  ⟨3, ⟨some 60, some (59, true), (.move (.tmp 11))⟩, [], []⟩,
  ⟨4, ⟨some 61, some (59, true), (.fieldAddr 37 (.tmp 7) 2)⟩, [], []⟩,
  ⟨5, ⟨some 62, some (59, true), (.load 3 (.tmp 61))⟩, [], []⟩,
  ⟨6, ⟨some 63, some (59, true), (.binOp .eql 3 (.tmp 60) (.tmp 62) 3)⟩, [], []⟩,
  ⟨7, ⟨some 64, none, (.pick (.tmp 59) (.tmp 63) (.const (.bool false)))⟩, [], []⟩,
  ⟨8, ⟨some 8, none, (.assign (.tmp 57))⟩, [], []⟩,
  ⟨9, ⟨some 9, none, (.assign (.tmp 64))⟩, [], []⟩] [57, 58, 59, 60, 61, 62, 63, 64, 8, 9] [8, 9]
@[simp] noncomputable def F16_r11 : CC := .drw [⟨1, ⟨some 66, none, (.move (.tmp 1))⟩, [], []⟩,
  ⟨3, ⟨some 68, none, (.fieldAddr 37 (.tmp 7) 2)⟩, [], []⟩,
  ⟨4, ⟨some 69, none, (.load 3 (.tmp 68))⟩, [], []⟩,
  ⟨5, ⟨some 70, none, (.buildSlice 22 1 #[(0, (.tmp 69))])⟩, [], []⟩,
  ⟨0, ⟨some 65, none, (.buildSlice 22 0 #[])⟩, [4], [⟨some 69, none, (.load 3 (.tmp 68))⟩]⟩,
  ⟨2, ⟨some 67, none, (.call { callee := (.builtin .append), args := #[(.tmp 65), (.tmp 66)], argTypes := #[22, 22] })⟩, [4], [⟨some 69, none, (.load 3 (.tmp 68))⟩]⟩,
  ⟨6, ⟨some 71, none, (.call { callee := (.builtin .append), args := #[(.tmp 67), (.tmp 70)], argTypes := #[22, 22] })⟩, [], []⟩,
  ⟨7, ⟨some 13, none, (.assign (.tmp 71))⟩, [], []⟩] [66, 68, 69, 70, 65, 67, 71, 13] [1, 2, 11, 12, 13]
@[simp] noncomputable def F16_r12 : CC := .reg [⟨some 72, none, (.move (.tmp 1))⟩,
  ⟨some 73, none, (.call { callee := (.builtin .len), args := #[(.tmp 72)], argTypes := #[22] })⟩,
  ⟨some 74, none, (.move (.tmp 2))⟩,
  ⟨some 75, none, (.binOp .lss 3 (.tmp 73) (.tmp 74) 3)⟩] [1, 11, 12, 13, 75]
@[simp] noncomputable def F16_r13 : CC := .reg [⟨some 76, none, (.move (.tmp 13))⟩,
  ⟨some 77, none, (.move (.tmp 12))⟩,
  ⟨some 78, none, (.unOp .not 4 (.tmp 77))⟩,
  ⟨some 79, none, (.move (.tmp 78))⟩,
  ⟨some 80, some (79, true), (.move (.tmp 11))⟩,
  ⟨some 81, some (79, true), (.binOp .eql 3 (.tmp 80) (.const (.int .i64 0)) 3)⟩,
  ⟨some 82, none, (.pick (.tmp 79) (.tmp 81) (.const (.bool false)))⟩,
  ⟨some 8, none, (.assign (.tmp 76))⟩,
  ⟨some 9, none, (.assign (.tmp 82))⟩] [8, 9]
@[simp] noncomputable def F16_r14 : CC := .drw [⟨0, ⟨some 83, none, (.move (.tmp 13))⟩, [], []⟩,
  ⟨1, ⟨some 84, none, (.slice 22 (.tmp 83) (some (.const (.int .i64 1))) none none)⟩, [], []⟩,
  ⟨2, ⟨some 85, none, (.move (.tmp 12))⟩, [], []⟩,
  ⟨3, ⟨some 86, none, (.move (.tmp 85))⟩, [], []⟩,
  ⟨4, ⟨some 87, some (86, true), (.move (.tmp 11))⟩, [], []⟩,
  ⟨5, ⟨some 88, some (86, true), (.move (.tmp 1))⟩, [], []⟩,
  ⟨6, ⟨some 89, some (86, true), (.indexAddr 22 (.tmp 88) (.const (.int .i64 0)))⟩, [], []⟩,
  ⟨7, ⟨some 90, some (86, true), (.load 3 (.tmp 89))⟩, [], []⟩,
  ⟨8, ⟨some 91, some (86, true), (.binOp .eql 3 (.tmp 87) (.tmp 90) 3)⟩, [], []⟩,
  ⟨9, ⟨some 92, none, (.pick (.tmp 86) (.tmp 91) (.const (.bool false)))⟩, [], []⟩,
  ⟨10, ⟨some 8, none, (.assign (.tmp 84))⟩, [], []⟩,
  ⟨11, ⟨some 9, none, (.assign (.tmp 92))⟩, [], []⟩] [83, 84, 85, 86, 87, 88, 89, 90, 91, 92, 8, 9] [8, 9]
@[simp] noncomputable def F16_r15 : CC := .reg [⟨some 94, none, (.binOp .eql 3 (.tmp 18) (.const (.int .i64 2)) 3)⟩,
  ⟨some 93, none, (.assign (.tmp 94))⟩] [0, 1, 7, 18, 93]
@[simp] noncomputable def F16_r16 : CC := .reg [⟨some 95, none, (.binOp .eql 3 (.tmp 18) (.const (.int .i64 3)) 3)⟩,
  ⟨some 93, none, (.assign (.tmp 95))⟩] [0, 1, 7, 18, 93]
@[simp] noncomputable def F16_r17 : CC := .reg [⟨some 96, none, (.binOp .eql 3 (.tmp 18) (.const (.int .i64 4)) 3)⟩,
  ⟨some 93, none, (.assign (.tmp 96))⟩] [0, 1, 7, 93]
@[simp] noncomputable def F16_r18 : CC := .reg [⟨some 97, none, (.fieldAddr 37 (.tmp 7) 1)⟩,
  ⟨some 98, none, (.load 3 (.tmp 97))⟩,
  ⟨some 14, none, (.assign (.tmp 98))⟩] [0, 1, 7, 14]
@[simp] noncomputable def F16_r19 : CC := .reg [⟨some 15, none, (.assign (.const (.int .i64 0)))⟩,
  ⟨some 16, none, (.assign (.const (.bool false)))⟩] [0, 1, 7, 14, 15, 16]
@[simp] noncomputable def F16_r20 : CC := .reg [⟨some 99, none, (.fieldAddr 37 (.tmp 7) 0)⟩,
  ⟨some 100, none, (.load 3 (.tmp 99))⟩,
  ⟨some 101, none, (.binOp .eql 3 (.tmp 100) (.const (.int .i64 2)) 3)⟩] [0, 1, 7, 14, 15, 16, 101]
@[simp] noncomputable def F16_r21 : CC := .reg [⟨some 14, none, (.assign (.const (.int .i64 0)))⟩] [0, 1, 7, 14]
@[simp] noncomputable def F16_r22 : CC := .reg [⟨some 103, none, (.move (.tmp 0))⟩,
  ⟨some 104, none, (.call { callee := (.value (.func 20)), args := #[(.tmp 103)], argTypes := #[34] })⟩,
  ⟨some 102, none, (.move (.tmp 104))⟩,
  ⟨some 105, none, (.extract (.tmp 102) 0)⟩,
  ⟨some 106, none, (.extract (.tmp 102) 1)⟩,
  ⟨some 15, none, (.assign (.tmp 105))⟩,
  ⟨some 16, none, (.assign (.tmp 106))⟩] [0, 1, 7, 14, 15, 16]
@[simp] noncomputable def F16_r23 : CC := .reg [⟨some 107, none, (.fieldAddr 37 (.tmp 7) 0)⟩,
  ⟨some 108, none, (.load 3 (.tmp 107))⟩,
  ⟨some 109, none, (.binOp .eql 3 (.tmp 108) (.const (.int .i64 3)) 3)⟩] [0, 1, 7, 14, 15, 16, 109]
@[simp] noncomputable def F16_r24 : CC := .reg [⟨some 111, none, (.move (.tmp 0))⟩,
  ⟨some 112, none, (.move (.tmp 14))⟩,
  ⟨some 113, none, (.call { callee := (.value (.func 21)), args := #[(.tmp 111), (.tmp 112)], argTypes := #[34, 3] })⟩,
  ⟨some 110, none, (.move (.tmp 113))⟩,
  ⟨some 114, none, (.extract (.tmp 110) 0)⟩,
  ⟨some 115, none, (.extract (.tmp 110) 1)⟩,
  ⟨some 15, none, (.assign (.tmp 114))⟩,
  ⟨some 16, none, (.assign (.tmp 115))⟩] [0, 1, 7, 14, 15, 16]
@[simp] noncomputable def F16_r25 : CC := .reg [⟨some 116, none, (.fieldAddr 37 (.tmp 7) 0)⟩,
  ⟨some 117, none, (.load 3 (.tmp 116))⟩,
  ⟨some 118, none, (.binOp .eql 3 (.tmp 117) (.const (.int .i64 4)) 3)⟩] [0, 1, 7, 14, 15, 16, 118]
@[simp] noncomputable def F16_r26 : CC := .reg [⟨some 120, none, (.move (.tmp 0))⟩,
  ⟨some 121, none, (.move (.tmp 14))⟩,
  ⟨some 122, none, (.call { callee := (.value (.func 22)), args := #[(.tmp 120), (.tmp 121)], argTypes := #[34, 3] })⟩,
  ⟨some 119, none, (.move (.tmp 122))⟩,
  ⟨some 123, none, (.extract (.tmp 119) 0)⟩,
  ⟨some 124, none, (.extract (.tmp 119) 1)⟩,
  ⟨some 15, none, (.assign (.tmp 123))⟩,
  ⟨some 16, none, (.assign (.tmp 124))⟩] [1, 7, 14, 15, 16]
@[simp] noncomputable def F16_r27 : CC := .reg [⟨some 125, none, (.move (.tmp 14))⟩,
  ⟨some 126, none, (.binOp .lss 3 (.tmp 125) (.const (.int .i64 0)) 3)⟩,
  ⟨some 127, none, (.move (.tmp 126))⟩,
  ⟨some 128, some (127, false), (.move (.tmp 14))⟩,
  ⟨some 129, some (127, false), (.move (.tmp 1))⟩,
  ⟨some 130, some (127, false), (.call { callee := (.builtin .len), args := #[(.tmp 129)], argTypes := #[22] })⟩,
  ⟨some 131, some (127, false), (.binOp .geq 3 (.tmp 128) (.tmp 130) 3)⟩,
  ⟨some 132, none, (.pick (.tmp 127) (.const (.bool true)) (.tmp 131))⟩] [1, 7, 14, 15, 16, 132]
@[simp] noncomputable def F16_r28 : CC := .reg [⟨some 133, none, (.move (.tmp 1))⟩,
  ⟨some 134, none, (.move (.tmp 16))⟩,
  ⟨some 135, none, (.unOp .not 4 (.tmp 134))⟩,
  ⟨some 136, none, (.move (.tmp 135))⟩,
  ⟨some 137, some (136, true), (.move (.tmp 15))⟩,
  ⟨some 138, some (136, true), (.binOp .eql 3 (.tmp 137) (.const (.int .i64 0)) 3)⟩,
  ⟨some 139, none, (.pick (.tmp 136) (.tmp 138) (.const (.bool false)))⟩,
  ⟨some 8, none, (.assign (.tmp 133))⟩,
  ⟨some 9, none, (.assign (.tmp 139))⟩] [8, 9]
@[simp] noncomputable def F16_r29 : CC := .reg [⟨some 140, none, (.fieldAddr 37 (.tmp 7) 0)⟩,
  ⟨some 141, none, (.load 3 (.tmp 140))⟩,
  ⟨some 142, none, (.binOp .eql 3 (.tmp 141) (.const (.int .i64 4)) 3)⟩] [1, 14, 15, 16, 142]
@[simp] noncomputable def F16_r30 : CC := .drw [⟨0, ⟨some 143, none, (.move (.tmp 1))⟩, [], []⟩,
  ⟨1, ⟨some 144, none, (.move (.tmp 16))⟩, [], []⟩,
  ⟨2, ⟨some 145, none, (.move (.tmp 144))⟩, [], []⟩,
  ⟨3, ⟨some 146, some (145, true), (.move (.tmp 15))⟩, [], []⟩,
  ⟨4, ⟨some 147, some (145, true), (.move (.tmp 1))⟩, [], []⟩,
  ⟨5, ⟨some 148, some (145, true), (.move (.tmp 14))⟩, [], []⟩,
  ⟨6, ⟨some 149, some (145, true), (.indexAddr 22 (.tmp 147) (.tmp 148))⟩, [], []⟩,
  ⟨7, ⟨some 150, some (145, true), (.load 3 (.tmp 149))⟩, [], []⟩,
  ⟨8, ⟨some 151, some (145, true), (.binOp .eql 3 (.tmp 146) (.tmp 150) 3)⟩, [], []⟩,
  ⟨9, ⟨some 152, none, (.pick (.tmp 145) (.tmp 151) (.const (.bool false)))⟩, [], []⟩,
  ⟨10, ⟨some 8, none, (.assign (.tmp 143))⟩, [], []⟩,
  ⟨11, ⟨some 9, none, (.assign (.tmp 152))⟩, [], []⟩] [143, 144, 145, 146, 147, 148, 149, 150, 151, 152, 8, 9] [8, 9]
@[simp] noncomputable def F16_r31 : CC := .drw [⟨0, ⟨some 153, none, (.move (.tmp 1))⟩, [], []⟩,
  ⟨1, ⟨some 154, none, (.move (.tmp 14))⟩, [], []⟩,
  ⟨3, ⟨some 156, none, (.move (.tmp 16))⟩, [], []⟩,
  ⟨2, ⟨some 155, none, (.call { callee := (.value (.func 40)), args := #[(.tmp 153), (.tmp 154)], argTypes := #[22, 3] })⟩, [], []⟩,
  ⟨4, ⟨some 157, none, (.move (.tmp 156))⟩, [], []⟩,
  ⟨5, ⟨some 158, some (157, true), (.move (.tmp 15))⟩, [], []⟩,
  ⟨6, ⟨some 159, some (157, true), (.move (.tmp 1))⟩, [], []⟩,
  ⟨7, ⟨some 160, some (157, true), (.move (.tmp 14))⟩, [], []⟩,
  ⟨8, ⟨some 161, some (157, true), (.indexAddr 22 (.tmp 159) (.tmp 160))⟩, [], []⟩,
  ⟨9, ⟨some 162, some (157, true), (.load 3 (.tmp 161))⟩, [], []⟩,
  ⟨10, ⟨some 163, some (157, true), (.binOp .eql 3 (.tmp 158) (.tmp 162) 3)⟩, [], []⟩,
  ⟨11, ⟨some 164, none, (.pick (.tmp 157) (.tmp 163) (.const (.bool false)))⟩, [], []⟩,
  ⟨12, ⟨some 8, none, (.assign (.tmp 155))⟩, [], []⟩,
  ⟨13, ⟨some 9, none, (.assign (.tmp 164))⟩, [], []⟩] [153, 154, 156, 155, 157, 158, 159, 160, 161, 162, 163, 164, 8, 9] [8, 9]
@[simp] noncomputable def F16_r32 : CC := .reg [⟨some 165, none, (.move (.tmp 1))⟩,
  ⟨some 8, none, (.assign (.tmp 165))⟩,
  ⟨some 9, none, (.assign (.const (.bool true)))⟩] [8, 9]
noncomputable def F16 : CC := (.seq F16_r0 (.seq (.seq F16_r1 (.block 0 (.seq F16_r2 (.cond (.tmp 19) (.seq F16_r3 (.seq (.seq F16_r4 (.cond (.tmp 32) (.seq F16_r5 .ret) .skip)) (.seq F16_r6 .ret))) (.seq F16_r7 (.cond (.tmp 46) (.seq F16_r8 (.seq (.seq F16_r9 (.cond (.tmp 56) (.seq F16_r10 .ret) .skip)) (.seq F16_r11 (.seq (.seq F16_r12 (.cond (.tmp 75) (.seq F16_r13 .ret) .skip)) (.seq F16_r14 .ret))))) (.seq (.seq F16_r15 (.cond (.tmp 93) .skip (.seq F16_r16 (.cond (.tmp 93) .skip F16_r17)))) (.cond (.tmp 93) (.seq F16_r18 (.seq F16_r19 (.seq (.seq F16_r20 (.cond (.tmp 101) (.seq F16_r21 F16_r22) .skip)) (.seq (.seq F16_r23 (.cond (.tmp 109) F16_r24 .skip)) (.seq (.seq F16_r25 (.cond (.tmp 118) F16_r26 .skip)) (.seq (.seq F16_r27 (.cond (.tmp 132) (.seq F16_r28 .ret) .skip)) (.seq (.seq F16_r29 (.cond (.tmp 142) (.seq F16_r30 .ret) .skip)) (.seq F16_r31 .ret)))))))) .skip)))))))) (.seq F16_r32 .ret)))
noncomputable def F16_inf : Nat → RI
  | 0 => ⟨[0, 1, 2, 7], [], []⟩
  | 1 => ⟨[0, 1, 2, 7, 18], [], []⟩
  | 2 => ⟨[0, 1, 2, 7, 18, 19], [], []⟩
  | 3 => ⟨[1, 2, 7, 10], [], []⟩
  | 4 => ⟨[1, 7, 10, 32], [], []⟩
  | 5 => ⟨[8, 9], [], []⟩
  | 6 => ⟨[8, 9], [0, 0, 3, 0, 8, 0, 32, 120, 255, 0, 511, 2047], [(1, []), (3, []), (4, []), (5, []), (6, []), (7, []), (9, []), (0, [4, 6]), (2, [4, 6]), (8, []), (10, []), (11, [])]⟩
  | 7 => ⟨[0, 1, 2, 7, 18, 46], [], []⟩
  | 8 => ⟨[1, 2, 7, 11, 12], [], []⟩
  | 9 => ⟨[1, 2, 7, 11, 12, 56], [], []⟩
  | 10 => ⟨[8, 9], [0, 0, 2, 6, 6, 22, 62, 126, 7, 511], [(0, []), (1, []), (2, []), (3, []), (4, []), (5, []), (6, []), (7, []), (8, []), (9, [])]⟩
  | 11 => ⟨[1, 2, 11, 12, 13], [0, 0, 3, 0, 8, 24, 63, 127], [(1, []), (3, []), (4, []), (5, []), (0, [4]), (2, [4]), (6, []), (7, [])]⟩
  | 12 => ⟨[1, 11, 12, 13, 75], [], []⟩
  | 13 => ⟨[8, 9], [], []⟩
  | 14 => ⟨[8, 9], [0, 1, 0, 4, 12, 12, 44, 108, 252, 508, 15, 2047], [(0, []), (1, []), (2, []), (3, []), (4, []), (5, []), (6, []), (7, []), (8, []), (9, []), (10, []), (11, [])]⟩
  | 15 => ⟨[0, 1, 7, 18, 93], [], []⟩
  | 16 => ⟨[0, 1, 7, 18, 93], [], []⟩
  | 17 => ⟨[0, 1, 7, 93], [], []⟩
  | 18 => ⟨[0, 1, 7, 14], [], []⟩
  | 19 => ⟨[0, 1, 7, 14, 15, 16], [], []⟩
  | 20 => ⟨[0, 1, 7, 14, 15, 16, 101], [], []⟩
  | 21 => ⟨[0, 1, 7, 14], [], []⟩
  | 22 => ⟨[0, 1, 7, 14, 15, 16], [], []⟩
  | 23 => ⟨[0, 1, 7, 14, 15, 16, 109], [], []⟩
  | 24 => ⟨[0, 1, 7, 14, 15, 16], [], []⟩
  | 25 => ⟨[0, 1, 7, 14, 15, 16, 118], [], []⟩
  | 26 => ⟨[1, 7, 14, 15, 16], [], []⟩
  | 27 => ⟨[1, 7, 14, 15, 16, 132], [], []⟩
  | 28 => ⟨[8, 9], [], []⟩
  | 29 => ⟨[1, 14, 15, 16, 142], [], []⟩
  | 30 => ⟨[8, 9], [0, 0, 2, 6, 6, 6, 54, 118, 254, 510, 7, 2047], [(0, []), (1, []), (2, []), (3, []), (4, []), (5, []), (6, []), (7, []), (8, []), (9, []), (10, []), (11, [])]⟩
  | 31 => ⟨[8, 9], [0, 0, 3, 0, 15, 31, 31, 31, 223, 479, 1023, 2047, 31, 8191], [(0, []), (1, []), (3, []), (2, []), (4, []), (5, []), (6, []), (7, []), (8, []), (9, []), (10, []), (11, []), (12, []), (13, [])]⟩
  | 32 => ⟨[8, 9], [], []⟩
  | _ => ⟨[], [], []⟩
noncomputable def F16_c : Code := Try.f16.body.getD .skip
theorem F16_b : Try.f16.body = some F16_c := by kernel_rfl
theorem F16_rs : Try.f16.results.toList = ([.tmp 8, .tmp 9] : List ResultVar) := by kernel_rfl
theorem F16_n : Try.f16.ntmps = 166 := by kernel_rfl
theorem F16_ok : toCC [] 166 F16_inf F16_c = some F16 := by kernel_rfl
theorem F16_in {args : List AV} {G : Hp} {post : AV → Hp → Prop} (ha : args.all AV.plain = true) (hn : args.length ≤ 166) (h : BDs args → awp Try.prog [] F16 (AEnds Try.prog [.tmp 8, .tmp 9] post) (initT args) G) : ACalls Try.prog 16 args G post :=
  acalls_cc Try.func16 F16_b F16_rs F16_n F16_ok mixed ha hn h

/- 17 (*ostiary/shelf.Ring[int]).All -/
@[simp] noncomputable def F17_r0 : CC := .reg [⟨some 2, none, (.assign (.const (.slice none 0 0)))⟩] [0]
@[simp] noncomputable def F17_r1 : CC := .reg [⟨some 3, none, (.move (.tmp 0))⟩,
  ⟨some 4, none, (.binOp .eql 34 (.tmp 3) (.const (.pointer none)) 34)⟩] [0, 4]
@[simp] noncomputable def F17_r2 : CC := .reg [⟨some 2, none, (.assign (.const (.slice none 0 0)))⟩] [2]
@[simp] noncomputable def F17_r3 : CC := .reg [⟨some 5, none, (.move (.tmp 0))⟩,
  ⟨some 6, none, (.nilCheck (.tmp 5))⟩,
  ⟨some 7, none, (.fieldAddr 71 (.tmp 6) 0)⟩,
  ⟨some 8, none, (.load 22 (.tmp 7))⟩,
  ⟨some 9, none, (.call { callee := (.value (.func 41)), args := #[(.tmp 8)], argTypes := #[22] })⟩,
  ⟨some 2, none, (.assign (.tmp 9))⟩] [2]
noncomputable def F17 : CC := (.seq F17_r0 (.seq (.seq F17_r1 (.cond (.tmp 4) (.seq F17_r2 .ret) .skip)) (.seq F17_r3 .ret)))
noncomputable def F17_inf : Nat → RI
  | 0 => ⟨[0], [], []⟩
  | 1 => ⟨[0, 4], [], []⟩
  | 2 => ⟨[2], [], []⟩
  | 3 => ⟨[2], [], []⟩
  | _ => ⟨[], [], []⟩
noncomputable def F17_c : Code := Try.f17.body.getD .skip
theorem F17_b : Try.f17.body = some F17_c := by kernel_rfl
theorem F17_rs : Try.f17.results.toList = ([.tmp 2] : List ResultVar) := by kernel_rfl
theorem F17_n : Try.f17.ntmps = 10 := by kernel_rfl
theorem F17_ok : toCC [] 10 F17_inf F17_c = some F17 := by kernel_rfl
theorem F17_in {args : List AV} {G : Hp} {post : AV → Hp → Prop} (ha : args.all AV.plain = true) (hn : args.length ≤ 10) (h : BDs args → awp Try.prog [] F17 (AEnds Try.prog [.tmp 2] post) (initT args) G) : ACalls Try.prog 17 args G post :=
  acalls_cc Try.func17 F17_b F17_rs F17_n F17_ok mixed ha hn h

/- 18 (*ostiary/shelf.Ring[int]).Len -/
@[simp] noncomputable def F18_r0 : CC := .reg [⟨some 2, none, (.assign (.const (.int .i64 0)))⟩] [0]
@[simp] noncomputable def F18_r1 : CC := .reg [⟨some 3, none, (.move (.tmp 0))⟩,
  ⟨some 4, none, (.binOp .eql 34 (.tmp 3) (.const (.pointer none)) 34)⟩] [0, 4]
@[simp] noncomputable def F18_r2 : CC := .reg [⟨some 2, none, (.assign (.const (.int .i64 0)))⟩] [2]
@[simp] noncomputable def F18_r3 : CC := .reg [⟨some 5, none, (.move (.tmp 0))⟩,
  ⟨some 6, none, (.nilCheck (.tmp 5))⟩,
  ⟨some 7, none, (.fieldAddr 71 (.tmp 6) 0)⟩,
  ⟨some 8, none, (.load 22 (.tmp 7))⟩,
  ⟨some 9, none, (.call { callee := (.builtin .len), args := #[(.tmp 8)], argTypes := #[22] })⟩,
  ⟨some 2, none, (.assign (.tmp 9))⟩] [2]
noncomputable def F18 : CC := (.seq F18_r0 (.seq (.seq F18_r1 (.cond (.tmp 4) (.seq F18_r2 .ret) .skip)) (.seq F18_r3 .ret)))
noncomputable def F18_inf : Nat → RI
  | 0 => ⟨[0], [], []⟩
  | 1 => ⟨[0, 4], [], []⟩
  | 2 => ⟨[2], [], []⟩
  | 3 => ⟨[2], [], []⟩
  | _ => ⟨[], [], []⟩
noncomputable def F18_c : Code := Try.f18.body.getD .skip
theorem F18_b : Try.f18.body = some F18_c := by kernel_rfl
theorem F18_rs : Try.f18.results.toList = ([.tmp 2] : List ResultVar) := by kernel_rfl
theorem F18_n : Try.f18.ntmps = 10 := by kernel_rfl
theorem F18_ok : toCC [] 10 F18_inf F18_c = some F18 := by kernel_rfl
theorem F18_in {args : List AV} {G : Hp} {post : AV → Hp → Prop} (ha : args.all AV.plain = true) (hn : args.length ≤ 10) (h : BDs args → awp Try.prog [] F18 (AEnds Try.prog [.tmp 2] post) (initT args) G) : ACalls Try.prog 18 args G post :=
  acalls_cc Try.func18 F18_b F18_rs F18_n F18_ok mixed ha hn h

/- 19 (*ostiary/shelf.Ring[int]).Push -/
@[simp] noncomputable def F19_r0 : CC := .reg [⟨some 4, none, (.assign (.const (.int .i64 0)))⟩,
  ⟨some 5, none, (.assign (.const (.bool false)))⟩] [0, 1]
@[simp] noncomputable def F19_r1 : CC := .reg [⟨some 6, none, (.assign (.const (.int .i64 0)))⟩] [0, 1, 6]
@[simp] noncomputable def F19_r2 : CC := .reg [⟨some 10, none, (.move (.tmp 0))⟩,
  ⟨some 11, none, (.binOp .eql 34 (.tmp 10) (.const (.pointer none)) 34)⟩,
  ⟨some 9, none, (.assign (.tmp 11))⟩] [0, 1, 6, 9]
@[simp] noncomputable def F19_r3 : CC := .reg [⟨some 12, none, (.move (.tmp 6))⟩,
  ⟨some 4, none, (.assign (.tmp 12))⟩,
  ⟨some 5, none, (.assign (.const (.bool false)))⟩] [4, 5]
@[simp] noncomputable def F19_r4 : CC := .reg [⟨some 14, none, (.move (.tmp 0))⟩,
  ⟨some 15, none, (.nilCheck (.tmp 14))⟩,
  ⟨some 16, none, (.fieldAddr 71 (.tmp 15) 1)⟩,
  ⟨some 17, none, (.load 3 (.tmp 16))⟩,
  ⟨some 18, none, (.binOp .eql 3 (.tmp 17) (.const (.int .i64 0)) 3)⟩,
  ⟨some 13, none, (.assign (.tmp 18))⟩] [0, 1, 6, 13]
@[simp] noncomputable def F19_r5 : CC := .reg [⟨some 19, none, (.move (.tmp 1))⟩,
  ⟨some 4, none, (.assign (.tmp 19))⟩,
  ⟨some 5, none, (.assign (.const (.bool true)))⟩] [4, 5]
@[simp] noncomputable def F19_r6 : CC := .drw [⟨0, ⟨some 21, none, (.move (.tmp 0))⟩, [], []⟩,
  ⟨1, ⟨some 22, none, (.nilCheck (.tmp 21))⟩, [], []⟩,
  ⟨2, ⟨some 23, none, (.fieldAddr 71 (.tmp 22) 0)⟩, [], []⟩,
  ⟨3, ⟨some 24, none, (.load 22 (.tmp 23))⟩, [], []⟩,
  ⟨4, ⟨some 25, none, (.call { callee := (.builtin .len), args := #[(.tmp 24)], argTypes := #[22] })⟩, [], []⟩,
  ⟨5, ⟨some 26, none, (.move (.tmp 0))⟩, [], []⟩,
  ⟨6, ⟨some 27, none, (.nilCheck (.tmp 26))⟩, [], []⟩,
  ⟨7, ⟨some 28, none, (.fieldAddr 71 (.tmp 27) 1)⟩, [], []⟩,
  ⟨8, ⟨some 29, none, (.load 3 (.tmp 28))⟩, [], []⟩,
  ⟨9, ⟨some 30, none, (.binOp .lss 3 (.tmp 25) (.tmp 29) 3)⟩, [], []⟩,
  ⟨10, ⟨some 20, none, (.assign (.tmp 30))⟩, [], []⟩] [21, 22, 23, 24, 25, 26, 27, 28, 29, 30, 20] [0, 1, 6, 20]
@[simp] noncomputable def F19_r7 : CC := .reg [⟨some 31, none, (.move (.tmp 0))⟩,
  ⟨some 32, none, (.move (.tmp 0))⟩,
  ⟨some 33, none, (.nilCheck (.tmp 32))⟩,
  ⟨some 34, none, (.fieldAddr 71 (.tmp 33) 0)⟩,
  ⟨some 35, none, (.load 22 (.tmp 34))⟩,
  ⟨some 36, none, (.move (.tmp 1))⟩,
  ⟨some 37, none, (.buildSlice 22 1 #[(0, (.tmp 36))])⟩,
  ⟨some 38, none, (.call { callee := (.builtin .append), args := #[(.tmp 35), (.tmp 37)], argTypes := #[22, 22] })⟩,
  ⟨some 39, none, (.nilCheck (.tmp 31))⟩,
  ⟨some 40, none, (.fieldAddr 71 (.tmp 39) 0)⟩,
  ⟨none, none, (.store 22 (.tmp 40) (.tmp 38))⟩] [6]
@[simp] noncomputable def F19_r8 : CC := .reg [⟨some 41, none, (.move (.tmp 6))⟩,
  ⟨some 4, none, (.assign (.tmp 41))⟩,
  ⟨some 5, none, (.assign (.const (.bool false)))⟩] [4, 5]
@[simp] noncomputable def F19_r9 : CC := .reg [⟨some 43, none, (.move (.tmp 0))⟩,
  ⟨some 44, none, (.call { callee := (.value (.func 21)), args := #[(.tmp 43), (.const (.int .i64 0))], argTypes := #[34, 3] })⟩,
  ⟨some 42, none, (.move (.tmp 44))⟩,
  ⟨some 45, none, (.extract (.tmp 42) 0)⟩,
  ⟨some 46, none, (.extract (.tmp 42) 1)⟩,
  ⟨some 7, none, (.assign (.tmp 45))⟩,
  ⟨some 8, none, (.assign (.tmp 46))⟩] [0, 1, 7]
@[simp] noncomputable def F19_r10 : CC := .reg [⟨some 47, none, (.move (.tmp 0))⟩,
  ⟨some 48, none, (.move (.tmp 0))⟩,
  ⟨some 49, none, (.nilCheck (.tmp 48))⟩,
  ⟨some 50, none, (.fieldAddr 71 (.tmp 49) 0)⟩,
  ⟨some 51, none, (.load 22 (.tmp 50))⟩,
  ⟨some 52, none, (.move (.tmp 1))⟩,
  ⟨some 53, none, (.buildSlice 22 1 #[(0, (.tmp 52))])⟩,
  ⟨some 54, none, (.call { callee := (.builtin .append), args := #[(.tmp 51), (.tmp 53)], argTypes := #[22, 22] })⟩,
  ⟨some 55, none, (.nilCheck (.tmp 47))⟩,
  ⟨some 56, none, (.fieldAddr 71 (.tmp 55) 0)⟩,
  ⟨none, none, (.store 22 (.tmp 56) (.tmp 54))⟩] [7]
@[simp] noncomputable def F19_r11 : CC := .reg [⟨some 57, none, (.move (.tmp 7))⟩,
  ⟨some 4, none, (.assign (.tmp 57))⟩,
  ⟨some 5, none, (.assign (.const (.bool true)))⟩] [4, 5]
noncomputable def F19 : CC := (.seq F19_r0 (.seq F19_r1 (.seq (.block 0 (.seq F19_r2 (.cond (.tmp 9) (.seq F19_r3 .ret) (.seq F19_r4 (.cond (.tmp 13) (.seq F19_r5 .ret) (.seq F19_r6 (.cond (.tmp 20) (.seq F19_r7 (.seq F19_r8 .ret)) .skip))))))) (.seq F19_r9 (.seq F19_r10 (.seq F19_r11 .ret))))))
noncomputable def F19_inf : Nat → RI
  | 0 => ⟨[0, 1], [], []⟩
  | 1 => ⟨[0, 1, 6], [], []⟩
  | 2 => ⟨[0, 1, 6, 9], [], []⟩
  | 3 => ⟨[4, 5], [], []⟩
  | 4 => ⟨[0, 1, 6, 13], [], []⟩
  | 5 => ⟨[4, 5], [], []⟩
  | 6 => ⟨[0, 1, 6, 20], [0, 1, 3, 7, 15, 0, 32, 96, 224, 511, 1023], [(0, []), (1, []), (2, []), (3, []), (4, []), (5, []), (6, []), (7, []), (8, []), (9, []), (10, [])]⟩
  | 7 => ⟨[6], [], []⟩
  | 8 => ⟨[4, 5], [], []⟩
  | 9 => ⟨[0, 1, 7], [], []⟩
  | 10 => ⟨[7], [], []⟩
  | 11 => ⟨[4, 5], [], []⟩
  | _ => ⟨[], [], []⟩
noncomputable def F19_c : Code := Try.f19.body.getD .skip
theorem F19_b : Try.f19.body = some F19_c := by kernel_rfl
theorem F19_rs : Try.f19.results.toList = ([.tmp 4, .tmp 5] : List ResultVar) := by kernel_rfl
theorem F19_n : Try.f19.ntmps = 58 := by kernel_rfl
theorem F19_ok : toCC [] 58 F19_inf F19_c = some F19 := by kernel_rfl
theorem F19_in {args : List AV} {G : Hp} {post : AV → Hp → Prop} (ha : args.all AV.plain = true) (hn : args.length ≤ 58) (h : BDs args → awp Try.prog [] F19 (AEnds Try.prog [.tmp 4, .tmp 5] post) (initT args) G) : ACalls Try.prog 19 args G post :=
  acalls_cc Try.func19 F19_b F19_rs F19_n F19_ok mixed ha hn h

/- 20 (*ostiary/shelf.Ring[int]).Take -/
@[simp] noncomputable def F20_r0 : CC := .reg [⟨some 2, none, (.assign (.const (.int .i64 0)))⟩,
  ⟨some 3, none, (.assign (.const (.bool false)))⟩] [0]
@[simp] noncomputable def F20_r1 : CC := .reg [⟨some 4, none, (.move (.tmp 0))⟩,
  ⟨some 5, none, (.call { callee := (.value (.func 21)), args := #[(.tmp 4), (.const (.int .i64 0))], argTypes := #[34, 3] })⟩,
  ⟨some 6, none, (.extract (.tmp 5) 0)⟩,
  ⟨some 7, none, (.extract (.tmp 5) 1)⟩,
  ⟨some 2, none, (.assign (.tmp 6))⟩,
  ⟨some 3, none, (.assign (.tmp 7))⟩] [2, 3]
noncomputable def F20 : CC := (.seq F20_r0 (.seq F20_r1 .ret))
noncomputable def F20_inf : Nat → RI
  | 0 => ⟨[0], [], []⟩
  | 1 => ⟨[2, 3], [], []⟩
  | _ => ⟨[], [], []⟩
noncomputable def F20_c : Code := Try.f20.body.getD .skip
theorem F20_b : Try.f20.body = some F20_c := by kernel_rfl
theorem F20_rs : Try.f20.results.toList = ([.tmp 2, .tmp 3] : List ResultVar) := by kernel_rfl
theorem F20_n : Try.f20.ntmps = 8 := by kernel_rfl
theorem F20_ok : toCC [] 8 F20_inf F20_c = some F20 := by kernel_rfl
theorem F20_in {args : List AV} {G : Hp} {post : AV → Hp → Prop} (ha : args.all AV.plain = true) (hn : args.length ≤ 8) (h : BDs args → awp Try.prog [] F20 (AEnds Try.prog [.tmp 2, .tmp 3] post) (initT args) G) : ACalls Try.prog 20 args G post :=
  acalls_cc Try.func20 F20_b F20_rs F20_n F20_ok mixed ha hn h

/- 21 (*ostiary/shelf.Ring[int]).Cut -/
@[simp] noncomputable def F21_r0 : CC := .reg [⟨some 4, none, (.assign (.const (.int .i64 0)))⟩,
  ⟨some 5, none, (.assign (.const (.bool false)))⟩] [0, 1]
@[simp] noncomputable def F21_r1 : CC := .reg [⟨some 9, none, (.move (.tmp 0))⟩,
  ⟨some 10, none, (.move (.tmp 1))⟩,
  ⟨some 11, none, (.call { callee := (.value (.func 22)), args := #[(.tmp 9), (.tmp 10)], argTypes := #[34, 3] })⟩,
  ⟨some 8, none, (.move (.tmp 11))⟩,
  ⟨some 12, none, (.extract (.tmp 8) 0)⟩,
  ⟨some 13, none, (.extract (.tmp 8) 1)⟩,
  ⟨some 6, none, (.assign (.tmp 12))⟩,
  ⟨some 7, none, (.assign (.tmp 13))⟩] [0, 1, 6, 7]
@[simp] noncomputable def F21_r2 : CC := .reg [⟨some 14, none, (.move (.tmp 7))⟩] [0, 1, 6, 7, 14]
@[simp] noncomputable def F21_r3 : CC := .reg [⟨some 15, none, (.move (.tmp 0))⟩,
  ⟨some 16, none, (.move (.tmp 0))⟩,
  ⟨some 17, none, (.nilCheck (.tmp 16))⟩,
  ⟨some 18, none, (.fieldAddr 71 (.tmp 17) 0)⟩,
  ⟨some 19, none, (.load 22 (.tmp 18))⟩,
  ⟨some 20, none, (.call { callee := (.value (.func 41)), args := #[(.tmp 19)], argTypes := #[22] })⟩,
  ⟨some 21, none, (.move (.tmp 1))⟩,
  ⟨some 22, none, (.move (.tmp 1))⟩,
  ⟨some 23, none, (.binOp .add 3 (.tmp 22) (.const (.int .i64 1)) 3)⟩,
  ⟨some 24, none, (.call { callee := (.value (.func 42)), args := #[(.tmp 20), (.tmp 21), (.tmp 23)], argTypes := #[22, 3, 3] })⟩,
  ⟨some 25, none, (.nilCheck (.tmp 15))⟩,
  ⟨some 26, none, (.fieldAddr 71 (.tmp 25) 0)⟩,
  ⟨none, none, (.store 22 (.tmp 26) (.tmp 24))⟩] [6, 7]
@[simp] noncomputable def F21_r4 : CC := .reg [⟨some 27, none, (.move (.tmp 6))⟩,
  ⟨some 28, none, (.move (.tmp 7))⟩,
  ⟨some 4, none, (.assign (.tmp 27))⟩,
  ⟨some 5, none, (.assign (.tmp 28))⟩] [4, 5]
noncomputable def F21 : CC := (.seq F21_r0 (.seq F21_r1 (.seq (.seq F21_r2 (.cond (.tmp 14) F21_r3 .skip)) (.seq F21_r4 .ret))))
noncomputable def F21_inf : Nat → RI
  | 0 => ⟨[0, 1], [], []⟩
  | 1 => ⟨[0, 1, 6, 7], [], []⟩
  | 2 => ⟨[0, 1, 6, 7, 14], [], []⟩
  | 3 => ⟨[6, 7], [], []⟩
  | 4 => ⟨[4, 5], [], []⟩
  | _ => ⟨[], [], []⟩
noncomputable def F21_c : Code := Try.f21.body.getD .skip
theorem F21_b : Try.f21.body = some F21_c := by kernel_rfl
theorem F21_rs : Try.f21.results.toList = ([.tmp 4, .tmp 5] : List ResultVar) := by kernel_rfl
theorem F21_n : Try.f21.ntmps = 29 := by kernel_rfl
theorem F21_ok : toCC [] 29 F21_inf F21_c = some F21 := by kernel_rfl
theorem F21_in {args : List AV} {G : Hp} {post : AV → Hp → Prop} (ha : args.all AV.plain = true) (hn : args.length ≤ 29) (h : BDs args → awp Try.prog [] F21 (AEnds Try.prog [.tmp 4, .tmp 5] post) (initT args) G) : ACalls Try.prog 21 args G post :=
  acalls_cc Try.func21 F21_b F21_rs F21_n F21_ok mixed ha hn h

/- 22 (*ostiary/shelf.Ring[int]).At -/
@[simp] noncomputable def F22_r0 : CC := .reg [⟨some 4, none, (.assign (.const (.int .i64 0)))⟩,
  ⟨some 5, none, (.assign (.const (.bool false)))⟩] [0, 1]
@[simp] noncomputable def F22_r1 : CC := .reg [⟨some 7, none, (.move (.tmp 0))⟩,
  ⟨some 8, none, (.binOp .eql 34 (.tmp 7) (.const (.pointer none)) 34)⟩,
  ⟨some 9, none, (.move (.tmp 8))⟩,
  ⟨some 10, some (9, false), (.move (.tmp 1))⟩,
  ⟨some 11, some (9, false), (.binOp .lss 3 (.tmp 10) (.const (.int .i64 0)) 3)⟩,
  ⟨some 12, none, (.pick (.tmp 9) (.const (.bool true)) (.tmp 11))⟩,
  ⟨some 13, none, (.move (.tmp 12))⟩,
  ⟨some 14, some (13, false), (.move (.tmp 1))⟩,
  ⟨some 15, some (13, false), (.move (.tmp 0))⟩,
  ⟨some 16, some (13, false), (.nilCheck (.tmp 15))⟩,
  ⟨some 17, some (13, false), (.fieldAddr 71 (.tmp 16) 0)⟩,
  ⟨some 18, some (13, false), (.load 22 (.tmp 17))⟩,
  ⟨some 19, some (13, false), (.call { callee := (.builtin .len), args := #[(.tmp 18)], argTypes := #[22] })⟩,
  ⟨some 20, some (13, false), (.binOp .geq 3 (.tmp 14) (.tmp 19) 3)⟩,
  ⟨some 21, none, (.pick (.tmp 13) (.const (.bool true)) (.tmp 20))⟩] [0, 1, 21]
@[simp] noncomputable def F22_r2 : CC := .reg [⟨some 6, none, (.assign (.const (.int .i64 0)))⟩] [6]
@[simp] noncomputable def F22_r3 : CC := .reg [⟨some 22, none, (.move (.tmp 6))⟩,
  ⟨some 4, none, (.assign (.tmp 22))⟩,
  ⟨some 5, none, (.assign (.const (.bool false)))⟩] [4, 5]
@[simp] noncomputable def F22_r4 : CC := .reg [⟨some 23, none, (.move (.tmp 0))⟩,
  ⟨some 24, none, (.nilCheck (.tmp 23))⟩,
  ⟨some 25, none, (.fieldAddr 71 (.tmp 24) 0)⟩,
  ⟨some 26, none, (.load 22 (.tmp 25))⟩,
  ⟨some 27, none, (.move (.tmp 1))⟩,
  ⟨some 28, none, (.indexAddr 22 (.tmp 26) (.tmp 27))⟩,
  ⟨some 29, none, (.load 3 (.tmp 28))⟩,
  ⟨some 4, none, (.assign (.tmp 29))⟩,
  ⟨some 5, none, (.assign (.const (.bool true)))⟩] [4, 5]
noncomputable def F22 : CC := (.seq F22_r0 (.seq (.seq F22_r1 (.cond (.tmp 21) (.seq F22_r2 (.seq F22_r3 .ret)) .skip)) (.seq F22_r4 .ret)))
noncomputable def F22_inf : Nat → RI
  | 0 => ⟨[0, 1], [], []⟩
  | 1 => ⟨[0, 1, 21], [], []⟩
  | 2 => ⟨[6], [], []⟩
  | 3 => ⟨[4, 5], [], []⟩
  | 4 => ⟨[4, 5], [], []⟩
  | _ => ⟨[], [], []⟩
noncomputable def F22_c : Code := Try.f22.body.getD .skip
theorem F22_b : Try.f22.body = some F22_c := by kernel_rfl
theorem F22_rs : Try.f22.results.toList = ([.tmp 4, .tmp 5] : List ResultVar) := by kernel_rfl
theorem F22_n : Try.f22.ntmps = 30 := by kernel_rfl
theorem F22_ok : toCC [] 30 F22_inf F22_c = some F22 := by kernel_rfl
theorem F22_in {args : List AV} {G : Hp} {post : AV → Hp → Prop} (ha : args.all AV.plain = true) (hn : args.length ≤ 30) (h : BDs args → awp Try.prog [] F22 (AEnds Try.prog [.tmp 4, .tmp 5] post) (initT args) G) : ACalls Try.prog 22 args G post :=
  acalls_cc Try.func22 F22_b F22_rs F22_n F22_ok mixed ha hn h

/- 23 (*ostiary/shelf.Shelf[int, int]).Get -/
@[simp] noncomputable def F23_r0 : CC := .reg [⟨some 4, none, (.assign (.const (.int .i64 0)))⟩,
  ⟨some 5, none, (.assign (.const (.bool false)))⟩] [0, 1]
@[simp] noncomputable def F23_r1 : CC := .reg [⟨some 9, none, (.move (.tmp 0))⟩,
  ⟨some 10, none, (.binOp .neq 23 (.tmp 9) (.const (.pointer none)) 23)⟩] [0, 1, 10]
@[simp] noncomputable def F23_r2 : CC := .reg [⟨some 12, none, (.move (.tmp 0))⟩,
  ⟨some 13, none, (.move (.tmp 1))⟩,
  ⟨some 14, none, (.call { callee := (.value (.func 34)), args := #[(.tmp 12), (.tmp 13)], argTypes := #[23, 3] })⟩,
  ⟨some 11, none, (.move (.tmp 14))⟩,
  ⟨some 15, none, (.extract (.tmp 11) 0)⟩,
  ⟨some 16, none, (.extract (.tmp 11) 1)⟩,
  ⟨some 6, none, (.assign (.tmp 15))⟩,
  ⟨some 7, none, (.assign (.tmp 16))⟩] [0, 6, 7]
@[simp] noncomputable def F23_r3 : CC := .reg [⟨some 17, none, (.move (.tmp 7))⟩] [0, 6, 17]
@[simp] noncomputable def F23_r4 : CC := .reg [⟨some 18, none, (.move (.tmp 0))⟩,
  ⟨some 19, none, (.nilCheck (.tmp 18))⟩,
  ⟨some 20, none, (.fieldAddr 61 (.tmp 19) 0)⟩,
  ⟨some 21, none, (.load 59 (.tmp 20))⟩,
  ⟨some 22, none, (.move (.tmp 6))⟩,
  ⟨some 23, none, (.indexAddr 59 (.tmp 21) (.tmp 22))⟩,
  ⟨some 24, none, (.fieldAddr 63 (.tmp 23) 1)⟩,
  ⟨some 25, none, (.load 3 (.tmp 24))⟩,
  ⟨some 4, none, (.assign (.tmp 25))⟩,
  ⟨some 5, none, (.assign (.const (.bool true)))⟩] [4, 5]
@[simp] noncomputable def F23_r5 : CC := .reg [⟨some 8, none, (.assign (.const (.int .i64 0)))⟩] [8]
@[simp] noncomputable def F23_r6 : CC := .reg [⟨some 26, none, (.move (.tmp 8))⟩,
  ⟨some 4, none, (.assign (.tmp 26))⟩,
  ⟨some 5, none, (.assign (.const (.bool false)))⟩] [4, 5]
noncomputable def F23 : CC := (.seq F23_r0 (.seq (.seq F23_r1 (.cond (.tmp 10) (.seq F23_r2 (.seq F23_r3 (.cond (.tmp 17) (.seq F23_r4 .ret) .skip))) .skip)) (.seq F23_r5 (.seq F23_r6 .ret))))
noncomputable def F23_inf : Nat → RI
  | 0 => ⟨[0, 1], [], []⟩
  | 1 => ⟨[0, 1, 10], [], []⟩
  | 2 => ⟨[0, 6, 7], [], []⟩
  | 3 => ⟨[0, 6, 17], [], []⟩
  | 4 => ⟨[4, 5], [], []⟩
  | 5 => ⟨[8], [], []⟩
  | 6 => ⟨[4, 5], [], []⟩
  | _ => ⟨[], [], []⟩
noncomputable def F23_c : Code := Try.f23.body.getD .skip
theorem F23_b : Try.f23.body = some F23_c := by kernel_rfl
theorem F23_rs : Try.f23.results.toList = ([.tmp 4, .tmp 5] : List ResultVar) := by kernel_rfl
theorem F23_n : Try.f23.ntmps = 27 := by kernel_rfl
theorem F23_ok : toCC [] 27 F23_inf F23_c = some F23 := by kernel_rfl
theorem F23_in {args : List AV} {G : Hp} {post : AV → Hp → Prop} (ha : args.all AV.plain = true) (hn : args.length ≤ 27) (h : BDs args → awp Try.prog [] F23 (AEnds Try.prog [.tmp 4, .tmp 5] post) (initT args) G) : ACalls Try.prog 23 args G post :=
  acalls_cc Try.func23 F23_b F23_rs F23_n F23_ok mixed ha hn h

/- 24 (*ostiary/shelf.Ring[int]).Put -/
@[simp] noncomputable def F24_r0 : CC := .reg [⟨some 4, none, (.assign (.const (.bool false)))⟩] [0, 1]
@[simp] noncomputable def F24_r1 : CC := .drw [⟨0, ⟨some 5, none, (.move (.tmp 0))⟩, [], []⟩,
  ⟨1, ⟨some 6, none, (.binOp .eql 34 (.tmp 5) (.const (.pointer none)) 34)⟩, [], []⟩,
  ⟨2, ⟨some 7, none, (.move (.tmp 6))⟩, [], []⟩,
  ⟨3, ⟨some 8, some (7, false), (.move (.tmp 1))⟩, [], []⟩,
  ⟨4, ⟨some 9, some (7, false), (.call { callee := (.builtin .len), args := #[(.tmp 8)], argTypes := #[22] })⟩, [], []⟩,
  ⟨5, ⟨some 10, some (7, false), (.move (.tmp 0))⟩, [], []⟩,
  ⟨6, ⟨some 11, some (7, false), (.nilCheck (.tmp 10))⟩, [], []⟩,
  ⟨7, ⟨some 12, some (7, false), (.fieldAddr 71 (.tmp 11) 1)⟩, [], []⟩,
  ⟨8, ⟨some 13, some (7, false), (.load 3 (.tmp 12))⟩, [], []⟩,
  ⟨9, ⟨some 14, some (7, false), (.move (.tmp 0))⟩, [], []⟩,
  ⟨10, ⟨some 15, some (7, false), (.nilCheck (.tmp 14))⟩, [], []⟩,
  ⟨11, ⟨some 16, some (7, false), (.fieldAddr 71 (.tmp 15) 0)⟩, [], []⟩,
  ⟨12, ⟨some 17, some (7, false), (.load 22 (.tmp 16))⟩, [], []⟩,
  ⟨13, ⟨some 18, some (7, false), (.call { callee := (.builtin .len), args := #[(.tmp 17)], argTypes := #[22] })⟩, [], []⟩,
  ⟨14, ⟨some 19, some (7, false), (.binOp .sub 3 (.tmp 13) (.tmp 18) 3)⟩, [], []⟩,
  ⟨15, ⟨some 20, some (7, false), (.binOp .gtr 3 (.tmp 9) (.tmp 19) 3)⟩, [], []⟩,
  ⟨16, ⟨some 21, none, (.pick (.tmp 7) (.const (.bool true)) (.tmp 20))⟩, [], []⟩] [5, 6, 7, 8, 9, 10, 11, 12, 13, 14, 15, 16, 17, 18, 19, 20, 21] [0, 1, 21]
@[simp] noncomputable def F24_r2 : CC := .reg [⟨some 4, none, (.assign (.const (.bool false)))⟩] [4]
@[simp] noncomputable def F24_r3 : CC := .reg [⟨some 22, none, (.move (.tmp 0))⟩,
  ⟨some 23, none, (.move (.tmp 0))⟩,
  ⟨some 24, none, (.nilCheck (.tmp 23))⟩,
  ⟨some 25, none, (.fieldAddr 71 (.tmp 24) 0)⟩,
  ⟨some 26, none, (.load 22 (.tmp 25))⟩,
  ⟨some 27, none, (.move (.tmp 1))⟩,
  ⟨some 28, none, (.call { callee := (.builtin .append), args := #[(.tmp 26), (.tmp 27)], argTypes := #[22, 22] })⟩,
  ⟨some 29, none, (.nilCheck (.tmp 22))⟩,
  ⟨some 30, none, (.fieldAddr 71 (.tmp 29) 0)⟩,
  ⟨none, none, (.store 22 (.tmp 30) (.tmp 28))⟩] []
@[simp] noncomputable def F24_r4 : CC := .reg [⟨some 4, none, (.assign (.const (.bool true)))⟩] [4]
noncomputable def F24 : CC := (.seq F24_r0 (.seq (.seq F24_r1 (.cond (.tmp 21) (.seq F24_r2 .ret) .skip)) (.seq F24_r3 (.seq F24_r4 .ret))))
noncomputable def F24_inf : Nat → RI
  | 0 => ⟨[0, 1], [], []⟩
  | 1 => ⟨[0, 1, 21], [0, 1, 3, 7, 15, 7, 39, 103, 231, 7, 519, 1543, 3591, 7687, 16359, 32767, 65535], [(0, []), (1, []), (2, []), (3, []), (4, []), (5, []), (6, []), (7, []), (8, []), (9, []), (10, []), (11, []), (12, []), (13, []), (14, []), (15, []), (16, [])]⟩
  | 2 => ⟨[4], [], []⟩
  | 3 => ⟨[], [], []⟩
  | 4 => ⟨[4], [], []⟩
  | _ => ⟨[], [], []⟩
noncomputable def F24_c : Code := Try.f24.body.getD .skip
theorem F24_b : Try.f24.body = some F24_c := by kernel_rfl
theorem F24_rs : Try.f24.results.toList = ([.tmp 4] : List ResultVar) := by kernel_rfl
theorem F24_n : Try.f24.ntmps = 31 := by kernel_rfl
theorem F24_ok : toCC [] 31 F24_inf F24_c = some F24 := by kernel_rfl
theorem F24_in {args : List AV} {G : Hp} {post : AV → Hp → Prop} (ha : args.all AV.plain = true) (hn : args.length ≤ 31) (h : BDs args → awp Try.prog [] F24 (AEnds Try.prog [.tmp 4] post) (initT args) G) : ACalls Try.prog 24 args G post :=
  acalls_cc Try.func24 F24_b F24_rs F24_n F24_ok mixed ha hn h

/- 25 (*ostiary/shelf.Shelf[int, int]).Del -/
@[simp] noncomputable def F25_r0 : CC := .reg [⟨some 4, none, (.assign (.const (.int .i64 0)))⟩] [0, 1]
@[simp] noncomputable def F25_r1 : CC := .reg [⟨some 5, none, (.assign (.const (.int .i64 0)))⟩] [0, 1, 5]
@[simp] noncomputable def F25_r2 : CC := .reg [⟨some 10, none, (.move (.tmp 1))⟩,
  ⟨some 11, none, (.call { callee := (.builtin .len), args := #[(.tmp 10)], argTypes := #[22] })⟩,
  ⟨some 12, none, (.move (.const (.int .i64 0)))⟩] [0, 5, 10, 11, 12]
@[simp] noncomputable def F25_r3 : CC := .reg [⟨some 13, none, (.binOp .lss 3 (.tmp 12) (.tmp 11) 3)⟩] [0, 5, 10, 11, 12, 13]
@[simp] noncomputable def F25_r4 : CC := .reg [⟨some 14, none, (.indexAddr 22 (.tmp 10) (.tmp 12))⟩,
  ⟨some 15, none, (.load 3 (.tmp 14))⟩,
  ⟨some 7, none, (.assign (.tmp 15))⟩] [0, 5, 7, 10, 11, 12]
@[simp] noncomputable def F25_r5 : CC := .reg [⟨some 16, none, (.move (.tmp 0))⟩,
  ⟨some 17, none, (.binOp .eql 23 (.tmp 16) (.const (.pointer none)) 23)⟩] [0, 5, 7, 10, 11, 12, 17]
@[simp] noncomputable def F25_r6 : CC := .reg [⟨some 19, none, (.move (.tmp 0))⟩,
  ⟨some 20, none, (.move (.tmp 7))⟩,
  ⟨some 21, none, (.call { callee := (.value (.func 34)), args := #[(.tmp 19), (.tmp 20)], argTypes := #[23, 3] })⟩,
  ⟨some 18, none, (.move (.tmp 21))⟩,
  ⟨some 22, none, (.extract (.tmp 18) 0)⟩,
  ⟨some 23, none, (.extract (.tmp 18) 1)⟩,
  ⟨some 8, none, (.assign (.tmp 22))⟩,
  ⟨some 9, none, (.assign (.tmp 23))⟩] [0, 5, 8, 9, 10, 11, 12]
@[simp] noncomputable def F25_r7 : CC := .reg [⟨some 24, none, (.move (.tmp 9))⟩] [0, 5, 8, 10, 11, 12, 24]
@[simp] noncomputable def F25_r8 : CC := .reg [⟨some 25, none, (.move (.tmp 0))⟩,
  ⟨some 26, none, (.move (.tmp 0))⟩,
  ⟨some 27, none, (.nilCheck (.tmp 26))⟩,
  ⟨some 28, none, (.fieldAddr 61 (.tmp 27) 0)⟩,
  ⟨some 29, none, (.load 59 (.tmp 28))⟩,
  ⟨some 30, none, (.move (.tmp 8))⟩,
  ⟨some 31, none, (.move (.tmp 8))⟩,
  ⟨some 32, none, (.binOp .add 3 (.tmp 31) (.const (.int .i64 1)) 3)⟩,
  ⟨some 33, none, (.call { callee := (.value (.func 43)), args := #[(.tmp 29), (.tmp 30), (.tmp 32)], argTypes := #[59, 3, 3] })⟩,
  ⟨some 34, none, (.nilCheck (.tmp 25))⟩,
  ⟨some 35, none, (.fieldAddr 61 (.tmp 34) 0)⟩,
  ⟨none, none, (.store 59 (.tmp 35) (.tmp 33))⟩] [0, 5, 10, 11, 12]
@[simp] noncomputable def F25_r9 : CC := .reg [⟨some 36, none, (.move (.tmp 5))⟩,
  ⟨some 37, none, (.binOp .add 3 (.tmp 36) (.const (.int .i64 1)) 3)⟩,
  ⟨some 5, none, (.assign (.tmp 37))⟩] [0, 5, 10, 11, 12]
@[simp] noncomputable def F25_r10 : CC := .reg [⟨some 38, none, (.binOp .add 3 (.tmp 12) (.const (.int .i64 1)) 3)⟩,
  ⟨some 12, none, (.move (.tmp 38))⟩] [0, 5, 10, 11, 12]
noncomputable def F25_l0 : CC := (.seq F25_r3 (.seq (.cond (.tmp 13) .skip (.exit 0)) (.seq (.block 1 (.seq F25_r4 (.seq (.seq F25_r5 (.cond (.tmp 17) (.exit 0) .skip)) (.seq F25_r6 (.seq F25_r7 (.cond (.tmp 24) (.seq F25_r8 F25_r9) .skip)))))) F25_r10)))
@[simp] noncomputable def F25_r11 : CC := .reg [⟨some 39, none, (.move (.tmp 5))⟩,
  ⟨some 4, none, (.assign (.tmp 39))⟩] [4]
noncomputable def F25 : CC := (.seq F25_r0 (.seq F25_r1 (.seq (.seq F25_r2 (.block 0 (.loop F25_l0))) (.seq F25_r11 .ret))))
noncomputable def F25_inf : Nat → RI
  | 0 => ⟨[0, 1], [], []⟩
  | 1 => ⟨[0, 1, 5], [], []⟩
  | 2 => ⟨[0, 5, 10, 11, 12], [], []⟩
  | 3 => ⟨[0, 5, 10, 11, 12, 13], [], []⟩
  | 4 => ⟨[0, 5, 7, 10, 11, 12], [], []⟩
  | 5 => ⟨[0, 5, 7, 10, 11, 12, 17], [], []⟩
  | 6 => ⟨[0, 5, 8, 9, 10, 11, 12], [], []⟩
  | 7 => ⟨[0, 5, 8, 10, 11, 12, 24], [], []⟩
  | 8 => ⟨[0, 5, 10, 11, 12], [], []⟩
  | 9 => ⟨[0, 5, 10, 11, 12], [], []⟩
  | 10 => ⟨[0, 5, 10, 11, 12], [], []⟩
  | 11 => ⟨[4], [], []⟩
  | _ => ⟨[], [], []⟩
noncomputable def F25_c : Code := Try.f25.body.getD .skip
theorem F25_b : Try.f25.body = some F25_c := by kernel_rfl
theorem F25_rs : Try.f25.results.toList = ([.tmp 4] : List ResultVar) := by kernel_rfl
theorem F25_n : Try.f25.ntmps = 40 := by kernel_rfl
theorem F25_ok : toCC [] 40 F25_inf F25_c = some F25 := by kernel_rfl
theorem F25_in {args : List AV} {G : Hp} {post : AV → Hp → Prop} (ha : args.all AV.plain = true) (hn : args.length ≤ 40) (h : BDs args → awp Try.prog [] F25 (AEnds Try.prog [.tmp 4] post) (initT args) G) : ACalls Try.prog 25 args G post :=
  acalls_cc Try.func25 F25_b F25_rs F25_n F25_ok mixed ha hn h

/- 26 (*ostiary/shelf.Shelf[int, int]).Len -/
@[simp] noncomputable def F26_r0 : CC := .reg [⟨some 2, none, (.assign (.const (.int .i64 0)))⟩] [0]
@[simp] noncomputable def F26_r1 : CC := .reg [⟨some 3, none, (.move (.tmp 0))⟩,
  ⟨some 4, none, (.binOp .eql 23 (.tmp 3) (.const (.pointer none)) 23)⟩] [0, 4]
@[simp] noncomputable def F26_r2 : CC := .reg [⟨some 2, none, (.assign (.const (.int .i64 0)))⟩] [2]
@[simp] noncomputable def F26_r3 : CC := .reg [⟨some 5, none, (.move (.tmp 0))⟩,
  ⟨some 6, none, (.nilCheck (.tmp 5))⟩,
  ⟨some 7, none, (.fieldAddr 61 (.tmp 6) 0)⟩,
  ⟨some 8, none, (.load 59 (.tmp 7))⟩,
  ⟨some 9, none, (.call { callee := (.builtin .len), args := #[(.tmp 8)], argTypes := #[59] })⟩,
  ⟨some 2, none, (.assign (.tmp 9))⟩] [2]
noncomputable def F26 : CC := (.seq F26_r0 (.seq (.seq F26_r1 (.cond (.tmp 4) (.seq F26_r2 .ret) .skip)) (.seq F26_r3 .ret)))
noncomputable def F26_inf : Nat → RI
  | 0 => ⟨[0], [], []⟩
  | 1 => ⟨[0, 4], [], []⟩
  | 2 => ⟨[2], [], []⟩
  | 3 => ⟨[2], [], []⟩
  | _ => ⟨[], [], []⟩
noncomputable def F26_c : Code := Try.f26.body.getD .skip
theorem F26_b : Try.f26.body = some F26_c := by kernel_rfl
theorem F26_rs : Try.f26.results.toList = ([.tmp 2] : List ResultVar) := by kernel_rfl
theorem F26_n : Try.f26.ntmps = 10 := by kernel_rfl
theorem F26_ok : toCC [] 10 F26_inf F26_c = some F26 := by kernel_rfl
theorem F26_in {args : List AV} {G : Hp} {post : AV → Hp → Prop} (ha : args.all AV.plain = true) (hn : args.length ≤ 10) (h : BDs args → awp Try.prog [] F26 (AEnds Try.prog [.tmp 2] post) (initT args) G) : ACalls Try.prog 26 args G post :=
  acalls_cc Try.func26 F26_b F26_rs F26_n F26_ok mixed ha hn h
end Go.Proofs.Yteifakkknhfdpaa
