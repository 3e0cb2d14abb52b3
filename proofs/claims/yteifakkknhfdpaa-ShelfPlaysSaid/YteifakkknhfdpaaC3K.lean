import Derived.Test.YteifakkknhfdpaaC0K
set_option linter.unusedVariables false
set_option linter.unusedSimpArgs false
set_option maxRecDepth 100000
namespace Go.Proofs.Yteifakkknhfdpaa
open Go Go.Al

/- 27 ostiary/shelf.NewShelf[string,int] -/
@[simp] noncomputable def F27_r0 : CC := .reg [⟨some 2, none, (.assign (.const (.pointer none)))⟩] [0]
@[simp] noncomputable def F27_r1 : CC := .reg [⟨some 3, none, (.move (.tmp 0))⟩,
  ⟨some 4, none, (.call { callee := (.builtin .max), args := #[(.tmp 3), (.const (.int .i64 0))], argTypes := #[3, 3] })⟩,
  ⟨some 5, none, (.build 78 #[(1, (.tmp 4))])⟩,
  ⟨some 6, none, (.box 78 (.tmp 5))⟩,
  ⟨some 2, none, (.assign (.tmp 6))⟩] [2]
noncomputable def F27 : CC := (.seq F27_r0 (.seq F27_r1 .ret))
noncomputable def F27_inf : Nat → RI
  | 0 => ⟨[0], [], []⟩
  | 1 => ⟨[2], [], []⟩
  | _ => ⟨[], [], []⟩
noncomputable def F27_c : Code := Try.f27.body.getD .skip
theorem F27_b : Try.f27.body = some F27_c := by kernel_rfl
theorem F27_rs : Try.f27.results.toList = ([.tmp 2] : List ResultVar) := by kernel_rfl
theorem F27_n : Try.f27.ntmps = 7 := by kernel_rfl
theorem F27_ok : toCC [6] 7 F27_inf F27_c = some F27 := by kernel_rfl
theorem F27_in {args : List AV} {G : Hp} {post : AV → Hp → Prop} (ha : args.all AV.plain = true) (hn : args.length ≤ 7) (h : BDs args → awp Try.prog [6] F27 (AEnds Try.prog [.tmp 2] post) (initT args) G) : ACalls Try.prog 27 args G post :=
  acalls_cc Try.func27 F27_b F27_rs F27_n F27_ok mixed ha hn h

/- 28 ostiary/ostiarylaw02.drop -/
@[simp] noncomputable def F28_r0 : CC := .reg [⟨some 3, none, (.box 3 (.tmp 1))⟩,
  ⟨some 4, none, (.assign (.const (.slice none 0 0)))⟩] [0, 3]
@[simp] noncomputable def F28_r1 : CC := .reg [⟨some 5, none, (.move (.tmp 0))⟩,
  ⟨some 6, none, (.makeFunc (.func 45) #[] #[(.tmp 3)])⟩,
  ⟨some 7, none, (.call { callee := (.value (.func 44)), args := #[(.tmp 5), (.tmp 6)], argTypes := #[48, 80] })⟩,
  ⟨some 4, none, (.assign (.tmp 7))⟩] [4]
noncomputable def F28 : CC := (.seq F28_r0 (.seq F28_r1 .ret))
noncomputable def F28_inf : Nat → RI
  | 0 => ⟨[0, 3], [], []⟩
  | 1 => ⟨[4], [], []⟩
  | _ => ⟨[], [], []⟩
noncomputable def F28_c : Code := Try.f28.body.getD .skip
theorem F28_b : Try.f28.body = some F28_c := by kernel_rfl
theorem F28_rs : Try.f28.results.toList = ([.tmp 4] : List ResultVar) := by kernel_rfl
theorem F28_n : Try.f28.ntmps = 8 := by kernel_rfl
theorem F28_ok : toCC [3] 8 F28_inf F28_c = some F28 := by kernel_rfl
theorem F28_in {args : List AV} {G : Hp} {post : AV → Hp → Prop} (ha : args.all AV.plain = true) (hn : args.length ≤ 8) (h : BDs args → awp Try.prog [3] F28 (AEnds Try.prog [.tmp 4] post) (initT args) G) : ACalls Try.prog 28 args G post :=
  acalls_cc Try.func28 F28_b F28_rs F28_n F28_ok mixed ha hn h

/- 29 ostiary/ostiaryref02.Vals -/
@[simp] noncomputable def F29_r0 : CC := .reg [⟨some 2, none, (.assign (.const (.slice none 0 0)))⟩] [0]
@[simp] noncomputable def F29_r1 : CC := .reg [⟨some 3, none, (.assign (.const (.slice none 0 0)))⟩] [0, 3]
@[simp] noncomputable def F29_r2 : CC := .reg [⟨some 6, none, (.move (.tmp 0))⟩,
  ⟨some 7, none, (.call { callee := (.builtin .len), args := #[(.tmp 6)], argTypes := #[50] })⟩,
  ⟨some 8, none, (.move (.const (.int .i64 0)))⟩] [3, 6, 7, 8]
@[simp] noncomputable def F29_r3 : CC := .reg [⟨some 9, none, (.binOp .lss 3 (.tmp 8) (.tmp 7) 3)⟩] [3, 6, 7, 8, 9]
@[simp] noncomputable def F29_r4 : CC := .reg [⟨some 10, none, (.indexAddr 50 (.tmp 6) (.tmp 8))⟩,
  ⟨some 11, none, (.load 52 (.tmp 10))⟩,
  ⟨some 5, none, (.alloc 52)⟩,
  ⟨none, none, (.store 52 (.tmp 5) (.tmp 11))⟩] [3, 5, 6, 7, 8]
@[simp] noncomputable def F29_r5 : CC := .reg [⟨some 12, none, (.move (.tmp 3))⟩,
  ⟨some 13, none, (.fieldAddr 52 (.tmp 5) 1)⟩,
  ⟨some 14, none, (.load 3 (.tmp 13))⟩,
  ⟨some 15, none, (.buildSlice 22 1 #[(0, (.tmp 14))])⟩,
  ⟨some 16, none, (.call { callee := (.builtin .append), args := #[(.tmp 12), (.tmp 15)], argTypes := #[22, 22] })⟩,
  ⟨some 3, none, (.assign (.tmp 16))⟩] [3, 6, 7, 8]
@[simp] noncomputable def F29_r6 : CC := .reg [⟨some 17, none, (.binOp .add 3 (.tmp 8) (.const (.int .i64 1)) 3)⟩,
  ⟨some 8, none, (.move (.tmp 17))⟩] [3, 6, 7, 8]
noncomputable def F29_l0 : CC := (.seq F29_r3 (.seq (.cond (.tmp 9) .skip (.exit 0)) (.seq (.block 1 (.seq F29_r4 F29_r5)) F29_r6)))
@[simp] noncomputable def F29_r7 : CC := .reg [⟨some 18, none, (.move (.tmp 3))⟩,
  ⟨some 2, none, (.assign (.tmp 18))⟩] [2]
noncomputable def F29 : CC := (.seq F29_r0 (.seq F29_r1 (.seq (.seq F29_r2 (.block 0 (.loop F29_l0))) (.seq F29_r7 .ret))))
noncomputable def F29_inf : Nat → RI
  | 0 => ⟨[0], [], []⟩
  | 1 => ⟨[0, 3], [], []⟩
  | 2 => ⟨[3, 6, 7, 8], [], []⟩
  | 3 => ⟨[3, 6, 7, 8, 9], [], []⟩
  | 4 => ⟨[3, 5, 6, 7, 8], [], []⟩
  | 5 => ⟨[3, 6, 7, 8], [], []⟩
  | 6 => ⟨[3, 6, 7, 8], [], []⟩
  | 7 => ⟨[2], [], []⟩
  | _ => ⟨[], [], []⟩
noncomputable def F29_c : Code := Try.f29.body.getD .skip
theorem F29_b : Try.f29.body = some F29_c := by kernel_rfl
theorem F29_rs : Try.f29.results.toList = ([.tmp 2] : List ResultVar) := by kernel_rfl
theorem F29_n : Try.f29.ntmps = 19 := by kernel_rfl
theorem F29_ok : toCC [] 19 F29_inf F29_c = some F29 := by kernel_rfl
theorem F29_in {args : List AV} {G : Hp} {post : AV → Hp → Prop} (ha : args.all AV.plain = true) (hn : args.length ≤ 19) (h : BDs args → awp Try.prog [] F29 (AEnds Try.prog [.tmp 2] post) (initT args) G) : ACalls Try.prog 29 args G post :=
  acalls_cc Try.func29 F29_b F29_rs F29_n F29_ok mixed ha hn h

/- 30 ostiary/ostiarylaw02.put -/
@[simp] noncomputable def F30_r0 : CC := .reg [⟨some 7, none, (.box 37 (.tmp 3))⟩,
  ⟨some 8, none, (.assign (.const (.slice none 0 0)))⟩,
  ⟨some 9, none, (.assign (.const (.bool false)))⟩] [0, 1, 2, 7]
@[simp] noncomputable def F30_r1 : CC := .reg [⟨some 23, none, (.move (.tmp 1))⟩,
  ⟨some 24, none, (.fieldAddr 37 (.tmp 7) 4)⟩,
  ⟨some 25, none, (.load 9 (.tmp 24))⟩,
  ⟨some 26, none, (.call { callee := (.value (.func 46)), args := #[(.tmp 23), (.tmp 25)], argTypes := #[50, 9] })⟩,
  ⟨some 22, none, (.move (.tmp 26))⟩,
  ⟨some 27, none, (.extract (.tmp 22) 0)⟩,
  ⟨some 28, none, (.extract (.tmp 22) 1)⟩,
  ⟨some 10, none, (.assign (.tmp 27))⟩,
  ⟨some 11, none, (.assign (.tmp 28))⟩] [0, 1, 2, 7, 10, 11]
@[simp] noncomputable def F30_r2 : CC := .reg [⟨some 29, none, (.fieldAddr 37 (.tmp 7) 0)⟩,
  ⟨some 30, none, (.load 3 (.tmp 29))⟩] [0, 1, 2, 7, 10, 11, 30]
@[simp] noncomputable def F30_r3 : CC := .reg [⟨some 32, none, (.binOp .eql 3 (.tmp 30) (.const (.int .i64 0)) 3)⟩,
  ⟨some 31, none, (.assign (.tmp 32))⟩] [0, 1, 2, 7, 10, 11, 30, 31]
@[simp] noncomputable def F30_r4 : CC := .reg [⟨some 33, none, (.binOp .eql 3 (.tmp 30) (.const (.int .i64 1)) 3)⟩,
  ⟨some 31, none, (.assign (.tmp 33))⟩] [0, 1, 2, 7, 10, 11, 30, 31]
@[simp] noncomputable def F30_r5 : CC := .reg [⟨some 34, none, (.move (.tmp 0))⟩,
  ⟨some 35, none, (.fieldAddr 37 (.tmp 7) 4)⟩,
  ⟨some 36, none, (.load 9 (.tmp 35))⟩,
  ⟨some 37, none, (.fieldAddr 37 (.tmp 7) 2)⟩,
  ⟨some 38, none, (.load 3 (.tmp 37))⟩,
  ⟨some 39, none, (.call { callee := (.value (.func 47)), args := #[(.tmp 34), (.tmp 36), (.tmp 38)], argTypes := #[48, 9, 3] })⟩,
  ⟨some 12, none, (.assign (.tmp 39))⟩] [1, 2, 7, 11, 12]
@[simp] noncomputable def F30_r6 : CC := .reg [⟨some 40, none, (.move (.tmp 11))⟩,
  ⟨some 41, none, (.unOp .not 4 (.tmp 40))⟩,
  ⟨some 42, none, (.move (.tmp 41))⟩,
  ⟨some 43, some (42, true), (.move (.tmp 1))⟩,
  ⟨some 44, some (42, true), (.call { callee := (.builtin .len), args := #[(.tmp 43)], argTypes := #[50] })⟩,
  ⟨some 45, some (42, true), (.move (.tmp 2))⟩,
  ⟨some 46, some (42, true), (.binOp .geq 3 (.tmp 44) (.tmp 45) 3)⟩,
  ⟨some 47, none, (.pick (.tmp 42) (.tmp 46) (.const (.bool false)))⟩] [1, 7, 12, 47]
@[simp] noncomputable def F30_r7 : CC := .reg [⟨some 48, none, (.move (.tmp 1))⟩,
  ⟨some 49, none, (.move (.tmp 12))⟩,
  ⟨some 50, none, (.binOp .eql 25 (.tmp 49) (.const (.int .i64 4)) 25)⟩,
  ⟨some 8, none, (.assign (.tmp 48))⟩,
  ⟨some 9, none, (.assign (.tmp 50))⟩] [8, 9]
@[simp] noncomputable def F30_r8 : CC := .reg [⟨some 51, none, (.move (.tmp 1))⟩,
  ⟨some 52, none, (.fieldAddr 37 (.tmp 7) 4)⟩,
  ⟨some 53, none, (.load 9 (.tmp 52))⟩,
  ⟨some 54, none, (.fieldAddr 37 (.tmp 7) 2)⟩,
  ⟨some 55, none, (.load 3 (.tmp 54))⟩,
  ⟨some 56, none, (.call { callee := (.value (.func 48)), args := #[(.tmp 51), (.tmp 53), (.tmp 55)], argTypes := #[50, 9, 3] })⟩,
  ⟨some 57, none, (.move (.tmp 12))⟩,
  ⟨some 58, none, (.binOp .eql 25 (.tmp 57) (.const (.int .i64 0)) 25)⟩,
  ⟨some 8, none, (.assign (.tmp 56))⟩,
  ⟨some 9, none, (.assign (.tmp 58))⟩] [8, 9]
@[simp] noncomputable def F30_r9 : CC := .reg [⟨some 60, none, (.binOp .eql 3 (.tmp 30) (.const (.int .i64 2)) 3)⟩,
  ⟨some 59, none, (.assign (.tmp 60))⟩] [0, 1, 7, 10, 11, 30, 59]
@[simp] noncomputable def F30_r10 : CC := .reg [⟨some 62, none, (.move (.tmp 0))⟩,
  ⟨some 63, none, (.fieldAddr 37 (.tmp 7) 4)⟩,
  ⟨some 64, none, (.load 9 (.tmp 63))⟩,
  ⟨some 65, none, (.call { callee := (.value (.func 49)), args := #[(.tmp 62), (.tmp 64)], argTypes := #[48, 9] })⟩,
  ⟨some 61, none, (.move (.tmp 65))⟩,
  ⟨some 66, none, (.extract (.tmp 61) 0)⟩,
  ⟨some 67, none, (.extract (.tmp 61) 1)⟩,
  ⟨some 13, none, (.assign (.tmp 66))⟩,
  ⟨some 14, none, (.assign (.tmp 67))⟩] [1, 10, 11, 13, 14]
@[simp] noncomputable def F30_r11 : CC := .reg [⟨some 68, none, (.move (.tmp 1))⟩,
  ⟨some 69, none, (.move (.tmp 13))⟩,
  ⟨some 70, none, (.move (.tmp 10))⟩,
  ⟨some 71, none, (.binOp .eql 3 (.tmp 69) (.tmp 70) 3)⟩,
  ⟨some 72, none, (.move (.tmp 71))⟩,
  ⟨some 73, some (72, true), (.move (.tmp 14))⟩,
  ⟨some 74, some (72, true), (.move (.tmp 11))⟩,
  ⟨some 75, some (72, true), (.binOp .eql 4 (.tmp 73) (.tmp 74) 4)⟩,
  ⟨some 76, none, (.pick (.tmp 72) (.tmp 75) (.const (.bool false)))⟩,
  ⟨some 8, none, (.assign (.tmp 68))⟩,
  ⟨some 9, none, (.assign (.tmp 76))⟩] [8, 9]
@[simp] noncomputable def F30_r12 : CC := .reg [⟨some 78, none, (.binOp .eql 3 (.tmp 30) (.const (.int .i64 3)) 3)⟩,
  ⟨some 77, none, (.assign (.tmp 78))⟩] [0, 1, 7, 30, 77]
@[simp] noncomputable def F30_r13 : CC := .reg [⟨some 79, none, (.move (.tmp 0))⟩,
  ⟨some 80, none, (.fieldAddr 37 (.tmp 7) 4)⟩,
  ⟨some 81, none, (.load 9 (.tmp 80))⟩,
  ⟨some 82, none, (.fieldAddr 37 (.tmp 7) 5)⟩,
  ⟨some 83, none, (.load 9 (.tmp 82))⟩,
  ⟨some 84, none, (.buildSlice 57 2 #[(0, (.tmp 81)), (1, (.tmp 83))])⟩,
  ⟨some 85, none, (.call { callee := (.value (.func 50)), args := #[(.tmp 79), (.tmp 84)], argTypes := #[48, 57] })⟩,
  ⟨some 15, none, (.assign (.tmp 85))⟩] [1, 7, 15]
@[simp] noncomputable def F30_r14 : CC := .drw [⟨0, ⟨some 86, none, (.move (.tmp 1))⟩, [], []⟩,
  ⟨1, ⟨some 87, none, (.fieldAddr 37 (.tmp 7) 4)⟩, [], []⟩,
  ⟨2, ⟨some 88, none, (.load 9 (.tmp 87))⟩, [], []⟩,
  ⟨4, ⟨some 90, none, (.fieldAddr 37 (.tmp 7) 5)⟩, [], []⟩,
  ⟨5, ⟨some 91, none, (.load 9 (.tmp 90))⟩, [], []⟩,
  ⟨3, ⟨some 89, none, (.call { callee := (.value (.func 51)), args := #[(.tmp 86), (.tmp 88)], argTypes := #[50, 9] })⟩, [5], [⟨some 91, none, (.load 9 (.tmp 90))⟩]⟩,
  ⟨6, ⟨some 92, none, (.call { callee := (.value (.func 51)), args := #[(.tmp 89), (.tmp 91)], argTypes := #[50, 9] })⟩, [], []⟩,
  ⟨7, ⟨some 16, none, (.assign (.tmp 92))⟩, [], []⟩] [86, 87, 88, 90, 91, 89, 92, 16] [1, 15, 16]
@[simp] noncomputable def F30_r15 : CC := .reg [⟨some 93, none, (.move (.tmp 16))⟩,
  ⟨some 94, none, (.move (.tmp 15))⟩,
  ⟨some 95, none, (.move (.tmp 1))⟩,
  ⟨some 96, none, (.call { callee := (.builtin .len), args := #[(.tmp 95)], argTypes := #[50] })⟩,
  ⟨some 97, none, (.move (.tmp 16))⟩,
  ⟨some 98, none, (.call { callee := (.builtin .len), args := #[(.tmp 97)], argTypes := #[50] })⟩,
  ⟨some 99, none, (.binOp .sub 3 (.tmp 96) (.tmp 98) 3)⟩,
  ⟨some 100, none, (.binOp .eql 3 (.tmp 94) (.tmp 99) 3)⟩,
  ⟨some 8, none, (.assign (.tmp 93))⟩,
  ⟨some 9, none, (.assign (.tmp 100))⟩] [8, 9]
@[simp] noncomputable def F30_r16 : CC := .reg [⟨some 102, none, (.binOp .eql 3 (.tmp 30) (.const (.int .i64 5)) 3)⟩,
  ⟨some 101, none, (.assign (.tmp 102))⟩] [0, 1, 7, 101]
@[simp] noncomputable def F30_r17 : CC := .reg [⟨some 104, none, (.move (.tmp 0))⟩,
  ⟨some 105, none, (.fieldAddr 37 (.tmp 7) 4)⟩,
  ⟨some 106, none, (.load 9 (.tmp 105))⟩,
  ⟨some 107, none, (.call { callee := (.value (.func 52)), args := #[(.tmp 104), (.tmp 106)], argTypes := #[48, 9] })⟩,
  ⟨some 103, none, (.move (.tmp 107))⟩,
  ⟨some 108, none, (.extract (.tmp 103) 0)⟩,
  ⟨some 109, none, (.extract (.tmp 103) 1)⟩,
  ⟨some 110, none, (.extract (.tmp 103) 2)⟩,
  ⟨some 17, none, (.assign (.tmp 108))⟩,
  ⟨some 18, none, (.assign (.tmp 109))⟩,
  ⟨some 19, none, (.assign (.tmp 110))⟩] [1, 7, 17, 18, 19]
@[simp] noncomputable def F30_r18 : CC := .reg [⟨some 111, none, (.move (.tmp 1))⟩,
  ⟨some 112, none, (.call { callee := (.builtin .len), args := #[(.tmp 111)], argTypes := #[50] })⟩,
  ⟨some 113, none, (.move (.const (.int .i64 0)))⟩] [1, 7, 17, 18, 19, 111, 112, 113]
@[simp] noncomputable def F30_r19 : CC := .reg [⟨some 114, none, (.binOp .lss 3 (.tmp 113) (.tmp 112) 3)⟩] [1, 7, 17, 18, 19, 111, 112, 113, 114]
@[simp] noncomputable def F30_r20 : CC := .reg [⟨some 115, none, (.indexAddr 50 (.tmp 111) (.tmp 113))⟩,
  ⟨some 116, none, (.load 52 (.tmp 115))⟩,
  ⟨some 21, none, (.alloc 52)⟩,
  ⟨none, none, (.store 52 (.tmp 21) (.tmp 116))⟩] [1, 7, 17, 18, 19, 21, 111, 112, 113]
@[simp] noncomputable def F30_r21 : CC := .reg [⟨some 117, none, (.fieldAddr 52 (.tmp 21) 0)⟩,
  ⟨some 118, none, (.load 9 (.tmp 117))⟩,
  ⟨some 119, none, (.fieldAddr 37 (.tmp 7) 4)⟩,
  ⟨some 120, none, (.load 9 (.tmp 119))⟩,
  ⟨some 121, none, (.binOp .gtr 9 (.tmp 118) (.tmp 120) 9)⟩] [1, 7, 17, 18, 19, 21, 111, 112, 113, 121]
@[simp] noncomputable def F30_r22 : CC := .drw [⟨0, ⟨some 122, none, (.move (.tmp 1))⟩, [], []⟩,
  ⟨1, ⟨some 123, none, (.move (.tmp 19))⟩, [], []⟩,
  ⟨2, ⟨some 124, none, (.move (.tmp 123))⟩, [], []⟩,
  ⟨3, ⟨some 125, some (124, true), (.move (.tmp 17))⟩, [], []⟩,
  ⟨4, ⟨some 126, some (124, true), (.fieldAddr 52 (.tmp 21) 0)⟩, [], []⟩,
  ⟨5, ⟨some 127, some (124, true), (.load 9 (.tmp 126))⟩, [], []⟩,
  ⟨6, ⟨some 128, some (124, true), (.binOp .eql 9 (.tmp 125) (.tmp 127) 9)⟩, [], []⟩,
  ⟨7, ⟨some 129, none, (.pick (.tmp 124) (.tmp 128) (.const (.bool false)))⟩, [], []⟩,
  ⟨8, ⟨some 130, none, (.move (.tmp 129))⟩, [], []⟩,
  ⟨9, ⟨some 131, some (130, true), (.move (.tmp 18))⟩, [], []⟩,
  ⟨10, ⟨some 132, some (130, true), (.fieldAddr 52 (.tmp 21) 1)⟩, [], []⟩,
  ⟨11, ⟨some 133, some (130, true), (.load 3 (.tmp 132))⟩, [], []⟩,
  ⟨12, ⟨some 134, some (130, true), (.binOp .eql 3 (.tmp 131) (.tmp 133) 3)⟩, [], []⟩,
  ⟨13, ⟨some 135, none, (.pick (.tmp 130) (.tmp 134) (.const (.bool false)))⟩, [], []⟩,
  ⟨14, ⟨some 8, none, (.assign (.tmp 122))⟩, [], []⟩,
  ⟨15, ⟨some 9, none, (.assign (.tmp 135))⟩, [], []⟩] [122, 123, 124, 125, 126, 127, 128, 129, 130, 131, 132, 133, 134, 135, 8, 9] [8, 9]
@[simp] noncomputable def F30_r23 : CC := .reg [⟨some 136, none, (.binOp .add 3 (.tmp 113) (.const (.int .i64 1)) 3)⟩,
  ⟨some 113, none, (.move (.tmp 136))⟩] [1, 7, 17, 18, 19, 111, 112, 113]
noncomputable def F30_l0 : CC := (.seq F30_r19 (.seq (.cond (.tmp 114) .skip (.exit 1)) (.seq (.block 2 (.seq F30_r20 (.seq F30_r21 (.cond (.tmp 121) (.seq F30_r22 .ret) .skip)))) F30_r23)))
@[simp] noncomputable def F30_r24 : CC := .reg [⟨some 137, none, (.move (.tmp 1))⟩,
  ⟨some 138, none, (.move (.tmp 19))⟩,
  ⟨some 139, none, (.unOp .not 4 (.tmp 138))⟩,
  ⟨some 140, none, (.move (.tmp 139))⟩,
  ⟨some 141, some (140, true), (.move (.tmp 17))⟩,
  ⟨some 142, some (140, true), (.fieldAddr 37 (.tmp 7) 4)⟩,
  ⟨some 143, some (140, true), (.load 9 (.tmp 142))⟩,
  ⟨some 144, some (140, true), (.binOp .eql 9 (.tmp 141) (.tmp 143) 9)⟩,
  ⟨some 145, none, (.pick (.tmp 140) (.tmp 144) (.const (.bool false)))⟩,
  ⟨some 146, none, (.move (.tmp 145))⟩,
  ⟨some 147, some (146, true), (.move (.tmp 18))⟩,
  ⟨some 148, some (146, true), (.binOp .eql 3 (.tmp 147) (.const (.int .i64 0)) 3)⟩,
  ⟨some 149, none, (.pick (.tmp 146) (.tmp 148) (.const (.bool false)))⟩,
  ⟨some 8, none, (.assign (.tmp 137))⟩,
  ⟨some 9, none, (.assign (.tmp 149))⟩] [8, 9]
@[simp] noncomputable def F30_r25 : CC := .reg [⟨some 150, none, (.move (.tmp 1))⟩,
  ⟨some 8, none, (.assign (.tmp 150))⟩,
  ⟨some 9, none, (.assign (.const (.bool true)))⟩] [8, 9]
noncomputable def F30 : CC := (.seq F30_r0 (.seq F30_r1 (.seq (.seq F30_r2 (.block 0 (.seq (.seq F30_r3 (.cond (.tmp 31) .skip F30_r4)) (.cond (.tmp 31) (.seq F30_r5 (.seq (.seq F30_r6 (.cond (.tmp 47) (.seq F30_r7 .ret) .skip)) (.seq F30_r8 .ret))) (.seq F30_r9 (.cond (.tmp 59) (.seq F30_r10 (.seq F30_r11 .ret)) (.seq F30_r12 (.cond (.tmp 77) (.seq F30_r13 (.seq F30_r14 (.seq F30_r15 .ret))) (.seq F30_r16 (.cond (.tmp 101) (.seq F30_r17 (.seq (.seq F30_r18 (.block 1 (.loop F30_l0))) (.seq F30_r24 .ret))) .skip)))))))))) (.seq F30_r25 .ret))))
noncomputable def F30_inf : Nat → RI
  | 0 => ⟨[0, 1, 2, 7], [], []⟩
  | 1 => ⟨[0, 1, 2, 7, 10, 11], [], []⟩
  | 2 => ⟨[0, 1, 2, 7, 10, 11, 30], [], []⟩
  | 3 => ⟨[0, 1, 2, 7, 10, 11, 30, 31], [], []⟩
  | 4 => ⟨[0, 1, 2, 7, 10, 11, 30, 31], [], []⟩
  | 5 => ⟨[1, 2, 7, 11, 12], [], []⟩
  | 6 => ⟨[1, 7, 12, 47], [], []⟩
  | 7 => ⟨[8, 9], [], []⟩
  | 8 => ⟨[8, 9], [], []⟩
  | 9 => ⟨[0, 1, 7, 10, 11, 30, 59], [], []⟩
  | 10 => ⟨[1, 10, 11, 13, 14], [], []⟩
  | 11 => ⟨[8, 9], [], []⟩
  | 12 => ⟨[0, 1, 7, 30, 77], [], []⟩
  | 13 => ⟨[1, 7, 15], [], []⟩
  | 14 => ⟨[1, 15, 16], [0, 0, 2, 7, 0, 16, 63, 127], [(0, []), (1, []), (2, []), (4, []), (5, []), (3, [5]), (6, []), (7, [])]⟩
  | 15 => ⟨[8, 9], [], []⟩
  | 16 => ⟨[0, 1, 7, 101], [], []⟩
  | 17 => ⟨[1, 7, 17, 18, 19], [], []⟩
  | 18 => ⟨[1, 7, 17, 18, 19, 111, 112, 113], [], []⟩
  | 19 => ⟨[1, 7, 17, 18, 19, 111, 112, 113, 114], [], []⟩
  | 20 => ⟨[1, 7, 17, 18, 19, 21, 111, 112, 113], [], []⟩
  | 21 => ⟨[1, 7, 17, 18, 19, 21, 111, 112, 113, 121], [], []⟩
  | 22 => ⟨[8, 9], [0, 0, 2, 6, 6, 22, 62, 126, 254, 510, 510, 1534, 4094, 8190, 511, 32767], [(0, []), (1, []), (2, []), (3, []), (4, []), (5, []), (6, []), (7, []), (8, []), (9, []), (10, []), (11, []), (12, []), (13, []), (14, []), (15, [])]⟩
  | 23 => ⟨[1, 7, 17, 18, 19, 111, 112, 113], [], []⟩
  | 24 => ⟨[8, 9], [], []⟩
  | 25 => ⟨[8, 9], [], []⟩
  | _ => ⟨[], [], []⟩
noncomputable def F30_c : Code := Try.f30.body.getD .skip
theorem F30_b : Try.f30.body = some F30_c := by kernel_rfl
theorem F30_rs : Try.f30.results.toList = ([.tmp 8, .tmp 9] : List ResultVar) := by kernel_rfl
theorem F30_n : Try.f30.ntmps = 151 := by kernel_rfl
theorem F30_ok : toCC [] 151 F30_inf F30_c = some F30 := by kernel_rfl
theorem F30_in {args : List AV} {G : Hp} {post : AV → Hp → Prop} (ha : args.all AV.plain = true) (hn : args.length ≤ 151) (h : BDs args → awp Try.prog [] F30 (AEnds Try.prog [.tmp 8, .tmp 9] post) (initT args) G) : ACalls Try.prog 30 args G post :=
  acalls_cc Try.func30 F30_b F30_rs F30_n F30_ok mixed ha hn h

/- 31 (*ostiary/shelf.Shelf[string, int]).Keys -/
@[simp] noncomputable def F31_r0 : CC := .reg [⟨some 2, none, (.assign (.const (.slice none 0 0)))⟩] [0]
@[simp] noncomputable def F31_r1 : CC := .reg [⟨some 3, none, (.assign (.const (.slice none 0 0)))⟩] [0, 3]
@[simp] noncomputable def F31_r2 : CC := .reg [⟨some 5, none, (.move (.tmp 0))⟩,
  ⟨some 6, none, (.call { callee := (.value (.func 32)), args := #[(.tmp 5)], argTypes := #[48] })⟩,
  ⟨some 7, none, (.move (.const (.int .i64 0)))⟩] [0, 3, 6, 7]
@[simp] noncomputable def F31_r3 : CC := .reg [⟨some 8, none, (.binOp .lss 3 (.tmp 7) (.tmp 6) 3)⟩] [0, 3, 6, 7, 8]
@[simp] noncomputable def F31_r4 : CC := .reg [⟨some 9, none, (.move (.tmp 7))⟩,
  ⟨some 4, none, (.assign (.tmp 9))⟩] [0, 3, 4, 6, 7]
@[simp] noncomputable def F31_r5 : CC := .reg [⟨some 10, none, (.move (.tmp 3))⟩,
  ⟨some 11, none, (.move (.tmp 0))⟩,
  ⟨some 12, none, (.nilCheck (.tmp 11))⟩,
  ⟨some 13, none, (.fieldAddr 78 (.tmp 12) 0)⟩,
  ⟨some 14, none, (.load 76 (.tmp 13))⟩,
  ⟨some 15, none, (.move (.tmp 4))⟩,
  ⟨some 16, none, (.indexAddr 76 (.tmp 14) (.tmp 15))⟩,
  ⟨some 17, none, (.fieldAddr 90 (.tmp 16) 0)⟩,
  ⟨some 18, none, (.load 9 (.tmp 17))⟩,
  ⟨some 19, none, (.buildSlice 57 1 #[(0, (.tmp 18))])⟩,
  ⟨some 20, none, (.call { callee := (.builtin .append), args := #[(.tmp 10), (.tmp 19)], argTypes := #[57, 57] })⟩,
  ⟨some 3, none, (.assign (.tmp 20))⟩] [0, 3, 6, 7]
@[simp] noncomputable def F31_r6 : CC := .reg [⟨some 21, none, (.binOp .add 3 (.tmp 7) (.const (.int .i64 1)) 3)⟩,
  ⟨some 7, none, (.move (.tmp 21))⟩] [0, 3, 6, 7]
noncomputable def F31_l0 : CC := (.seq F31_r3 (.seq (.cond (.tmp 8) .skip (.exit 0)) (.seq (.block 1 (.seq F31_r4 F31_r5)) F31_r6)))
@[simp] noncomputable def F31_r7 : CC := .reg [⟨some 22, none, (.move (.tmp 3))⟩,
  ⟨some 2, none, (.assign (.tmp 22))⟩] [2]
noncomputable def F31 : CC := (.seq F31_r0 (.seq F31_r1 (.seq (.seq F31_r2 (.block 0 (.loop F31_l0))) (.seq F31_r7 .ret))))
noncomputable def F31_inf : Nat → RI
  | 0 => ⟨[0], [], []⟩
  | 1 => ⟨[0, 3], [], []⟩
  | 2 => ⟨[0, 3, 6, 7], [], []⟩
  | 3 => ⟨[0, 3, 6, 7, 8], [], []⟩
  | 4 => ⟨[0, 3, 4, 6, 7], [], []⟩
  | 5 => ⟨[0, 3, 6, 7], [], []⟩
  | 6 => ⟨[0, 3, 6, 7], [], []⟩
  | 7 => ⟨[2], [], []⟩
  | _ => ⟨[], [], []⟩
noncomputable def F31_c : Code := Try.f31.body.getD .skip
theorem F31_b : Try.f31.body = some F31_c := by kernel_rfl
theorem F31_rs : Try.f31.results.toList = ([.tmp 2] : List ResultVar) := by kernel_rfl
theorem F31_n : Try.f31.ntmps = 23 := by kernel_rfl
theorem F31_ok : toCC [] 23 F31_inf F31_c = some F31 := by kernel_rfl
theorem F31_in {args : List AV} {G : Hp} {post : AV → Hp → Prop} (ha : args.all AV.plain = true) (hn : args.length ≤ 23) (h : BDs args → awp Try.prog [] F31 (AEnds Try.prog [.tmp 2] post) (initT args) G) : ACalls Try.prog 31 args G post :=
  acalls_cc Try.func31 F31_b F31_rs F31_n F31_ok mixed ha hn h

/- 32 (*ostiary/shelf.Shelf[string, int]).Len -/
@[simp] noncomputable def F32_r0 : CC := .reg [⟨some 2, none, (.assign (.const (.int .i64 0)))⟩] [0]
@[simp] noncomputable def F32_r1 : CC := .reg [⟨some 3, none, (.move (.tmp 0))⟩,
  ⟨some 4, none, (.binOp .eql 48 (.tmp 3) (.const (.pointer none)) 48)⟩] [0, 4]
@[simp] noncomputable def F32_r2 : CC := .reg [⟨some 2, none, (.assign (.const (.int .i64 0)))⟩] [2]
@[simp] noncomputable def F32_r3 : CC := .reg [⟨some 5, none, (.move (.tmp 0))⟩,
  ⟨some 6, none, (.nilCheck (.tmp 5))⟩,
  ⟨some 7, none, (.fieldAddr 78 (.tmp 6) 0)⟩,
  ⟨some 8, none, (.load 76 (.tmp 7))⟩,
  ⟨some 9, none, (.call { callee := (.builtin .len), args := #[(.tmp 8)], argTypes := #[76] })⟩,
  ⟨some 2, none, (.assign (.tmp 9))⟩] [2]
noncomputable def F32 : CC := (.seq F32_r0 (.seq (.seq F32_r1 (.cond (.tmp 4) (.seq F32_r2 .ret) .skip)) (.seq F32_r3 .ret)))
noncomputable def F32_inf : Nat → RI
  | 0 => ⟨[0], [], []⟩
  | 1 => ⟨[0, 4], [], []⟩
  | 2 => ⟨[2], [], []⟩
  | 3 => ⟨[2], [], []⟩
  | _ => ⟨[], [], []⟩
noncomputable def F32_c : Code := Try.f32.body.getD .skip
theorem F32_b : Try.f32.body = some F32_c := by kernel_rfl
theorem F32_rs : Try.f32.results.toList = ([.tmp 2] : List ResultVar) := by kernel_rfl
theorem F32_n : Try.f32.ntmps = 10 := by kernel_rfl
theorem F32_ok : toCC [] 10 F32_inf F32_c = some F32 := by kernel_rfl
theorem F32_in {args : List AV} {G : Hp} {post : AV → Hp → Prop} (ha : args.all AV.plain = true) (hn : args.length ≤ 10) (h : BDs args → awp Try.prog [] F32 (AEnds Try.prog [.tmp 2] post) (initT args) G) : ACalls Try.prog 32 args G post :=
  acalls_cc Try.func32 F32_b F32_rs F32_n F32_ok mixed ha hn h

/- 33 (*ostiary/shelf.Shelf[string, int]).Vals -/
@[simp] noncomputable def F33_r0 : CC := .reg [⟨some 2, none, (.assign (.const (.slice none 0 0)))⟩] [0]
@[simp] noncomputable def F33_r1 : CC := .reg [⟨some 3, none, (.assign (.const (.slice none 0 0)))⟩] [0, 3]
@[simp] noncomputable def F33_r2 : CC := .reg [⟨some 5, none, (.move (.tmp 0))⟩,
  ⟨some 6, none, (.call { callee := (.value (.func 32)), args := #[(.tmp 5)], argTypes := #[48] })⟩,
  ⟨some 7, none, (.move (.const (.int .i64 0)))⟩] [0, 3, 6, 7]
@[simp] noncomputable def F33_r3 : CC := .reg [⟨some 8, none, (.binOp .lss 3 (.tmp 7) (.tmp 6) 3)⟩] [0, 3, 6, 7, 8]
@[simp] noncomputable def F33_r4 : CC := .reg [⟨some 9, none, (.move (.tmp 7))⟩,
  ⟨some 4, none, (.assign (.tmp 9))⟩] [0, 3, 4, 6, 7]
@[simp] noncomputable def F33_r5 : CC := .reg [⟨some 10, none, (.move (.tmp 3))⟩,
  ⟨some 11, none, (.move (.tmp 0))⟩,
  ⟨some 12, none, (.nilCheck (.tmp 11))⟩,
  ⟨some 13, none, (.fieldAddr 78 (.tmp 12) 0)⟩,
  ⟨some 14, none, (.load 76 (.tmp 13))⟩,
  ⟨some 15, none, (.move (.tmp 4))⟩,
  ⟨some 16, none, (.indexAddr 76 (.tmp 14) (.tmp 15))⟩,
  ⟨some 17, none, (.fieldAddr 90 (.tmp 16) 1)⟩,
  ⟨some 18, none, (.load 3 (.tmp 17))⟩,
  ⟨some 19, none, (.buildSlice 22 1 #[(0, (.tmp 18))])⟩,
  ⟨some 20, none, (.call { callee := (.builtin .append), args := #[(.tmp 10), (.tmp 19)], argTypes := #[22, 22] })⟩,
  ⟨some 3, none, (.assign (.tmp 20))⟩] [0, 3, 6, 7]
@[simp] noncomputable def F33_r6 : CC := .reg [⟨some 21, none, (.binOp .add 3 (.tmp 7) (.const (.int .i64 1)) 3)⟩,
  ⟨some 7, none, (.move (.tmp 21))⟩] [0, 3, 6, 7]
noncomputable def F33_l0 : CC := (.seq F33_r3 (.seq (.cond (.tmp 8) .skip (.exit 0)) (.seq (.block 1 (.seq F33_r4 F33_r5)) F33_r6)))
@[simp] noncomputable def F33_r7 : CC := .reg [⟨some 22, none, (.move (.tmp 3))⟩,
  ⟨some 2, none, (.assign (.tmp 22))⟩] [2]
noncomputable def F33 : CC := (.seq F33_r0 (.seq F33_r1 (.seq (.seq F33_r2 (.block 0 (.loop F33_l0))) (.seq F33_r7 .ret))))
noncomputable def F33_inf : Nat → RI
  | 0 => ⟨[0], [], []⟩
  | 1 => ⟨[0, 3], [], []⟩
  | 2 => ⟨[0, 3, 6, 7], [], []⟩
  | 3 => ⟨[0, 3, 6, 7, 8], [], []⟩
  | 4 => ⟨[0, 3, 4, 6, 7], [], []⟩
  | 5 => ⟨[0, 3, 6, 7], [], []⟩
  | 6 => ⟨[0, 3, 6, 7], [], []⟩
  | 7 => ⟨[2], [], []⟩
  | _ => ⟨[], [], []⟩
noncomputable def F33_c : Code := Try.f33.body.getD .skip
theorem F33_b : Try.f33.body = some F33_c := by kernel_rfl
theorem F33_rs : Try.f33.results.toList = ([.tmp 2] : List ResultVar) := by kernel_rfl
theorem F33_n : Try.f33.ntmps = 23 := by kernel_rfl
theorem F33_ok : toCC [] 23 F33_inf F33_c = some F33 := by kernel_rfl
theorem F33_in {args : List AV} {G : Hp} {post : AV → Hp → Prop} (ha : args.all AV.plain = true) (hn : args.length ≤ 23) (h : BDs args → awp Try.prog [] F33 (AEnds Try.prog [.tmp 2] post) (initT args) G) : ACalls Try.prog 33 args G post :=
  acalls_cc Try.func33 F33_b F33_rs F33_n F33_ok mixed ha hn h

/- 34 (*ostiary/shelf.Shelf[int, int]).find -/
@[simp] noncomputable def F34_r0 : CC := .reg [⟨some 4, none, (.assign (.const (.int .i64 0)))⟩,
  ⟨some 5, none, (.assign (.const (.bool false)))⟩] [0, 1]
@[simp] noncomputable def F34_r1 : CC := .drw [⟨0, ⟨some 9, none, (.move (.tmp 0))⟩, [], []⟩,
  ⟨1, ⟨some 10, none, (.nilCheck (.tmp 9))⟩, [], []⟩,
  ⟨2, ⟨some 11, none, (.fieldAddr 61 (.tmp 10) 0)⟩, [], []⟩,
  ⟨3, ⟨some 12, none, (.load 59 (.tmp 11))⟩, [], []⟩,
  ⟨4, ⟨some 13, none, (.call { callee := (.builtin .len), args := #[(.tmp 12)], argTypes := #[59] })⟩, [], []⟩,
  ⟨5, ⟨some 6, none, (.assign (.const (.int .i64 0)))⟩, [], []⟩,
  ⟨6, ⟨some 7, none, (.assign (.tmp 13))⟩, [], []⟩] [9, 10, 11, 12, 13, 6, 7] [0, 1, 6, 7]
@[simp] noncomputable def F34_r2 : CC := .reg [⟨some 14, none, (.move (.tmp 6))⟩,
  ⟨some 15, none, (.move (.tmp 7))⟩,
  ⟨some 16, none, (.binOp .lss 3 (.tmp 14) (.tmp 15) 3)⟩] [0, 1, 6, 7, 16]
@[simp] noncomputable def F34_r3 : CC := .reg [⟨some 17, none, (.move (.tmp 6))⟩,
  ⟨some 18, none, (.move (.tmp 7))⟩,
  ⟨some 19, none, (.move (.tmp 6))⟩,
  ⟨some 20, none, (.binOp .sub 3 (.tmp 18) (.tmp 19) 3)⟩,
  ⟨some 21, none, (.binOp .quo 3 (.tmp 20) (.const (.int .i64 2)) 3)⟩,
  ⟨some 22, none, (.binOp .add 3 (.tmp 17) (.tmp 21) 3)⟩,
  ⟨some 8, none, (.assign (.tmp 22))⟩] [0, 1, 6, 7, 8]
@[simp] noncomputable def F34_r4 : CC := .reg [⟨some 23, none, (.move (.tmp 0))⟩,
  ⟨some 24, none, (.nilCheck (.tmp 23))⟩,
  ⟨some 25, none, (.fieldAddr 61 (.tmp 24) 0)⟩,
  ⟨some 26, none, (.load 59 (.tmp 25))⟩,
  ⟨some 27, none, (.move (.tmp 8))⟩,
  ⟨some 28, none, (.indexAddr 59 (.tmp 26) (.tmp 27))⟩,
  ⟨some 29, none, (.fieldAddr 63 (.tmp 28) 0)⟩,
  ⟨some 30, none, (.load 3 (.tmp 29))⟩,
  ⟨some 31, none, (.move (.tmp 1))⟩,
  ⟨some 32, none, (.binOp .lss 3 (.tmp 30) (.tmp 31) 3)⟩] [0, 1, 6, 7, 8, 32]
@[simp] noncomputable def F34_r5 : CC := .reg [⟨some 33, none, (.move (.tmp 8))⟩,
  ⟨some 34, none, (.binOp .add 3 (.tmp 33) (.const (.int .i64 1)) 3)⟩,
  ⟨some 6, none, (.assign (.tmp 34))⟩] [0, 1, 6, 7]
@[simp] noncomputable def F34_r6 : CC := .reg [⟨some 35, none, (.move (.tmp 8))⟩,
  ⟨some 7, none, (.assign (.tmp 35))⟩] [0, 1, 6, 7]
noncomputable def F34_l0 : CC := (.seq (.seq F34_r2 (.cond (.tmp 16) .skip (.exit 0))) (.block 1 (.seq F34_r3 (.seq F34_r4 (.cond (.tmp 32) F34_r5 F34_r6)))))
@[simp] noncomputable def F34_r7 : CC := .drw [⟨0, ⟨some 36, none, (.move (.tmp 6))⟩, [], []⟩,
  ⟨1, ⟨some 37, none, (.move (.tmp 6))⟩, [], []⟩,
  ⟨2, ⟨some 38, none, (.move (.tmp 0))⟩, [], []⟩,
  ⟨3, ⟨some 39, none, (.nilCheck (.tmp 38))⟩, [], []⟩,
  ⟨4, ⟨some 40, none, (.fieldAddr 61 (.tmp 39) 0)⟩, [], []⟩,
  ⟨5, ⟨some 41, none, (.load 59 (.tmp 40))⟩, [], []⟩,
  ⟨6, ⟨some 42, none, (.call { callee := (.builtin .len), args := #[(.tmp 41)], argTypes := #[59] })⟩, [], []⟩,
  ⟨7, ⟨some 43, none, (.binOp .lss 3 (.tmp 37) (.tmp 42) 3)⟩, [], []⟩,
  ⟨8, ⟨some 44, none, (.move (.tmp 43))⟩, [], []⟩,
  ⟨9, ⟨some 45, some (44, true), (.move (.tmp 0))⟩, [], []⟩,
  ⟨10, ⟨some 46, some (44, true), (.nilCheck (.tmp 45))⟩, [], []⟩,
  ⟨11, ⟨some 47, some (44, true), (.fieldAddr 61 (.tmp 46) 0)⟩, [], []⟩,
  ⟨12, ⟨some 48, some (44, true), (.load 59 (.tmp 47))⟩, [], []⟩,
  ⟨13, ⟨some 49, some (44, true), (.move (.tmp 6))⟩, [], []⟩,
  ⟨14, ⟨some 50, some (44, true), (.indexAddr 59 (.tmp 48) (.tmp 49))⟩, [], []⟩,
  ⟨15, ⟨some 51, some (44, true), (.fieldAddr 63 (.tmp 50) 0)⟩, [], []⟩,
  ⟨16, ⟨some 52, some (44, true), (.load 3 (.tmp 51))⟩, [], []⟩,
  ⟨17, ⟨some 53, some (44, true), (.move (.tmp 1))⟩, [], []⟩,
  ⟨18, ⟨some 54, some (44, true), (.binOp .eql 3 (.tmp 52) (.tmp 53) 3)⟩, [], []⟩,
  ⟨19, ⟨some 55, none, (.pick (.tmp 44) (.tmp 54) (.const (.bool false)))⟩, [], []⟩,
  ⟨20, ⟨some 4, none, (.assign (.tmp 36))⟩, [], []⟩,
  ⟨21, ⟨some 5, none, (.assign (.tmp 55))⟩, [], []⟩] [36, 37, 38, 39, 40, 41, 42, 43, 44, 45, 46, 47, 48, 49, 50, 51, 52, 53, 54, 55, 4, 5] [4, 5]
noncomputable def F34 : CC := (.seq F34_r0 (.seq F34_r1 (.seq (.block 0 (.loop F34_l0)) (.seq F34_r7 .ret))))
noncomputable def F34_inf : Nat → RI
  | 0 => ⟨[0, 1], [], []⟩
  | 1 => ⟨[0, 1, 6, 7], [0, 1, 3, 7, 15, 0, 63], [(0, []), (1, []), (2, []), (3, []), (4, []), (5, []), (6, [])]⟩
  | 2 => ⟨[0, 1, 6, 7, 16], [], []⟩
  | 3 => ⟨[0, 1, 6, 7, 8], [], []⟩
  | 4 => ⟨[0, 1, 6, 7, 8, 32], [], []⟩
  | 5 => ⟨[0, 1, 6, 7], [], []⟩
  | 6 => ⟨[0, 1, 6, 7], [], []⟩
  | 7 => ⟨[4, 5], [0, 0, 0, 4, 12, 28, 60, 126, 254, 510, 1022, 2046, 4094, 510, 16382, 32766, 65534, 510, 262142, 524286, 511, 2097151], [(0, []), (1, []), (2, []), (3, []), (4, []), (5, []), (6, []), (7, []), (8, []), (9, []), (10, []), (11, []), (12, []), (13, []), (14, []), (15, []), (16, []), (17, []), (18, []), (19, []), (20, []), (21, [])]⟩
  | _ => ⟨[], [], []⟩
noncomputable def F34_c : Code := Try.f34.body.getD .skip
theorem F34_b : Try.f34.body = some F34_c := by kernel_rfl
theorem F34_rs : Try.f34.results.toList = ([.tmp 4, .tmp 5] : List ResultVar) := by kernel_rfl
theorem F34_n : Try.f34.ntmps = 56 := by kernel_rfl
theorem F34_ok : toCC [] 56 F34_inf F34_c = some F34 := by kernel_rfl
theorem F34_in {args : List AV} {G : Hp} {post : AV → Hp → Prop} (ha : args.all AV.plain = true) (hn : args.length ≤ 56) (h : BDs args → awp Try.prog [] F34 (AEnds Try.prog [.tmp 4, .tmp 5] post) (initT args) G) : ACalls Try.prog 34 args G post :=
  acalls_cc Try.func34 F34_b F34_rs F34_n F34_ok mixed ha hn h

/- 35 slices.Insert[[]ostiary/shelf.slot[int, int],ostiary/shelf.slot[int, int]] -/
@[simp] noncomputable def F35_r0 : CC := .reg [⟨some 6, none, (.assign (.const (.slice none 0 0)))⟩] [0, 1, 2]
@[simp] noncomputable def F35_r1 : CC := .reg [⟨some 10, none, (.move (.tmp 0))⟩,
  ⟨some 11, none, (.move (.tmp 1))⟩,
  ⟨some 12, none, (.slice 59 (.tmp 10) (some (.tmp 11)) none none)⟩] [0, 1, 2]
@[simp] noncomputable def F35_r2 : CC := .reg [⟨some 13, none, (.move (.tmp 2))⟩,
  ⟨some 14, none, (.call { callee := (.builtin .len), args := #[(.tmp 13)], argTypes := #[59] })⟩,
  ⟨some 7, none, (.assign (.tmp 14))⟩] [0, 1, 2, 7]
@[simp] noncomputable def F35_r3 : CC := .reg [⟨some 15, none, (.move (.tmp 7))⟩,
  ⟨some 16, none, (.binOp .eql 3 (.tmp 15) (.const (.int .i64 0)) 3)⟩] [0, 1, 2, 7, 16]
@[simp] noncomputable def F35_r4 : CC := .reg [⟨some 17, none, (.move (.tmp 0))⟩,
  ⟨some 6, none, (.assign (.tmp 17))⟩] [6]
@[simp] noncomputable def F35_r5 : CC := .reg [⟨some 18, none, (.move (.tmp 0))⟩,
  ⟨some 19, none, (.call { callee := (.builtin .len), args := #[(.tmp 18)], argTypes := #[59] })⟩,
  ⟨some 8, none, (.assign (.tmp 19))⟩] [0, 1, 2, 7, 8]
@[simp] noncomputable def F35_r6 : CC := .reg [⟨some 20, none, (.move (.tmp 1))⟩,
  ⟨some 21, none, (.move (.tmp 8))⟩,
  ⟨some 22, none, (.binOp .eql 3 (.tmp 20) (.tmp 21) 3)⟩] [0, 1, 2, 7, 8, 22]
@[simp] noncomputable def F35_r7 : CC := .reg [⟨some 23, none, (.move (.tmp 0))⟩,
  ⟨some 24, none, (.move (.tmp 2))⟩,
  ⟨some 25, none, (.call { callee := (.builtin .append), args := #[(.tmp 23), (.tmp 24)], argTypes := #[59, 59] })⟩,
  ⟨some 6, none, (.assign (.tmp 25))⟩] [6]
@[simp] noncomputable def F35_r8 : CC := .reg [⟨some 26, none, (.move (.tmp 8))⟩,
  ⟨some 27, none, (.move (.tmp 7))⟩,
  ⟨some 28, none, (.binOp .add 3 (.tmp 26) (.tmp 27) 3)⟩,
  ⟨some 29, none, (.move (.tmp 0))⟩,
  ⟨some 30, none, (.call { callee := (.builtin .cap), args := #[(.tmp 29)], argTypes := #[59] })⟩,
  ⟨some 31, none, (.binOp .gtr 3 (.tmp 28) (.tmp 30) 3)⟩] [0, 1, 2, 7, 8, 31]
@[simp] noncomputable def F35_r9 : CC := .reg [⟨some 32, none, (.move (.tmp 0))⟩,
  ⟨some 33, none, (.move (.tmp 1))⟩,
  ⟨some 34, none, (.slice 59 (.tmp 32) none (some (.tmp 33)) none)⟩,
  ⟨some 35, none, (.move (.tmp 8))⟩,
  ⟨some 36, none, (.move (.tmp 7))⟩,
  ⟨some 37, none, (.binOp .add 3 (.tmp 35) (.tmp 36) 3)⟩,
  ⟨some 38, none, (.move (.tmp 1))⟩,
  ⟨some 39, none, (.binOp .sub 3 (.tmp 37) (.tmp 38) 3)⟩,
  ⟨some 40, none, (.call { callee := (.builtin .append), args := #[(.tmp 34), (.tmp 39)], argTypes := #[59, 3] })⟩,
  ⟨some 9, none, (.assign (.tmp 40))⟩] [0, 1, 2, 7, 9]
@[simp] noncomputable def F35_r10 : CC := .reg [⟨some 41, none, (.move (.tmp 9))⟩,
  ⟨some 42, none, (.move (.tmp 1))⟩,
  ⟨some 43, none, (.slice 59 (.tmp 41) (some (.tmp 42)) none none)⟩,
  ⟨some 44, none, (.move (.tmp 2))⟩,
  ⟨some 45, none, (.call { callee := (.builtin .copy), args := #[(.tmp 43), (.tmp 44)], argTypes := #[59, 59] })⟩] [0, 1, 7, 9]
@[simp] noncomputable def F35_r11 : CC := .drw [⟨0, ⟨some 46, none, (.move (.tmp 9))⟩, [], []⟩,
  ⟨1, ⟨some 47, none, (.move (.tmp 1))⟩, [], []⟩,
  ⟨2, ⟨some 48, none, (.move (.tmp 7))⟩, [], []⟩,
  ⟨3, ⟨some 49, none, (.binOp .add 3 (.tmp 47) (.tmp 48) 3)⟩, [], []⟩,
  ⟨4, ⟨some 50, none, (.slice 59 (.tmp 46) (some (.tmp 49)) none none)⟩, [], []⟩,
  ⟨5, ⟨some 51, none, (.move (.tmp 0))⟩, [], []⟩,
  ⟨6, ⟨some 52, none, (.move (.tmp 1))⟩, [], []⟩,
  ⟨7, ⟨some 53, none, (.slice 59 (.tmp 51) (some (.tmp 52)) none none)⟩, [], []⟩,
  ⟨8, ⟨some 54, none, (.call { callee := (.builtin .copy), args := #[(.tmp 50), (.tmp 53)], argTypes := #[59, 59] })⟩, [], []⟩] [46, 47, 48, 49, 50, 51, 52, 53, 54] [9]
@[simp] noncomputable def F35_r12 : CC := .reg [⟨some 55, none, (.move (.tmp 9))⟩,
  ⟨some 6, none, (.assign (.tmp 55))⟩] [6]
@[simp] noncomputable def F35_r13 : CC := .reg [⟨some 56, none, (.move (.tmp 0))⟩,
  ⟨some 57, none, (.move (.tmp 8))⟩,
  ⟨some 58, none, (.move (.tmp 7))⟩,
  ⟨some 59, none, (.binOp .add 3 (.tmp 57) (.tmp 58) 3)⟩,
  ⟨some 60, none, (.slice 59 (.tmp 56) none (some (.tmp 59)) none)⟩,
  ⟨some 0, none, (.assign (.tmp 60))⟩] [0, 1, 2, 7, 8]
@[simp] noncomputable def F35_r14 : CC := .reg [⟨some 61, none, (.move (.tmp 2))⟩,
  ⟨some 62, none, (.move (.tmp 0))⟩,
  ⟨some 63, none, (.move (.tmp 1))⟩,
  ⟨some 64, none, (.move (.tmp 7))⟩,
  ⟨some 65, none, (.binOp .add 3 (.tmp 63) (.tmp 64) 3)⟩,
  ⟨some 66, none, (.slice 59 (.tmp 62) (some (.tmp 65)) none none)⟩,
  ⟨some 67, none, (.call { callee := (.value (.func 53)), args := #[(.tmp 61), (.tmp 66)], argTypes := #[59, 59] })⟩,
  ⟨some 68, none, (.unOp .not 4 (.tmp 67))⟩] [0, 1, 2, 7, 8, 68]
@[simp] noncomputable def F35_r15 : CC := .drw [⟨0, ⟨some 69, none, (.move (.tmp 0))⟩, [], []⟩,
  ⟨1, ⟨some 70, none, (.move (.tmp 1))⟩, [], []⟩,
  ⟨2, ⟨some 71, none, (.move (.tmp 7))⟩, [], []⟩,
  ⟨3, ⟨some 72, none, (.binOp .add 3 (.tmp 70) (.tmp 71) 3)⟩, [], []⟩,
  ⟨4, ⟨some 73, none, (.slice 59 (.tmp 69) (some (.tmp 72)) none none)⟩, [], []⟩,
  ⟨5, ⟨some 74, none, (.move (.tmp 0))⟩, [], []⟩,
  ⟨6, ⟨some 75, none, (.move (.tmp 1))⟩, [], []⟩,
  ⟨7, ⟨some 76, none, (.slice 59 (.tmp 74) (some (.tmp 75)) none none)⟩, [], []⟩,
  ⟨8, ⟨some 77, none, (.call { callee := (.builtin .copy), args := #[(.tmp 73), (.tmp 76)], argTypes := #[59, 59] })⟩, [], []⟩] [69, 70, 71, 72, 73, 74, 75, 76, 77] [0, 1, 2]
@[simp] noncomputable def F35_r16 : CC := .reg [⟨some 78, none, (.move (.tmp 0))⟩,
  ⟨some 79, none, (.move (.tmp 1))⟩,
  ⟨some 80, none, (.slice 59 (.tmp 78) (some (.tmp 79)) none none)⟩,
  ⟨some 81, none, (.move (.tmp 2))⟩,
  ⟨some 82, none, (.call { callee := (.builtin .copy), args := #[(.tmp 80), (.tmp 81)], argTypes := #[59, 59] })⟩] [0]
@[simp] noncomputable def F35_r17 : CC := .reg [⟨some 83, none, (.move (.tmp 0))⟩,
  ⟨some 6, none, (.assign (.tmp 83))⟩] [6]
@[simp] noncomputable def F35_r18 : CC := .reg [⟨some 84, none, (.move (.tmp 0))⟩,
  ⟨some 85, none, (.move (.tmp 8))⟩,
  ⟨some 86, none, (.slice 59 (.tmp 84) (some (.tmp 85)) none none)⟩,
  ⟨some 87, none, (.move (.tmp 2))⟩,
  ⟨some 88, none, (.call { callee := (.builtin .copy), args := #[(.tmp 86), (.tmp 87)], argTypes := #[59, 59] })⟩] [0, 1, 7]
@[simp] noncomputable def F35_r19 : CC := .reg [⟨some 89, none, (.move (.tmp 0))⟩,
  ⟨some 90, none, (.move (.tmp 1))⟩,
  ⟨some 91, none, (.slice 59 (.tmp 89) (some (.tmp 90)) none none)⟩,
  ⟨some 92, none, (.move (.tmp 7))⟩,
  ⟨some 93, none, (.call { callee := (.value (.func 54)), args := #[(.tmp 91), (.tmp 92)], argTypes := #[59, 3] })⟩] [0]
@[simp] noncomputable def F35_r20 : CC := .reg [⟨some 94, none, (.move (.tmp 0))⟩,
  ⟨some 6, none, (.assign (.tmp 94))⟩] [6]
noncomputable def F35 : CC := (.seq F35_r0 (.seq F35_r1 (.seq F35_r2 (.seq (.seq F35_r3 (.cond (.tmp 16) (.seq F35_r4 .ret) .skip)) (.seq F35_r5 (.seq (.seq F35_r6 (.cond (.tmp 22) (.seq F35_r7 .ret) .skip)) (.seq (.seq F35_r8 (.cond (.tmp 31) (.seq F35_r9 (.seq F35_r10 (.seq F35_r11 (.seq F35_r12 .ret)))) .skip)) (.seq F35_r13 (.seq (.seq F35_r14 (.cond (.tmp 68) (.seq F35_r15 (.seq F35_r16 (.seq F35_r17 .ret))) .skip)) (.seq F35_r18 (.seq F35_r19 (.seq F35_r20 .ret))))))))))))
noncomputable def F35_inf : Nat → RI
  | 0 => ⟨[0, 1, 2], [], []⟩
  | 1 => ⟨[0, 1, 2], [], []⟩
  | 2 => ⟨[0, 1, 2, 7], [], []⟩
  | 3 => ⟨[0, 1, 2, 7, 16], [], []⟩
  | 4 => ⟨[6], [], []⟩
  | 5 => ⟨[0, 1, 2, 7, 8], [], []⟩
  | 6 => ⟨[0, 1, 2, 7, 8, 22], [], []⟩
  | 7 => ⟨[6], [], []⟩
  | 8 => ⟨[0, 1, 2, 7, 8, 31], [], []⟩
  | 9 => ⟨[0, 1, 2, 7, 9], [], []⟩
  | 10 => ⟨[0, 1, 7, 9], [], []⟩
  | 11 => ⟨[9], [0, 0, 0, 6, 15, 0, 0, 96, 255], [(0, []), (1, []), (2, []), (3, []), (4, []), (5, []), (6, []), (7, []), (8, [])]⟩
  | 12 => ⟨[6], [], []⟩
  | 13 => ⟨[0, 1, 2, 7, 8], [], []⟩
  | 14 => ⟨[0, 1, 2, 7, 8, 68], [], []⟩
  | 15 => ⟨[0, 1, 2], [0, 0, 0, 6, 15, 0, 0, 96, 255], [(0, []), (1, []), (2, []), (3, []), (4, []), (5, []), (6, []), (7, []), (8, [])]⟩
  | 16 => ⟨[0], [], []⟩
  | 17 => ⟨[6], [], []⟩
  | 18 => ⟨[0, 1, 7], [], []⟩
  | 19 => ⟨[0], [], []⟩
  | 20 => ⟨[6], [], []⟩
  | _ => ⟨[], [], []⟩
noncomputable def F35_c : Code := Try.f35.body.getD .skip
theorem F35_b : Try.f35.body = some F35_c := by kernel_rfl
theorem F35_rs : Try.f35.results.toList = ([.tmp 6] : List ResultVar) := by kernel_rfl
theorem F35_n : Try.f35.ntmps = 95 := by kernel_rfl
theorem F35_ok : toCC [] 95 F35_inf F35_c = some F35 := by kernel_rfl
theorem F35_in {args : List AV} {G : Hp} {post : AV → Hp → Prop} (ha : args.all AV.plain = true) (hn : args.length ≤ 95) (h : BDs args → awp Try.prog [] F35 (AEnds Try.prog [.tmp 6] post) (initT args) G) : ACalls Try.prog 35 args G post :=
  acalls_cc Try.func35 F35_b F35_rs F35_n F35_ok mixed ha hn h

/- 36 ostiary/shelf.NewShelf[int,string] -/
@[simp] noncomputable def F36_r0 : CC := .reg [⟨some 2, none, (.assign (.const (.pointer none)))⟩] [0]
@[simp] noncomputable def F36_r1 : CC := .reg [⟨some 3, none, (.move (.tmp 0))⟩,
  ⟨some 4, none, (.call { callee := (.builtin .max), args := #[(.tmp 3), (.const (.int .i64 0))], argTypes := #[3, 3] })⟩,
  ⟨some 5, none, (.build 95 #[(1, (.tmp 4))])⟩,
  ⟨some 6, none, (.box 95 (.tmp 5))⟩,
  ⟨some 2, none, (.assign (.tmp 6))⟩] [2]
noncomputable def F36 : CC := (.seq F36_r0 (.seq F36_r1 .ret))
noncomputable def F36_inf : Nat → RI
  | 0 => ⟨[0], [], []⟩
  | 1 => ⟨[2], [], []⟩
  | _ => ⟨[], [], []⟩
noncomputable def F36_c : Code := Try.f36.body.getD .skip
theorem F36_b : Try.f36.body = some F36_c := by kernel_rfl
theorem F36_rs : Try.f36.results.toList = ([.tmp 2] : List ResultVar) := by kernel_rfl
theorem F36_n : Try.f36.ntmps = 7 := by kernel_rfl
theorem F36_ok : toCC [6] 7 F36_inf F36_c = some F36 := by kernel_rfl
theorem F36_in {args : List AV} {G : Hp} {post : AV → Hp → Prop} (ha : args.all AV.plain = true) (hn : args.length ≤ 7) (h : BDs args → awp Try.prog [6] F36 (AEnds Try.prog [.tmp 2] post) (initT args) G) : ACalls Try.prog 36 args G post :=
  acalls_cc Try.func36 F36_b F36_rs F36_n F36_ok mixed ha hn h

/- 37 (*ostiary/shelf.Shelf[int, string]).Set -/
@[simp] noncomputable def F37_r0 : CC := .reg [⟨some 6, none, (.assign (.const (.int .i64 0)))⟩] [0, 1, 2]
@[simp] noncomputable def F37_r1 : CC := .reg [⟨some 9, none, (.move (.tmp 0))⟩,
  ⟨some 10, none, (.binOp .eql 65 (.tmp 9) (.const (.pointer none)) 65)⟩] [0, 1, 2, 10]
@[simp] noncomputable def F37_r2 : CC := .reg [⟨some 6, none, (.assign (.const (.int .i64 11)))⟩] [6]
@[simp] noncomputable def F37_r3 : CC := .reg [⟨some 12, none, (.move (.tmp 0))⟩,
  ⟨some 13, none, (.move (.tmp 1))⟩,
  ⟨some 14, none, (.call { callee := (.value (.func 55)), args := #[(.tmp 12), (.tmp 13)], argTypes := #[65, 3] })⟩,
  ⟨some 11, none, (.move (.tmp 14))⟩,
  ⟨some 15, none, (.extract (.tmp 11) 0)⟩,
  ⟨some 16, none, (.extract (.tmp 11) 1)⟩,
  ⟨some 7, none, (.assign (.tmp 15))⟩,
  ⟨some 8, none, (.assign (.tmp 16))⟩] [0, 1, 2, 7, 8]
@[simp] noncomputable def F37_r5 : CC := .reg [⟨some 31, none, (.move (.tmp 8))⟩,
  ⟨some 30, none, (.assign (.tmp 31))⟩] [0, 1, 2, 7, 30]
@[simp] noncomputable def F37_r6 : CC := .reg [⟨some 32, none, (.move (.tmp 0))⟩,
  ⟨some 33, none, (.nilCheck (.tmp 32))⟩,
  ⟨some 34, none, (.fieldAddr 95 (.tmp 33) 0)⟩,
  ⟨some 35, none, (.load 93 (.tmp 34))⟩,
  ⟨some 36, none, (.move (.tmp 7))⟩,
  ⟨some 37, none, (.move (.tmp 2))⟩,
  ⟨some 38, none, (.indexAddr 93 (.tmp 35) (.tmp 36))⟩,
  ⟨some 39, none, (.fieldAddr 97 (.tmp 38) 1)⟩,
  ⟨none, none, (.store 9 (.tmp 39) (.tmp 37))⟩] []
@[simp] noncomputable def F37_r7 : CC := .drw [⟨0, ⟨some 41, none, (.move (.tmp 0))⟩, [], []⟩,
  ⟨1, ⟨some 42, none, (.nilCheck (.tmp 41))⟩, [], []⟩,
  ⟨2, ⟨some 43, none, (.fieldAddr 95 (.tmp 42) 0)⟩, [], []⟩,
  ⟨3, ⟨some 44, none, (.load 93 (.tmp 43))⟩, [], []⟩,
  ⟨4, ⟨some 45, none, (.call { callee := (.builtin .len), args := #[(.tmp 44)], argTypes := #[93] })⟩, [], []⟩,
  ⟨5, ⟨some 46, none, (.move (.tmp 0))⟩, [], []⟩,
  ⟨6, ⟨some 47, none, (.nilCheck (.tmp 46))⟩, [], []⟩,
  ⟨7, ⟨some 48, none, (.fieldAddr 95 (.tmp 47) 1)⟩, [], []⟩,
  ⟨8, ⟨some 49, none, (.load 3 (.tmp 48))⟩, [], []⟩,
  ⟨9, ⟨some 50, none, (.binOp .geq 3 (.tmp 45) (.tmp 49) 3)⟩, [], []⟩,
  ⟨10, ⟨some 40, none, (.assign (.tmp 50))⟩, [], []⟩] [41, 42, 43, 44, 45, 46, 47, 48, 49, 50, 40] [0, 1, 2, 7, 40]
@[simp] noncomputable def F37_r8 : CC := .reg [⟨some 6, none, (.assign (.const (.int .i64 4)))⟩] [6]
@[simp] noncomputable def F37_r4 : CC := .reg [⟨some 17, none, (.move (.tmp 0))⟩,
  ⟨some 18, none, (.move (.tmp 0))⟩,
  ⟨some 19, none, (.nilCheck (.tmp 18))⟩,
  ⟨some 20, none, (.fieldAddr 95 (.tmp 19) 0)⟩,
  ⟨some 21, none, (.load 93 (.tmp 20))⟩,
  ⟨some 22, none, (.move (.tmp 7))⟩,
  ⟨some 23, none, (.move (.tmp 1))⟩,
  ⟨some 24, none, (.move (.tmp 2))⟩,
  ⟨some 25, none, (.build 97 #[(0, (.tmp 23)), (1, (.tmp 24))])⟩,
  ⟨some 26, none, (.buildSlice 93 1 #[(0, (.tmp 25))])⟩,
  ⟨some 27, none, (.call { callee := (.value (.func 56)), args := #[(.tmp 21), (.tmp 22), (.tmp 26)], argTypes := #[93, 3, 93] })⟩,
  ⟨some 28, none, (.nilCheck (.tmp 17))⟩,
  ⟨some 29, none, (.fieldAddr 95 (.tmp 28) 0)⟩,
  ⟨none, none, (.store 93 (.tmp 29) (.tmp 27))⟩] []
@[simp] noncomputable def F37_r9 : CC := .reg [⟨some 6, none, (.assign (.const (.int .i64 0)))⟩] [6]
noncomputable def F37 : CC := (.seq F37_r0 (.seq (.seq F37_r1 (.cond (.tmp 10) (.seq F37_r2 .ret) .skip)) (.seq F37_r3 (.seq (.block 0 (.seq F37_r5 (.cond (.tmp 30) F37_r6 (.seq F37_r7 (.cond (.tmp 40) (.seq F37_r8 .ret) F37_r4))))) (.seq F37_r9 .ret)))))
noncomputable def F37_inf : Nat → RI
  | 0 => ⟨[0, 1, 2], [], []⟩
  | 1 => ⟨[0, 1, 2, 10], [], []⟩
  | 2 => ⟨[6], [], []⟩
  | 3 => ⟨[0, 1, 2, 7, 8], [], []⟩
  | 5 => ⟨[0, 1, 2, 7, 30], [], []⟩
  | 6 => ⟨[], [], []⟩
  | 7 => ⟨[0, 1, 2, 7, 40], [0, 1, 3, 7, 15, 0, 32, 96, 224, 511, 1023], [(0, []), (1, []), (2, []), (3, []), (4, []), (5, []), (6, []), (7, []), (8, []), (9, []), (10, [])]⟩
  | 8 => ⟨[6], [], []⟩
  | 4 => ⟨[], [], []⟩
  | 9 => ⟨[6], [], []⟩
  | _ => ⟨[], [], []⟩
noncomputable def F37_c : Code := Try.f37.body.getD .skip
theorem F37_b : Try.f37.body = some F37_c := by kernel_rfl
theorem F37_rs : Try.f37.results.toList = ([.tmp 6] : List ResultVar) := by kernel_rfl
theorem F37_n : Try.f37.ntmps = 51 := by kernel_rfl
theorem F37_ok : toCC [] 51 F37_inf F37_c = some F37 := by kernel_rfl
theorem F37_in {args : List AV} {G : Hp} {post : AV → Hp → Prop} (ha : args.all AV.plain = true) (hn : args.length ≤ 51) (h : BDs args → awp Try.prog [] F37 (AEnds Try.prog [.tmp 6] post) (initT args) G) : ACalls Try.prog 37 args G post :=
  acalls_cc Try.func37 F37_b F37_rs F37_n F37_ok mixed ha hn h

/- 38 (*ostiary/shelf.Shelf[int, string]).Next -/
@[simp] noncomputable def F38_r0 : CC := .reg [⟨some 4, none, (.assign (.const (.int .i64 0)))⟩,
  ⟨some 5, none, (.assign (.const (.string { data := #[] })))⟩,
  ⟨some 6, none, (.assign (.const (.bool false)))⟩] [0, 1]
@[simp] noncomputable def F38_r1 : CC := .reg [⟨some 10, none, (.move (.tmp 0))⟩,
  ⟨some 11, none, (.binOp .neq 65 (.tmp 10) (.const (.pointer none)) 65)⟩] [0, 1, 11]
@[simp] noncomputable def F38_r2 : CC := .reg [⟨some 13, none, (.move (.tmp 0))⟩,
  ⟨some 14, none, (.move (.tmp 1))⟩,
  ⟨some 15, none, (.call { callee := (.value (.func 55)), args := #[(.tmp 13), (.tmp 14)], argTypes := #[65, 3] })⟩,
  ⟨some 12, none, (.move (.tmp 15))⟩,
  ⟨some 16, none, (.extract (.tmp 12) 0)⟩,
  ⟨some 17, none, (.extract (.tmp 12) 1)⟩,
  ⟨some 7, none, (.assign (.tmp 16))⟩,
  ⟨some 8, none, (.assign (.tmp 17))⟩] [0, 1, 7, 8]
@[simp] noncomputable def F38_r3 : CC := .reg [⟨some 18, none, (.move (.tmp 8))⟩] [0, 1, 7, 18]
@[simp] noncomputable def F38_r4 : CC := .reg [⟨some 19, none, (.move (.tmp 7))⟩,
  ⟨some 20, none, (.binOp .add 3 (.tmp 19) (.const (.int .i64 1)) 3)⟩,
  ⟨some 7, none, (.assign (.tmp 20))⟩] [0, 1, 7]
@[simp] noncomputable def F38_r5 : CC := .reg [⟨some 21, none, (.move (.tmp 7))⟩,
  ⟨some 22, none, (.move (.tmp 0))⟩,
  ⟨some 23, none, (.nilCheck (.tmp 22))⟩,
  ⟨some 24, none, (.fieldAddr 95 (.tmp 23) 0)⟩,
  ⟨some 25, none, (.load 93 (.tmp 24))⟩,
  ⟨some 26, none, (.call { callee := (.builtin .len), args := #[(.tmp 25)], argTypes := #[93] })⟩,
  ⟨some 27, none, (.binOp .lss 3 (.tmp 21) (.tmp 26) 3)⟩] [0, 1, 7, 27]
@[simp] noncomputable def F38_r6 : CC := .drw [⟨0, ⟨some 28, none, (.move (.tmp 0))⟩, [], []⟩,
  ⟨1, ⟨some 29, none, (.nilCheck (.tmp 28))⟩, [], []⟩,
  ⟨2, ⟨some 30, none, (.fieldAddr 95 (.tmp 29) 0)⟩, [], []⟩,
  ⟨3, ⟨some 31, none, (.load 93 (.tmp 30))⟩, [], []⟩,
  ⟨4, ⟨some 32, none, (.move (.tmp 7))⟩, [], []⟩,
  ⟨5, ⟨some 33, none, (.indexAddr 93 (.tmp 31) (.tmp 32))⟩, [], []⟩,
  ⟨6, ⟨some 34, none, (.fieldAddr 97 (.tmp 33) 0)⟩, [], []⟩,
  ⟨7, ⟨some 35, none, (.load 3 (.tmp 34))⟩, [], []⟩,
  ⟨8, ⟨some 36, none, (.move (.tmp 0))⟩, [], []⟩,
  ⟨9, ⟨some 37, none, (.nilCheck (.tmp 36))⟩, [], []⟩,
  ⟨10, ⟨some 38, none, (.fieldAddr 95 (.tmp 37) 0)⟩, [], []⟩,
  ⟨11, ⟨some 39, none, (.load 93 (.tmp 38))⟩, [], []⟩,
  ⟨12, ⟨some 40, none, (.move (.tmp 7))⟩, [], []⟩,
  ⟨13, ⟨some 41, none, (.indexAddr 93 (.tmp 39) (.tmp 40))⟩, [], []⟩,
  ⟨14, ⟨some 42, none, (.fieldAddr 97 (.tmp 41) 1)⟩, [], []⟩,
  ⟨15, ⟨some 43, none, (.load 9 (.tmp 42))⟩, [], []⟩,
  ⟨16, ⟨some 4, none, (.assign (.tmp 35))⟩, [], []⟩,
  ⟨17, ⟨some 5, none, (.assign (.tmp 43))⟩, [], []⟩,
  ⟨18, ⟨some 6, none, (.assign (.const (.bool true)))⟩, [], []⟩] [28, 29, 30, 31, 32, 33, 34, 35, 36, 37, 38, 39, 40, 41, 42, 43, 4, 5, 6] [4, 5, 6]
@[simp] noncomputable def F38_r7 : CC := .reg [⟨some 9, none, (.assign (.const (.string { data := #[] })))⟩] [1, 9]
@[simp] noncomputable def F38_r8 : CC := .reg [⟨some 44, none, (.move (.tmp 1))⟩,
  ⟨some 45, none, (.move (.tmp 9))⟩,
  ⟨some 4, none, (.assign (.tmp 44))⟩,
  ⟨some 5, none, (.assign (.tmp 45))⟩,
  ⟨some 6, none, (.assign (.const (.bool false)))⟩] [4, 5, 6]
noncomputable def F38 : CC := (.seq F38_r0 (.seq (.seq F38_r1 (.cond (.tmp 11) (.seq F38_r2 (.seq (.seq F38_r3 (.cond (.tmp 18) F38_r4 .skip)) (.seq F38_r5 (.cond (.tmp 27) (.seq F38_r6 .ret) .skip)))) .skip)) (.seq F38_r7 (.seq F38_r8 .ret))))
noncomputable def F38_inf : Nat → RI
  | 0 => ⟨[0, 1], [], []⟩
  | 1 => ⟨[0, 1, 11], [], []⟩
  | 2 => ⟨[0, 1, 7, 8], [], []⟩
  | 3 => ⟨[0, 1, 7, 18], [], []⟩
  | 4 => ⟨[0, 1, 7], [], []⟩
  | 5 => ⟨[0, 1, 7, 27], [], []⟩
  | 6 => ⟨[4, 5, 6], [0, 1, 3, 7, 0, 31, 63, 127, 0, 256, 768, 1792, 0, 7936, 16128, 32512, 255, 131071, 262143], [(0, []), (1, []), (2, []), (3, []), (4, []), (5, []), (6, []), (7, []), (8, []), (9, []), (10, []), (11, []), (12, []), (13, []), (14, []), (15, []), (16, []), (17, []), (18, [])]⟩
  | 7 => ⟨[1, 9], [], []⟩
  | 8 => ⟨[4, 5, 6], [], []⟩
  | _ => ⟨[], [], []⟩
noncomputable def F38_c : Code := Try.f38.body.getD .skip
theorem F38_b : Try.f38.body = some F38_c := by kernel_rfl
theorem F38_rs : Try.f38.results.toList = ([.tmp 4, .tmp 5, .tmp 6] : List ResultVar) := by kernel_rfl
theorem F38_n : Try.f38.ntmps = 46 := by kernel_rfl
theorem F38_ok : toCC [] 46 F38_inf F38_c = some F38 := by kernel_rfl
theorem F38_in {args : List AV} {G : Hp} {post : AV → Hp → Prop} (ha : args.all AV.plain = true) (hn : args.length ≤ 46) (h : BDs args → awp Try.prog [] F38 (AEnds Try.prog [.tmp 4, .tmp 5, .tmp 6] post) (initT args) G) : ACalls Try.prog 38 args G post :=
  acalls_cc Try.func38 F38_b F38_rs F38_n F38_ok mixed ha hn h
end Go.Proofs.Yteifakkknhfdpaa
