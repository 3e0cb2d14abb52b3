import Derived.Test.YtapocekfkbkefaaC0K
set_option linter.unusedVariables false
set_option linter.unusedSimpArgs false
set_option maxRecDepth 100000
namespace Go.Proofs.Ytapocekfkbkefaa
open Go Go.Al

/- 27 (*ostiary/shelf.Shelf[int, ostiary/view.seen]).Vals -/
@[simp] noncomputable def F27_r0 : CC := .reg [⟨some 2, none, (.assign (.const (.slice none 0 0)))⟩] [0]
@[simp] noncomputable def F27_r1 : CC := .reg [⟨some 3, none, (.assign (.const (.slice none 0 0)))⟩] [0, 3]
@[simp] noncomputable def F27_r2 : CC := .reg [⟨some 5, none, (.move (.tmp 0))⟩,
  ⟨some 6, none, (.call { callee := (.value (.func 47)), args := #[(.tmp 5)], argTypes := #[55] })⟩,
  ⟨some 7, none, (.move (.const (.int .i64 0)))⟩] [0, 3, 6, 7]
@[simp] noncomputable def F27_r3 : CC := .reg [⟨some 8, none, (.binOp .lss 3 (.tmp 7) (.tmp 6) 3)⟩] [0, 3, 6, 7, 8]
@[simp] noncomputable def F27_r4 : CC := .reg [⟨some 9, none, (.move (.tmp 7))⟩,
  ⟨some 4, none, (.assign (.tmp 9))⟩] [0, 3, 4, 6, 7]
@[simp] noncomputable def F27_r5 : CC := .reg [⟨some 10, none, (.move (.tmp 3))⟩,
  ⟨some 11, none, (.move (.tmp 0))⟩,
  ⟨some 12, none, (.nilCheck (.tmp 11))⟩,
  ⟨some 13, none, (.fieldAddr 81 (.tmp 12) 0)⟩,
  ⟨some 14, none, (.load 79 (.tmp 13))⟩,
  ⟨some 15, none, (.move (.tmp 4))⟩,
  ⟨some 16, none, (.indexAddr 79 (.tmp 14) (.tmp 15))⟩,
  ⟨some 17, none, (.fieldAddr 87 (.tmp 16) 1)⟩,
  ⟨some 18, none, (.load 58 (.tmp 17))⟩,
  ⟨some 19, none, (.buildSlice 62 1 #[(0, (.tmp 18))])⟩,
  ⟨some 20, none, (.call { callee := (.builtin .append), args := #[(.tmp 10), (.tmp 19)], argTypes := #[62, 62] })⟩,
  ⟨some 3, none, (.assign (.tmp 20))⟩] [0, 3, 6, 7]
@[simp] noncomputable def F27_r6 : CC := .reg [⟨some 21, none, (.binOp .add 3 (.tmp 7) (.const (.int .i64 1)) 3)⟩,
  ⟨some 7, none, (.move (.tmp 21))⟩] [0, 3, 6, 7]
noncomputable def F27_l0 : CC := (.seq F27_r3 (.seq (.cond (.tmp 8) .skip (.exit 0)) (.seq (.block 1 (.seq F27_r4 F27_r5)) F27_r6)))
@[simp] noncomputable def F27_r7 : CC := .reg [⟨some 22, none, (.move (.tmp 3))⟩,
  ⟨some 2, none, (.assign (.tmp 22))⟩] [2]
noncomputable def F27 : CC := (.seq F27_r0 (.seq F27_r1 (.seq (.seq F27_r2 (.block 0 (.loop F27_l0))) (.seq F27_r7 .ret))))
noncomputable def F27_inf : Nat → RI
  | 0 => ⟨[0], [], []⟩
  | 1 => ⟨[0, 3], [], []⟩
  | 2 => ⟨[0, 3, 6, 7], [], []⟩
  | 3 => ⟨[0, 3, 6, 7, 8], [], []⟩
  | 4 => ⟨[0, 3, 4, 6, 7], [], []⟩
  | 5 => ⟨[0, 3, 6, 7], [], []⟩
  | 6 => ⟨[0, 3, 6, 7], [], []⟩
  | 7 => ⟨[2], [], []⟩
  | _ => ⟨[], [], []⟩
noncomputable def F27_c : Code := Try.f27.body.getD .skip
theorem F27_b : Try.f27.body = some F27_c := by kernel_rfl
theorem F27_rs : Try.f27.results.toList = ([.tmp 2] : List ResultVar) := by kernel_rfl
theorem F27_n : Try.f27.ntmps = 23 := by kernel_rfl
theorem F27_ok : toCC [] 23 F27_inf F27_c = some F27 := by kernel_rfl
theorem F27_in {args : List AV} {G : Hp} {post : AV → Hp → Prop} (ha : args.all AV.plain = true) (hn : args.length ≤ 23) (h : BDs args → awp Try.prog [] F27 (AEnds Try.prog [.tmp 2] post) (initT args) G) : ACalls Try.prog 27 args G post :=
  acalls_cc Try.func27 F27_b F27_rs F27_n F27_ok mixed ha hn h

/- 28 ostiary/cable.Good -/
@[simp] noncomputable def F28_r0 : CC := .reg [⟨some 1, none, (.box 32 (.tmp 0))⟩,
  ⟨some 2, none, (.assign (.const (.bool false)))⟩] [1]
@[simp] noncomputable def F28_r1 : CC := .reg [⟨some 3, none, (.fieldAddr 32 (.tmp 1) 0)⟩,
  ⟨some 4, none, (.load 3 (.tmp 3))⟩,
  ⟨some 5, none, (.binOp .geq 3 (.tmp 4) (.const (.int .i64 1)) 3)⟩,
  ⟨some 6, none, (.move (.tmp 5))⟩,
  ⟨some 7, some (6, true), (.fieldAddr 32 (.tmp 1) 0)⟩,
  ⟨some 8, some (6, true), (.load 3 (.tmp 7))⟩,
  ⟨some 9, some (6, true), (.binOp .leq 3 (.tmp 8) (.const (.int .i64 8)) 3)⟩,
  ⟨some 10, none, (.pick (.tmp 6) (.tmp 9) (.const (.bool false)))⟩,
  ⟨some 11, none, (.move (.tmp 10))⟩,
  ⟨some 12, some (11, true), (.fieldAddr 32 (.tmp 1) 1)⟩,
  ⟨some 13, some (11, true), (.load 3 (.tmp 12))⟩,
  ⟨some 14, some (11, true), (.binOp .geq 3 (.tmp 13) (.const (.int .i64 1)) 3)⟩,
  ⟨some 15, none, (.pick (.tmp 11) (.tmp 14) (.const (.bool false)))⟩,
  ⟨some 16, none, (.move (.tmp 15))⟩,
  ⟨some 17, some (16, true), (.fieldAddr 32 (.tmp 1) 1)⟩,
  ⟨some 18, some (16, true), (.load 3 (.tmp 17))⟩,
  ⟨some 19, some (16, true), (.binOp .leq 3 (.tmp 18) (.const (.int .i64 8)) 3)⟩,
  ⟨some 20, none, (.pick (.tmp 16) (.tmp 19) (.const (.bool false)))⟩,
  ⟨some 2, none, (.assign (.tmp 20))⟩] [2]
noncomputable def F28 : CC := (.seq F28_r0 (.seq F28_r1 .ret))
noncomputable def F28_inf : Nat → RI
  | 0 => ⟨[1], [], []⟩
  | 1 => ⟨[2], [], []⟩
  | _ => ⟨[], [], []⟩
noncomputable def F28_c : Code := Try.f28.body.getD .skip
theorem F28_b : Try.f28.body = some F28_c := by kernel_rfl
theorem F28_rs : Try.f28.results.toList = ([.tmp 2] : List ResultVar) := by kernel_rfl
theorem F28_n : Try.f28.ntmps = 21 := by kernel_rfl
theorem F28_ok : toCC [] 21 F28_inf F28_c = some F28 := by kernel_rfl
theorem F28_in {args : List AV} {G : Hp} {post : AV → Hp → Prop} (ha : args.all AV.plain = true) (hn : args.length ≤ 21) (h : BDs args → awp Try.prog [] F28 (AEnds Try.prog [.tmp 2] post) (initT args) G) : ACalls Try.prog 28 args G post :=
  acalls_cc Try.func28 F28_b F28_rs F28_n F28_ok mixed ha hn h

/- 29 (*ostiary/shelf.Shelf[int, int]).Get -/
@[simp] noncomputable def F29_r0 : CC := .reg [⟨some 4, none, (.assign (.const (.int .i64 0)))⟩,
  ⟨some 5, none, (.assign (.const (.bool false)))⟩] [0, 1]
@[simp] noncomputable def F29_r1 : CC := .reg [⟨some 9, none, (.move (.tmp 0))⟩,
  ⟨some 10, none, (.binOp .neq 53 (.tmp 9) (.const (.pointer none)) 53)⟩] [0, 1, 10]
@[simp] noncomputable def F29_r2 : CC := .reg [⟨some 12, none, (.move (.tmp 0))⟩,
  ⟨some 13, none, (.move (.tmp 1))⟩,
  ⟨some 14, none, (.call { callee := (.value (.func 48)), args := #[(.tmp 12), (.tmp 13)], argTypes := #[53, 3] })⟩,
  ⟨some 11, none, (.move (.tmp 14))⟩,
  ⟨some 15, none, (.extract (.tmp 11) 0)⟩,
  ⟨some 16, none, (.extract (.tmp 11) 1)⟩,
  ⟨some 6, none, (.assign (.tmp 15))⟩,
  ⟨some 7, none, (.assign (.tmp 16))⟩] [0, 6, 7]
@[simp] noncomputable def F29_r3 : CC := .reg [⟨some 17, none, (.move (.tmp 7))⟩] [0, 6, 17]
@[simp] noncomputable def F29_r4 : CC := .reg [⟨some 18, none, (.move (.tmp 0))⟩,
  ⟨some 19, none, (.nilCheck (.tmp 18))⟩,
  ⟨some 20, none, (.fieldAddr 78 (.tmp 19) 0)⟩,
  ⟨some 21, none, (.load 76 (.tmp 20))⟩,
  ⟨some 22, none, (.move (.tmp 6))⟩,
  ⟨some 23, none, (.indexAddr 76 (.tmp 21) (.tmp 22))⟩,
  ⟨some 24, none, (.fieldAddr 89 (.tmp 23) 1)⟩,
  ⟨some 25, none, (.load 3 (.tmp 24))⟩,
  ⟨some 4, none, (.assign (.tmp 25))⟩,
  ⟨some 5, none, (.assign (.const (.bool true)))⟩] [4, 5]
@[simp] noncomputable def F29_r5 : CC := .reg [⟨some 8, none, (.assign (.const (.int .i64 0)))⟩] [8]
@[simp] noncomputable def F29_r6 : CC := .reg [⟨some 26, none, (.move (.tmp 8))⟩,
  ⟨some 4, none, (.assign (.tmp 26))⟩,
  ⟨some 5, none, (.assign (.const (.bool false)))⟩] [4, 5]
noncomputable def F29 : CC := (.seq F29_r0 (.seq (.seq F29_r1 (.cond (.tmp 10) (.seq F29_r2 (.seq F29_r3 (.cond (.tmp 17) (.seq F29_r4 .ret) .skip))) .skip)) (.seq F29_r5 (.seq F29_r6 .ret))))
noncomputable def F29_inf : Nat → RI
  | 0 => ⟨[0, 1], [], []⟩
  | 1 => ⟨[0, 1, 10], [], []⟩
  | 2 => ⟨[0, 6, 7], [], []⟩
  | 3 => ⟨[0, 6, 17], [], []⟩
  | 4 => ⟨[4, 5], [], []⟩
  | 5 => ⟨[8], [], []⟩
  | 6 => ⟨[4, 5], [], []⟩
  | _ => ⟨[], [], []⟩
noncomputable def F29_c : Code := Try.f29.body.getD .skip
theorem F29_b : Try.f29.body = some F29_c := by kernel_rfl
theorem F29_rs : Try.f29.results.toList = ([.tmp 4, .tmp 5] : List ResultVar) := by kernel_rfl
theorem F29_n : Try.f29.ntmps = 27 := by kernel_rfl
theorem F29_ok : toCC [] 27 F29_inf F29_c = some F29 := by kernel_rfl
theorem F29_in {args : List AV} {G : Hp} {post : AV → Hp → Prop} (ha : args.all AV.plain = true) (hn : args.length ≤ 27) (h : BDs args → awp Try.prog [] F29 (AEnds Try.prog [.tmp 4, .tmp 5] post) (initT args) G) : ACalls Try.prog 29 args G post :=
  acalls_cc Try.func29 F29_b F29_rs F29_n F29_ok mixed ha hn h

/- 30 (ostiary/view.seen).ends -/
@[simp] noncomputable def F30_r0 : CC := .reg [⟨some 2, none, (.box 58 (.tmp 0))⟩,
  ⟨some 3, none, (.box 32 (.tmp 1))⟩,
  ⟨some 4, none, (.assign (.const (.bool false)))⟩] [2, 3]
@[simp] noncomputable def F30_r1 : CC := .reg [⟨some 5, none, (.fieldAddr 58 (.tmp 2) 0)⟩,
  ⟨some 6, none, (.fieldAddr 39 (.tmp 5) 0)⟩,
  ⟨some 7, none, (.load 32 (.tmp 6))⟩,
  ⟨some 8, none, (.load 32 (.tmp 3))⟩,
  ⟨some 9, none, (.binOp .eql 32 (.tmp 7) (.tmp 8) 32)⟩,
  ⟨some 10, none, (.move (.tmp 9))⟩,
  ⟨some 11, some (10, false), (.fieldAddr 58 (.tmp 2) 0)⟩,
  ⟨some 12, some (10, false), (.fieldAddr 39 (.tmp 11) 1)⟩,
  ⟨some 13, some (10, false), (.load 32 (.tmp 12))⟩,
  ⟨some 14, some (10, false), (.load 32 (.tmp 3))⟩,
  ⟨some 15, some (10, false), (.binOp .eql 32 (.tmp 13) (.tmp 14) 32)⟩,
  ⟨some 16, none, (.pick (.tmp 10) (.const (.bool true)) (.tmp 15))⟩,
  ⟨some 4, none, (.assign (.tmp 16))⟩] [4]
noncomputable def F30 : CC := (.seq F30_r0 (.seq F30_r1 .ret))
noncomputable def F30_inf : Nat → RI
  | 0 => ⟨[2, 3], [], []⟩
  | 1 => ⟨[4], [], []⟩
  | _ => ⟨[], [], []⟩
noncomputable def F30_c : Code := Try.f30.body.getD .skip
theorem F30_b : Try.f30.body = some F30_c := by kernel_rfl
theorem F30_rs : Try.f30.results.toList = ([.tmp 4] : List ResultVar) := by kernel_rfl
theorem F30_n : Try.f30.ntmps = 17 := by kernel_rfl
theorem F30_ok : toCC [] 17 F30_inf F30_c = some F30 := by kernel_rfl
theorem F30_in {args : List AV} {G : Hp} {post : AV → Hp → Prop} (ha : args.all AV.plain = true) (hn : args.length ≤ 17) (h : BDs args → awp Try.prog [] F30 (AEnds Try.prog [.tmp 4] post) (initT args) G) : ACalls Try.prog 30 args G post :=
  acalls_cc Try.func30 F30_b F30_rs F30_n F30_ok mixed ha hn h

/- 31 ostiary/view.link -/
@[simp] noncomputable def F31_r0 : CC := .reg [⟨some 2, none, (.box 32 (.tmp 0))⟩,
  ⟨some 3, none, (.box 32 (.tmp 1))⟩,
  ⟨some 4, none, (.alloc 39)⟩] [2, 3, 4]
@[simp] noncomputable def F31_r1 : CC := .drw [⟨0, ⟨some 5, none, (.load 32 (.tmp 3))⟩, [], []⟩,
  ⟨2, ⟨some 7, none, (.load 32 (.tmp 2))⟩, [], []⟩,
  ⟨1, ⟨some 6, none, (.call { callee := (.value (.func 33)), args := #[(.tmp 5)], argTypes := #[32] })⟩, [2], [⟨some 7, none, (.load 32 (.tmp 2))⟩]⟩,
  ⟨3, ⟨some 8, none, (.call { callee := (.value (.func 33)), args := #[(.tmp 7)], argTypes := #[32] })⟩, [], []⟩,
  ⟨4, ⟨some 9, none, (.binOp .lss 3 (.tmp 6) (.tmp 8) 3)⟩, [], []⟩] [5, 7, 6, 8, 9] [2, 3, 4, 9]
@[simp] noncomputable def F31_r2 : CC := .reg [⟨some 10, none, (.load 32 (.tmp 3))⟩,
  ⟨some 11, none, (.load 32 (.tmp 2))⟩,
  ⟨none, none, (.store 32 (.tmp 2) (.tmp 10))⟩,
  ⟨none, none, (.store 32 (.tmp 3) (.tmp 11))⟩] [2, 3, 4]
@[simp] noncomputable def F31_r3 : CC := .reg [⟨some 12, none, (.load 32 (.tmp 2))⟩,
  ⟨some 13, none, (.load 32 (.tmp 3))⟩,
  ⟨some 14, none, (.build 39 #[(0, (.tmp 12)), (1, (.tmp 13))])⟩,
  ⟨none, none, (.store 39 (.tmp 4) (.tmp 14))⟩] [4]
noncomputable def F31 : CC := (.seq F31_r0 (.seq (.seq F31_r1 (.cond (.tmp 9) F31_r2 .skip)) (.seq F31_r3 .ret)))
noncomputable def F31_inf : Nat → RI
  | 0 => ⟨[2, 3, 4], [], []⟩
  | 1 => ⟨[2, 3, 4, 9], [0, 1, 0, 7, 15], [(0, []), (2, []), (1, [2]), (3, []), (4, [])]⟩
  | 2 => ⟨[2, 3, 4], [], []⟩
  | 3 => ⟨[4], [], []⟩
  | _ => ⟨[], [], []⟩
noncomputable def F31_c : Code := Try.f31.body.getD .skip
theorem F31_b : Try.f31.body = some F31_c := by kernel_rfl
theorem F31_rs : Try.f31.results.toList = ([.cell 4 39] : List ResultVar) := by kernel_rfl
theorem F31_n : Try.f31.ntmps = 15 := by kernel_rfl
theorem F31_ok : toCC [] 15 F31_inf F31_c = some F31 := by kernel_rfl
theorem F31_in {args : List AV} {G : Hp} {post : AV → Hp → Prop} (ha : args.all AV.plain = true) (hn : args.length ≤ 15) (h : BDs args → awp Try.prog [] F31 (AEnds Try.prog [.cell 4 39] post) (initT args) G) : ACalls Try.prog 31 args G post :=
  acalls_cc Try.func31 F31_b F31_rs F31_n F31_ok mixed ha hn h

/- 32 (*ostiary/shelf.Shelf[int, ostiary/view.seen]).Get -/
@[simp] noncomputable def F32_r0 : CC := .reg [⟨some 4, none, (.alloc 58)⟩,
  ⟨some 5, none, (.assign (.const (.bool false)))⟩] [0, 1, 4]
@[simp] noncomputable def F32_r1 : CC := .reg [⟨some 9, none, (.move (.tmp 0))⟩,
  ⟨some 10, none, (.binOp .neq 55 (.tmp 9) (.const (.pointer none)) 55)⟩] [0, 1, 4, 10]
@[simp] noncomputable def F32_r2 : CC := .reg [⟨some 12, none, (.move (.tmp 0))⟩,
  ⟨some 13, none, (.move (.tmp 1))⟩,
  ⟨some 14, none, (.call { callee := (.value (.func 49)), args := #[(.tmp 12), (.tmp 13)], argTypes := #[55, 3] })⟩,
  ⟨some 11, none, (.move (.tmp 14))⟩,
  ⟨some 15, none, (.extract (.tmp 11) 0)⟩,
  ⟨some 16, none, (.extract (.tmp 11) 1)⟩,
  ⟨some 6, none, (.assign (.tmp 15))⟩,
  ⟨some 7, none, (.assign (.tmp 16))⟩] [0, 4, 6, 7]
@[simp] noncomputable def F32_r3 : CC := .reg [⟨some 17, none, (.move (.tmp 7))⟩] [0, 4, 6, 17]
@[simp] noncomputable def F32_r4 : CC := .reg [⟨some 18, none, (.move (.tmp 0))⟩,
  ⟨some 19, none, (.nilCheck (.tmp 18))⟩,
  ⟨some 20, none, (.fieldAddr 81 (.tmp 19) 0)⟩,
  ⟨some 21, none, (.load 79 (.tmp 20))⟩,
  ⟨some 22, none, (.move (.tmp 6))⟩,
  ⟨some 23, none, (.indexAddr 79 (.tmp 21) (.tmp 22))⟩,
  ⟨some 24, none, (.fieldAddr 87 (.tmp 23) 1)⟩,
  ⟨some 25, none, (.load 58 (.tmp 24))⟩,
  ⟨none, none, (.store 58 (.tmp 4) (.tmp 25))⟩,
  ⟨some 5, none, (.assign (.const (.bool true)))⟩] [4, 5]
@[simp] noncomputable def F32_r5 : CC := .reg [⟨some 8, none, (.alloc 58)⟩] [4, 8]
@[simp] noncomputable def F32_r6 : CC := .reg [⟨some 26, none, (.load 58 (.tmp 8))⟩,
  ⟨none, none, (.store 58 (.tmp 4) (.tmp 26))⟩,
  ⟨some 5, none, (.assign (.const (.bool false)))⟩] [4, 5]
noncomputable def F32 : CC := (.seq F32_r0 (.seq (.seq F32_r1 (.cond (.tmp 10) (.seq F32_r2 (.seq F32_r3 (.cond (.tmp 17) (.seq F32_r4 .ret) .skip))) .skip)) (.seq F32_r5 (.seq F32_r6 .ret))))
noncomputable def F32_inf : Nat → RI
  | 0 => ⟨[0, 1, 4], [], []⟩
  | 1 => ⟨[0, 1, 4, 10], [], []⟩
  | 2 => ⟨[0, 4, 6, 7], [], []⟩
  | 3 => ⟨[0, 4, 6, 17], [], []⟩
  | 4 => ⟨[4, 5], [], []⟩
  | 5 => ⟨[4, 8], [], []⟩
  | 6 => ⟨[4, 5], [], []⟩
  | _ => ⟨[], [], []⟩
noncomputable def F32_c : Code := Try.f32.body.getD .skip
theorem F32_b : Try.f32.body = some F32_c := by kernel_rfl
theorem F32_rs : Try.f32.results.toList = ([.cell 4 58, .tmp 5] : List ResultVar) := by kernel_rfl
theorem F32_n : Try.f32.ntmps = 27 := by kernel_rfl
theorem F32_ok : toCC [] 27 F32_inf F32_c = some F32 := by kernel_rfl
theorem F32_in {args : List AV} {G : Hp} {post : AV → Hp → Prop} (ha : args.all AV.plain = true) (hn : args.length ≤ 27) (h : BDs args → awp Try.prog [] F32 (AEnds Try.prog [.cell 4 58, .tmp 5] post) (initT args) G) : ACalls Try.prog 32 args G post :=
  acalls_cc Try.func32 F32_b F32_rs F32_n F32_ok mixed ha hn h

/- 33 ostiary/view.number -/
@[simp] noncomputable def F33_r0 : CC := .reg [⟨some 1, none, (.box 32 (.tmp 0))⟩,
  ⟨some 2, none, (.assign (.const (.int .i64 0)))⟩] [1]
@[simp] noncomputable def F33_r1 : CC := .reg [⟨some 3, none, (.fieldAddr 32 (.tmp 1) 0)⟩,
  ⟨some 4, none, (.load 3 (.tmp 3))⟩,
  ⟨some 5, none, (.binOp .mul 3 (.const (.int .i64 100)) (.tmp 4) 3)⟩,
  ⟨some 6, none, (.fieldAddr 32 (.tmp 1) 1)⟩,
  ⟨some 7, none, (.load 3 (.tmp 6))⟩,
  ⟨some 8, none, (.binOp .add 3 (.tmp 5) (.tmp 7) 3)⟩,
  ⟨some 2, none, (.assign (.tmp 8))⟩] [2]
noncomputable def F33 : CC := (.seq F33_r0 (.seq F33_r1 .ret))
noncomputable def F33_inf : Nat → RI
  | 0 => ⟨[1], [], []⟩
  | 1 => ⟨[2], [], []⟩
  | _ => ⟨[], [], []⟩
noncomputable def F33_c : Code := Try.f33.body.getD .skip
theorem F33_b : Try.f33.body = some F33_c := by kernel_rfl
theorem F33_rs : Try.f33.results.toList = ([.tmp 2] : List ResultVar) := by kernel_rfl
theorem F33_n : Try.f33.ntmps = 9 := by kernel_rfl
theorem F33_ok : toCC [] 9 F33_inf F33_c = some F33 := by kernel_rfl
theorem F33_in {args : List AV} {G : Hp} {post : AV → Hp → Prop} (ha : args.all AV.plain = true) (hn : args.length ≤ 9) (h : BDs args → awp Try.prog [] F33 (AEnds Try.prog [.tmp 2] post) (initT args) G) : ACalls Try.prog 33 args G post :=
  acalls_cc Try.func33 F33_b F33_rs F33_n F33_ok mixed ha hn h

/- 34 (*ostiary/shelf.Shelf[int, ostiary/view.seen]).Set -/
@[simp] noncomputable def F34_r0 : CC := .reg [⟨some 5, none, (.box 58 (.tmp 2))⟩,
  ⟨some 6, none, (.assign (.const (.int .i64 0)))⟩] [0, 1, 5]
@[simp] noncomputable def F34_r1 : CC := .reg [⟨some 9, none, (.move (.tmp 0))⟩,
  ⟨some 10, none, (.binOp .eql 55 (.tmp 9) (.const (.pointer none)) 55)⟩] [0, 1, 5, 10]
@[simp] noncomputable def F34_r2 : CC := .reg [⟨some 6, none, (.assign (.const (.int .i64 11)))⟩] [6]
@[simp] noncomputable def F34_r3 : CC := .reg [⟨some 12, none, (.move (.tmp 0))⟩,
  ⟨some 13, none, (.move (.tmp 1))⟩,
  ⟨some 14, none, (.call { callee := (.value (.func 49)), args := #[(.tmp 12), (.tmp 13)], argTypes := #[55, 3] })⟩,
  ⟨some 11, none, (.move (.tmp 14))⟩,
  ⟨some 15, none, (.extract (.tmp 11) 0)⟩,
  ⟨some 16, none, (.extract (.tmp 11) 1)⟩,
  ⟨some 7, none, (.assign (.tmp 15))⟩,
  ⟨some 8, none, (.assign (.tmp 16))⟩] [0, 1, 5, 7, 8]
@[simp] noncomputable def F34_r5 : CC := .reg [⟨some 31, none, (.move (.tmp 8))⟩,
  ⟨some 30, none, (.assign (.tmp 31))⟩] [0, 1, 5, 7, 30]
@[simp] noncomputable def F34_r6 : CC := .drw [⟨0, ⟨some 32, none, (.move (.tmp 0))⟩, [], []⟩,
  ⟨1, ⟨some 33, none, (.nilCheck (.tmp 32))⟩, [], []⟩,
  ⟨2, ⟨some 34, none, (.fieldAddr 81 (.tmp 33) 0)⟩, [], []⟩,
  ⟨3, ⟨some 35, none, (.load 79 (.tmp 34))⟩, [], []⟩,
  ⟨4, ⟨some 36, none, (.move (.tmp 7))⟩, [], []⟩,
  ⟨5, ⟨some 37, none, (.load 58 (.tmp 5))⟩, [], []⟩,
  ⟨6, ⟨some 38, none, (.indexAddr 79 (.tmp 35) (.tmp 36))⟩, [], []⟩,
  ⟨7, ⟨some 39, none, (.fieldAddr 87 (.tmp 38) 1)⟩, [], []⟩,
  ⟨8, ⟨none, none, (.store 58 (.tmp 39) (.tmp 37))⟩, [], []⟩] [32, 33, 34, 35, 36, 37, 38, 39] []
@[simp] noncomputable def F34_r7 : CC := .drw [⟨0, ⟨some 41, none, (.move (.tmp 0))⟩, [], []⟩,
  ⟨1, ⟨some 42, none, (.nilCheck (.tmp 41))⟩, [], []⟩,
  ⟨2, ⟨some 43, none, (.fieldAddr 81 (.tmp 42) 0)⟩, [], []⟩,
  ⟨3, ⟨some 44, none, (.load 79 (.tmp 43))⟩, [], []⟩,
  ⟨4, ⟨some 45, none, (.call { callee := (.builtin .len), args := #[(.tmp 44)], argTypes := #[79] })⟩, [], []⟩,
  ⟨5, ⟨some 46, none, (.move (.tmp 0))⟩, [], []⟩,
  ⟨6, ⟨some 47, none, (.nilCheck (.tmp 46))⟩, [], []⟩,
  ⟨7, ⟨some 48, none, (.fieldAddr 81 (.tmp 47) 1)⟩, [], []⟩,
  ⟨8, ⟨some 49, none, (.load 3 (.tmp 48))⟩, [], []⟩,
  ⟨9, ⟨some 50, none, (.binOp .geq 3 (.tmp 45) (.tmp 49) 3)⟩, [], []⟩,
  ⟨10, ⟨some 40, none, (.assign (.tmp 50))⟩, [], []⟩] [41, 42, 43, 44, 45, 46, 47, 48, 49, 50, 40] [0, 1, 5, 7, 40]
@[simp] noncomputable def F34_r8 : CC := .reg [⟨some 6, none, (.assign (.const (.int .i64 4)))⟩] [6]
@[simp] noncomputable def F34_r4 : CC := .drw [⟨0, ⟨some 17, none, (.move (.tmp 0))⟩, [], []⟩,
  ⟨1, ⟨some 18, none, (.move (.tmp 0))⟩, [], []⟩,
  ⟨2, ⟨some 19, none, (.nilCheck (.tmp 18))⟩, [], []⟩,
  ⟨3, ⟨some 20, none, (.fieldAddr 81 (.tmp 19) 0)⟩, [], []⟩,
  ⟨4, ⟨some 21, none, (.load 79 (.tmp 20))⟩, [], []⟩,
  ⟨5, ⟨some 22, none, (.move (.tmp 7))⟩, [], []⟩,
  ⟨6, ⟨some 23, none, (.move (.tmp 1))⟩, [], []⟩,
  ⟨7, ⟨some 24, none, (.load 58 (.tmp 5))⟩, [], []⟩,
  ⟨8, ⟨some 25, none, (.build 87 #[(0, (.tmp 23)), (1, (.tmp 24))])⟩, [], []⟩,
  ⟨9, ⟨some 26, none, (.buildSlice 79 1 #[(0, (.tmp 25))])⟩, [], []⟩,
  ⟨10, ⟨some 27, none, (.call { callee := (.value (.func 50)), args := #[(.tmp 21), (.tmp 22), (.tmp 26)], argTypes := #[79, 3, 79] })⟩, [], []⟩,
  ⟨11, ⟨some 28, none, (.nilCheck (.tmp 17))⟩, [], []⟩,
  ⟨12, ⟨some 29, none, (.fieldAddr 81 (.tmp 28) 0)⟩, [], []⟩,
  ⟨13, ⟨none, none, (.store 79 (.tmp 29) (.tmp 27))⟩, [], []⟩] [17, 18, 19, 20, 21, 22, 23, 24, 25, 26, 27, 28, 29] []
@[simp] noncomputable def F34_r9 : CC := .reg [⟨some 6, none, (.assign (.const (.int .i64 0)))⟩] [6]
noncomputable def F34 : CC := (.seq F34_r0 (.seq (.seq F34_r1 (.cond (.tmp 10) (.seq F34_r2 .ret) .skip)) (.seq F34_r3 (.seq (.block 0 (.seq F34_r5 (.cond (.tmp 30) F34_r6 (.seq F34_r7 (.cond (.tmp 40) (.seq F34_r8 .ret) F34_r4))))) (.seq F34_r9 .ret)))))
noncomputable def F34_inf : Nat → RI
  | 0 => ⟨[0, 1, 5], [], []⟩
  | 1 => ⟨[0, 1, 5, 10], [], []⟩
  | 2 => ⟨[6], [], []⟩
  | 3 => ⟨[0, 1, 5, 7, 8], [], []⟩
  | 5 => ⟨[0, 1, 5, 7, 30], [], []⟩
  | 6 => ⟨[], [0, 1, 3, 7, 0, 0, 63, 127, 255], [(0, []), (1, []), (2, []), (3, []), (4, []), (5, []), (6, []), (7, []), (8, [])]⟩
  | 7 => ⟨[0, 1, 5, 7, 40], [0, 1, 3, 7, 15, 0, 32, 96, 224, 511, 1023], [(0, []), (1, []), (2, []), (3, []), (4, []), (5, []), (6, []), (7, []), (8, []), (9, []), (10, [])]⟩
  | 8 => ⟨[6], [], []⟩
  | 4 => ⟨[], [0, 0, 2, 6, 14, 0, 0, 0, 192, 448, 1022, 2047, 4095, 8191], [(0, []), (1, []), (2, []), (3, []), (4, []), (5, []), (6, []), (7, []), (8, []), (9, []), (10, []), (11, []), (12, []), (13, [])]⟩
  | 9 => ⟨[6], [], []⟩
  | _ => ⟨[], [], []⟩
noncomputable def F34_c : Code := Try.f34.body.getD .skip
theorem F34_b : Try.f34.body = some F34_c := by kernel_rfl
theorem F34_rs : Try.f34.results.toList = ([.tmp 6] : List ResultVar) := by kernel_rfl
theorem F34_n : Try.f34.ntmps = 51 := by kernel_rfl
theorem F34_ok : toCC [] 51 F34_inf F34_c = some F34 := by kernel_rfl
theorem F34_in {args : List AV} {G : Hp} {post : AV → Hp → Prop} (ha : args.all AV.plain = true) (hn : args.length ≤ 51) (h : BDs args → awp Try.prog [] F34 (AEnds Try.prog [.tmp 6] post) (initT args) G) : ACalls Try.prog 34 args G post :=
  acalls_cc Try.func34 F34_b F34_rs F34_n F34_ok mixed ha hn h

/- 35 (*ostiary/view.View).loses -/
@[simp] noncomputable def F35_r0 : CC := .reg [⟨some 3, none, (.box 73 (.tmp 1))⟩,
  ⟨some 4, none, (.assign (.const (.slice none 0 0)))⟩] [0, 3]
@[simp] noncomputable def F35_r1 : CC := .reg [⟨some 5, none, (.assign (.const (.slice none 0 0)))⟩] [0, 3, 5]
@[simp] noncomputable def F35_r2 : CC := .reg [⟨some 8, none, (.move (.tmp 0))⟩,
  ⟨some 9, none, (.nilCheck (.tmp 8))⟩,
  ⟨some 10, none, (.fieldAddr 60 (.tmp 9) 1)⟩,
  ⟨some 11, none, (.load 55 (.tmp 10))⟩,
  ⟨some 12, none, (.makeFunc (.func 52) #[] #[(.tmp 3)])⟩,
  ⟨some 13, none, (.call { callee := (.value (.func 51)), args := #[(.tmp 11), (.tmp 12)], argTypes := #[55, 92] })⟩,
  ⟨some 14, none, (.call { callee := (.builtin .len), args := #[(.tmp 13)], argTypes := #[62] })⟩,
  ⟨some 15, none, (.move (.const (.int .i64 0)))⟩] [5, 13, 14, 15]
@[simp] noncomputable def F35_r3 : CC := .reg [⟨some 16, none, (.binOp .lss 3 (.tmp 15) (.tmp 14) 3)⟩] [5, 13, 14, 15, 16]
@[simp] noncomputable def F35_r4 : CC := .reg [⟨some 17, none, (.indexAddr 62 (.tmp 13) (.tmp 15))⟩,
  ⟨some 18, none, (.load 58 (.tmp 17))⟩,
  ⟨some 7, none, (.alloc 58)⟩,
  ⟨none, none, (.store 58 (.tmp 7) (.tmp 18))⟩] [5, 7, 13, 14, 15]
@[simp] noncomputable def F35_r5 : CC := .reg [⟨some 19, none, (.move (.tmp 5))⟩,
  ⟨some 20, none, (.fieldAddr 58 (.tmp 7) 0)⟩,
  ⟨some 21, none, (.load 39 (.tmp 20))⟩,
  ⟨some 22, none, (.buildSlice 36 1 #[(0, (.tmp 21))])⟩,
  ⟨some 23, none, (.call { callee := (.builtin .append), args := #[(.tmp 19), (.tmp 22)], argTypes := #[36, 36] })⟩,
  ⟨some 5, none, (.assign (.tmp 23))⟩] [5, 13, 14, 15]
@[simp] noncomputable def F35_r6 : CC := .reg [⟨some 24, none, (.binOp .add 3 (.tmp 15) (.const (.int .i64 1)) 3)⟩,
  ⟨some 15, none, (.move (.tmp 24))⟩] [5, 13, 14, 15]
noncomputable def F35_l0 : CC := (.seq F35_r3 (.seq (.cond (.tmp 16) .skip (.exit 0)) (.seq (.block 1 (.seq F35_r4 F35_r5)) F35_r6)))
@[simp] noncomputable def F35_r7 : CC := .reg [⟨some 25, none, (.move (.tmp 5))⟩,
  ⟨some 4, none, (.assign (.tmp 25))⟩] [4]
noncomputable def F35 : CC := (.seq F35_r0 (.seq F35_r1 (.seq (.seq F35_r2 (.block 0 (.loop F35_l0))) (.seq F35_r7 .ret))))
noncomputable def F35_inf : Nat → RI
  | 0 => ⟨[0, 3], [], []⟩
  | 1 => ⟨[0, 3, 5], [], []⟩
  | 2 => ⟨[5, 13, 14, 15], [], []⟩
  | 3 => ⟨[5, 13, 14, 15, 16], [], []⟩
  | 4 => ⟨[5, 7, 13, 14, 15], [], []⟩
  | 5 => ⟨[5, 13, 14, 15], [], []⟩
  | 6 => ⟨[5, 13, 14, 15], [], []⟩
  | 7 => ⟨[4], [], []⟩
  | _ => ⟨[], [], []⟩
noncomputable def F35_c : Code := Try.f35.body.getD .skip
theorem F35_b : Try.f35.body = some F35_c := by kernel_rfl
theorem F35_rs : Try.f35.results.toList = ([.tmp 4] : List ResultVar) := by kernel_rfl
theorem F35_n : Try.f35.ntmps = 26 := by kernel_rfl
theorem F35_ok : toCC [3] 26 F35_inf F35_c = some F35 := by kernel_rfl
theorem F35_in {args : List AV} {G : Hp} {post : AV → Hp → Prop} (ha : args.all AV.plain = true) (hn : args.length ≤ 26) (h : BDs args → awp Try.prog [3] F35 (AEnds Try.prog [.tmp 4] post) (initT args) G) : ACalls Try.prog 35 args G post :=
  acalls_cc Try.func35 F35_b F35_rs F35_n F35_ok mixed ha hn h

/- 36 (*ostiary/view.View).Learn$1 -/
@[simp] noncomputable def F36_r0 : CC := .reg [⟨some 3, none, (.box 58 (.tmp 0))⟩,
  ⟨some 4, none, (.assign (.const (.bool false)))⟩] [1, 2, 3]
@[simp] noncomputable def F36_r1 : CC := .reg [⟨some 5, none, (.load 58 (.tmp 3))⟩,
  ⟨some 6, none, (.load 32 (.tmp 1))⟩,
  ⟨some 7, none, (.call { callee := (.value (.func 30)), args := #[(.tmp 5), (.tmp 6)], argTypes := #[58, 32] })⟩,
  ⟨some 8, none, (.move (.tmp 7))⟩,
  ⟨some 9, some (8, false), (.load 58 (.tmp 3))⟩,
  ⟨some 10, some (8, false), (.load 32 (.tmp 2))⟩,
  ⟨some 11, some (8, false), (.call { callee := (.value (.func 30)), args := #[(.tmp 9), (.tmp 10)], argTypes := #[58, 32] })⟩,
  ⟨some 12, none, (.pick (.tmp 8) (.const (.bool true)) (.tmp 11))⟩,
  ⟨some 4, none, (.assign (.tmp 12))⟩] [4]
noncomputable def F36 : CC := (.seq F36_r0 (.seq F36_r1 .ret))
noncomputable def F36_inf : Nat → RI
  | 0 => ⟨[1, 2, 3], [], []⟩
  | 1 => ⟨[4], [], []⟩
  | _ => ⟨[], [], []⟩
noncomputable def F36_c : Code := Try.f36.body.getD .skip
theorem F36_b : Try.f36.body = some F36_c := by kernel_rfl
theorem F36_rs : Try.f36.results.toList = ([.tmp 4] : List ResultVar) := by kernel_rfl
theorem F36_n : Try.f36.ntmps = 13 := by kernel_rfl
theorem F36_ok : toCC [] 13 F36_inf F36_c = some F36 := by kernel_rfl
theorem F36_in {args : List AV} {G : Hp} {post : AV → Hp → Prop} (ha : args.all AV.plain = true) (hn : args.length ≤ 13) (h : BDs args → awp Try.prog [] F36 (AEnds Try.prog [.tmp 4] post) (initT args) G) : ACalls Try.prog 36 args G post :=
  acalls_cc Try.func36 F36_b F36_rs F36_n F36_ok mixed ha hn h

/- 37 (*ostiary/view.View).Age$1 -/
@[simp] noncomputable def F37_r0 : CC := .reg [⟨some 3, none, (.box 58 (.tmp 0))⟩,
  ⟨some 4, none, (.assign (.const (.bool false)))⟩] [1, 2, 3]
@[simp] noncomputable def F37_r1 : CC := .reg [⟨some 5, none, (.load 2 (.tmp 1))⟩,
  ⟨some 6, none, (.fieldAddr 58 (.tmp 3) 1)⟩,
  ⟨some 7, none, (.load 2 (.tmp 6))⟩,
  ⟨some 8, none, (.binOp .sub 2 (.tmp 5) (.tmp 7) 2)⟩,
  ⟨some 9, none, (.load 2 (.tmp 2))⟩,
  ⟨some 10, none, (.binOp .gtr 2 (.tmp 8) (.tmp 9) 2)⟩,
  ⟨some 4, none, (.assign (.tmp 10))⟩] [4]
noncomputable def F37 : CC := (.seq F37_r0 (.seq F37_r1 .ret))
noncomputable def F37_inf : Nat → RI
  | 0 => ⟨[1, 2, 3], [], []⟩
  | 1 => ⟨[4], [], []⟩
  | _ => ⟨[], [], []⟩
noncomputable def F37_c : Code := Try.f37.body.getD .skip
theorem F37_b : Try.f37.body = some F37_c := by kernel_rfl
theorem F37_rs : Try.f37.results.toList = ([.tmp 4] : List ResultVar) := by kernel_rfl
theorem F37_n : Try.f37.ntmps = 11 := by kernel_rfl
theorem F37_ok : toCC [] 11 F37_inf F37_c = some F37 := by kernel_rfl
theorem F37_in {args : List AV} {G : Hp} {post : AV → Hp → Prop} (ha : args.all AV.plain = true) (hn : args.length ≤ 11) (h : BDs args → awp Try.prog [] F37 (AEnds Try.prog [.tmp 4] post) (initT args) G) : ACalls Try.prog 37 args G post :=
  acalls_cc Try.func37 F37_b F37_rs F37_n F37_ok mixed ha hn h

/- 38 (*ostiary/ostiaryref21.View).Up -/
@[simp] noncomputable def F38_r0 : CC := .reg [⟨some 3, none, (.box 32 (.tmp 1))⟩,
  ⟨some 4, none, (.assign (.const (.bool false)))⟩] [0, 3]
@[simp] noncomputable def F38_r1 : CC := .drw [⟨0, ⟨some 7, none, (.load 32 (.tmp 3))⟩, [], []⟩,
  ⟨1, ⟨some 8, none, (.call { callee := (.value (.func 53)), args := #[(.tmp 7)], argTypes := #[32] })⟩, [], []⟩,
  ⟨2, ⟨some 9, none, (.unOp .not 4 (.tmp 8))⟩, [], []⟩,
  ⟨3, ⟨some 10, none, (.move (.tmp 9))⟩, [], []⟩,
  ⟨4, ⟨some 11, some (10, false), (.move (.tmp 0))⟩, [], []⟩,
  ⟨5, ⟨some 12, some (10, false), (.fieldAddr 32 (.tmp 3) 0)⟩, [], []⟩,
  ⟨6, ⟨some 13, some (10, false), (.load 3 (.tmp 12))⟩, [], []⟩,
  ⟨7, ⟨some 14, some (10, false), (.nilCheck (.tmp 11))⟩, [], []⟩,
  ⟨8, ⟨some 15, some (10, false), (.fieldAddr 30 (.tmp 14) 0)⟩, [], []⟩,
  ⟨9, ⟨some 16, some (10, false), (.indexAddr 26 (.tmp 15) (.tmp 13))⟩, [], []⟩,
  ⟨10, ⟨some 17, some (10, false), (.load 4 (.tmp 16))⟩, [], []⟩,
  ⟨11, ⟨some 18, some (10, false), (.unOp .not 4 (.tmp 17))⟩, [], []⟩,
  ⟨12, ⟨some 19, none, (.pick (.tmp 10) (.const (.bool true)) (.tmp 18))⟩, [], []⟩] [7, 8, 9, 10, 11, 12, 13, 14, 15, 16, 17, 18, 19] [0, 3, 19]
@[simp] noncomputable def F38_r2 : CC := .reg [⟨some 4, none, (.assign (.const (.bool false)))⟩] [4]
@[simp] noncomputable def F38_r3 : CC := .drw [⟨0, ⟨some 20, none, (.move (.tmp 0))⟩, [], []⟩,
  ⟨1, ⟨some 21, none, (.fieldAddr 32 (.tmp 3) 0)⟩, [], []⟩,
  ⟨2, ⟨some 22, none, (.load 3 (.tmp 21))⟩, [], []⟩,
  ⟨3, ⟨some 23, none, (.nilCheck (.tmp 20))⟩, [], []⟩,
  ⟨4, ⟨some 24, none, (.fieldAddr 30 (.tmp 23) 1)⟩, [], []⟩,
  ⟨5, ⟨some 25, none, (.indexAddr 27 (.tmp 24) (.tmp 22))⟩, [], []⟩,
  ⟨6, ⟨some 26, none, (.load 3 (.tmp 25))⟩, [], []⟩,
  ⟨7, ⟨some 5, none, (.assign (.tmp 26))⟩, [], []⟩] [20, 21, 22, 23, 24, 25, 26, 5] [3, 5]
@[simp] noncomputable def F38_r4 : CC := .reg [⟨some 6, none, (.assign (.const (.int .i64 1)))⟩] [3, 5, 6]
@[simp] noncomputable def F38_r5 : CC := .reg [⟨some 27, none, (.move (.tmp 6))⟩,
  ⟨some 28, none, (.fieldAddr 32 (.tmp 3) 1)⟩,
  ⟨some 29, none, (.load 3 (.tmp 28))⟩,
  ⟨some 30, none, (.binOp .lss 3 (.tmp 27) (.tmp 29) 3)⟩] [3, 5, 6, 30]
@[simp] noncomputable def F38_r7 : CC := .reg [⟨some 33, none, (.move (.tmp 5))⟩,
  ⟨some 34, none, (.binOp .quo 3 (.tmp 33) (.const (.int .i64 2)) 3)⟩,
  ⟨some 5, none, (.assign (.tmp 34))⟩] [3, 5, 6]
@[simp] noncomputable def F38_r6 : CC := .reg [⟨some 31, none, (.move (.tmp 6))⟩,
  ⟨some 32, none, (.binOp .add 3 (.tmp 31) (.const (.int .i64 1)) 3)⟩,
  ⟨some 6, none, (.assign (.tmp 32))⟩] [3, 5, 6]
noncomputable def F38_l0 : CC := (.seq (.seq F38_r5 (.cond (.tmp 30) .skip (.exit 0))) (.seq (.block 1 F38_r7) F38_r6))
@[simp] noncomputable def F38_r8 : CC := .reg [⟨some 35, none, (.move (.tmp 5))⟩,
  ⟨some 36, none, (.binOp .rem 3 (.tmp 35) (.const (.int .i64 2)) 3)⟩,
  ⟨some 37, none, (.binOp .eql 3 (.tmp 36) (.const (.int .i64 1)) 3)⟩,
  ⟨some 4, none, (.assign (.tmp 37))⟩] [4]
noncomputable def F38 : CC := (.seq F38_r0 (.seq (.seq F38_r1 (.cond (.tmp 19) (.seq F38_r2 .ret) .skip)) (.seq F38_r3 (.seq (.seq F38_r4 (.block 0 (.loop F38_l0))) (.seq F38_r8 .ret)))))
noncomputable def F38_inf : Nat → RI
  | 0 => ⟨[0, 3], [], []⟩
  | 1 => ⟨[0, 3, 19], [0, 1, 3, 7, 15, 15, 47, 31, 159, 511, 1023, 2047, 4095], [(0, []), (1, []), (2, []), (3, []), (4, []), (5, []), (6, []), (7, []), (8, []), (9, []), (10, []), (11, []), (12, [])]⟩
  | 2 => ⟨[4], [], []⟩
  | 3 => ⟨[3, 5], [0, 0, 2, 1, 9, 31, 63, 127], [(0, []), (1, []), (2, []), (3, []), (4, []), (5, []), (6, []), (7, [])]⟩
  | 4 => ⟨[3, 5, 6], [], []⟩
  | 5 => ⟨[3, 5, 6, 30], [], []⟩
  | 7 => ⟨[3, 5, 6], [], []⟩
  | 6 => ⟨[3, 5, 6], [], []⟩
  | 8 => ⟨[4], [], []⟩
  | _ => ⟨[], [], []⟩
noncomputable def F38_c : Code := Try.f38.body.getD .skip
theorem F38_b : Try.f38.body = some F38_c := by kernel_rfl
theorem F38_rs : Try.f38.results.toList = ([.tmp 4] : List ResultVar) := by kernel_rfl
theorem F38_n : Try.f38.ntmps = 38 := by kernel_rfl
theorem F38_ok : toCC [] 38 F38_inf F38_c = some F38 := by kernel_rfl
theorem F38_in {args : List AV} {G : Hp} {post : AV → Hp → Prop} (ha : args.all AV.plain = true) (hn : args.length ≤ 38) (h : BDs args → awp Try.prog [] F38 (AEnds Try.prog [.tmp 4] post) (initT args) G) : ACalls Try.prog 38 args G post :=
  acalls_cc Try.func38 F38_b F38_rs F38_n F38_ok mixed ha hn h
end Go.Proofs.Ytapocekfkbkefaa
