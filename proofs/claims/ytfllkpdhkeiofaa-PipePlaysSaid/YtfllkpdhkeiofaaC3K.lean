import Derived.Test.YtfllkpdhkeiofaaC0K
set_option linter.unusedVariables false
set_option linter.unusedSimpArgs false
set_option maxRecDepth 100000
namespace Go.Proofs.Ytfllkpdhkeiofaa
open Go Go.Al

/- 27 (ostiary/ostiaryref20.Pipe).Gone -/
@[simp] noncomputable def F27_r0 : CC := .reg [⟨some 2, none, (.box 39 (.tmp 0))⟩,
  ⟨some 4, none, (.alloc 39)⟩] [1, 2, 4]
@[simp] noncomputable def F27_r1 : CC := .reg [⟨some 5, none, (.fieldAddr 39 (.tmp 2) 0)⟩,
  ⟨some 6, none, (.load 25 (.tmp 5))⟩,
  ⟨some 7, none, (.move (.tmp 1))⟩,
  ⟨some 8, none, (.call { callee := (.value (.func 32)), args := #[(.tmp 6), (.tmp 7)], argTypes := #[25, 3] })⟩,
  ⟨some 9, none, (.fieldAddr 39 (.tmp 2) 0)⟩,
  ⟨none, none, (.store 25 (.tmp 9) (.tmp 8))⟩] [2, 4]
@[simp] noncomputable def F27_r2 : CC := .reg [⟨some 10, none, (.load 39 (.tmp 2))⟩,
  ⟨none, none, (.store 39 (.tmp 4) (.tmp 10))⟩] [4]
noncomputable def F27 : CC := (.seq F27_r0 (.seq F27_r1 (.seq F27_r2 .ret)))
noncomputable def F27_inf : Nat → RI
  | 0 => ⟨[1, 2, 4], [], []⟩
  | 1 => ⟨[2, 4], [], []⟩
  | 2 => ⟨[4], [], []⟩
  | _ => ⟨[], [], []⟩
noncomputable def F27_c : Code := Try.f27.body.getD .skip
theorem F27_b : Try.f27.body = some F27_c := by kernel_rfl
theorem F27_rs : Try.f27.results.toList = ([.cell 4 39] : List ResultVar) := by kernel_rfl
theorem F27_n : Try.f27.ntmps = 11 := by kernel_rfl
theorem F27_ok : toCC [] 11 F27_inf F27_c = some F27 := by kernel_rfl
theorem F27_in {args : List AV} {G : Hp} {post : AV → Hp → Prop} (ha : args.all AV.plain = true) (hn : args.length ≤ 11) (h : BDs args → awp Try.prog [] F27 (AEnds Try.prog [.cell 4 39] post) (initT args) G) : ACalls Try.prog 27 args G post :=
  acalls_cc Try.func27 F27_b F27_rs F27_n F27_ok mixed ha hn h

/- 28 (*ostiary/shelf.Ring[int]).All -/
@[simp] noncomputable def F28_r0 : CC := .reg [⟨some 2, none, (.assign (.const (.slice none 0 0)))⟩] [0]
@[simp] noncomputable def F28_r1 : CC := .reg [⟨some 3, none, (.move (.tmp 0))⟩,
  ⟨some 4, none, (.binOp .eql 45 (.tmp 3) (.const (.pointer none)) 45)⟩] [0, 4]
@[simp] noncomputable def F28_r2 : CC := .reg [⟨some 2, none, (.assign (.const (.slice none 0 0)))⟩] [2]
@[simp] noncomputable def F28_r3 : CC := .reg [⟨some 5, none, (.move (.tmp 0))⟩,
  ⟨some 6, none, (.nilCheck (.tmp 5))⟩,
  ⟨some 7, none, (.fieldAddr 55 (.tmp 6) 0)⟩,
  ⟨some 8, none, (.load 25 (.tmp 7))⟩,
  ⟨some 9, none, (.call { callee := (.value (.func 31)), args := #[(.tmp 8)], argTypes := #[25] })⟩,
  ⟨some 2, none, (.assign (.tmp 9))⟩] [2]
noncomputable def F28 : CC := (.seq F28_r0 (.seq (.seq F28_r1 (.cond (.tmp 4) (.seq F28_r2 .ret) .skip)) (.seq F28_r3 .ret)))
noncomputable def F28_inf : Nat → RI
  | 0 => ⟨[0], [], []⟩
  | 1 => ⟨[0, 4], [], []⟩
  | 2 => ⟨[2], [], []⟩
  | 3 => ⟨[2], [], []⟩
  | _ => ⟨[], [], []⟩
noncomputable def F28_c : Code := Try.f28.body.getD .skip
theorem F28_b : Try.f28.body = some F28_c := by kernel_rfl
theorem F28_rs : Try.f28.results.toList = ([.tmp 2] : List ResultVar) := by kernel_rfl
theorem F28_n : Try.f28.ntmps = 10 := by kernel_rfl
theorem F28_ok : toCC [] 10 F28_inf F28_c = some F28 := by kernel_rfl
theorem F28_in {args : List AV} {G : Hp} {post : AV → Hp → Prop} (ha : args.all AV.plain = true) (hn : args.length ≤ 10) (h : BDs args → awp Try.prog [] F28 (AEnds Try.prog [.tmp 2] post) (initT args) G) : ACalls Try.prog 28 args G post :=
  acalls_cc Try.func28 F28_b F28_rs F28_n F28_ok mixed ha hn h

/- 29 (*ostiary/shelf.Ring[int]).At -/
@[simp] noncomputable def F29_r0 : CC := .reg [⟨some 4, none, (.assign (.const (.int .i64 0)))⟩,
  ⟨some 5, none, (.assign (.const (.bool false)))⟩] [0, 1]
@[simp] noncomputable def F29_r1 : CC := .reg [⟨some 7, none, (.move (.tmp 0))⟩,
  ⟨some 8, none, (.binOp .eql 45 (.tmp 7) (.const (.pointer none)) 45)⟩,
  ⟨some 9, none, (.move (.tmp 8))⟩,
  ⟨some 10, some (9, false), (.move (.tmp 1))⟩,
  ⟨some 11, some (9, false), (.binOp .lss 3 (.tmp 10) (.const (.int .i64 0)) 3)⟩,
  ⟨some 12, none, (.pick (.tmp 9) (.const (.bool true)) (.tmp 11))⟩,
  ⟨some 13, none, (.move (.tmp 12))⟩,
  ⟨some 14, some (13, false), (.move (.tmp 1))⟩,
  ⟨some 15, some (13, false), (.move (.tmp 0))⟩,
  ⟨some 16, some (13, false), (.nilCheck (.tmp 15))⟩,
  ⟨some 17, some (13, false), (.fieldAddr 55 (.tmp 16) 0)⟩,
  ⟨some 18, some (13, false), (.load 25 (.tmp 17))⟩,
  ⟨some 19, some (13, false), (.call { callee := (.builtin .len), args := #[(.tmp 18)], argTypes := #[25] })⟩,
  ⟨some 20, some (13, false), (.binOp .geq 3 (.tmp 14) (.tmp 19) 3)⟩,
  ⟨some 21, none, (.pick (.tmp 13) (.const (.bool true)) (.tmp 20))⟩] [0, 1, 21]
@[simp] noncomputable def F29_r2 : CC := .reg [⟨some 6, none, (.assign (.const (.int .i64 0)))⟩] [6]
@[simp] noncomputable def F29_r3 : CC := .reg [⟨some 22, none, (.move (.tmp 6))⟩,
  ⟨some 4, none, (.assign (.tmp 22))⟩,
  ⟨some 5, none, (.assign (.const (.bool false)))⟩] [4, 5]
@[simp] noncomputable def F29_r4 : CC := .reg [⟨some 23, none, (.move (.tmp 0))⟩,
  ⟨some 24, none, (.nilCheck (.tmp 23))⟩,
  ⟨some 25, none, (.fieldAddr 55 (.tmp 24) 0)⟩,
  ⟨some 26, none, (.load 25 (.tmp 25))⟩,
  ⟨some 27, none, (.move (.tmp 1))⟩,
  ⟨some 28, none, (.indexAddr 25 (.tmp 26) (.tmp 27))⟩,
  ⟨some 29, none, (.load 3 (.tmp 28))⟩,
  ⟨some 4, none, (.assign (.tmp 29))⟩,
  ⟨some 5, none, (.assign (.const (.bool true)))⟩] [4, 5]
noncomputable def F29 : CC := (.seq F29_r0 (.seq (.seq F29_r1 (.cond (.tmp 21) (.seq F29_r2 (.seq F29_r3 .ret)) .skip)) (.seq F29_r4 .ret)))
noncomputable def F29_inf : Nat → RI
  | 0 => ⟨[0, 1], [], []⟩
  | 1 => ⟨[0, 1, 21], [], []⟩
  | 2 => ⟨[6], [], []⟩
  | 3 => ⟨[4, 5], [], []⟩
  | 4 => ⟨[4, 5], [], []⟩
  | _ => ⟨[], [], []⟩
noncomputable def F29_c : Code := Try.f29.body.getD .skip
theorem F29_b : Try.f29.body = some F29_c := by kernel_rfl
theorem F29_rs : Try.f29.results.toList = ([.tmp 4, .tmp 5] : List ResultVar) := by kernel_rfl
theorem F29_n : Try.f29.ntmps = 30 := by kernel_rfl
theorem F29_ok : toCC [] 30 F29_inf F29_c = some F29 := by kernel_rfl
theorem F29_in {args : List AV} {G : Hp} {post : AV → Hp → Prop} (ha : args.all AV.plain = true) (hn : args.length ≤ 30) (h : BDs args → awp Try.prog [] F29 (AEnds Try.prog [.tmp 4, .tmp 5] post) (initT args) G) : ACalls Try.prog 29 args G post :=
  acalls_cc Try.func29 F29_b F29_rs F29_n F29_ok mixed ha hn h

/- 30 slices.Delete[[]int,int] -/
@[simp] noncomputable def F30_r0 : CC := .reg [⟨some 6, none, (.assign (.const (.slice none 0 0)))⟩] [0, 1, 2]
@[simp] noncomputable def F30_r1 : CC := .reg [⟨some 8, none, (.move (.tmp 0))⟩,
  ⟨some 9, none, (.move (.tmp 1))⟩,
  ⟨some 10, none, (.move (.tmp 2))⟩,
  ⟨some 11, none, (.move (.tmp 0))⟩,
  ⟨some 12, none, (.call { callee := (.builtin .len), args := #[(.tmp 11)], argTypes := #[25] })⟩,
  ⟨some 13, none, (.slice 25 (.tmp 8) (some (.tmp 9)) (some (.tmp 10)) (some (.tmp 12)))⟩] [0, 1, 2]
@[simp] noncomputable def F30_r2 : CC := .reg [⟨some 14, none, (.move (.tmp 1))⟩,
  ⟨some 15, none, (.move (.tmp 2))⟩,
  ⟨some 16, none, (.binOp .eql 3 (.tmp 14) (.tmp 15) 3)⟩] [0, 1, 2, 16]
@[simp] noncomputable def F30_r3 : CC := .reg [⟨some 17, none, (.move (.tmp 0))⟩,
  ⟨some 6, none, (.assign (.tmp 17))⟩] [6]
@[simp] noncomputable def F30_r4 : CC := .reg [⟨some 18, none, (.move (.tmp 0))⟩,
  ⟨some 19, none, (.call { callee := (.builtin .len), args := #[(.tmp 18)], argTypes := #[25] })⟩,
  ⟨some 7, none, (.assign (.tmp 19))⟩] [0, 1, 2, 7]
@[simp] noncomputable def F30_r5 : CC := .drw [⟨0, ⟨some 20, none, (.move (.tmp 0))⟩, [], []⟩,
  ⟨1, ⟨some 21, none, (.move (.tmp 1))⟩, [], []⟩,
  ⟨2, ⟨some 22, none, (.slice 25 (.tmp 20) none (some (.tmp 21)) none)⟩, [], []⟩,
  ⟨3, ⟨some 23, none, (.move (.tmp 0))⟩, [], []⟩,
  ⟨4, ⟨some 24, none, (.move (.tmp 2))⟩, [], []⟩,
  ⟨5, ⟨some 25, none, (.slice 25 (.tmp 23) (some (.tmp 24)) none none)⟩, [], []⟩,
  ⟨6, ⟨some 26, none, (.call { callee := (.builtin .append), args := #[(.tmp 22), (.tmp 25)], argTypes := #[25, 25] })⟩, [], []⟩,
  ⟨7, ⟨some 0, none, (.assign (.tmp 26))⟩, [], []⟩] [20, 21, 22, 23, 24, 25, 26, 0] [0, 7]
@[simp] noncomputable def F30_r6 : CC := .reg [⟨some 27, none, (.move (.tmp 0))⟩,
  ⟨some 28, none, (.move (.tmp 0))⟩,
  ⟨some 29, none, (.call { callee := (.builtin .len), args := #[(.tmp 28)], argTypes := #[25] })⟩,
  ⟨some 30, none, (.move (.tmp 7))⟩,
  ⟨some 31, none, (.slice 25 (.tmp 27) (some (.tmp 29)) (some (.tmp 30)) none)⟩,
  ⟨none, none, (.call { callee := (.builtin .clear), args := #[(.tmp 31)], argTypes := #[25] })⟩] [0]
@[simp] noncomputable def F30_r7 : CC := .reg [⟨some 32, none, (.move (.tmp 0))⟩,
  ⟨some 6, none, (.assign (.tmp 32))⟩] [6]
noncomputable def F30 : CC := (.seq F30_r0 (.seq F30_r1 (.seq (.seq F30_r2 (.cond (.tmp 16) (.seq F30_r3 .ret) .skip)) (.seq F30_r4 (.seq F30_r5 (.seq F30_r6 (.seq F30_r7 .ret)))))))
noncomputable def F30_inf : Nat → RI
  | 0 => ⟨[0, 1, 2], [], []⟩
  | 1 => ⟨[0, 1, 2], [], []⟩
  | 2 => ⟨[0, 1, 2, 16], [], []⟩
  | 3 => ⟨[6], [], []⟩
  | 4 => ⟨[0, 1, 2, 7], [], []⟩
  | 5 => ⟨[0, 7], [0, 0, 3, 0, 0, 24, 63, 127], [(0, []), (1, []), (2, []), (3, []), (4, []), (5, []), (6, []), (7, [])]⟩
  | 6 => ⟨[0], [], []⟩
  | 7 => ⟨[6], [], []⟩
  | _ => ⟨[], [], []⟩
noncomputable def F30_c : Code := Try.f30.body.getD .skip
theorem F30_b : Try.f30.body = some F30_c := by kernel_rfl
theorem F30_rs : Try.f30.results.toList = ([.tmp 6] : List ResultVar) := by kernel_rfl
theorem F30_n : Try.f30.ntmps = 33 := by kernel_rfl
theorem F30_ok : toCC [] 33 F30_inf F30_c = some F30 := by kernel_rfl
theorem F30_in {args : List AV} {G : Hp} {post : AV → Hp → Prop} (ha : args.all AV.plain = true) (hn : args.length ≤ 33) (h : BDs args → awp Try.prog [] F30 (AEnds Try.prog [.tmp 6] post) (initT args) G) : ACalls Try.prog 30 args G post :=
  acalls_cc Try.func30 F30_b F30_rs F30_n F30_ok mixed ha hn h

/- 31 slices.Clone[[]int,int] -/
@[simp] noncomputable def F31_r0 : CC := .reg [⟨some 2, none, (.assign (.const (.slice none 0 0)))⟩] [0]
@[simp] noncomputable def F31_r1 : CC := .reg [⟨some 3, none, (.move (.tmp 0))⟩,
  ⟨some 4, none, (.binOp .eql 25 (.tmp 3) (.const (.slice none 0 0)) 25)⟩] [0, 4]
@[simp] noncomputable def F31_r2 : CC := .reg [⟨some 2, none, (.assign (.const (.slice none 0 0)))⟩] [2]
@[simp] noncomputable def F31_r3 : CC := .reg [⟨some 5, none, (.buildSlice 25 0 #[])⟩,
  ⟨some 6, none, (.move (.tmp 0))⟩,
  ⟨some 7, none, (.call { callee := (.builtin .append), args := #[(.tmp 5), (.tmp 6)], argTypes := #[25, 25] })⟩,
  ⟨some 2, none, (.assign (.tmp 7))⟩] [2]
noncomputable def F31 : CC := (.seq F31_r0 (.seq (.seq F31_r1 (.cond (.tmp 4) (.seq F31_r2 .ret) .skip)) (.seq F31_r3 .ret)))
noncomputable def F31_inf : Nat → RI
  | 0 => ⟨[0], [], []⟩
  | 1 => ⟨[0, 4], [], []⟩
  | 2 => ⟨[2], [], []⟩
  | 3 => ⟨[2], [], []⟩
  | _ => ⟨[], [], []⟩
noncomputable def F31_c : Code := Try.f31.body.getD .skip
theorem F31_b : Try.f31.body = some F31_c := by kernel_rfl
theorem F31_rs : Try.f31.results.toList = ([.tmp 2] : List ResultVar) := by kernel_rfl
theorem F31_n : Try.f31.ntmps = 8 := by kernel_rfl
theorem F31_ok : toCC [] 8 F31_inf F31_c = some F31 := by kernel_rfl
theorem F31_in {args : List AV} {G : Hp} {post : AV → Hp → Prop} (ha : args.all AV.plain = true) (hn : args.length ≤ 8) (h : BDs args → awp Try.prog [] F31 (AEnds Try.prog [.tmp 2] post) (initT args) G) : ACalls Try.prog 31 args G post :=
  acalls_cc Try.func31 F31_b F31_rs F31_n F31_ok mixed ha hn h

/- 32 ostiary/ostiaryref02.Cut -/
@[simp] noncomputable def F32_r0 : CC := .reg [⟨some 4, none, (.assign (.const (.slice none 0 0)))⟩] [0, 1]
@[simp] noncomputable def F32_r1 : CC := .reg [⟨some 5, none, (.assign (.const (.slice none 0 0)))⟩] [0, 1, 5]
@[simp] noncomputable def F32_r2 : CC := .reg [⟨some 8, none, (.move (.tmp 0))⟩,
  ⟨some 9, none, (.call { callee := (.builtin .len), args := #[(.tmp 8)], argTypes := #[25] })⟩,
  ⟨some 10, none, (.move (.const (.int .i64 0)))⟩] [1, 5, 8, 9, 10]
@[simp] noncomputable def F32_r3 : CC := .reg [⟨some 11, none, (.binOp .lss 3 (.tmp 10) (.tmp 9) 3)⟩] [1, 5, 8, 9, 10, 11]
@[simp] noncomputable def F32_r4 : CC := .reg [⟨some 12, none, (.move (.tmp 10))⟩,
  ⟨some 13, none, (.indexAddr 25 (.tmp 8) (.tmp 10))⟩,
  ⟨some 14, none, (.load 3 (.tmp 13))⟩,
  ⟨some 6, none, (.assign (.tmp 12))⟩,
  ⟨some 7, none, (.assign (.tmp 14))⟩] [1, 5, 6, 7, 8, 9, 10]
@[simp] noncomputable def F32_r5 : CC := .reg [⟨some 15, none, (.move (.tmp 6))⟩,
  ⟨some 16, none, (.move (.tmp 1))⟩,
  ⟨some 17, none, (.binOp .neq 3 (.tmp 15) (.tmp 16) 3)⟩] [1, 5, 7, 8, 9, 10, 17]
@[simp] noncomputable def F32_r6 : CC := .reg [⟨some 18, none, (.move (.tmp 5))⟩,
  ⟨some 19, none, (.move (.tmp 7))⟩,
  ⟨some 20, none, (.buildSlice 25 1 #[(0, (.tmp 19))])⟩,
  ⟨some 21, none, (.call { callee := (.builtin .append), args := #[(.tmp 18), (.tmp 20)], argTypes := #[25, 25] })⟩,
  ⟨some 5, none, (.assign (.tmp 21))⟩] [1, 5, 8, 9, 10]
@[simp] noncomputable def F32_r7 : CC := .reg [⟨some 22, none, (.binOp .add 3 (.tmp 10) (.const (.int .i64 1)) 3)⟩,
  ⟨some 10, none, (.move (.tmp 22))⟩] [1, 5, 8, 9, 10]
noncomputable def F32_l0 : CC := (.seq F32_r3 (.seq (.cond (.tmp 11) .skip (.exit 0)) (.seq (.block 1 (.seq F32_r4 (.seq F32_r5 (.cond (.tmp 17) F32_r6 .skip)))) F32_r7)))
@[simp] noncomputable def F32_r8 : CC := .reg [⟨some 23, none, (.move (.tmp 5))⟩,
  ⟨some 4, none, (.assign (.tmp 23))⟩] [4]
noncomputable def F32 : CC := (.seq F32_r0 (.seq F32_r1 (.seq (.seq F32_r2 (.block 0 (.loop F32_l0))) (.seq F32_r8 .ret))))
noncomputable def F32_inf : Nat → RI
  | 0 => ⟨[0, 1], [], []⟩
  | 1 => ⟨[0, 1, 5], [], []⟩
  | 2 => ⟨[1, 5, 8, 9, 10], [], []⟩
  | 3 => ⟨[1, 5, 8, 9, 10, 11], [], []⟩
  | 4 => ⟨[1, 5, 6, 7, 8, 9, 10], [], []⟩
  | 5 => ⟨[1, 5, 7, 8, 9, 10, 17], [], []⟩
  | 6 => ⟨[1, 5, 8, 9, 10], [], []⟩
  | 7 => ⟨[1, 5, 8, 9, 10], [], []⟩
  | 8 => ⟨[4], [], []⟩
  | _ => ⟨[], [], []⟩
noncomputable def F32_c : Code := Try.f32.body.getD .skip
theorem F32_b : Try.f32.body = some F32_c := by kernel_rfl
theorem F32_rs : Try.f32.results.toList = ([.tmp 4] : List ResultVar) := by kernel_rfl
theorem F32_n : Try.f32.ntmps = 24 := by kernel_rfl
theorem F32_ok : toCC [] 24 F32_inf F32_c = some F32 := by kernel_rfl
theorem F32_in {args : List AV} {G : Hp} {post : AV → Hp → Prop} (ha : args.all AV.plain = true) (hn : args.length ≤ 24) (h : BDs args → awp Try.prog [] F32 (AEnds Try.prog [.tmp 4] post) (initT args) G) : ACalls Try.prog 32 args G post :=
  acalls_cc Try.func32 F32_b F32_rs F32_n F32_ok mixed ha hn h
end Go.Proofs.Ytfllkpdhkeiofaa
