import Derived.Test.YteifakkknhfdpaaC0K
set_option linter.unusedVariables false
set_option linter.unusedSimpArgs false
set_option maxRecDepth 100000
namespace Go.Proofs.Yteifakkknhfdpaa
open Go Go.Al

/- 39 (*ostiary/shelf.Shelf[int, string]).Keys -/
@[simp] noncomputable def F39_r0 : CC := .reg [⟨some 2, none, (.assign (.const (.slice none 0 0)))⟩] [0]
@[simp] noncomputable def F39_r1 : CC := .reg [⟨some 3, none, (.assign (.const (.slice none 0 0)))⟩] [0, 3]
@[simp] noncomputable def F39_r2 : CC := .reg [⟨some 5, none, (.move (.tmp 0))⟩,
  ⟨some 6, none, (.call { callee := (.value (.func 57)), args := #[(.tmp 5)], argTypes := #[65] })⟩,
  ⟨some 7, none, (.move (.const (.int .i64 0)))⟩] [0, 3, 6, 7]
@[simp] noncomputable def F39_r3 : CC := .reg [⟨some 8, none, (.binOp .lss 3 (.tmp 7) (.tmp 6) 3)⟩] [0, 3, 6, 7, 8]
@[simp] noncomputable def F39_r4 : CC := .reg [⟨some 9, none, (.move (.tmp 7))⟩,
  ⟨some 4, none, (.assign (.tmp 9))⟩] [0, 3, 4, 6, 7]
@[simp] noncomputable def F39_r5 : CC := .reg [⟨some 10, none, (.move (.tmp 3))⟩,
  ⟨some 11, none, (.move (.tmp 0))⟩,
  ⟨some 12, none, (.nilCheck (.tmp 11))⟩,
  ⟨some 13, none, (.fieldAddr 95 (.tmp 12) 0)⟩,
  ⟨some 14, none, (.load 93 (.tmp 13))⟩,
  ⟨some 15, none, (.move (.tmp 4))⟩,
  ⟨some 16, none, (.indexAddr 93 (.tmp 14) (.tmp 15))⟩,
  ⟨some 17, none, (.fieldAddr 97 (.tmp 16) 0)⟩,
  ⟨some 18, none, (.load 3 (.tmp 17))⟩,
  ⟨some 19, none, (.buildSlice 22 1 #[(0, (.tmp 18))])⟩,
  ⟨some 20, none, (.call { callee := (.builtin .append), args := #[(.tmp 10), (.tmp 19)], argTypes := #[22, 22] })⟩,
  ⟨some 3, none, (.assign (.tmp 20))⟩] [0, 3, 6, 7]
@[simp] noncomputable def F39_r6 : CC := .reg [⟨some 21, none, (.binOp .add 3 (.tmp 7) (.const (.int .i64 1)) 3)⟩,
  ⟨some 7, none, (.move (.tmp 21))⟩] [0, 3, 6, 7]
noncomputable def F39_l0 : CC := (.seq F39_r3 (.seq (.cond (.tmp 8) .skip (.exit 0)) (.seq (.block 1 (.seq F39_r4 F39_r5)) F39_r6)))
@[simp] noncomputable def F39_r7 : CC := .reg [⟨some 22, none, (.move (.tmp 3))⟩,
  ⟨some 2, none, (.assign (.tmp 22))⟩] [2]
noncomputable def F39 : CC := (.seq F39_r0 (.seq F39_r1 (.seq (.seq F39_r2 (.block 0 (.loop F39_l0))) (.seq F39_r7 .ret))))
noncomputable def F39_inf : Nat → RI
  | 0 => ⟨[0], [], []⟩
  | 1 => ⟨[0, 3], [], []⟩
  | 2 => ⟨[0, 3, 6, 7], [], []⟩
  | 3 => ⟨[0, 3, 6, 7, 8], [], []⟩
  | 4 => ⟨[0, 3, 4, 6, 7], [], []⟩
  | 5 => ⟨[0, 3, 6, 7], [], []⟩
  | 6 => ⟨[0, 3, 6, 7], [], []⟩
  | 7 => ⟨[2], [], []⟩
  | _ => ⟨[], [], []⟩
noncomputable def F39_c : Code := Try.f39.body.getD .skip
theorem F39_b : Try.f39.body = some F39_c := by kernel_rfl
theorem F39_rs : Try.f39.results.toList = ([.tmp 2] : List ResultVar) := by kernel_rfl
theorem F39_n : Try.f39.ntmps = 23 := by kernel_rfl
theorem F39_ok : toCC [] 23 F39_inf F39_c = some F39 := by kernel_rfl
theorem F39_in {args : List AV} {G : Hp} {post : AV → Hp → Prop} (ha : args.all AV.plain = true) (hn : args.length ≤ 23) (h : BDs args → awp Try.prog [] F39 (AEnds Try.prog [.tmp 2] post) (initT args) G) : ACalls Try.prog 39 args G post :=
  acalls_cc Try.func39 F39_b F39_rs F39_n F39_ok mixed ha hn h

/- 40 ostiary/ostiaryref02.Cut -/
@[simp] noncomputable def F40_r0 : CC := .reg [⟨some 4, none, (.assign (.const (.slice none 0 0)))⟩] [0, 1]
@[simp] noncomputable def F40_r1 : CC := .reg [⟨some 5, none, (.assign (.const (.slice none 0 0)))⟩] [0, 1, 5]
@[simp] noncomputable def F40_r2 : CC := .reg [⟨some 8, none, (.move (.tmp 0))⟩,
  ⟨some 9, none, (.call { callee := (.builtin .len), args := #[(.tmp 8)], argTypes := #[22] })⟩,
  ⟨some 10, none, (.move (.const (.int .i64 0)))⟩] [1, 5, 8, 9, 10]
@[simp] noncomputable def F40_r3 : CC := .reg [⟨some 11, none, (.binOp .lss 3 (.tmp 10) (.tmp 9) 3)⟩] [1, 5, 8, 9, 10, 11]
@[simp] noncomputable def F40_r4 : CC := .reg [⟨some 12, none, (.move (.tmp 10))⟩,
  ⟨some 13, none, (.indexAddr 22 (.tmp 8) (.tmp 10))⟩,
  ⟨some 14, none, (.load 3 (.tmp 13))⟩,
  ⟨some 6, none, (.assign (.tmp 12))⟩,
  ⟨some 7, none, (.assign (.tmp 14))⟩] [1, 5, 6, 7, 8, 9, 10]
@[simp] noncomputable def F40_r5 : CC := .reg [⟨some 15, none, (.move (.tmp 6))⟩,
  ⟨some 16, none, (.move (.tmp 1))⟩,
  ⟨some 17, none, (.binOp .neq 3 (.tmp 15) (.tmp 16) 3)⟩] [1, 5, 7, 8, 9, 10, 17]
@[simp] noncomputable def F40_r6 : CC := .reg [⟨some 18, none, (.move (.tmp 5))⟩,
  ⟨some 19, none, (.move (.tmp 7))⟩,
  ⟨some 20, none, (.buildSlice 22 1 #[(0, (.tmp 19))])⟩,
  ⟨some 21, none, (.call { callee := (.builtin .append), args := #[(.tmp 18), (.tmp 20)], argTypes := #[22, 22] })⟩,
  ⟨some 5, none, (.assign (.tmp 21))⟩] [1, 5, 8, 9, 10]
@[simp] noncomputable def F40_r7 : CC := .reg [⟨some 22, none, (.binOp .add 3 (.tmp 10) (.const (.int .i64 1)) 3)⟩,
  ⟨some 10, none, (.move (.tmp 22))⟩] [1, 5, 8, 9, 10]
noncomputable def F40_l0 : CC := (.seq F40_r3 (.seq (.cond (.tmp 11) .skip (.exit 0)) (.seq (.block 1 (.seq F40_r4 (.seq F40_r5 (.cond (.tmp 17) F40_r6 .skip)))) F40_r7)))
@[simp] noncomputable def F40_r8 : CC := .reg [⟨some 23, none, (.move (.tmp 5))⟩,
  ⟨some 4, none, (.assign (.tmp 23))⟩] [4]
noncomputable def F40 : CC := (.seq F40_r0 (.seq F40_r1 (.seq (.seq F40_r2 (.block 0 (.loop F40_l0))) (.seq F40_r8 .ret))))
noncomputable def F40_inf : Nat → RI
  | 0 => ⟨[0, 1], [], []⟩
  | 1 => ⟨[0, 1, 5], [], []⟩
  | 2 => ⟨[1, 5, 8, 9, 10], [], []⟩
  | 3 => ⟨[1, 5, 8, 9, 10, 11], [], []⟩
  | 4 => ⟨[1, 5, 6, 7, 8, 9, 10], [], []⟩
  | 5 => ⟨[1, 5, 7, 8, 9, 10, 17], [], []⟩
  | 6 => ⟨[1, 5, 8, 9, 10], [], []⟩
  | 7 => ⟨[1, 5, 8, 9, 10], [], []⟩
  | 8 => ⟨[4], [], []⟩
  | _ => ⟨[], [], []⟩
noncomputable def F40_c : Code := Try.f40.body.getD .skip
theorem F40_b : Try.f40.body = some F40_c := by kernel_rfl
theorem F40_rs : Try.f40.results.toList = ([.tmp 4] : List ResultVar) := by kernel_rfl
theorem F40_n : Try.f40.ntmps = 24 := by kernel_rfl
theorem F40_ok : toCC [] 24 F40_inf F40_c = some F40 := by kernel_rfl
theorem F40_in {args : List AV} {G : Hp} {post : AV → Hp → Prop} (ha : args.all AV.plain = true) (hn : args.length ≤ 24) (h : BDs args → awp Try.prog [] F40 (AEnds Try.prog [.tmp 4] post) (initT args) G) : ACalls Try.prog 40 args G post :=
  acalls_cc Try.func40 F40_b F40_rs F40_n F40_ok mixed ha hn h

/- 41 slices.Clone[[]int,int] -/
@[simp] noncomputable def F41_r0 : CC := .reg [⟨some 2, none, (.assign (.const (.slice none 0 0)))⟩] [0]
@[simp] noncomputable def F41_r1 : CC := .reg [⟨some 3, none, (.move (.tmp 0))⟩,
  ⟨some 4, none, (.binOp .eql 22 (.tmp 3) (.const (.slice none 0 0)) 22)⟩] [0, 4]
@[simp] noncomputable def F41_r2 : CC := .reg [⟨some 2, none, (.assign (.const (.slice none 0 0)))⟩] [2]
@[simp] noncomputable def F41_r3 : CC := .reg [⟨some 5, none, (.buildSlice 22 0 #[])⟩,
  ⟨some 6, none, (.move (.tmp 0))⟩,
  ⟨some 7, none, (.call { callee := (.builtin .append), args := #[(.tmp 5), (.tmp 6)], argTypes := #[22, 22] })⟩,
  ⟨some 2, none, (.assign (.tmp 7))⟩] [2]
noncomputable def F41 : CC := (.seq F41_r0 (.seq (.seq F41_r1 (.cond (.tmp 4) (.seq F41_r2 .ret) .skip)) (.seq F41_r3 .ret)))
noncomputable def F41_inf : Nat → RI
  | 0 => ⟨[0], [], []⟩
  | 1 => ⟨[0, 4], [], []⟩
  | 2 => ⟨[2], [], []⟩
  | 3 => ⟨[2], [], []⟩
  | _ => ⟨[], [], []⟩
noncomputable def F41_c : Code := Try.f41.body.getD .skip
theorem F41_b : Try.f41.body = some F41_c := by kernel_rfl
theorem F41_rs : Try.f41.results.toList = ([.tmp 2] : List ResultVar) := by kernel_rfl
theorem F41_n : Try.f41.ntmps = 8 := by kernel_rfl
theorem F41_ok : toCC [] 8 F41_inf F41_c = some F41 := by kernel_rfl
theorem F41_in {args : List AV} {G : Hp} {post : AV → Hp → Prop} (ha : args.all AV.plain = true) (hn : args.length ≤ 8) (h : BDs args → awp Try.prog [] F41 (AEnds Try.prog [.tmp 2] post) (initT args) G) : ACalls Try.prog 41 args G post :=
  acalls_cc Try.func41 F41_b F41_rs F41_n F41_ok mixed ha hn h

/- 42 slices.Delete[[]int,int] -/
@[simp] noncomputable def F42_r0 : CC := .reg [⟨some 6, none, (.assign (.const (.slice none 0 0)))⟩] [0, 1, 2]
@[simp] noncomputable def F42_r1 : CC := .reg [⟨some 8, none, (.move (.tmp 0))⟩,
  ⟨some 9, none, (.move (.tmp 1))⟩,
  ⟨some 10, none, (.move (.tmp 2))⟩,
  ⟨some 11, none, (.move (.tmp 0))⟩,
  ⟨some 12, none, (.call { callee := (.builtin .len), args := #[(.tmp 11)], argTypes := #[22] })⟩,
  ⟨some 13, none, (.slice 22 (.tmp 8) (some (.tmp 9)) (some (.tmp 10)) (some (.tmp 12)))⟩] [0, 1, 2]
@[simp] noncomputable def F42_r2 : CC := .reg [⟨some 14, none, (.move (.tmp 1))⟩,
  ⟨some 15, none, (.move (.tmp 2))⟩,
  ⟨some 16, none, (.binOp .eql 3 (.tmp 14) (.tmp 15) 3)⟩] [0, 1, 2, 16]
@[simp] noncomputable def F42_r3 : CC := .reg [⟨some 17, none, (.move (.tmp 0))⟩,
  ⟨some 6, none, (.assign (.tmp 17))⟩] [6]
@[simp] noncomputable def F42_r4 : CC := .reg [⟨some 18, none, (.move (.tmp 0))⟩,
  ⟨some 19, none, (.call { callee := (.builtin .len), args := #[(.tmp 18)], argTypes := #[22] })⟩,
  ⟨some 7, none, (.assign (.tmp 19))⟩] [0, 1, 2, 7]
@[simp] noncomputable def F42_r5 : CC := .drw [⟨0, ⟨some 20, none, (.move (.tmp 0))⟩, [], []⟩,
  ⟨1, ⟨some 21, none, (.move (.tmp 1))⟩, [], []⟩,
  ⟨2, ⟨some 22, none, (.slice 22 (.tmp 20) none (some (.tmp 21)) none)⟩, [], []⟩,
  ⟨3, ⟨some 23, none, (.move (.tmp 0))⟩, [], []⟩,
  ⟨4, ⟨some 24, none, (.move (.tmp 2))⟩, [], []⟩,
  ⟨5, ⟨some 25, none, (.slice 22 (.tmp 23) (some (.tmp 24)) none none)⟩, [], []⟩,
  ⟨6, ⟨some 26, none, (.call { callee := (.builtin .append), args := #[(.tmp 22), (.tmp 25)], argTypes := #[22, 22] })⟩, [], []⟩,
  ⟨7, ⟨some 0, none, (.assign (.tmp 26))⟩, [], []⟩] [20, 21, 22, 23, 24, 25, 26, 0] [0, 7]
@[simp] noncomputable def F42_r6 : CC := .reg [⟨some 27, none, (.move (.tmp 0))⟩,
  ⟨some 28, none, (.move (.tmp 0))⟩,
  ⟨some 29, none, (.call { callee := (.builtin .len), args := #[(.tmp 28)], argTypes := #[22] })⟩,
  ⟨some 30, none, (.move (.tmp 7))⟩,
  ⟨some 31, none, (.slice 22 (.tmp 27) (some (.tmp 29)) (some (.tmp 30)) none)⟩,
  ⟨none, none, (.call { callee := (.builtin .clear), args := #[(.tmp 31)], argTypes := #[22] })⟩] [0]
@[simp] noncomputable def F42_r7 : CC := .reg [⟨some 32, none, (.move (.tmp 0))⟩,
  ⟨some 6, none, (.assign (.tmp 32))⟩] [6]
noncomputable def F42 : CC := (.seq F42_r0 (.seq F42_r1 (.seq (.seq F42_r2 (.cond (.tmp 16) (.seq F42_r3 .ret) .skip)) (.seq F42_r4 (.seq F42_r5 (.seq F42_r6 (.seq F42_r7 .ret)))))))
noncomputable def F42_inf : Nat → RI
  | 0 => ⟨[0, 1, 2], [], []⟩
  | 1 => ⟨[0, 1, 2], [], []⟩
  | 2 => ⟨[0, 1, 2, 16], [], []⟩
  | 3 => ⟨[6], [], []⟩
  | 4 => ⟨[0, 1, 2, 7], [], []⟩
  | 5 => ⟨[0, 7], [0, 0, 3, 0, 0, 24, 63, 127], [(0, []), (1, []), (2, []), (3, []), (4, []), (5, []), (6, []), (7, [])]⟩
  | 6 => ⟨[0], [], []⟩
  | 7 => ⟨[6], [], []⟩
  | _ => ⟨[], [], []⟩
noncomputable def F42_c : Code := Try.f42.body.getD .skip
theorem F42_b : Try.f42.body = some F42_c := by kernel_rfl
theorem F42_rs : Try.f42.results.toList = ([.tmp 6] : List ResultVar) := by kernel_rfl
theorem F42_n : Try.f42.ntmps = 33 := by kernel_rfl
theorem F42_ok : toCC [] 33 F42_inf F42_c = some F42 := by kernel_rfl
theorem F42_in {args : List AV} {G : Hp} {post : AV → Hp → Prop} (ha : args.all AV.plain = true) (hn : args.length ≤ 33) (h : BDs args → awp Try.prog [] F42 (AEnds Try.prog [.tmp 6] post) (initT args) G) : ACalls Try.prog 42 args G post :=
  acalls_cc Try.func42 F42_b F42_rs F42_n F42_ok mixed ha hn h

/- 43 slices.Delete[[]ostiary/shelf.slot[int, int],ostiary/shelf.slot[int, int]] -/
@[simp] noncomputable def F43_r0 : CC := .reg [⟨some 6, none, (.assign (.const (.slice none 0 0)))⟩] [0, 1, 2]
@[simp] noncomputable def F43_r1 : CC := .reg [⟨some 8, none, (.move (.tmp 0))⟩,
  ⟨some 9, none, (.move (.tmp 1))⟩,
  ⟨some 10, none, (.move (.tmp 2))⟩,
  ⟨some 11, none, (.move (.tmp 0))⟩,
  ⟨some 12, none, (.call { callee := (.builtin .len), args := #[(.tmp 11)], argTypes := #[59] })⟩,
  ⟨some 13, none, (.slice 59 (.tmp 8) (some (.tmp 9)) (some (.tmp 10)) (some (.tmp 12)))⟩] [0, 1, 2]
@[simp] noncomputable def F43_r2 : CC := .reg [⟨some 14, none, (.move (.tmp 1))⟩,
  ⟨some 15, none, (.move (.tmp 2))⟩,
  ⟨some 16, none, (.binOp .eql 3 (.tmp 14) (.tmp 15) 3)⟩] [0, 1, 2, 16]
@[simp] noncomputable def F43_r3 : CC := .reg [⟨some 17, none, (.move (.tmp 0))⟩,
  ⟨some 6, none, (.assign (.tmp 17))⟩] [6]
@[simp] noncomputable def F43_r4 : CC := .reg [⟨some 18, none, (.move (.tmp 0))⟩,
  ⟨some 19, none, (.call { callee := (.builtin .len), args := #[(.tmp 18)], argTypes := #[59] })⟩,
  ⟨some 7, none, (.assign (.tmp 19))⟩] [0, 1, 2, 7]
@[simp] noncomputable def F43_r5 : CC := .drw [⟨0, ⟨some 20, none, (.move (.tmp 0))⟩, [], []⟩,
  ⟨1, ⟨some 21, none, (.move (.tmp 1))⟩, [], []⟩,
  ⟨2, ⟨some 22, none, (.slice 59 (.tmp 20) none (some (.tmp 21)) none)⟩, [], []⟩,
  ⟨3, ⟨some 23, none, (.move (.tmp 0))⟩, [], []⟩,
  ⟨4, ⟨some 24, none, (.move (.tmp 2))⟩, [], []⟩,
  ⟨5, ⟨some 25, none, (.slice 59 (.tmp 23) (some (.tmp 24)) none none)⟩, [], []⟩,
  ⟨6, ⟨some 26, none, (.call { callee := (.builtin .append), args := #[(.tmp 22), (.tmp 25)], argTypes := #[59, 59] })⟩, [], []⟩,
  ⟨7, ⟨some 0, none, (.assign (.tmp 26))⟩, [], []⟩] [20, 21, 22, 23, 24, 25, 26, 0] [0, 7]
@[simp] noncomputable def F43_r6 : CC := .reg [⟨some 27, none, (.move (.tmp 0))⟩,
  ⟨some 28, none, (.move (.tmp 0))⟩,
  ⟨some 29, none, (.call { callee := (.builtin .len), args := #[(.tmp 28)], argTypes := #[59] })⟩,
  ⟨some 30, none, (.move (.tmp 7))⟩,
  ⟨some 31, none, (.slice 59 (.tmp 27) (some (.tmp 29)) (some (.tmp 30)) none)⟩,
  ⟨none, none, (.call { callee := (.builtin .clear), args := #[(.tmp 31)], argTypes := #[59] })⟩] [0]
@[simp] noncomputable def F43_r7 : CC := .reg [⟨some 32, none, (.move (.tmp 0))⟩,
  ⟨some 6, none, (.assign (.tmp 32))⟩] [6]
noncomputable def F43 : CC := (.seq F43_r0 (.seq F43_r1 (.seq (.seq F43_r2 (.cond (.tmp 16) (.seq F43_r3 .ret) .skip)) (.seq F43_r4 (.seq F43_r5 (.seq F43_r6 (.seq F43_r7 .ret)))))))
noncomputable def F43_inf : Nat → RI
  | 0 => ⟨[0, 1, 2], [], []⟩
  | 1 => ⟨[0, 1, 2], [], []⟩
  | 2 => ⟨[0, 1, 2, 16], [], []⟩
  | 3 => ⟨[6], [], []⟩
  | 4 => ⟨[0, 1, 2, 7], [], []⟩
  | 5 => ⟨[0, 7], [0, 0, 3, 0, 0, 24, 63, 127], [(0, []), (1, []), (2, []), (3, []), (4, []), (5, []), (6, []), (7, [])]⟩
  | 6 => ⟨[0], [], []⟩
  | 7 => ⟨[6], [], []⟩
  | _ => ⟨[], [], []⟩
noncomputable def F43_c : Code := Try.f43.body.getD .skip
theorem F43_b : Try.f43.body = some F43_c := by kernel_rfl
theorem F43_rs : Try.f43.results.toList = ([.tmp 6] : List ResultVar) := by kernel_rfl
theorem F43_n : Try.f43.ntmps = 33 := by kernel_rfl
theorem F43_ok : toCC [] 33 F43_inf F43_c = some F43 := by kernel_rfl
theorem F43_in {args : List AV} {G : Hp} {post : AV → Hp → Prop} (ha : args.all AV.plain = true) (hn : args.length ≤ 33) (h : BDs args → awp Try.prog [] F43 (AEnds Try.prog [.tmp 6] post) (initT args) G) : ACalls Try.prog 43 args G post :=
  acalls_cc Try.func43 F43_b F43_rs F43_n F43_ok mixed ha hn h

/- 44 (*ostiary/shelf.Shelf[string, int]).Drop -/
@[simp] noncomputable def F44_r0 : CC := .reg [⟨some 4, none, (.assign (.const (.slice none 0 0)))⟩] [0, 1]
@[simp] noncomputable def F44_r1 : CC := .reg [⟨some 5, none, (.assign (.const (.slice none 0 0)))⟩] [0, 1, 5]
@[simp] noncomputable def F44_r2 : CC := .reg [⟨some 6, none, (.assign (.const (.slice none 0 0)))⟩] [0, 1, 5, 6]
@[simp] noncomputable def F44_r3 : CC := .reg [⟨some 9, none, (.move (.tmp 0))⟩,
  ⟨some 10, none, (.call { callee := (.value (.func 32)), args := #[(.tmp 9)], argTypes := #[48] })⟩,
  ⟨some 11, none, (.move (.const (.int .i64 0)))⟩] [0, 1, 5, 6, 10, 11]
@[simp] noncomputable def F44_r4 : CC := .reg [⟨some 12, none, (.binOp .lss 3 (.tmp 11) (.tmp 10) 3)⟩] [0, 1, 5, 6, 10, 11, 12]
@[simp] noncomputable def F44_r5 : CC := .reg [⟨some 13, none, (.move (.tmp 11))⟩,
  ⟨some 7, none, (.assign (.tmp 13))⟩] [0, 1, 5, 6, 7, 10, 11]
@[simp] noncomputable def F44_r6 : CC := .reg [⟨some 14, none, (.move (.tmp 0))⟩,
  ⟨some 15, none, (.nilCheck (.tmp 14))⟩,
  ⟨some 16, none, (.fieldAddr 78 (.tmp 15) 0)⟩,
  ⟨some 17, none, (.load 76 (.tmp 16))⟩,
  ⟨some 18, none, (.move (.tmp 7))⟩,
  ⟨some 19, none, (.indexAddr 76 (.tmp 17) (.tmp 18))⟩,
  ⟨some 20, none, (.load 90 (.tmp 19))⟩,
  ⟨some 8, none, (.alloc 90)⟩,
  ⟨none, none, (.store 90 (.tmp 8) (.tmp 20))⟩] [0, 1, 5, 6, 8, 10, 11]
@[simp] noncomputable def F44_r7 : CC := .reg [⟨some 21, none, (.move (.tmp 1))⟩,
  ⟨some 22, none, (.fieldAddr 90 (.tmp 8) 0)⟩,
  ⟨some 23, none, (.load 9 (.tmp 22))⟩,
  ⟨some 24, none, (.fieldAddr 90 (.tmp 8) 1)⟩,
  ⟨some 25, none, (.load 3 (.tmp 24))⟩,
  ⟨some 26, none, (.call { callee := (.value (.tmp 21)), args := #[(.tmp 23), (.tmp 25)], argTypes := #[9, 3] })⟩] [0, 1, 5, 6, 8, 10, 11, 26]
@[simp] noncomputable def F44_r8 : CC := .reg [⟨some 27, none, (.move (.tmp 5))⟩,
  ⟨some 28, none, (.fieldAddr 90 (.tmp 8) 1)⟩,
  ⟨some 29, none, (.load 3 (.tmp 28))⟩,
  ⟨some 30, none, (.buildSlice 22 1 #[(0, (.tmp 29))])⟩,
  ⟨some 31, none, (.call { callee := (.builtin .append), args := #[(.tmp 27), (.tmp 30)], argTypes := #[22, 22] })⟩,
  ⟨some 5, none, (.assign (.tmp 31))⟩] [0, 1, 5, 6, 10, 11]
@[simp] noncomputable def F44_r9 : CC := .reg [⟨some 32, none, (.move (.tmp 6))⟩,
  ⟨some 33, none, (.load 90 (.tmp 8))⟩,
  ⟨some 34, none, (.buildSlice 76 1 #[(0, (.tmp 33))])⟩,
  ⟨some 35, none, (.call { callee := (.builtin .append), args := #[(.tmp 32), (.tmp 34)], argTypes := #[76, 76] })⟩,
  ⟨some 6, none, (.assign (.tmp 35))⟩] [0, 1, 5, 6, 10, 11]
@[simp] noncomputable def F44_r10 : CC := .reg [⟨some 36, none, (.binOp .add 3 (.tmp 11) (.const (.int .i64 1)) 3)⟩,
  ⟨some 11, none, (.move (.tmp 36))⟩] [0, 1, 5, 6, 10, 11]
noncomputable def F44_l0 : CC := (.seq F44_r4 (.seq (.cond (.tmp 12) .skip (.exit 0)) (.seq (.block 1 (.seq F44_r5 (.seq F44_r6 (.seq F44_r7 (.cond (.tmp 26) F44_r8 F44_r9))))) F44_r10)))
@[simp] noncomputable def F44_r11 : CC := .reg [⟨some 37, none, (.move (.tmp 0))⟩,
  ⟨some 38, none, (.binOp .neq 48 (.tmp 37) (.const (.pointer none)) 48)⟩] [0, 5, 6, 38]
@[simp] noncomputable def F44_r12 : CC := .reg [⟨some 39, none, (.move (.tmp 0))⟩,
  ⟨some 40, none, (.move (.tmp 6))⟩,
  ⟨some 41, none, (.nilCheck (.tmp 39))⟩,
  ⟨some 42, none, (.fieldAddr 78 (.tmp 41) 0)⟩,
  ⟨none, none, (.store 76 (.tmp 42) (.tmp 40))⟩] [5]
@[simp] noncomputable def F44_r13 : CC := .reg [⟨some 43, none, (.move (.tmp 5))⟩,
  ⟨some 4, none, (.assign (.tmp 43))⟩] [4]
noncomputable def F44 : CC := (.seq F44_r0 (.seq F44_r1 (.seq F44_r2 (.seq (.seq F44_r3 (.block 0 (.loop F44_l0))) (.seq (.seq F44_r11 (.cond (.tmp 38) F44_r12 .skip)) (.seq F44_r13 .ret))))))
noncomputable def F44_inf : Nat → RI
  | 0 => ⟨[0, 1], [], []⟩
  | 1 => ⟨[0, 1, 5], [], []⟩
  | 2 => ⟨[0, 1, 5, 6], [], []⟩
  | 3 => ⟨[0, 1, 5, 6, 10, 11], [], []⟩
  | 4 => ⟨[0, 1, 5, 6, 10, 11, 12], [], []⟩
  | 5 => ⟨[0, 1, 5, 6, 7, 10, 11], [], []⟩
  | 6 => ⟨[0, 1, 5, 6, 8, 10, 11], [], []⟩
  | 7 => ⟨[0, 1, 5, 6, 8, 10, 11, 26], [], []⟩
  | 8 => ⟨[0, 1, 5, 6, 10, 11], [], []⟩
  | 9 => ⟨[0, 1, 5, 6, 10, 11], [], []⟩
  | 10 => ⟨[0, 1, 5, 6, 10, 11], [], []⟩
  | 11 => ⟨[0, 5, 6, 38], [], []⟩
  | 12 => ⟨[5], [], []⟩
  | 13 => ⟨[4], [], []⟩
  | _ => ⟨[], [], []⟩
noncomputable def F44_c : Code := Try.f44.body.getD .skip
theorem F44_b : Try.f44.body = some F44_c := by kernel_rfl
theorem F44_rs : Try.f44.results.toList = ([.tmp 4] : List ResultVar) := by kernel_rfl
theorem F44_n : Try.f44.ntmps = 44 := by kernel_rfl
theorem F44_ok : toCC [] 44 F44_inf F44_c = some F44 := by kernel_rfl
theorem F44_in {args : List AV} {G : Hp} {post : AV → Hp → Prop} (ha : args.all AV.plain = true) (hn : args.length ≤ 44) (h : BDs args → awp Try.prog [] F44 (AEnds Try.prog [.tmp 4] post) (initT args) G) : ACalls Try.prog 44 args G post :=
  acalls_cc Try.func44 F44_b F44_rs F44_n F44_ok mixed ha hn h

/- 45 ostiary/ostiarylaw02.drop$1 -/
@[simp] noncomputable def F45_r0 : CC := .reg [⟨some 5, none, (.assign (.const (.bool false)))⟩] [1, 2]
@[simp] noncomputable def F45_r1 : CC := .reg [⟨some 6, none, (.move (.tmp 1))⟩,
  ⟨some 7, none, (.load 3 (.tmp 2))⟩,
  ⟨some 8, none, (.binOp .lss 3 (.tmp 6) (.tmp 7) 3)⟩,
  ⟨some 5, none, (.assign (.tmp 8))⟩] [5]
noncomputable def F45 : CC := (.seq F45_r0 (.seq F45_r1 .ret))
noncomputable def F45_inf : Nat → RI
  | 0 => ⟨[1, 2], [], []⟩
  | 1 => ⟨[5], [], []⟩
  | _ => ⟨[], [], []⟩
noncomputable def F45_c : Code := Try.f45.body.getD .skip
theorem F45_b : Try.f45.body = some F45_c := by kernel_rfl
theorem F45_rs : Try.f45.results.toList = ([.tmp 5] : List ResultVar) := by kernel_rfl
theorem F45_n : Try.f45.ntmps = 9 := by kernel_rfl
theorem F45_ok : toCC [] 9 F45_inf F45_c = some F45 := by kernel_rfl
theorem F45_in {args : List AV} {G : Hp} {post : AV → Hp → Prop} (ha : args.all AV.plain = true) (hn : args.length ≤ 9) (h : BDs args → awp Try.prog [] F45 (AEnds Try.prog [.tmp 5] post) (initT args) G) : ACalls Try.prog 45 args G post :=
  acalls_cc Try.func45 F45_b F45_rs F45_n F45_ok mixed ha hn h

/- 46 ostiary/ostiaryref02.Get -/
@[simp] noncomputable def F46_r0 : CC := .reg [⟨some 4, none, (.assign (.const (.int .i64 0)))⟩,
  ⟨some 5, none, (.assign (.const (.bool false)))⟩] [0, 1]
@[simp] noncomputable def F46_r1 : CC := .reg [⟨some 8, none, (.move (.tmp 0))⟩,
  ⟨some 9, none, (.call { callee := (.builtin .len), args := #[(.tmp 8)], argTypes := #[50] })⟩,
  ⟨some 10, none, (.move (.const (.int .i64 0)))⟩] [1, 8, 9, 10]
@[simp] noncomputable def F46_r2 : CC := .reg [⟨some 11, none, (.binOp .lss 3 (.tmp 10) (.tmp 9) 3)⟩] [1, 8, 9, 10, 11]
@[simp] noncomputable def F46_r3 : CC := .reg [⟨some 12, none, (.indexAddr 50 (.tmp 8) (.tmp 10))⟩,
  ⟨some 13, none, (.load 52 (.tmp 12))⟩,
  ⟨some 7, none, (.alloc 52)⟩,
  ⟨none, none, (.store 52 (.tmp 7) (.tmp 13))⟩] [1, 7, 8, 9, 10]
@[simp] noncomputable def F46_r4 : CC := .reg [⟨some 14, none, (.fieldAddr 52 (.tmp 7) 0)⟩,
  ⟨some 15, none, (.load 9 (.tmp 14))⟩,
  ⟨some 16, none, (.move (.tmp 1))⟩,
  ⟨some 17, none, (.binOp .eql 9 (.tmp 15) (.tmp 16) 9)⟩] [1, 7, 8, 9, 10, 17]
@[simp] noncomputable def F46_r5 : CC := .reg [⟨some 18, none, (.fieldAddr 52 (.tmp 7) 1)⟩,
  ⟨some 19, none, (.load 3 (.tmp 18))⟩,
  ⟨some 4, none, (.assign (.tmp 19))⟩,
  ⟨some 5, none, (.assign (.const (.bool true)))⟩] [4, 5]
@[simp] noncomputable def F46_r6 : CC := .reg [⟨some 20, none, (.binOp .add 3 (.tmp 10) (.const (.int .i64 1)) 3)⟩,
  ⟨some 10, none, (.move (.tmp 20))⟩] [1, 8, 9, 10]
noncomputable def F46_l0 : CC := (.seq F46_r2 (.seq (.cond (.tmp 11) .skip (.exit 0)) (.seq (.block 1 (.seq F46_r3 (.seq F46_r4 (.cond (.tmp 17) (.seq F46_r5 .ret) .skip)))) F46_r6)))
@[simp] noncomputable def F46_r7 : CC := .reg [⟨some 4, none, (.assign (.const (.int .i64 0)))⟩,
  ⟨some 5, none, (.assign (.const (.bool false)))⟩] [4, 5]
noncomputable def F46 : CC := (.seq F46_r0 (.seq (.seq F46_r1 (.block 0 (.loop F46_l0))) (.seq F46_r7 .ret)))
noncomputable def F46_inf : Nat → RI
  | 0 => ⟨[0, 1], [], []⟩
  | 1 => ⟨[1, 8, 9, 10], [], []⟩
  | 2 => ⟨[1, 8, 9, 10, 11], [], []⟩
  | 3 => ⟨[1, 7, 8, 9, 10], [], []⟩
  | 4 => ⟨[1, 7, 8, 9, 10, 17], [], []⟩
  | 5 => ⟨[4, 5], [], []⟩
  | 6 => ⟨[1, 8, 9, 10], [], []⟩
  | 7 => ⟨[4, 5], [], []⟩
  | _ => ⟨[], [], []⟩
noncomputable def F46_c : Code := Try.f46.body.getD .skip
theorem F46_b : Try.f46.body = some F46_c := by kernel_rfl
theorem F46_rs : Try.f46.results.toList = ([.tmp 4, .tmp 5] : List ResultVar) := by kernel_rfl
theorem F46_n : Try.f46.ntmps = 21 := by kernel_rfl
theorem F46_ok : toCC [] 21 F46_inf F46_c = some F46 := by kernel_rfl
theorem F46_in {args : List AV} {G : Hp} {post : AV → Hp → Prop} (ha : args.all AV.plain = true) (hn : args.length ≤ 21) (h : BDs args → awp Try.prog [] F46 (AEnds Try.prog [.tmp 4, .tmp 5] post) (initT args) G) : ACalls Try.prog 46 args G post :=
  acalls_cc Try.func46 F46_b F46_rs F46_n F46_ok mixed ha hn h

/- 47 (*ostiary/shelf.Shelf[string, int]).Set -/
@[simp] noncomputable def F47_r0 : CC := .reg [⟨some 6, none, (.assign (.const (.int .i64 0)))⟩] [0, 1, 2]
@[simp] noncomputable def F47_r1 : CC := .reg [⟨some 9, none, (.move (.tmp 0))⟩,
  ⟨some 10, none, (.binOp .eql 48 (.tmp 9) (.const (.pointer none)) 48)⟩] [0, 1, 2, 10]
@[simp] noncomputable def F47_r2 : CC := .reg [⟨some 6, none, (.assign (.const (.int .i64 11)))⟩] [6]
@[simp] noncomputable def F47_r3 : CC := .reg [⟨some 12, none, (.move (.tmp 0))⟩,
  ⟨some 13, none, (.move (.tmp 1))⟩,
  ⟨some 14, none, (.call { callee := (.value (.func 58)), args := #[(.tmp 12), (.tmp 13)], argTypes := #[48, 9] })⟩,
  ⟨some 11, none, (.move (.tmp 14))⟩,
  ⟨some 15, none, (.extract (.tmp 11) 0)⟩,
  ⟨some 16, none, (.extract (.tmp 11) 1)⟩,
  ⟨some 7, none, (.assign (.tmp 15))⟩,
  ⟨some 8, none, (.assign (.tmp 16))⟩] [0, 1, 2, 7, 8]
@[simp] noncomputable def F47_r5 : CC := .reg [⟨some 31, none, (.move (.tmp 8))⟩,
  ⟨some 30, none, (.assign (.tmp 31))⟩] [0, 1, 2, 7, 30]
@[simp] noncomputable def F47_r6 : CC := .reg [⟨some 32, none, (.move (.tmp 0))⟩,
  ⟨some 33, none, (.nilCheck (.tmp 32))⟩,
  ⟨some 34, none, (.fieldAddr 78 (.tmp 33) 0)⟩,
  ⟨some 35, none, (.load 76 (.tmp 34))⟩,
  ⟨some 36, none, (.move (.tmp 7))⟩,
  ⟨some 37, none, (.move (.tmp 2))⟩,
  ⟨some 38, none, (.indexAddr 76 (.tmp 35) (.tmp 36))⟩,
  ⟨some 39, none, (.fieldAddr 90 (.tmp 38) 1)⟩,
  ⟨none, none, (.store 3 (.tmp 39) (.tmp 37))⟩] []
@[simp] noncomputable def F47_r7 : CC := .drw [⟨0, ⟨some 41, none, (.move (.tmp 0))⟩, [], []⟩,
  ⟨1, ⟨some 42, none, (.nilCheck (.tmp 41))⟩, [], []⟩,
  ⟨2, ⟨some 43, none, (.fieldAddr 78 (.tmp 42) 0)⟩, [], []⟩,
  ⟨3, ⟨some 44, none, (.load 76 (.tmp 43))⟩, [], []⟩,
  ⟨4, ⟨some 45, none, (.call { callee := (.builtin .len), args := #[(.tmp 44)], argTypes := #[76] })⟩, [], []⟩,
  ⟨5, ⟨some 46, none, (.move (.tmp 0))⟩, [], []⟩,
  ⟨6, ⟨some 47, none, (.nilCheck (.tmp 46))⟩, [], []⟩,
  ⟨7, ⟨some 48, none, (.fieldAddr 78 (.tmp 47) 1)⟩, [], []⟩,
  ⟨8, ⟨some 49, none, (.load 3 (.tmp 48))⟩, [], []⟩,
  ⟨9, ⟨some 50, none, (.binOp .geq 3 (.tmp 45) (.tmp 49) 3)⟩, [], []⟩,
  ⟨10, ⟨some 40, none, (.assign (.tmp 50))⟩, [], []⟩] [41, 42, 43, 44, 45, 46, 47, 48, 49, 50, 40] [0, 1, 2, 7, 40]
@[simp] noncomputable def F47_r8 : CC := .reg [⟨some 6, none, (.assign (.const (.int .i64 4)))⟩] [6]
@[simp] noncomputable def F47_r4 : CC := .reg [⟨some 17, none, (.move (.tmp 0))⟩,
  ⟨some 18, none, (.move (.tmp 0))⟩,
  ⟨some 19, none, (.nilCheck (.tmp 18))⟩,
  ⟨some 20, none, (.fieldAddr 78 (.tmp 19) 0)⟩,
  ⟨some 21, none, (.load 76 (.tmp 20))⟩,
  ⟨some 22, none, (.move (.tmp 7))⟩,
  ⟨some 23, none, (.move (.tmp 1))⟩,
  ⟨some 24, none, (.move (.tmp 2))⟩,
  ⟨some 25, none, (.build 90 #[(0, (.tmp 23)), (1, (.tmp 24))])⟩,
  ⟨some 26, none, (.buildSlice 76 1 #[(0, (.tmp 25))])⟩,
  ⟨some 27, none, (.call { callee := (.value (.func 59)), args := #[(.tmp 21), (.tmp 22), (.tmp 26)], argTypes := #[76, 3, 76] })⟩,
  ⟨some 28, none, (.nilCheck (.tmp 17))⟩,
  ⟨some 29, none, (.fieldAddr 78 (.tmp 28) 0)⟩,
  ⟨none, none, (.store 76 (.tmp 29) (.tmp 27))⟩] []
@[simp] noncomputable def F47_r9 : CC := .reg [⟨some 6, none, (.assign (.const (.int .i64 0)))⟩] [6]
noncomputable def F47 : CC := (.seq F47_r0 (.seq (.seq F47_r1 (.cond (.tmp 10) (.seq F47_r2 .ret) .skip)) (.seq F47_r3 (.seq (.block 0 (.seq F47_r5 (.cond (.tmp 30) F47_r6 (.seq F47_r7 (.cond (.tmp 40) (.seq F47_r8 .ret) F47_r4))))) (.seq F47_r9 .ret)))))
noncomputable def F47_inf : Nat → RI
  | 0 => ⟨[0, 1, 2], [], []⟩
  | 1 => ⟨[0, 1, 2, 10], [], []⟩
  | 2 => ⟨[6], [], []⟩
  | 3 => ⟨[0, 1, 2, 7, 8], [], []⟩
  | 5 => ⟨[0, 1, 2, 7, 30], [], []⟩
  | 6 => ⟨[], [], []⟩
  | 7 => ⟨[0, 1, 2, 7, 40], [0, 1, 3, 7, 15, 0, 32, 96, 224, 511, 1023], [(0, []), (1, []), (2, []), (3, []), (4, []), (5, []), (6, []), (7, []), (8, []), (9, []), (10, [])]⟩
  | 8 => ⟨[6], [], []⟩
  | 4 => ⟨[], [], []⟩
  | 9 => ⟨[6], [], []⟩
  | _ => ⟨[], [], []⟩
noncomputable def F47_c : Code := Try.f47.body.getD .skip
theorem F47_b : Try.f47.body = some F47_c := by kernel_rfl
theorem F47_rs : Try.f47.results.toList = ([.tmp 6] : List ResultVar) := by kernel_rfl
theorem F47_n : Try.f47.ntmps = 51 := by kernel_rfl
theorem F47_ok : toCC [] 51 F47_inf F47_c = some F47 := by kernel_rfl
theorem F47_in {args : List AV} {G : Hp} {post : AV → Hp → Prop} (ha : args.all AV.plain = true) (hn : args.length ≤ 51) (h : BDs args → awp Try.prog [] F47 (AEnds Try.prog [.tmp 6] post) (initT args) G) : ACalls Try.prog 47 args G post :=
  acalls_cc Try.func47 F47_b F47_rs F47_n F47_ok mixed ha hn h

/- 48 ostiary/ostiaryref02.Set -/
@[simp] noncomputable def F48_r0 : CC := .reg [⟨some 6, none, (.assign (.const (.slice none 0 0)))⟩] [0, 1, 2]
@[simp] noncomputable def F48_r1 : CC := .reg [⟨some 7, none, (.assign (.const (.slice none 0 0)))⟩] [0, 1, 2, 7]
@[simp] noncomputable def F48_r2 : CC := .reg [⟨some 8, none, (.assign (.const (.bool false)))⟩] [0, 1, 2, 7, 8]
@[simp] noncomputable def F48_r3 : CC := .reg [⟨some 11, none, (.move (.tmp 0))⟩,
  ⟨some 12, none, (.call { callee := (.builtin .len), args := #[(.tmp 11)], argTypes := #[50] })⟩,
  ⟨some 13, none, (.move (.const (.int .i64 0)))⟩] [1, 2, 7, 8, 11, 12, 13]
@[simp] noncomputable def F48_r4 : CC := .reg [⟨some 14, none, (.binOp .lss 3 (.tmp 13) (.tmp 12) 3)⟩] [1, 2, 7, 8, 11, 12, 13, 14]
@[simp] noncomputable def F48_r5 : CC := .reg [⟨some 15, none, (.indexAddr 50 (.tmp 11) (.tmp 13))⟩,
  ⟨some 16, none, (.load 52 (.tmp 15))⟩,
  ⟨some 10, none, (.alloc 52)⟩,
  ⟨none, none, (.store 52 (.tmp 10) (.tmp 16))⟩] [1, 2, 7, 8, 10, 11, 12, 13]
@[simp] noncomputable def F48_r6 : CC := .reg [⟨some 17, none, (.move (.tmp 8))⟩,
  ⟨some 18, none, (.unOp .not 4 (.tmp 17))⟩,
  ⟨some 19, none, (.move (.tmp 18))⟩,
  ⟨some 20, some (19, true), (.fieldAddr 52 (.tmp 10) 0)⟩,
  ⟨some 21, some (19, true), (.load 9 (.tmp 20))⟩,
  ⟨some 22, some (19, true), (.move (.tmp 1))⟩,
  ⟨some 23, some (19, true), (.binOp .geq 9 (.tmp 21) (.tmp 22) 9)⟩,
  ⟨some 24, none, (.pick (.tmp 19) (.tmp 23) (.const (.bool false)))⟩] [1, 2, 7, 8, 10, 11, 12, 13, 24]
@[simp] noncomputable def F48_r7 : CC := .reg [⟨some 25, none, (.move (.tmp 7))⟩,
  ⟨some 26, none, (.move (.tmp 1))⟩,
  ⟨some 27, none, (.move (.tmp 2))⟩,
  ⟨some 28, none, (.build 52 #[(0, (.tmp 26)), (1, (.tmp 27))])⟩,
  ⟨some 29, none, (.buildSlice 50 1 #[(0, (.tmp 28))])⟩,
  ⟨some 30, none, (.call { callee := (.builtin .append), args := #[(.tmp 25), (.tmp 29)], argTypes := #[50, 50] })⟩,
  ⟨some 7, none, (.assign (.tmp 30))⟩] [1, 2, 7, 10, 11, 12, 13]
@[simp] noncomputable def F48_r8 : CC := .reg [⟨some 8, none, (.assign (.const (.bool true)))⟩] [1, 2, 7, 8, 10, 11, 12, 13]
@[simp] noncomputable def F48_r9 : CC := .reg [⟨some 31, none, (.fieldAddr 52 (.tmp 10) 0)⟩,
  ⟨some 32, none, (.load 9 (.tmp 31))⟩,
  ⟨some 33, none, (.move (.tmp 1))⟩,
  ⟨some 34, none, (.binOp .neq 9 (.tmp 32) (.tmp 33) 9)⟩] [1, 2, 7, 8, 10, 11, 12, 13, 34]
@[simp] noncomputable def F48_r10 : CC := .reg [⟨some 35, none, (.move (.tmp 7))⟩,
  ⟨some 36, none, (.load 52 (.tmp 10))⟩,
  ⟨some 37, none, (.buildSlice 50 1 #[(0, (.tmp 36))])⟩,
  ⟨some 38, none, (.call { callee := (.builtin .append), args := #[(.tmp 35), (.tmp 37)], argTypes := #[50, 50] })⟩,
  ⟨some 7, none, (.assign (.tmp 38))⟩] [1, 2, 7, 8, 11, 12, 13]
@[simp] noncomputable def F48_r11 : CC := .reg [⟨some 39, none, (.binOp .add 3 (.tmp 13) (.const (.int .i64 1)) 3)⟩,
  ⟨some 13, none, (.move (.tmp 39))⟩] [1, 2, 7, 8, 11, 12, 13]
noncomputable def F48_l0 : CC := (.seq F48_r4 (.seq (.cond (.tmp 14) .skip (.exit 0)) (.seq (.block 1 (.seq F48_r5 (.seq (.seq F48_r6 (.cond (.tmp 24) (.seq F48_r7 F48_r8) .skip)) (.seq F48_r9 (.cond (.tmp 34) F48_r10 .skip))))) F48_r11)))
@[simp] noncomputable def F48_r12 : CC := .reg [⟨some 40, none, (.move (.tmp 8))⟩,
  ⟨some 41, none, (.unOp .not 4 (.tmp 40))⟩] [1, 2, 7, 41]
@[simp] noncomputable def F48_r13 : CC := .reg [⟨some 42, none, (.move (.tmp 7))⟩,
  ⟨some 43, none, (.move (.tmp 1))⟩,
  ⟨some 44, none, (.move (.tmp 2))⟩,
  ⟨some 45, none, (.build 52 #[(0, (.tmp 43)), (1, (.tmp 44))])⟩,
  ⟨some 46, none, (.buildSlice 50 1 #[(0, (.tmp 45))])⟩,
  ⟨some 47, none, (.call { callee := (.builtin .append), args := #[(.tmp 42), (.tmp 46)], argTypes := #[50, 50] })⟩,
  ⟨some 7, none, (.assign (.tmp 47))⟩] [7]
@[simp] noncomputable def F48_r14 : CC := .reg [⟨some 48, none, (.move (.tmp 7))⟩,
  ⟨some 6, none, (.assign (.tmp 48))⟩] [6]
noncomputable def F48 : CC := (.seq F48_r0 (.seq F48_r1 (.seq F48_r2 (.seq (.seq F48_r3 (.block 0 (.loop F48_l0))) (.seq (.seq F48_r12 (.cond (.tmp 41) F48_r13 .skip)) (.seq F48_r14 .ret))))))
noncomputable def F48_inf : Nat → RI
  | 0 => ⟨[0, 1, 2], [], []⟩
  | 1 => ⟨[0, 1, 2, 7], [], []⟩
  | 2 => ⟨[0, 1, 2, 7, 8], [], []⟩
  | 3 => ⟨[1, 2, 7, 8, 11, 12, 13], [], []⟩
  | 4 => ⟨[1, 2, 7, 8, 11, 12, 13, 14], [], []⟩
  | 5 => ⟨[1, 2, 7, 8, 10, 11, 12, 13], [], []⟩
  | 6 => ⟨[1, 2, 7, 8, 10, 11, 12, 13, 24], [], []⟩
  | 7 => ⟨[1, 2, 7, 10, 11, 12, 13], [], []⟩
  | 8 => ⟨[1, 2, 7, 8, 10, 11, 12, 13], [], []⟩
  | 9 => ⟨[1, 2, 7, 8, 10, 11, 12, 13, 34], [], []⟩
  | 10 => ⟨[1, 2, 7, 8, 11, 12, 13], [], []⟩
  | 11 => ⟨[1, 2, 7, 8, 11, 12, 13], [], []⟩
  | 12 => ⟨[1, 2, 7, 41], [], []⟩
  | 13 => ⟨[7], [], []⟩
  | 14 => ⟨[6], [], []⟩
  | _ => ⟨[], [], []⟩
noncomputable def F48_c : Code := Try.f48.body.getD .skip
theorem F48_b : Try.f48.body = some F48_c := by kernel_rfl
theorem F48_rs : Try.f48.results.toList = ([.tmp 6] : List ResultVar) := by kernel_rfl
theorem F48_n : Try.f48.ntmps = 49 := by kernel_rfl
theorem F48_ok : toCC [] 49 F48_inf F48_c = some F48 := by kernel_rfl
theorem F48_in {args : List AV} {G : Hp} {post : AV → Hp → Prop} (ha : args.all AV.plain = true) (hn : args.length ≤ 49) (h : BDs args → awp Try.prog [] F48 (AEnds Try.prog [.tmp 6] post) (initT args) G) : ACalls Try.prog 48 args G post :=
  acalls_cc Try.func48 F48_b F48_rs F48_n F48_ok mixed ha hn h

/- 49 (*ostiary/shelf.Shelf[string, int]).Get -/
@[simp] noncomputable def F49_r0 : CC := .reg [⟨some 4, none, (.assign (.const (.int .i64 0)))⟩,
  ⟨some 5, none, (.assign (.const (.bool false)))⟩] [0, 1]
@[simp] noncomputable def F49_r1 : CC := .reg [⟨some 9, none, (.move (.tmp 0))⟩,
  ⟨some 10, none, (.binOp .neq 48 (.tmp 9) (.const (.pointer none)) 48)⟩] [0, 1, 10]
@[simp] noncomputable def F49_r2 : CC := .reg [⟨some 12, none, (.move (.tmp 0))⟩,
  ⟨some 13, none, (.move (.tmp 1))⟩,
  ⟨some 14, none, (.call { callee := (.value (.func 58)), args := #[(.tmp 12), (.tmp 13)], argTypes := #[48, 9] })⟩,
  ⟨some 11, none, (.move (.tmp 14))⟩,
  ⟨some 15, none, (.extract (.tmp 11) 0)⟩,
  ⟨some 16, none, (.extract (.tmp 11) 1)⟩,
  ⟨some 6, none, (.assign (.tmp 15))⟩,
  ⟨some 7, none, (.assign (.tmp 16))⟩] [0, 6, 7]
@[simp] noncomputable def F49_r3 : CC := .reg [⟨some 17, none, (.move (.tmp 7))⟩] [0, 6, 17]
@[simp] noncomputable def F49_r4 : CC := .reg [⟨some 18, none, (.move (.tmp 0))⟩,
  ⟨some 19, none, (.nilCheck (.tmp 18))⟩,
  ⟨some 20, none, (.fieldAddr 78 (.tmp 19) 0)⟩,
  ⟨some 21, none, (.load 76 (.tmp 20))⟩,
  ⟨some 22, none, (.move (.tmp 6))⟩,
  ⟨some 23, none, (.indexAddr 76 (.tmp 21) (.tmp 22))⟩,
  ⟨some 24, none, (.fieldAddr 90 (.tmp 23) 1)⟩,
  ⟨some 25, none, (.load 3 (.tmp 24))⟩,
  ⟨some 4, none, (.assign (.tmp 25))⟩,
  ⟨some 5, none, (.assign (.const (.bool true)))⟩] [4, 5]
@[simp] noncomputable def F49_r5 : CC := .reg [⟨some 8, none, (.assign (.const (.int .i64 0)))⟩] [8]
@[simp] noncomputable def F49_r6 : CC := .reg [⟨some 26, none, (.move (.tmp 8))⟩,
  ⟨some 4, none, (.assign (.tmp 26))⟩,
  ⟨some 5, none, (.assign (.const (.bool false)))⟩] [4, 5]
noncomputable def F49 : CC := (.seq F49_r0 (.seq (.seq F49_r1 (.cond (.tmp 10) (.seq F49_r2 (.seq F49_r3 (.cond (.tmp 17) (.seq F49_r4 .ret) .skip))) .skip)) (.seq F49_r5 (.seq F49_r6 .ret))))
noncomputable def F49_inf : Nat → RI
  | 0 => ⟨[0, 1], [], []⟩
  | 1 => ⟨[0, 1, 10], [], []⟩
  | 2 => ⟨[0, 6, 7], [], []⟩
  | 3 => ⟨[0, 6, 17], [], []⟩
  | 4 => ⟨[4, 5], [], []⟩
  | 5 => ⟨[8], [], []⟩
  | 6 => ⟨[4, 5], [], []⟩
  | _ => ⟨[], [], []⟩
noncomputable def F49_c : Code := Try.f49.body.getD .skip
theorem F49_b : Try.f49.body = some F49_c := by kernel_rfl
theorem F49_rs : Try.f49.results.toList = ([.tmp 4, .tmp 5] : List ResultVar) := by kernel_rfl
theorem F49_n : Try.f49.ntmps = 27 := by kernel_rfl
theorem F49_ok : toCC [] 27 F49_inf F49_c = some F49 := by kernel_rfl
theorem F49_in {args : List AV} {G : Hp} {post : AV → Hp → Prop} (ha : args.all AV.plain = true) (hn : args.length ≤ 27) (h : BDs args → awp Try.prog [] F49 (AEnds Try.prog [.tmp 4, .tmp 5] post) (initT args) G) : ACalls Try.prog 49 args G post :=
  acalls_cc Try.func49 F49_b F49_rs F49_n F49_ok mixed ha hn h

/- 50 (*ostiary/shelf.Shelf[string, int]).Del -/
@[simp] noncomputable def F50_r0 : CC := .reg [⟨some 4, none, (.assign (.const (.int .i64 0)))⟩] [0, 1]
@[simp] noncomputable def F50_r1 : CC := .reg [⟨some 5, none, (.assign (.const (.int .i64 0)))⟩] [0, 1, 5]
@[simp] noncomputable def F50_r2 : CC := .reg [⟨some 10, none, (.move (.tmp 1))⟩,
  ⟨some 11, none, (.call { callee := (.builtin .len), args := #[(.tmp 10)], argTypes := #[57] })⟩,
  ⟨some 12, none, (.move (.const (.int .i64 0)))⟩] [0, 5, 10, 11, 12]
@[simp] noncomputable def F50_r3 : CC := .reg [⟨some 13, none, (.binOp .lss 3 (.tmp 12) (.tmp 11) 3)⟩] [0, 5, 10, 11, 12, 13]
@[simp] noncomputable def F50_r4 : CC := .reg [⟨some 14, none, (.indexAddr 57 (.tmp 10) (.tmp 12))⟩,
  ⟨some 15, none, (.load 9 (.tmp 14))⟩,
  ⟨some 7, none, (.assign (.tmp 15))⟩] [0, 5, 7, 10, 11, 12]
@[simp] noncomputable def F50_r5 : CC := .reg [⟨some 16, none, (.move (.tmp 0))⟩,
  ⟨some 17, none, (.binOp .eql 48 (.tmp 16) (.const (.pointer none)) 48)⟩] [0, 5, 7, 10, 11, 12, 17]
@[simp] noncomputable def F50_r6 : CC := .reg [⟨some 19, none, (.move (.tmp 0))⟩,
  ⟨some 20, none, (.move (.tmp 7))⟩,
  ⟨some 21, none, (.call { callee := (.value (.func 58)), args := #[(.tmp 19), (.tmp 20)], argTypes := #[48, 9] })⟩,
  ⟨some 18, none, (.move (.tmp 21))⟩,
  ⟨some 22, none, (.extract (.tmp 18) 0)⟩,
  ⟨some 23, none, (.extract (.tmp 18) 1)⟩,
  ⟨some 8, none, (.assign (.tmp 22))⟩,
  ⟨some 9, none, (.assign (.tmp 23))⟩] [0, 5, 8, 9, 10, 11, 12]
@[simp] noncomputable def F50_r7 : CC := .reg [⟨some 24, none, (.move (.tmp 9))⟩] [0, 5, 8, 10, 11, 12, 24]
@[simp] noncomputable def F50_r8 : CC := .reg [⟨some 25, none, (.move (.tmp 0))⟩,
  ⟨some 26, none, (.move (.tmp 0))⟩,
  ⟨some 27, none, (.nilCheck (.tmp 26))⟩,
  ⟨some 28, none, (.fieldAddr 78 (.tmp 27) 0)⟩,
  ⟨some 29, none, (.load 76 (.tmp 28))⟩,
  ⟨some 30, none, (.move (.tmp 8))⟩,
  ⟨some 31, none, (.move (.tmp 8))⟩,
  ⟨some 32, none, (.binOp .add 3 (.tmp 31) (.const (.int .i64 1)) 3)⟩,
  ⟨some 33, none, (.call { callee := (.value (.func 60)), args := #[(.tmp 29), (.tmp 30), (.tmp 32)], argTypes := #[76, 3, 3] })⟩,
  ⟨some 34, none, (.nilCheck (.tmp 25))⟩,
  ⟨some 35, none, (.fieldAddr 78 (.tmp 34) 0)⟩,
  ⟨none, none, (.store 76 (.tmp 35) (.tmp 33))⟩] [0, 5, 10, 11, 12]
@[simp] noncomputable def F50_r9 : CC := .reg [⟨some 36, none, (.move (.tmp 5))⟩,
  ⟨some 37, none, (.binOp .add 3 (.tmp 36) (.const (.int .i64 1)) 3)⟩,
  ⟨some 5, none, (.assign (.tmp 37))⟩] [0, 5, 10, 11, 12]
@[simp] noncomputable def F50_r10 : CC := .reg [⟨some 38, none, (.binOp .add 3 (.tmp 12) (.const (.int .i64 1)) 3)⟩,
  ⟨some 12, none, (.move (.tmp 38))⟩] [0, 5, 10, 11, 12]
noncomputable def F50_l0 : CC := (.seq F50_r3 (.seq (.cond (.tmp 13) .skip (.exit 0)) (.seq (.block 1 (.seq F50_r4 (.seq (.seq F50_r5 (.cond (.tmp 17) (.exit 0) .skip)) (.seq F50_r6 (.seq F50_r7 (.cond (.tmp 24) (.seq F50_r8 F50_r9) .skip)))))) F50_r10)))
@[simp] noncomputable def F50_r11 : CC := .reg [⟨some 39, none, (.move (.tmp 5))⟩,
  ⟨some 4, none, (.assign (.tmp 39))⟩] [4]
noncomputable def F50 : CC := (.seq F50_r0 (.seq F50_r1 (.seq (.seq F50_r2 (.block 0 (.loop F50_l0))) (.seq F50_r11 .ret))))
noncomputable def F50_inf : Nat → RI
  | 0 => ⟨[0, 1], [], []⟩
  | 1 => ⟨[0, 1, 5], [], []⟩
  | 2 => ⟨[0, 5, 10, 11, 12], [], []⟩
  | 3 => ⟨[0, 5, 10, 11, 12, 13], [], []⟩
  | 4 => ⟨[0, 5, 7, 10, 11, 12], [], []⟩
  | 5 => ⟨[0, 5, 7, 10, 11, 12, 17], [], []⟩
  | 6 => ⟨[0, 5, 8, 9, 10, 11, 12], [], []⟩
  | 7 => ⟨[0, 5, 8, 10, 11, 12, 24], [], []⟩
  | 8 => ⟨[0, 5, 10, 11, 12], [], []⟩
  | 9 => ⟨[0, 5, 10, 11, 12], [], []⟩
  | 10 => ⟨[0, 5, 10, 11, 12], [], []⟩
  | 11 => ⟨[4], [], []⟩
  | _ => ⟨[], [], []⟩
noncomputable def F50_c : Code := Try.f50.body.getD .skip
theorem F50_b : Try.f50.body = some F50_c := by kernel_rfl
theorem F50_rs : Try.f50.results.toList = ([.tmp 4] : List ResultVar) := by kernel_rfl
theorem F50_n : Try.f50.ntmps = 40 := by kernel_rfl
theorem F50_ok : toCC [] 40 F50_inf F50_c = some F50 := by kernel_rfl
theorem F50_in {args : List AV} {G : Hp} {post : AV → Hp → Prop} (ha : args.all AV.plain = true) (hn : args.length ≤ 40) (h : BDs args → awp Try.prog [] F50 (AEnds Try.prog [.tmp 4] post) (initT args) G) : ACalls Try.prog 50 args G post :=
  acalls_cc Try.func50 F50_b F50_rs F50_n F50_ok mixed ha hn h
end Go.Proofs.Yteifakkknhfdpaa
