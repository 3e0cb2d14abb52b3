import Derived.Test.YtjkighndbjnbjaaC0K
set_option linter.unusedVariables false
set_option linter.unusedSimpArgs false
set_option maxRecDepth 100000
namespace Go.Proofs.Ytjkighndbjnbjaa
open Go Go.Al

/- 27 (*ostiary/ostiaryref23.Pool).Put -/
@[simp] noncomputable def F27_r0 : CC := .reg [⟨some 3, none, (.box 66 (.tmp 1))⟩,
  ⟨some 4, none, (.assign (.const (.int .i64 0)))⟩] [0, 3]
@[simp] noncomputable def F27_r1 : CC := .reg [⟨some 6, none, (.move (.tmp 0))⟩,
  ⟨some 7, none, (.fieldAddr 66 (.tmp 3) 1)⟩,
  ⟨some 8, none, (.load 22 (.tmp 7))⟩,
  ⟨some 9, none, (.call { callee := (.value (.func 36)), args := #[(.tmp 6), (.tmp 8)], argTypes := #[29, 22] })⟩,
  ⟨some 5, none, (.assign (.tmp 9))⟩] [0, 3, 5]
@[simp] noncomputable def F27_r2 : CC := .reg [⟨some 10, none, (.move (.tmp 5))⟩,
  ⟨some 11, none, (.binOp .lss 3 (.tmp 10) (.const (.int .i64 0)) 3)⟩] [0, 3, 5, 11]
@[simp] noncomputable def F27_r3 : CC := .reg [⟨some 4, none, (.assign (.const (.int .i64 7)))⟩] [4]
@[simp] noncomputable def F27_r4 : CC := .reg [⟨some 12, none, (.move (.tmp 0))⟩,
  ⟨some 13, none, (.nilCheck (.tmp 12))⟩,
  ⟨some 14, none, (.fieldAddr 61 (.tmp 13) 2)⟩,
  ⟨some 15, none, (.load 58 (.tmp 14))⟩,
  ⟨some 16, none, (.move (.tmp 5))⟩,
  ⟨some 17, none, (.indexAddr 58 (.tmp 15) (.tmp 16))⟩,
  ⟨some 18, none, (.load 4 (.tmp 17))⟩,
  ⟨some 19, none, (.move (.tmp 18))⟩,
  ⟨some 20, some (19, false), (.move (.tmp 0))⟩,
  ⟨some 21, some (19, false), (.fieldAddr 66 (.tmp 3) 0)⟩,
  ⟨some 22, some (19, false), (.load 33 (.tmp 21))⟩,
  ⟨some 23, some (19, false), (.call { callee := (.value (.func 35)), args := #[(.tmp 20), (.tmp 22)], argTypes := #[29, 33] })⟩,
  ⟨some 24, some (19, false), (.binOp .geq 3 (.tmp 23) (.const (.int .i64 0)) 3)⟩,
  ⟨some 25, none, (.pick (.tmp 19) (.const (.bool true)) (.tmp 24))⟩] [0, 3, 5, 25]
@[simp] noncomputable def F27_r5 : CC := .reg [⟨some 4, none, (.assign (.const (.int .i64 3)))⟩] [4]
@[simp] noncomputable def F27_r6 : CC := .reg [⟨some 26, none, (.move (.tmp 0))⟩,
  ⟨some 27, none, (.nilCheck (.tmp 26))⟩,
  ⟨some 28, none, (.fieldAddr 61 (.tmp 27) 2)⟩,
  ⟨some 29, none, (.load 58 (.tmp 28))⟩,
  ⟨some 30, none, (.move (.tmp 5))⟩,
  ⟨some 31, none, (.indexAddr 58 (.tmp 29) (.tmp 30))⟩,
  ⟨none, none, (.store 4 (.tmp 31) (.const (.bool true)))⟩] [0, 3, 5]
@[simp] noncomputable def F27_r7 : CC := .drw [⟨0, ⟨some 32, none, (.move (.tmp 0))⟩, [], []⟩,
  ⟨1, ⟨some 33, none, (.nilCheck (.tmp 32))⟩, [], []⟩,
  ⟨2, ⟨some 34, none, (.fieldAddr 61 (.tmp 33) 3)⟩, [], []⟩,
  ⟨3, ⟨some 35, none, (.load 59 (.tmp 34))⟩, [], []⟩,
  ⟨4, ⟨some 36, none, (.move (.tmp 5))⟩, [], []⟩,
  ⟨5, ⟨some 37, none, (.load 66 (.tmp 3))⟩, [], []⟩,
  ⟨6, ⟨some 38, none, (.indexAddr 59 (.tmp 35) (.tmp 36))⟩, [], []⟩,
  ⟨7, ⟨none, none, (.store 66 (.tmp 38) (.tmp 37))⟩, [], []⟩] [32, 33, 34, 35, 36, 37, 38] []
@[simp] noncomputable def F27_r8 : CC := .reg [⟨some 4, none, (.assign (.const (.int .i64 0)))⟩] [4]
noncomputable def F27 : CC := (.seq F27_r0 (.seq F27_r1 (.seq (.seq F27_r2 (.cond (.tmp 11) (.seq F27_r3 .ret) .skip)) (.seq (.seq F27_r4 (.cond (.tmp 25) (.seq F27_r5 .ret) .skip)) (.seq F27_r6 (.seq F27_r7 (.seq F27_r8 .ret)))))))
noncomputable def F27_inf : Nat → RI
  | 0 => ⟨[0, 3], [], []⟩
  | 1 => ⟨[0, 3, 5], [], []⟩
  | 2 => ⟨[0, 3, 5, 11], [], []⟩
  | 3 => ⟨[4], [], []⟩
  | 4 => ⟨[0, 3, 5, 25], [], []⟩
  | 5 => ⟨[4], [], []⟩
  | 6 => ⟨[0, 3, 5], [], []⟩
  | 7 => ⟨[], [0, 1, 3, 7, 0, 0, 63, 127], [(0, []), (1, []), (2, []), (3, []), (4, []), (5, []), (6, []), (7, [])]⟩
  | 8 => ⟨[4], [], []⟩
  | _ => ⟨[], [], []⟩
noncomputable def F27_c : Code := Try.f27.body.getD .skip
theorem F27_b : Try.f27.body = some F27_c := by kernel_rfl
theorem F27_rs : Try.f27.results.toList = ([.tmp 4] : List ResultVar) := by kernel_rfl
theorem F27_n : Try.f27.ntmps = 39 := by kernel_rfl
theorem F27_ok : toCC [] 39 F27_inf F27_c = some F27 := by kernel_rfl
theorem F27_in {args : List AV} {G : Hp} {post : AV → Hp → Prop} (ha : args.all AV.plain = true) (hn : args.length ≤ 39) (h : BDs args → awp Try.prog [] F27 (AEnds Try.prog [.tmp 4] post) (initT args) G) : ACalls Try.prog 27 args G post :=
  acalls_cc Try.func27 F27_b F27_rs F27_n F27_ok mixed ha hn h

/- 28 (*ostiary/shelf.Shelf[ostiary/api.Ip, ostiary/pool.Lease]).Vals -/
@[simp] noncomputable def F28_r0 : CC := .reg [⟨some 2, none, (.assign (.const (.slice none 0 0)))⟩] [0]
@[simp] noncomputable def F28_r1 : CC := .reg [⟨some 3, none, (.assign (.const (.slice none 0 0)))⟩] [0, 3]
@[simp] noncomputable def F28_r2 : CC := .reg [⟨some 5, none, (.move (.tmp 0))⟩,
  ⟨some 6, none, (.call { callee := (.value (.func 37)), args := #[(.tmp 5)], argTypes := #[54] })⟩,
  ⟨some 7, none, (.move (.const (.int .i64 0)))⟩] [0, 3, 6, 7]
@[simp] noncomputable def F28_r3 : CC := .reg [⟨some 8, none, (.binOp .lss 3 (.tmp 7) (.tmp 6) 3)⟩] [0, 3, 6, 7, 8]
@[simp] noncomputable def F28_r4 : CC := .reg [⟨some 9, none, (.move (.tmp 7))⟩,
  ⟨some 4, none, (.assign (.tmp 9))⟩] [0, 3, 4, 6, 7]
@[simp] noncomputable def F28_r5 : CC := .reg [⟨some 10, none, (.move (.tmp 3))⟩,
  ⟨some 11, none, (.move (.tmp 0))⟩,
  ⟨some 12, none, (.nilCheck (.tmp 11))⟩,
  ⟨some 13, none, (.fieldAddr 81 (.tmp 12) 0)⟩,
  ⟨some 14, none, (.load 79 (.tmp 13))⟩,
  ⟨some 15, none, (.move (.tmp 4))⟩,
  ⟨some 16, none, (.indexAddr 79 (.tmp 14) (.tmp 15))⟩,
  ⟨some 17, none, (.fieldAddr 86 (.tmp 16) 1)⟩,
  ⟨some 18, none, (.load 41 (.tmp 17))⟩,
  ⟨some 19, none, (.buildSlice 37 1 #[(0, (.tmp 18))])⟩,
  ⟨some 20, none, (.call { callee := (.builtin .append), args := #[(.tmp 10), (.tmp 19)], argTypes := #[37, 37] })⟩,
  ⟨some 3, none, (.assign (.tmp 20))⟩] [0, 3, 6, 7]
@[simp] noncomputable def F28_r6 : CC := .reg [⟨some 21, none, (.binOp .add 3 (.tmp 7) (.const (.int .i64 1)) 3)⟩,
  ⟨some 7, none, (.move (.tmp 21))⟩] [0, 3, 6, 7]
noncomputable def F28_l0 : CC := (.seq F28_r3 (.seq (.cond (.tmp 8) .skip (.exit 0)) (.seq (.block 1 (.seq F28_r4 F28_r5)) F28_r6)))
@[simp] noncomputable def F28_r7 : CC := .reg [⟨some 22, none, (.move (.tmp 3))⟩,
  ⟨some 2, none, (.assign (.tmp 22))⟩] [2]
noncomputable def F28 : CC := (.seq F28_r0 (.seq F28_r1 (.seq (.seq F28_r2 (.block 0 (.loop F28_l0))) (.seq F28_r7 .ret))))
noncomputable def F28_inf : Nat → RI
  | 0 => ⟨[0], [], []⟩
  | 1 => ⟨[0, 3], [], []⟩
  | 2 => ⟨[0, 3, 6, 7], [], []⟩
  | 3 => ⟨[0, 3, 6, 7, 8], [], []⟩
  | 4 => ⟨[0, 3, 4, 6, 7], [], []⟩
  | 5 => ⟨[0, 3, 6, 7], [], []⟩
  | 6 => ⟨[0, 3, 6, 7], [], []⟩
  | 7 => ⟨[2], [], []⟩
  | _ => ⟨[], [], []⟩
noncomputable def F28_c : Code := Try.f28.body.getD .skip
theorem F28_b : Try.f28.body = some F28_c := by kernel_rfl
theorem F28_rs : Try.f28.results.toList = ([.tmp 2] : List ResultVar) := by kernel_rfl
theorem F28_n : Try.f28.ntmps = 23 := by kernel_rfl
theorem F28_ok : toCC [] 23 F28_inf F28_c = some F28 := by kernel_rfl
theorem F28_in {args : List AV} {G : Hp} {post : AV → Hp → Prop} (ha : args.all AV.plain = true) (hn : args.length ≤ 23) (h : BDs args → awp Try.prog [] F28 (AEnds Try.prog [.tmp 2] post) (initT args) G) : ACalls Try.prog 28 args G post :=
  acalls_cc Try.func28 F28_b F28_rs F28_n F28_ok mixed ha hn h

/- 29 (*ostiary/shelf.Shelf[ostiary/api.Ip, ostiary/pool.Lease]).Get -/
@[simp] noncomputable def F29_r0 : CC := .reg [⟨some 4, none, (.alloc 41)⟩,
  ⟨some 5, none, (.assign (.const (.bool false)))⟩] [0, 1, 4]
@[simp] noncomputable def F29_r1 : CC := .reg [⟨some 9, none, (.move (.tmp 0))⟩,
  ⟨some 10, none, (.binOp .neq 54 (.tmp 9) (.const (.pointer none)) 54)⟩] [0, 1, 4, 10]
@[simp] noncomputable def F29_r2 : CC := .reg [⟨some 12, none, (.move (.tmp 0))⟩,
  ⟨some 13, none, (.move (.tmp 1))⟩,
  ⟨some 14, none, (.call { callee := (.value (.func 38)), args := #[(.tmp 12), (.tmp 13)], argTypes := #[54, 28] })⟩,
  ⟨some 11, none, (.move (.tmp 14))⟩,
  ⟨some 15, none, (.extract (.tmp 11) 0)⟩,
  ⟨some 16, none, (.extract (.tmp 11) 1)⟩,
  ⟨some 6, none, (.assign (.tmp 15))⟩,
  ⟨some 7, none, (.assign (.tmp 16))⟩] [0, 4, 6, 7]
@[simp] noncomputable def F29_r3 : CC := .reg [⟨some 17, none, (.move (.tmp 7))⟩] [0, 4, 6, 17]
@[simp] noncomputable def F29_r4 : CC := .reg [⟨some 18, none, (.move (.tmp 0))⟩,
  ⟨some 19, none, (.nilCheck (.tmp 18))⟩,
  ⟨some 20, none, (.fieldAddr 81 (.tmp 19) 0)⟩,
  ⟨some 21, none, (.load 79 (.tmp 20))⟩,
  ⟨some 22, none, (.move (.tmp 6))⟩,
  ⟨some 23, none, (.indexAddr 79 (.tmp 21) (.tmp 22))⟩,
  ⟨some 24, none, (.fieldAddr 86 (.tmp 23) 1)⟩,
  ⟨some 25, none, (.load 41 (.tmp 24))⟩,
  ⟨none, none, (.store 41 (.tmp 4) (.tmp 25))⟩,
  ⟨some 5, none, (.assign (.const (.bool true)))⟩] [4, 5]
@[simp] noncomputable def F29_r5 : CC := .reg [⟨some 8, none, (.alloc 41)⟩] [4, 8]
@[simp] noncomputable def F29_r6 : CC := .reg [⟨some 26, none, (.load 41 (.tmp 8))⟩,
  ⟨none, none, (.store 41 (.tmp 4) (.tmp 26))⟩,
  ⟨some 5, none, (.assign (.const (.bool false)))⟩] [4, 5]
noncomputable def F29 : CC := (.seq F29_r0 (.seq (.seq F29_r1 (.cond (.tmp 10) (.seq F29_r2 (.seq F29_r3 (.cond (.tmp 17) (.seq F29_r4 .ret) .skip))) .skip)) (.seq F29_r5 (.seq F29_r6 .ret))))
noncomputable def F29_inf : Nat → RI
  | 0 => ⟨[0, 1, 4], [], []⟩
  | 1 => ⟨[0, 1, 4, 10], [], []⟩
  | 2 => ⟨[0, 4, 6, 7], [], []⟩
  | 3 => ⟨[0, 4, 6, 17], [], []⟩
  | 4 => ⟨[4, 5], [], []⟩
  | 5 => ⟨[4, 8], [], []⟩
  | 6 => ⟨[4, 5], [], []⟩
  | _ => ⟨[], [], []⟩
noncomputable def F29_c : Code := Try.f29.body.getD .skip
theorem F29_b : Try.f29.body = some F29_c := by kernel_rfl
theorem F29_rs : Try.f29.results.toList = ([.cell 4 41, .tmp 5] : List ResultVar) := by kernel_rfl
theorem F29_n : Try.f29.ntmps = 27 := by kernel_rfl
theorem F29_ok : toCC [] 27 F29_inf F29_c = some F29 := by kernel_rfl
theorem F29_in {args : List AV} {G : Hp} {post : AV → Hp → Prop} (ha : args.all AV.plain = true) (hn : args.length ≤ 27) (h : BDs args → awp Try.prog [] F29 (AEnds Try.prog [.cell 4 41, .tmp 5] post) (initT args) G) : ACalls Try.prog 29 args G post :=
  acalls_cc Try.func29 F29_b F29_rs F29_n F29_ok mixed ha hn h

/- 30 (*ostiary/pool.Pool).has -/
@[simp] noncomputable def F30_r0 : CC := .reg [⟨some 4, none, (.assign (.const (.bool false)))⟩] [0, 1]
@[simp] noncomputable def F30_r1 : CC := .drw [⟨0, ⟨some 5, none, (.move (.tmp 1))⟩, [], []⟩,
  ⟨1, ⟨some 6, none, (.move (.tmp 0))⟩, [], []⟩,
  ⟨2, ⟨some 7, none, (.nilCheck (.tmp 6))⟩, [], []⟩,
  ⟨3, ⟨some 8, none, (.fieldAddr 57 (.tmp 7) 0)⟩, [], []⟩,
  ⟨4, ⟨some 9, none, (.load 28 (.tmp 8))⟩, [], []⟩,
  ⟨5, ⟨some 10, none, (.binOp .gtr 28 (.tmp 5) (.tmp 9) 28)⟩, [], []⟩,
  ⟨6, ⟨some 11, none, (.move (.tmp 10))⟩, [], []⟩,
  ⟨7, ⟨some 12, some (11, true), (.move (.tmp 1))⟩, [], []⟩,
  ⟨8, ⟨some 13, some (11, true), (.move (.tmp 0))⟩, [], []⟩,
  ⟨9, ⟨some 14, some (11, true), (.nilCheck (.tmp 13))⟩, [], []⟩,
  ⟨10, ⟨some 15, some (11, true), (.fieldAddr 57 (.tmp 14) 0)⟩, [], []⟩,
  ⟨11, ⟨some 16, some (11, true), (.load 28 (.tmp 15))⟩, [], []⟩,
  ⟨12, ⟨some 17, some (11, true), (.binOp .sub 28 (.tmp 12) (.tmp 16) 28)⟩, [], []⟩,
  ⟨13, ⟨some 18, some (11, true), (.move (.tmp 0))⟩, [], []⟩,
  ⟨14, ⟨some 19, some (11, true), (.nilCheck (.tmp 18))⟩, [], []⟩,
  ⟨15, ⟨some 20, some (11, true), (.fieldAddr 57 (.tmp 19) 1)⟩, [], []⟩,
  ⟨16, ⟨some 21, some (11, true), (.load 3 (.tmp 20))⟩, [], []⟩,
  ⟨17, ⟨some 22, some (11, true), (.convert 3 28 (.tmp 21))⟩, [], []⟩,
  ⟨18, ⟨some 23, some (11, true), (.binOp .leq 28 (.tmp 17) (.tmp 22) 28)⟩, [], []⟩,
  ⟨19, ⟨some 24, none, (.pick (.tmp 11) (.tmp 23) (.const (.bool false)))⟩, [], []⟩,
  ⟨20, ⟨some 4, none, (.assign (.tmp 24))⟩, [], []⟩] [5, 6, 7, 8, 9, 10, 11, 12, 13, 14, 15, 16, 17, 18, 19, 20, 21, 22, 23, 24, 4] [4]
noncomputable def F30 : CC := (.seq F30_r0 (.seq F30_r1 .ret))
noncomputable def F30_inf : Nat → RI
  | 0 => ⟨[0, 1], [], []⟩
  | 1 => ⟨[4], [0, 0, 2, 6, 14, 31, 63, 127, 127, 383, 895, 1919, 4095, 127, 8319, 24703, 57471, 123007, 262143, 524287, 1048575], [(0, []), (1, []), (2, []), (3, []), (4, []), (5, []), (6, []), (7, []), (8, []), (9, []), (10, []), (11, []), (12, []), (13, []), (14, []), (15, []), (16, []), (17, []), (18, []), (19, []), (20, [])]⟩
  | _ => ⟨[], [], []⟩
noncomputable def F30_c : Code := Try.f30.body.getD .skip
theorem F30_b : Try.f30.body = some F30_c := by kernel_rfl
theorem F30_rs : Try.f30.results.toList = ([.tmp 4] : List ResultVar) := by kernel_rfl
theorem F30_n : Try.f30.ntmps = 25 := by kernel_rfl
theorem F30_ok : toCC [] 25 F30_inf F30_c = some F30 := by kernel_rfl
theorem F30_in {args : List AV} {G : Hp} {post : AV → Hp → Prop} (ha : args.all AV.plain = true) (hn : args.length ≤ 25) (h : BDs args → awp Try.prog [] F30 (AEnds Try.prog [.tmp 4] post) (initT args) G) : ACalls Try.prog 30 args G post :=
  acalls_cc Try.func30 F30_b F30_rs F30_n F30_ok mixed ha hn h

/- 31 (*ostiary/shelf.Shelf[ostiary/api.Ip, ostiary/pool.Lease]).Set -/
@[simp] noncomputable def F31_r0 : CC := .reg [⟨some 5, none, (.box 41 (.tmp 2))⟩,
  ⟨some 6, none, (.assign (.const (.int .i64 0)))⟩] [0, 1, 5]
@[simp] noncomputable def F31_r1 : CC := .reg [⟨some 9, none, (.move (.tmp 0))⟩,
  ⟨some 10, none, (.binOp .eql 54 (.tmp 9) (.const (.pointer none)) 54)⟩] [0, 1, 5, 10]
@[simp] noncomputable def F31_r2 : CC := .reg [⟨some 6, none, (.assign (.const (.int .i64 11)))⟩] [6]
@[simp] noncomputable def F31_r3 : CC := .reg [⟨some 12, none, (.move (.tmp 0))⟩,
  ⟨some 13, none, (.move (.tmp 1))⟩,
  ⟨some 14, none, (.call { callee := (.value (.func 38)), args := #[(.tmp 12), (.tmp 13)], argTypes := #[54, 28] })⟩,
  ⟨some 11, none, (.move (.tmp 14))⟩,
  ⟨some 15, none, (.extract (.tmp 11) 0)⟩,
  ⟨some 16, none, (.extract (.tmp 11) 1)⟩,
  ⟨some 7, none, (.assign (.tmp 15))⟩,
  ⟨some 8, none, (.assign (.tmp 16))⟩] [0, 1, 5, 7, 8]
@[simp] noncomputable def F31_r5 : CC := .reg [⟨some 31, none, (.move (.tmp 8))⟩,
  ⟨some 30, none, (.assign (.tmp 31))⟩] [0, 1, 5, 7, 30]
@[simp] noncomputable def F31_r6 : CC := .drw [⟨0, ⟨some 32, none, (.move (.tmp 0))⟩, [], []⟩,
  ⟨1, ⟨some 33, none, (.nilCheck (.tmp 32))⟩, [], []⟩,
  ⟨2, ⟨some 34, none, (.fieldAddr 81 (.tmp 33) 0)⟩, [], []⟩,
  ⟨3, ⟨some 35, none, (.load 79 (.tmp 34))⟩, [], []⟩,
  ⟨4, ⟨some 36, none, (.move (.tmp 7))⟩, [], []⟩,
  ⟨5, ⟨some 37, none, (.load 41 (.tmp 5))⟩, [], []⟩,
  ⟨6, ⟨some 38, none, (.indexAddr 79 (.tmp 35) (.tmp 36))⟩, [], []⟩,
  ⟨7, ⟨some 39, none, (.fieldAddr 86 (.tmp 38) 1)⟩, [], []⟩,
  ⟨8, ⟨none, none, (.store 41 (.tmp 39) (.tmp 37))⟩, [], []⟩] [32, 33, 34, 35, 36, 37, 38, 39] []
@[simp] noncomputable def F31_r7 : CC := .drw [⟨0, ⟨some 41, none, (.move (.tmp 0))⟩, [], []⟩,
  ⟨1, ⟨some 42, none, (.nilCheck (.tmp 41))⟩, [], []⟩,
  ⟨2, ⟨some 43, none, (.fieldAddr 81 (.tmp 42) 0)⟩, [], []⟩,
  ⟨3, ⟨some 44, none, (.load 79 (.tmp 43))⟩, [], []⟩,
  ⟨4, ⟨some 45, none, (.call { callee := (.builtin .len), args := #[(.tmp 44)], argTypes := #[79] })⟩, [], []⟩,
  ⟨5, ⟨some 46, none, (.move (.tmp 0))⟩, [], []⟩,
  ⟨6, ⟨some 47, none, (.nilCheck (.tmp 46))⟩, [], []⟩,
  ⟨7, ⟨some 48, none, (.fieldAddr 81 (.tmp 47) 1)⟩, [], []⟩,
  ⟨8, ⟨some 49, none, (.load 3 (.tmp 48))⟩, [], []⟩,
  ⟨9, ⟨some 50, none, (.binOp .geq 3 (.tmp 45) (.tmp 49) 3)⟩, [], []⟩,
  ⟨10, ⟨some 40, none, (.assign (.tmp 50))⟩, [], []⟩] [41, 42, 43, 44, 45, 46, 47, 48, 49, 50, 40] [0, 1, 5, 7, 40]
@[simp] noncomputable def F31_r8 : CC := .reg [⟨some 6, none, (.assign (.const (.int .i64 4)))⟩] [6]
@[simp] noncomputable def F31_r4 : CC := .drw [⟨0, ⟨some 17, none, (.move (.tmp 0))⟩, [], []⟩,
  ⟨1, ⟨some 18, none, (.move (.tmp 0))⟩, [], []⟩,
  ⟨2, ⟨some 19, none, (.nilCheck (.tmp 18))⟩, [], []⟩,
  ⟨3, ⟨some 20, none, (.fieldAddr 81 (.tmp 19) 0)⟩, [], []⟩,
  ⟨4, ⟨some 21, none, (.load 79 (.tmp 20))⟩, [], []⟩,
  ⟨5, ⟨some 22, none, (.move (.tmp 7))⟩, [], []⟩,
  ⟨6, ⟨some 23, none, (.move (.tmp 1))⟩, [], []⟩,
  ⟨7, ⟨some 24, none, (.load 41 (.tmp 5))⟩, [], []⟩,
  ⟨8, ⟨some 25, none, (.build 86 #[(0, (.tmp 23)), (1, (.tmp 24))])⟩, [], []⟩,
  ⟨9, ⟨some 26, none, (.buildSlice 79 1 #[(0, (.tmp 25))])⟩, [], []⟩,
  ⟨10, ⟨some 27, none, (.call { callee := (.value (.func 39)), args := #[(.tmp 21), (.tmp 22), (.tmp 26)], argTypes := #[79, 3, 79] })⟩, [], []⟩,
  ⟨11, ⟨some 28, none, (.nilCheck (.tmp 17))⟩, [], []⟩,
  ⟨12, ⟨some 29, none, (.fieldAddr 81 (.tmp 28) 0)⟩, [], []⟩,
  ⟨13, ⟨none, none, (.store 79 (.tmp 29) (.tmp 27))⟩, [], []⟩] [17, 18, 19, 20, 21, 22, 23, 24, 25, 26, 27, 28, 29] []
@[simp] noncomputable def F31_r9 : CC := .reg [⟨some 6, none, (.assign (.const (.int .i64 0)))⟩] [6]
noncomputable def F31 : CC := (.seq F31_r0 (.seq (.seq F31_r1 (.cond (.tmp 10) (.seq F31_r2 .ret) .skip)) (.seq F31_r3 (.seq (.block 0 (.seq F31_r5 (.cond (.tmp 30) F31_r6 (.seq F31_r7 (.cond (.tmp 40) (.seq F31_r8 .ret) F31_r4))))) (.seq F31_r9 .ret)))))
noncomputable def F31_inf : Nat → RI
  | 0 => ⟨[0, 1, 5], [], []⟩
  | 1 => ⟨[0, 1, 5, 10], [], []⟩
  | 2 => ⟨[6], [], []⟩
  | 3 => ⟨[0, 1, 5, 7, 8], [], []⟩
  | 5 => ⟨[0, 1, 5, 7, 30], [], []⟩
  | 6 => ⟨[], [0, 1, 3, 7, 0, 0, 63, 127, 255], [(0, []), (1, []), (2, []), (3, []), (4, []), (5, []), (6, []), (7, []), (8, [])]⟩
  | 7 => ⟨[0, 1, 5, 7, 40], [0, 1, 3, 7, 15, 0, 32, 96, 224, 511, 1023], [(0, []), (1, []), (2, []), (3, []), (4, []), (5, []), (6, []), (7, []), (8, []), (9, []), (10, [])]⟩
  | 8 => ⟨[6], [], []⟩
  | 4 => ⟨[], [0, 0, 2, 6, 14, 0, 0, 0, 192, 448, 1022, 2047, 4095, 8191], [(0, []), (1, []), (2, []), (3, []), (4, []), (5, []), (6, []), (7, []), (8, []), (9, []), (10, []), (11, []), (12, []), (13, [])]⟩
  | 9 => ⟨[6], [], []⟩
  | _ => ⟨[], [], []⟩
noncomputable def F31_c : Code := Try.f31.body.getD .skip
theorem F31_b : Try.f31.body = some F31_c := by kernel_rfl
theorem F31_rs : Try.f31.results.toList = ([.tmp 6] : List ResultVar) := by kernel_rfl
theorem F31_n : Try.f31.ntmps = 51 := by kernel_rfl
theorem F31_ok : toCC [] 51 F31_inf F31_c = some F31 := by kernel_rfl
theorem F31_in {args : List AV} {G : Hp} {post : AV → Hp → Prop} (ha : args.all AV.plain = true) (hn : args.length ≤ 51) (h : BDs args → awp Try.prog [] F31 (AEnds Try.prog [.tmp 6] post) (initT args) G) : ACalls Try.prog 31 args G post :=
  acalls_cc Try.func31 F31_b F31_rs F31_n F31_ok mixed ha hn h

/- 32 (*ostiary/shelf.Shelf[ostiary/api.Ip, ostiary/pool.Lease]).Del -/
@[simp] noncomputable def F32_r0 : CC := .reg [⟨some 4, none, (.assign (.const (.int .i64 0)))⟩] [0, 1]
@[simp] noncomputable def F32_r1 : CC := .reg [⟨some 5, none, (.assign (.const (.int .i64 0)))⟩] [0, 1, 5]
@[simp] noncomputable def F32_r2 : CC := .reg [⟨some 10, none, (.move (.tmp 1))⟩,
  ⟨some 11, none, (.call { callee := (.builtin .len), args := #[(.tmp 10)], argTypes := #[90] })⟩,
  ⟨some 12, none, (.move (.const (.int .i64 0)))⟩] [0, 5, 10, 11, 12]
@[simp] noncomputable def F32_r3 : CC := .reg [⟨some 13, none, (.binOp .lss 3 (.tmp 12) (.tmp 11) 3)⟩] [0, 5, 10, 11, 12, 13]
@[simp] noncomputable def F32_r4 : CC := .reg [⟨some 14, none, (.indexAddr 90 (.tmp 10) (.tmp 12))⟩,
  ⟨some 15, none, (.load 28 (.tmp 14))⟩,
  ⟨some 7, none, (.assign (.tmp 15))⟩] [0, 5, 7, 10, 11, 12]
@[simp] noncomputable def F32_r5 : CC := .reg [⟨some 16, none, (.move (.tmp 0))⟩,
  ⟨some 17, none, (.binOp .eql 54 (.tmp 16) (.const (.pointer none)) 54)⟩] [0, 5, 7, 10, 11, 12, 17]
@[simp] noncomputable def F32_r6 : CC := .reg [⟨some 19, none, (.move (.tmp 0))⟩,
  ⟨some 20, none, (.move (.tmp 7))⟩,
  ⟨some 21, none, (.call { callee := (.value (.func 38)), args := #[(.tmp 19), (.tmp 20)], argTypes := #[54, 28] })⟩,
  ⟨some 18, none, (.move (.tmp 21))⟩,
  ⟨some 22, none, (.extract (.tmp 18) 0)⟩,
  ⟨some 23, none, (.extract (.tmp 18) 1)⟩,
  ⟨some 8, none, (.assign (.tmp 22))⟩,
  ⟨some 9, none, (.assign (.tmp 23))⟩] [0, 5, 8, 9, 10, 11, 12]
@[simp] noncomputable def F32_r7 : CC := .reg [⟨some 24, none, (.move (.tmp 9))⟩] [0, 5, 8, 10, 11, 12, 24]
@[simp] noncomputable def F32_r8 : CC := .reg [⟨some 25, none, (.move (.tmp 0))⟩,
  ⟨some 26, none, (.move (.tmp 0))⟩,
  ⟨some 27, none, (.nilCheck (.tmp 26))⟩,
  ⟨some 28, none, (.fieldAddr 81 (.tmp 27) 0)⟩,
  ⟨some 29, none, (.load 79 (.tmp 28))⟩,
  ⟨some 30, none, (.move (.tmp 8))⟩,
  ⟨some 31, none, (.move (.tmp 8))⟩,
  ⟨some 32, none, (.binOp .add 3 (.tmp 31) (.const (.int .i64 1)) 3)⟩,
  ⟨some 33, none, (.call { callee := (.value (.func 40)), args := #[(.tmp 29), (.tmp 30), (.tmp 32)], argTypes := #[79, 3, 3] })⟩,
  ⟨some 34, none, (.nilCheck (.tmp 25))⟩,
  ⟨some 35, none, (.fieldAddr 81 (.tmp 34) 0)⟩,
  ⟨none, none, (.store 79 (.tmp 35) (.tmp 33))⟩] [0, 5, 10, 11, 12]
@[simp] noncomputable def F32_r9 : CC := .reg [⟨some 36, none, (.move (.tmp 5))⟩,
  ⟨some 37, none, (.binOp .add 3 (.tmp 36) (.const (.int .i64 1)) 3)⟩,
  ⟨some 5, none, (.assign (.tmp 37))⟩] [0, 5, 10, 11, 12]
@[simp] noncomputable def F32_r10 : CC := .reg [⟨some 38, none, (.binOp .add 3 (.tmp 12) (.const (.int .i64 1)) 3)⟩,
  ⟨some 12, none, (.move (.tmp 38))⟩] [0, 5, 10, 11, 12]
noncomputable def F32_l0 : CC := (.seq F32_r3 (.seq (.cond (.tmp 13) .skip (.exit 0)) (.seq (.block 1 (.seq F32_r4 (.seq (.seq F32_r5 (.cond (.tmp 17) (.exit 0) .skip)) (.seq F32_r6 (.seq F32_r7 (.cond (.tmp 24) (.seq F32_r8 F32_r9) .skip)))))) F32_r10)))
@[simp] noncomputable def F32_r11 : CC := .reg [⟨some 39, none, (.move (.tmp 5))⟩,
  ⟨some 4, none, (.assign (.tmp 39))⟩] [4]
noncomputable def F32 : CC := (.seq F32_r0 (.seq F32_r1 (.seq (.seq F32_r2 (.block 0 (.loop F32_l0))) (.seq F32_r11 .ret))))
noncomputable def F32_inf : Nat → RI
  | 0 => ⟨[0, 1], [], []⟩
  | 1 => ⟨[0, 1, 5], [], []⟩
  | 2 => ⟨[0, 5, 10, 11, 12], [], []⟩
  | 3 => ⟨[0, 5, 10, 11, 12, 13], [], []⟩
  | 4 => ⟨[0, 5, 7, 10, 11, 12], [], []⟩
  | 5 => ⟨[0, 5, 7, 10, 11, 12, 17], [], []⟩
  | 6 => ⟨[0, 5, 8, 9, 10, 11, 12], [], []⟩
  | 7 => ⟨[0, 5, 8, 10, 11, 12, 24], [], []⟩
  | 8 => ⟨[0, 5, 10, 11, 12], [], []⟩
  | 9 => ⟨[0, 5, 10, 11, 12], [], []⟩
  | 10 => ⟨[0, 5, 10, 11, 12], [], []⟩
  | 11 => ⟨[4], [], []⟩
  | _ => ⟨[], [], []⟩
noncomputable def F32_c : Code := Try.f32.body.getD .skip
theorem F32_b : Try.f32.body = some F32_c := by kernel_rfl
theorem F32_rs : Try.f32.results.toList = ([.tmp 4] : List ResultVar) := by kernel_rfl
theorem F32_n : Try.f32.ntmps = 40 := by kernel_rfl
theorem F32_ok : toCC [] 40 F32_inf F32_c = some F32 := by kernel_rfl
theorem F32_in {args : List AV} {G : Hp} {post : AV → Hp → Prop} (ha : args.all AV.plain = true) (hn : args.length ≤ 40) (h : BDs args → awp Try.prog [] F32 (AEnds Try.prog [.tmp 4] post) (initT args) G) : ACalls Try.prog 32 args G post :=
  acalls_cc Try.func32 F32_b F32_rs F32_n F32_ok mixed ha hn h

/- 33 (*ostiary/shelf.Shelf[ostiary/api.Ip, ostiary/pool.Lease]).Drop -/
@[simp] noncomputable def F33_r0 : CC := .reg [⟨some 4, none, (.assign (.const (.slice none 0 0)))⟩] [0, 1]
@[simp] noncomputable def F33_r1 : CC := .reg [⟨some 5, none, (.assign (.const (.slice none 0 0)))⟩] [0, 1, 5]
@[simp] noncomputable def F33_r2 : CC := .reg [⟨some 6, none, (.assign (.const (.slice none 0 0)))⟩] [0, 1, 5, 6]
@[simp] noncomputable def F33_r3 : CC := .reg [⟨some 9, none, (.move (.tmp 0))⟩,
  ⟨some 10, none, (.call { callee := (.value (.func 37)), args := #[(.tmp 9)], argTypes := #[54] })⟩,
  ⟨some 11, none, (.move (.const (.int .i64 0)))⟩] [0, 1, 5, 6, 10, 11]
@[simp] noncomputable def F33_r4 : CC := .reg [⟨some 12, none, (.binOp .lss 3 (.tmp 11) (.tmp 10) 3)⟩] [0, 1, 5, 6, 10, 11, 12]
@[simp] noncomputable def F33_r5 : CC := .reg [⟨some 13, none, (.move (.tmp 11))⟩,
  ⟨some 7, none, (.assign (.tmp 13))⟩] [0, 1, 5, 6, 7, 10, 11]
@[simp] noncomputable def F33_r6 : CC := .reg [⟨some 14, none, (.move (.tmp 0))⟩,
  ⟨some 15, none, (.nilCheck (.tmp 14))⟩,
  ⟨some 16, none, (.fieldAddr 81 (.tmp 15) 0)⟩,
  ⟨some 17, none, (.load 79 (.tmp 16))⟩,
  ⟨some 18, none, (.move (.tmp 7))⟩,
  ⟨some 19, none, (.indexAddr 79 (.tmp 17) (.tmp 18))⟩,
  ⟨some 20, none, (.load 86 (.tmp 19))⟩,
  ⟨some 8, none, (.alloc 86)⟩,
  ⟨none, none, (.store 86 (.tmp 8) (.tmp 20))⟩] [0, 1, 5, 6, 8, 10, 11]
@[simp] noncomputable def F33_r7 : CC := .reg [⟨some 21, none, (.move (.tmp 1))⟩,
  ⟨some 22, none, (.fieldAddr 86 (.tmp 8) 0)⟩,
  ⟨some 23, none, (.load 28 (.tmp 22))⟩,
  ⟨some 24, none, (.fieldAddr 86 (.tmp 8) 1)⟩,
  ⟨some 25, none, (.load 41 (.tmp 24))⟩,
  ⟨some 26, none, (.call { callee := (.value (.tmp 21)), args := #[(.tmp 23), (.tmp 25)], argTypes := #[28, 41] })⟩] [0, 1, 5, 6, 8, 10, 11, 26]
@[simp] noncomputable def F33_r8 : CC := .reg [⟨some 27, none, (.move (.tmp 5))⟩,
  ⟨some 28, none, (.fieldAddr 86 (.tmp 8) 1)⟩,
  ⟨some 29, none, (.load 41 (.tmp 28))⟩,
  ⟨some 30, none, (.buildSlice 37 1 #[(0, (.tmp 29))])⟩,
  ⟨some 31, none, (.call { callee := (.builtin .append), args := #[(.tmp 27), (.tmp 30)], argTypes := #[37, 37] })⟩,
  ⟨some 5, none, (.assign (.tmp 31))⟩] [0, 1, 5, 6, 10, 11]
@[simp] noncomputable def F33_r9 : CC := .reg [⟨some 32, none, (.move (.tmp 6))⟩,
  ⟨some 33, none, (.load 86 (.tmp 8))⟩,
  ⟨some 34, none, (.buildSlice 79 1 #[(0, (.tmp 33))])⟩,
  ⟨some 35, none, (.call { callee := (.builtin .append), args := #[(.tmp 32), (.tmp 34)], argTypes := #[79, 79] })⟩,
  ⟨some 6, none, (.assign (.tmp 35))⟩] [0, 1, 5, 6, 10, 11]
@[simp] noncomputable def F33_r10 : CC := .reg [⟨some 36, none, (.binOp .add 3 (.tmp 11) (.const (.int .i64 1)) 3)⟩,
  ⟨some 11, none, (.move (.tmp 36))⟩] [0, 1, 5, 6, 10, 11]
noncomputable def F33_l0 : CC := (.seq F33_r4 (.seq (.cond (.tmp 12) .skip (.exit 0)) (.seq (.block 1 (.seq F33_r5 (.seq F33_r6 (.seq F33_r7 (.cond (.tmp 26) F33_r8 F33_r9))))) F33_r10)))
@[simp] noncomputable def F33_r11 : CC := .reg [⟨some 37, none, (.move (.tmp 0))⟩,
  ⟨some 38, none, (.binOp .neq 54 (.tmp 37) (.const (.pointer none)) 54)⟩] [0, 5, 6, 38]
@[simp] noncomputable def F33_r12 : CC := .reg [⟨some 39, none, (.move (.tmp 0))⟩,
  ⟨some 40, none, (.move (.tmp 6))⟩,
  ⟨some 41, none, (.nilCheck (.tmp 39))⟩,
  ⟨some 42, none, (.fieldAddr 81 (.tmp 41) 0)⟩,
  ⟨none, none, (.store 79 (.tmp 42) (.tmp 40))⟩] [5]
@[simp] noncomputable def F33_r13 : CC := .reg [⟨some 43, none, (.move (.tmp 5))⟩,
  ⟨some 4, none, (.assign (.tmp 43))⟩] [4]
noncomputable def F33 : CC := (.seq F33_r0 (.seq F33_r1 (.seq F33_r2 (.seq (.seq F33_r3 (.block 0 (.loop F33_l0))) (.seq (.seq F33_r11 (.cond (.tmp 38) F33_r12 .skip)) (.seq F33_r13 .ret))))))
noncomputable def F33_inf : Nat → RI
  | 0 => ⟨[0, 1], [], []⟩
  | 1 => ⟨[0, 1, 5], [], []⟩
  | 2 => ⟨[0, 1, 5, 6], [], []⟩
  | 3 => ⟨[0, 1, 5, 6, 10, 11], [], []⟩
  | 4 => ⟨[0, 1, 5, 6, 10, 11, 12], [], []⟩
  | 5 => ⟨[0, 1, 5, 6, 7, 10, 11], [], []⟩
  | 6 => ⟨[0, 1, 5, 6, 8, 10, 11], [], []⟩
  | 7 => ⟨[0, 1, 5, 6, 8, 10, 11, 26], [], []⟩
  | 8 => ⟨[0, 1, 5, 6, 10, 11], [], []⟩
  | 9 => ⟨[0, 1, 5, 6, 10, 11], [], []⟩
  | 10 => ⟨[0, 1, 5, 6, 10, 11], [], []⟩
  | 11 => ⟨[0, 5, 6, 38], [], []⟩
  | 12 => ⟨[5], [], []⟩
  | 13 => ⟨[4], [], []⟩
  | _ => ⟨[], [], []⟩
noncomputable def F33_c : Code := Try.f33.body.getD .skip
theorem F33_b : Try.f33.body = some F33_c := by kernel_rfl
theorem F33_rs : Try.f33.results.toList = ([.tmp 4] : List ResultVar) := by kernel_rfl
theorem F33_n : Try.f33.ntmps = 44 := by kernel_rfl
theorem F33_ok : toCC [] 44 F33_inf F33_c = some F33 := by kernel_rfl
theorem F33_in {args : List AV} {G : Hp} {post : AV → Hp → Prop} (ha : args.all AV.plain = true) (hn : args.length ≤ 44) (h : BDs args → awp Try.prog [] F33 (AEnds Try.prog [.tmp 4] post) (initT args) G) : ACalls Try.prog 33 args G post :=
  acalls_cc Try.func33 F33_b F33_rs F33_n F33_ok mixed ha hn h

/- 34 (*ostiary/pool.Pool).Tick$1 -/
@[simp] noncomputable def F34_r0 : CC := .reg [⟨some 4, none, (.box 41 (.tmp 1))⟩,
  ⟨some 5, none, (.assign (.const (.bool false)))⟩] [2, 4]
@[simp] noncomputable def F34_r1 : CC := .reg [⟨some 6, none, (.fieldAddr 41 (.tmp 4) 2)⟩,
  ⟨some 7, none, (.load 2 (.tmp 6))⟩,
  ⟨some 8, none, (.load 2 (.tmp 2))⟩,
  ⟨some 9, none, (.binOp .leq 2 (.tmp 7) (.tmp 8) 2)⟩,
  ⟨some 5, none, (.assign (.tmp 9))⟩] [5]
noncomputable def F34 : CC := (.seq F34_r0 (.seq F34_r1 .ret))
noncomputable def F34_inf : Nat → RI
  | 0 => ⟨[2, 4], [], []⟩
  | 1 => ⟨[5], [], []⟩
  | _ => ⟨[], [], []⟩
noncomputable def F34_c : Code := Try.f34.body.getD .skip
theorem F34_b : Try.f34.body = some F34_c := by kernel_rfl
theorem F34_rs : Try.f34.results.toList = ([.tmp 5] : List ResultVar) := by kernel_rfl
theorem F34_n : Try.f34.ntmps = 10 := by kernel_rfl
theorem F34_ok : toCC [] 10 F34_inf F34_c = some F34 := by kernel_rfl
theorem F34_in {args : List AV} {G : Hp} {post : AV → Hp → Prop} (ha : args.all AV.plain = true) (hn : args.length ≤ 10) (h : BDs args → awp Try.prog [] F34 (AEnds Try.prog [.tmp 5] post) (initT args) G) : ACalls Try.prog 34 args G post :=
  acalls_cc Try.func34 F34_b F34_rs F34_n F34_ok mixed ha hn h

/- 35 (*ostiary/ostiaryref23.Pool).whose -/
@[simp] noncomputable def F35_r0 : CC := .reg [⟨some 4, none, (.assign (.const (.int .i64 0)))⟩] [0, 1]
@[simp] noncomputable def F35_r1 : CC := .reg [⟨some 6, none, (.move (.tmp 0))⟩,
  ⟨some 7, none, (.nilCheck (.tmp 6))⟩,
  ⟨some 8, none, (.fieldAddr 61 (.tmp 7) 2)⟩,
  ⟨some 9, none, (.load 58 (.tmp 8))⟩,
  ⟨some 10, none, (.call { callee := (.builtin .len), args := #[(.tmp 9)], argTypes := #[58] })⟩,
  ⟨some 11, none, (.move (.const (.int .i64 0)))⟩] [0, 1, 10, 11]
@[simp] noncomputable def F35_r2 : CC := .reg [⟨some 12, none, (.binOp .lss 3 (.tmp 11) (.tmp 10) 3)⟩] [0, 1, 10, 11, 12]
@[simp] noncomputable def F35_r3 : CC := .reg [⟨some 13, none, (.move (.tmp 11))⟩,
  ⟨some 5, none, (.assign (.tmp 13))⟩] [0, 1, 5, 10, 11]
@[simp] noncomputable def F35_r4 : CC := .reg [⟨some 14, none, (.move (.tmp 0))⟩,
  ⟨some 15, none, (.nilCheck (.tmp 14))⟩,
  ⟨some 16, none, (.fieldAddr 61 (.tmp 15) 2)⟩,
  ⟨some 17, none, (.load 58 (.tmp 16))⟩,
  ⟨some 18, none, (.move (.tmp 5))⟩,
  ⟨some 19, none, (.indexAddr 58 (.tmp 17) (.tmp 18))⟩,
  ⟨some 20, none, (.load 4 (.tmp 19))⟩,
  ⟨some 21, none, (.move (.tmp 20))⟩,
  ⟨some 22, some (21, true), (.move (.tmp 0))⟩,
  ⟨some 23, some (21, true), (.nilCheck (.tmp 22))⟩,
  ⟨some 24, some (21, true), (.fieldAddr 61 (.tmp 23) 3)⟩,
  ⟨some 25, some (21, true), (.load 59 (.tmp 24))⟩,
  ⟨some 26, some (21, true), (.move (.tmp 5))⟩,
  ⟨some 27, some (21, true), (.indexAddr 59 (.tmp 25) (.tmp 26))⟩,
  ⟨some 28, some (21, true), (.fieldAddr 66 (.tmp 27) 0)⟩,
  ⟨some 29, some (21, true), (.load 33 (.tmp 28))⟩,
  ⟨some 30, some (21, true), (.move (.tmp 1))⟩,
  ⟨some 31, some (21, true), (.binOp .eql 33 (.tmp 29) (.tmp 30) 33)⟩,
  ⟨some 32, none, (.pick (.tmp 21) (.tmp 31) (.const (.bool false)))⟩] [0, 1, 5, 10, 11, 32]
@[simp] noncomputable def F35_r5 : CC := .reg [⟨some 33, none, (.move (.tmp 5))⟩,
  ⟨some 4, none, (.assign (.tmp 33))⟩] [4]
@[simp] noncomputable def F35_r6 : CC := .reg [⟨some 34, none, (.binOp .add 3 (.tmp 11) (.const (.int .i64 1)) 3)⟩,
  ⟨some 11, none, (.move (.tmp 34))⟩] [0, 1, 10, 11]
noncomputable def F35_l0 : CC := (.seq F35_r2 (.seq (.cond (.tmp 12) .skip (.exit 0)) (.seq (.block 1 (.seq F35_r3 (.seq F35_r4 (.cond (.tmp 32) (.seq F35_r5 .ret) .skip)))) F35_r6)))
@[simp] noncomputable def F35_r7 : CC := .reg [⟨some 4, none, (.assign (.const (.int .i64 (-1))))⟩] [4]
noncomputable def F35 : CC := (.seq F35_r0 (.seq (.seq F35_r1 (.block 0 (.loop F35_l0))) (.seq F35_r7 .ret)))
noncomputable def F35_inf : Nat → RI
  | 0 => ⟨[0, 1], [], []⟩
  | 1 => ⟨[0, 1, 10, 11], [], []⟩
  | 2 => ⟨[0, 1, 10, 11, 12], [], []⟩
  | 3 => ⟨[0, 1, 5, 10, 11], [], []⟩
  | 4 => ⟨[0, 1, 5, 10, 11, 32], [], []⟩
  | 5 => ⟨[4], [], []⟩
  | 6 => ⟨[0, 1, 10, 11], [], []⟩
  | 7 => ⟨[4], [], []⟩
  | _ => ⟨[], [], []⟩
noncomputable def F35_c : Code := Try.f35.body.getD .skip
theorem F35_b : Try.f35.body = some F35_c := by kernel_rfl
theorem F35_rs : Try.f35.results.toList = ([.tmp 4] : List ResultVar) := by kernel_rfl
theorem F35_n : Try.f35.ntmps = 35 := by kernel_rfl
theorem F35_ok : toCC [] 35 F35_inf F35_c = some F35 := by kernel_rfl
theorem F35_in {args : List AV} {G : Hp} {post : AV → Hp → Prop} (ha : args.all AV.plain = true) (hn : args.length ≤ 35) (h : BDs args → awp Try.prog [] F35 (AEnds Try.prog [.tmp 4] post) (initT args) G) : ACalls Try.prog 35 args G post :=
  acalls_cc Try.func35 F35_b F35_rs F35_n F35_ok mixed ha hn h

/- 36 (*ostiary/ostiaryref23.Pool).at -/
@[simp] noncomputable def F36_r0 : CC := .reg [⟨some 4, none, (.assign (.const (.int .i64 0)))⟩] [0, 1]
@[simp] noncomputable def F36_r1 : CC := .reg [⟨some 6, none, (.move (.tmp 0))⟩,
  ⟨some 7, none, (.nilCheck (.tmp 6))⟩,
  ⟨some 8, none, (.fieldAddr 61 (.tmp 7) 2)⟩,
  ⟨some 9, none, (.load 58 (.tmp 8))⟩,
  ⟨some 10, none, (.call { callee := (.builtin .len), args := #[(.tmp 9)], argTypes := #[58] })⟩,
  ⟨some 11, none, (.move (.const (.int .i64 0)))⟩] [0, 1, 10, 11]
@[simp] noncomputable def F36_r2 : CC := .reg [⟨some 12, none, (.binOp .lss 3 (.tmp 11) (.tmp 10) 3)⟩] [0, 1, 10, 11, 12]
@[simp] noncomputable def F36_r3 : CC := .reg [⟨some 13, none, (.move (.tmp 11))⟩,
  ⟨some 5, none, (.assign (.tmp 13))⟩] [0, 1, 5, 10, 11]
@[simp] noncomputable def F36_r4 : CC := .reg [⟨some 14, none, (.move (.tmp 0))⟩,
  ⟨some 15, none, (.nilCheck (.tmp 14))⟩,
  ⟨some 16, none, (.fieldAddr 61 (.tmp 15) 0)⟩,
  ⟨some 17, none, (.load 22 (.tmp 16))⟩,
  ⟨some 18, none, (.binOp .add 22 (.tmp 17) (.const (.int .u32 1)) 22)⟩,
  ⟨some 19, none, (.move (.tmp 5))⟩,
  ⟨some 20, none, (.convert 3 22 (.tmp 19))⟩,
  ⟨some 21, none, (.binOp .add 22 (.tmp 18) (.tmp 20) 22)⟩,
  ⟨some 22, none, (.move (.tmp 1))⟩,
  ⟨some 23, none, (.binOp .eql 22 (.tmp 21) (.tmp 22) 22)⟩] [0, 1, 5, 10, 11, 23]
@[simp] noncomputable def F36_r5 : CC := .reg [⟨some 24, none, (.move (.tmp 5))⟩,
  ⟨some 4, none, (.assign (.tmp 24))⟩] [4]
@[simp] noncomputable def F36_r6 : CC := .reg [⟨some 25, none, (.binOp .add 3 (.tmp 11) (.const (.int .i64 1)) 3)⟩,
  ⟨some 11, none, (.move (.tmp 25))⟩] [0, 1, 10, 11]
noncomputable def F36_l0 : CC := (.seq F36_r2 (.seq (.cond (.tmp 12) .skip (.exit 0)) (.seq (.block 1 (.seq F36_r3 (.seq F36_r4 (.cond (.tmp 23) (.seq F36_r5 .ret) .skip)))) F36_r6)))
@[simp] noncomputable def F36_r7 : CC := .reg [⟨some 4, none, (.assign (.const (.int .i64 (-1))))⟩] [4]
noncomputable def F36 : CC := (.seq F36_r0 (.seq (.seq F36_r1 (.block 0 (.loop F36_l0))) (.seq F36_r7 .ret)))
noncomputable def F36_inf : Nat → RI
  | 0 => ⟨[0, 1], [], []⟩
  | 1 => ⟨[0, 1, 10, 11], [], []⟩
  | 2 => ⟨[0, 1, 10, 11, 12], [], []⟩
  | 3 => ⟨[0, 1, 5, 10, 11], [], []⟩
  | 4 => ⟨[0, 1, 5, 10, 11, 23], [], []⟩
  | 5 => ⟨[4], [], []⟩
  | 6 => ⟨[0, 1, 10, 11], [], []⟩
  | 7 => ⟨[4], [], []⟩
  | _ => ⟨[], [], []⟩
noncomputable def F36_c : Code := Try.f36.body.getD .skip
theorem F36_b : Try.f36.body = some F36_c := by kernel_rfl
theorem F36_rs : Try.f36.results.toList = ([.tmp 4] : List ResultVar) := by kernel_rfl
theorem F36_n : Try.f36.ntmps = 26 := by kernel_rfl
theorem F36_ok : toCC [] 26 F36_inf F36_c = some F36 := by kernel_rfl
theorem F36_in {args : List AV} {G : Hp} {post : AV → Hp → Prop} (ha : args.all AV.plain = true) (hn : args.length ≤ 26) (h : BDs args → awp Try.prog [] F36 (AEnds Try.prog [.tmp 4] post) (initT args) G) : ACalls Try.prog 36 args G post :=
  acalls_cc Try.func36 F36_b F36_rs F36_n F36_ok mixed ha hn h

/- 37 (*ostiary/shelf.Shelf[ostiary/api.Ip, ostiary/pool.Lease]).Len -/
@[simp] noncomputable def F37_r0 : CC := .reg [⟨some 2, none, (.assign (.const (.int .i64 0)))⟩] [0]
@[simp] noncomputable def F37_r1 : CC := .reg [⟨some 3, none, (.move (.tmp 0))⟩,
  ⟨some 4, none, (.binOp .eql 54 (.tmp 3) (.const (.pointer none)) 54)⟩] [0, 4]
@[simp] noncomputable def F37_r2 : CC := .reg [⟨some 2, none, (.assign (.const (.int .i64 0)))⟩] [2]
@[simp] noncomputable def F37_r3 : CC := .reg [⟨some 5, none, (.move (.tmp 0))⟩,
  ⟨some 6, none, (.nilCheck (.tmp 5))⟩,
  ⟨some 7, none, (.fieldAddr 81 (.tmp 6) 0)⟩,
  ⟨some 8, none, (.load 79 (.tmp 7))⟩,
  ⟨some 9, none, (.call { callee := (.builtin .len), args := #[(.tmp 8)], argTypes := #[79] })⟩,
  ⟨some 2, none, (.assign (.tmp 9))⟩] [2]
noncomputable def F37 : CC := (.seq F37_r0 (.seq (.seq F37_r1 (.cond (.tmp 4) (.seq F37_r2 .ret) .skip)) (.seq F37_r3 .ret)))
noncomputable def F37_inf : Nat → RI
  | 0 => ⟨[0], [], []⟩
  | 1 => ⟨[0, 4], [], []⟩
  | 2 => ⟨[2], [], []⟩
  | 3 => ⟨[2], [], []⟩
  | _ => ⟨[], [], []⟩
noncomputable def F37_c : Code := Try.f37.body.getD .skip
theorem F37_b : Try.f37.body = some F37_c := by kernel_rfl
theorem F37_rs : Try.f37.results.toList = ([.tmp 2] : List ResultVar) := by kernel_rfl
theorem F37_n : Try.f37.ntmps = 10 := by kernel_rfl
theorem F37_ok : toCC [] 10 F37_inf F37_c = some F37 := by kernel_rfl
theorem F37_in {args : List AV} {G : Hp} {post : AV → Hp → Prop} (ha : args.all AV.plain = true) (hn : args.length ≤ 10) (h : BDs args → awp Try.prog [] F37 (AEnds Try.prog [.tmp 2] post) (initT args) G) : ACalls Try.prog 37 args G post :=
  acalls_cc Try.func37 F37_b F37_rs F37_n F37_ok mixed ha hn h

/- 38 (*ostiary/shelf.Shelf[ostiary/api.Ip, ostiary/pool.Lease]).find -/
@[simp] noncomputable def F38_r0 : CC := .reg [⟨some 4, none, (.assign (.const (.int .i64 0)))⟩,
  ⟨some 5, none, (.assign (.const (.bool false)))⟩] [0, 1]
@[simp] noncomputable def F38_r1 : CC := .drw [⟨0, ⟨some 9, none, (.move (.tmp 0))⟩, [], []⟩,
  ⟨1, ⟨some 10, none, (.nilCheck (.tmp 9))⟩, [], []⟩,
  ⟨2, ⟨some 11, none, (.fieldAddr 81 (.tmp 10) 0)⟩, [], []⟩,
  ⟨3, ⟨some 12, none, (.load 79 (.tmp 11))⟩, [], []⟩,
  ⟨4, ⟨some 13, none, (.call { callee := (.builtin .len), args := #[(.tmp 12)], argTypes := #[79] })⟩, [], []⟩,
  ⟨5, ⟨some 6, none, (.assign (.const (.int .i64 0)))⟩, [], []⟩,
  ⟨6, ⟨some 7, none, (.assign (.tmp 13))⟩, [], []⟩] [9, 10, 11, 12, 13, 6, 7] [0, 1, 6, 7]
@[simp] noncomputable def F38_r2 : CC := .reg [⟨some 14, none, (.move (.tmp 6))⟩,
  ⟨some 15, none, (.move (.tmp 7))⟩,
  ⟨some 16, none, (.binOp .lss 3 (.tmp 14) (.tmp 15) 3)⟩] [0, 1, 6, 7, 16]
@[simp] noncomputable def F38_r3 : CC := .reg [⟨some 17, none, (.move (.tmp 6))⟩,
  ⟨some 18, none, (.move (.tmp 7))⟩,
  ⟨some 19, none, (.move (.tmp 6))⟩,
  ⟨some 20, none, (.binOp .sub 3 (.tmp 18) (.tmp 19) 3)⟩,
  ⟨some 21, none, (.binOp .quo 3 (.tmp 20) (.const (.int .i64 2)) 3)⟩,
  ⟨some 22, none, (.binOp .add 3 (.tmp 17) (.tmp 21) 3)⟩,
  ⟨some 8, none, (.assign (.tmp 22))⟩] [0, 1, 6, 7, 8]
@[simp] noncomputable def F38_r4 : CC := .reg [⟨some 23, none, (.move (.tmp 0))⟩,
  ⟨some 24, none, (.nilCheck (.tmp 23))⟩,
  ⟨some 25, none, (.fieldAddr 81 (.tmp 24) 0)⟩,
  ⟨some 26, none, (.load 79 (.tmp 25))⟩,
  ⟨some 27, none, (.move (.tmp 8))⟩,
  ⟨some 28, none, (.indexAddr 79 (.tmp 26) (.tmp 27))⟩,
  ⟨some 29, none, (.fieldAddr 86 (.tmp 28) 0)⟩,
  ⟨some 30, none, (.load 28 (.tmp 29))⟩,
  ⟨some 31, none, (.move (.tmp 1))⟩,
  ⟨some 32, none, (.binOp .lss 28 (.tmp 30) (.tmp 31) 28)⟩] [0, 1, 6, 7, 8, 32]
@[simp] noncomputable def F38_r5 : CC := .reg [⟨some 33, none, (.move (.tmp 8))⟩,
  ⟨some 34, none, (.binOp .add 3 (.tmp 33) (.const (.int .i64 1)) 3)⟩,
  ⟨some 6, none, (.assign (.tmp 34))⟩] [0, 1, 6, 7]
@[simp] noncomputable def F38_r6 : CC := .reg [⟨some 35, none, (.move (.tmp 8))⟩,
  ⟨some 7, none, (.assign (.tmp 35))⟩] [0, 1, 6, 7]
noncomputable def F38_l0 : CC := (.seq (.seq F38_r2 (.cond (.tmp 16) .skip (.exit 0))) (.block 1 (.seq F38_r3 (.seq F38_r4 (.cond (.tmp 32) F38_r5 F38_r6)))))
@[simp] noncomputable def F38_r7 : CC := .drw [⟨0, ⟨some 36, none, (.move (.tmp 6))⟩, [], []⟩,
  ⟨1, ⟨some 37, none, (.move (.tmp 6))⟩, [], []⟩,
  ⟨2, ⟨some 38, none, (.move (.tmp 0))⟩, [], []⟩,
  ⟨3, ⟨some 39, none, (.nilCheck (.tmp 38))⟩, [], []⟩,
  ⟨4, ⟨some 40, none, (.fieldAddr 81 (.tmp 39) 0)⟩, [], []⟩,
  ⟨5, ⟨some 41, none, (.load 79 (.tmp 40))⟩, [], []⟩,
  ⟨6, ⟨some 42, none, (.call { callee := (.builtin .len), args := #[(.tmp 41)], argTypes := #[79] })⟩, [], []⟩,
  ⟨7, ⟨some 43, none, (.binOp .lss 3 (.tmp 37) (.tmp 42) 3)⟩, [], []⟩,
  ⟨8, ⟨some 44, none, (.move (.tmp 43))⟩, [], []⟩,
  ⟨9, ⟨some 45, some (44, true), (.move (.tmp 0))⟩, [], []⟩,
  ⟨10, ⟨some 46, some (44, true), (.nilCheck (.tmp 45))⟩, [], []⟩,
  ⟨11, ⟨some 47, some (44, true), (.fieldAddr 81 (.tmp 46) 0)⟩, [], []⟩,
  ⟨12, ⟨some 48, some (44, true), (.load 79 (.tmp 47))⟩, [], []⟩,
  ⟨13, ⟨some 49, some (44, true), (.move (.tmp 6))⟩, [], []⟩,
  ⟨14, ⟨some 50, some (44, true), (.indexAddr 79 (.tmp 48) (.tmp 49))⟩, [], []⟩,
  ⟨15, ⟨some 51, some (44, true), (.fieldAddr 86 (.tmp 50) 0)⟩, [], []⟩,
  ⟨16, ⟨some 52, some (44, true), (.load 28 (.tmp 51))⟩, [], []⟩,
  ⟨17, ⟨some 53, some (44, true), (.move (.tmp 1))⟩, [], []⟩,
  ⟨18, ⟨some 54, some (44, true), (.binOp .eql 28 (.tmp 52) (.tmp 53) 28)⟩, [], []⟩,
  ⟨19, ⟨some 55, none, (.pick (.tmp 44) (.tmp 54) (.const (.bool false)))⟩, [], []⟩,
  ⟨20, ⟨some 4, none, (.assign (.tmp 36))⟩, [], []⟩,
  ⟨21, ⟨some 5, none, (.assign (.tmp 55))⟩, [], []⟩] [36, 37, 38, 39, 40, 41, 42, 43, 44, 45, 46, 47, 48, 49, 50, 51, 52, 53, 54, 55, 4, 5] [4, 5]
noncomputable def F38 : CC := (.seq F38_r0 (.seq F38_r1 (.seq (.block 0 (.loop F38_l0)) (.seq F38_r7 .ret))))
noncomputable def F38_inf : Nat → RI
  | 0 => ⟨[0, 1], [], []⟩
  | 1 => ⟨[0, 1, 6, 7], [0, 1, 3, 7, 15, 0, 63], [(0, []), (1, []), (2, []), (3, []), (4, []), (5, []), (6, [])]⟩
  | 2 => ⟨[0, 1, 6, 7, 16], [], []⟩
  | 3 => ⟨[0, 1, 6, 7, 8], [], []⟩
  | 4 => ⟨[0, 1, 6, 7, 8, 32], [], []⟩
  | 5 => ⟨[0, 1, 6, 7], [], []⟩
  | 6 => ⟨[0, 1, 6, 7], [], []⟩
  | 7 => ⟨[4, 5], [0, 0, 0, 4, 12, 28, 60, 126, 254, 510, 1022, 2046, 4094, 510, 16382, 32766, 65534, 510, 262142, 524286, 511, 2097151], [(0, []), (1, []), (2, []), (3, []), (4, []), (5, []), (6, []), (7, []), (8, []), (9, []), (10, []), (11, []), (12, []), (13, []), (14, []), (15, []), (16, []), (17, []), (18, []), (19, []), (20, []), (21, [])]⟩
  | _ => ⟨[], [], []⟩
noncomputable def F38_c : Code := Try.f38.body.getD .skip
theorem F38_b : Try.f38.body = some F38_c := by kernel_rfl
theorem F38_rs : Try.f38.results.toList = ([.tmp 4, .tmp 5] : List ResultVar) := by kernel_rfl
theorem F38_n : Try.f38.ntmps = 56 := by kernel_rfl
theorem F38_ok : toCC [] 56 F38_inf F38_c = some F38 := by kernel_rfl
theorem F38_in {args : List AV} {G : Hp} {post : AV → Hp → Prop} (ha : args.all AV.plain = true) (hn : args.length ≤ 56) (h : BDs args → awp Try.prog [] F38 (AEnds Try.prog [.tmp 4, .tmp 5] post) (initT args) G) : ACalls Try.prog 38 args G post :=
  acalls_cc Try.func38 F38_b F38_rs F38_n F38_ok mixed ha hn h
end Go.Proofs.Ytjkighndbjnbjaa
