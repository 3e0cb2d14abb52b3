import Derived.Test.YtapocekfkbkefaaC0K
set_option linter.unusedVariables false
set_option linter.unusedSimpArgs false
set_option maxRecDepth 100000
namespace Go.Proofs.Ytapocekfkbkefaa
open Go Go.Al

/- 39 (*ostiary/ostiaryref21.View).Edge -/
@[simp] noncomputable def F39_r0 : CC := .reg [⟨some 3, none, (.box 32 (.tmp 1))⟩,
  ⟨some 4, none, (.assign (.const (.bool false)))⟩] [0, 3]
@[simp] noncomputable def F39_r1 : CC := .reg [⟨some 7, none, (.move (.tmp 0))⟩,
  ⟨some 8, none, (.nilCheck (.tmp 7))⟩,
  ⟨some 9, none, (.fieldAddr 30 (.tmp 8) 2)⟩,
  ⟨some 10, none, (.load 28 (.tmp 9))⟩,
  ⟨some 11, none, (.call { callee := (.builtin .len), args := #[(.tmp 10)], argTypes := #[28] })⟩,
  ⟨some 12, none, (.move (.const (.int .i64 0)))⟩] [0, 3, 10, 11, 12]
@[simp] noncomputable def F39_r2 : CC := .reg [⟨some 13, none, (.binOp .lss 3 (.tmp 12) (.tmp 11) 3)⟩] [0, 3, 10, 11, 12, 13]
@[simp] noncomputable def F39_r3 : CC := .reg [⟨some 14, none, (.indexAddr 28 (.tmp 10) (.tmp 12))⟩,
  ⟨some 15, none, (.load 84 (.tmp 14))⟩,
  ⟨some 6, none, (.alloc 84)⟩,
  ⟨none, none, (.store 84 (.tmp 6) (.tmp 15))⟩] [0, 3, 6, 10, 11, 12]
@[simp] noncomputable def F39_r4 : CC := .reg [⟨some 16, none, (.fieldAddr 84 (.tmp 6) 0)⟩,
  ⟨some 17, none, (.load 32 (.tmp 16))⟩,
  ⟨some 18, none, (.load 32 (.tmp 3))⟩,
  ⟨some 19, none, (.binOp .eql 32 (.tmp 17) (.tmp 18) 32)⟩,
  ⟨some 20, none, (.move (.tmp 19))⟩,
  ⟨some 21, some (20, false), (.fieldAddr 84 (.tmp 6) 1)⟩,
  ⟨some 22, some (20, false), (.load 32 (.tmp 21))⟩,
  ⟨some 23, some (20, false), (.load 32 (.tmp 3))⟩,
  ⟨some 24, some (20, false), (.binOp .eql 32 (.tmp 22) (.tmp 23) 32)⟩,
  ⟨some 25, none, (.pick (.tmp 20) (.const (.bool true)) (.tmp 24))⟩] [0, 3, 10, 11, 12, 25]
@[simp] noncomputable def F39_r5 : CC := .reg [⟨some 4, none, (.assign (.const (.bool false)))⟩] [4]
@[simp] noncomputable def F39_r6 : CC := .reg [⟨some 26, none, (.binOp .add 3 (.tmp 12) (.const (.int .i64 1)) 3)⟩,
  ⟨some 12, none, (.move (.tmp 26))⟩] [0, 3, 10, 11, 12]
noncomputable def F39_l0 : CC := (.seq F39_r2 (.seq (.cond (.tmp 13) .skip (.exit 0)) (.seq (.block 1 (.seq F39_r3 (.seq F39_r4 (.cond (.tmp 25) (.seq F39_r5 .ret) .skip)))) F39_r6)))
@[simp] noncomputable def F39_r7 : CC := .reg [⟨some 27, none, (.move (.tmp 0))⟩,
  ⟨some 28, none, (.load 32 (.tmp 3))⟩,
  ⟨some 29, none, (.call { callee := (.value (.func 38)), args := #[(.tmp 27), (.tmp 28)], argTypes := #[25, 32] })⟩,
  ⟨some 4, none, (.assign (.tmp 29))⟩] [4]
noncomputable def F39 : CC := (.seq F39_r0 (.seq (.seq F39_r1 (.block 0 (.loop F39_l0))) (.seq F39_r7 .ret)))
noncomputable def F39_inf : Nat → RI
  | 0 => ⟨[0, 3], [], []⟩
  | 1 => ⟨[0, 3, 10, 11, 12], [], []⟩
  | 2 => ⟨[0, 3, 10, 11, 12, 13], [], []⟩
  | 3 => ⟨[0, 3, 6, 10, 11, 12], [], []⟩
  | 4 => ⟨[0, 3, 10, 11, 12, 25], [], []⟩
  | 5 => ⟨[4], [], []⟩
  | 6 => ⟨[0, 3, 10, 11, 12], [], []⟩
  | 7 => ⟨[4], [], []⟩
  | _ => ⟨[], [], []⟩
noncomputable def F39_c : Code := Try.f39.body.getD .skip
theorem F39_b : Try.f39.body = some F39_c := by kernel_rfl
theorem F39_rs : Try.f39.results.toList = ([.tmp 4] : List ResultVar) := by kernel_rfl
theorem F39_n : Try.f39.ntmps = 30 := by kernel_rfl
theorem F39_ok : toCC [] 30 F39_inf F39_c = some F39 := by kernel_rfl
theorem F39_in {args : List AV} {G : Hp} {post : AV → Hp → Prop} (ha : args.all AV.plain = true) (hn : args.length ≤ 30) (h : BDs args → awp Try.prog [] F39 (AEnds Try.prog [.tmp 4] post) (initT args) G) : ACalls Try.prog 39 args G post :=
  acalls_cc Try.func39 F39_b F39_rs F39_n F39_ok mixed ha hn h

/- 40 (*ostiary/ostiaryref21.View).Links -/
@[simp] noncomputable def F40_r0 : CC := .reg [⟨some 2, none, (.assign (.const (.slice none 0 0)))⟩] [0]
@[simp] noncomputable def F40_r1 : CC := .reg [⟨some 3, none, (.assign (.const (.slice none 0 0)))⟩] [0, 3]
@[simp] noncomputable def F40_r2 : CC := .reg [⟨some 6, none, (.move (.tmp 0))⟩,
  ⟨some 7, none, (.nilCheck (.tmp 6))⟩,
  ⟨some 8, none, (.fieldAddr 30 (.tmp 7) 2)⟩,
  ⟨some 9, none, (.load 28 (.tmp 8))⟩,
  ⟨some 10, none, (.call { callee := (.builtin .len), args := #[(.tmp 9)], argTypes := #[28] })⟩,
  ⟨some 11, none, (.move (.const (.int .i64 0)))⟩] [3, 9, 10, 11]
@[simp] noncomputable def F40_r3 : CC := .reg [⟨some 12, none, (.binOp .lss 3 (.tmp 11) (.tmp 10) 3)⟩] [3, 9, 10, 11, 12]
@[simp] noncomputable def F40_r4 : CC := .reg [⟨some 13, none, (.indexAddr 28 (.tmp 9) (.tmp 11))⟩,
  ⟨some 14, none, (.load 84 (.tmp 13))⟩,
  ⟨some 5, none, (.alloc 84)⟩,
  ⟨none, none, (.store 84 (.tmp 5) (.tmp 14))⟩] [3, 5, 9, 10, 11]
@[simp] noncomputable def F40_r5 : CC := .reg [⟨some 15, none, (.move (.tmp 3))⟩,
  ⟨some 16, none, (.fieldAddr 84 (.tmp 5) 0)⟩,
  ⟨some 17, none, (.load 32 (.tmp 16))⟩,
  ⟨some 18, none, (.fieldAddr 84 (.tmp 5) 1)⟩,
  ⟨some 19, none, (.load 32 (.tmp 18))⟩,
  ⟨some 20, none, (.build 39 #[(0, (.tmp 17)), (1, (.tmp 19))])⟩,
  ⟨some 21, none, (.buildSlice 36 1 #[(0, (.tmp 20))])⟩,
  ⟨some 22, none, (.call { callee := (.builtin .append), args := #[(.tmp 15), (.tmp 21)], argTypes := #[36, 36] })⟩,
  ⟨some 3, none, (.assign (.tmp 22))⟩] [3, 9, 10, 11]
@[simp] noncomputable def F40_r6 : CC := .reg [⟨some 23, none, (.binOp .add 3 (.tmp 11) (.const (.int .i64 1)) 3)⟩,
  ⟨some 11, none, (.move (.tmp 23))⟩] [3, 9, 10, 11]
noncomputable def F40_l0 : CC := (.seq F40_r3 (.seq (.cond (.tmp 12) .skip (.exit 0)) (.seq (.block 1 (.seq F40_r4 F40_r5)) F40_r6)))
@[simp] noncomputable def F40_r7 : CC := .reg [⟨some 24, none, (.move (.tmp 3))⟩,
  ⟨some 2, none, (.assign (.tmp 24))⟩] [2]
noncomputable def F40 : CC := (.seq F40_r0 (.seq F40_r1 (.seq (.seq F40_r2 (.block 0 (.loop F40_l0))) (.seq F40_r7 .ret))))
noncomputable def F40_inf : Nat → RI
  | 0 => ⟨[0], [], []⟩
  | 1 => ⟨[0, 3], [], []⟩
  | 2 => ⟨[3, 9, 10, 11], [], []⟩
  | 3 => ⟨[3, 9, 10, 11, 12], [], []⟩
  | 4 => ⟨[3, 5, 9, 10, 11], [], []⟩
  | 5 => ⟨[3, 9, 10, 11], [], []⟩
  | 6 => ⟨[3, 9, 10, 11], [], []⟩
  | 7 => ⟨[2], [], []⟩
  | _ => ⟨[], [], []⟩
noncomputable def F40_c : Code := Try.f40.body.getD .skip
theorem F40_b : Try.f40.body = some F40_c := by kernel_rfl
theorem F40_rs : Try.f40.results.toList = ([.tmp 2] : List ResultVar) := by kernel_rfl
theorem F40_n : Try.f40.ntmps = 25 := by kernel_rfl
theorem F40_ok : toCC [] 25 F40_inf F40_c = some F40 := by kernel_rfl
theorem F40_in {args : List AV} {G : Hp} {post : AV → Hp → Prop} (ha : args.all AV.plain = true) (hn : args.length ≤ 25) (h : BDs args → awp Try.prog [] F40 (AEnds Try.prog [.tmp 2] post) (initT args) G) : ACalls Try.prog 40 args G post :=
  acalls_cc Try.func40 F40_b F40_rs F40_n F40_ok mixed ha hn h

/- 41 (*ostiary/shelf.Shelf[int, int]).Set -/
@[simp] noncomputable def F41_r0 : CC := .reg [⟨some 6, none, (.assign (.const (.int .i64 0)))⟩] [0, 1, 2]
@[simp] noncomputable def F41_r1 : CC := .reg [⟨some 9, none, (.move (.tmp 0))⟩,
  ⟨some 10, none, (.binOp .eql 53 (.tmp 9) (.const (.pointer none)) 53)⟩] [0, 1, 2, 10]
@[simp] noncomputable def F41_r2 : CC := .reg [⟨some 6, none, (.assign (.const (.int .i64 11)))⟩] [6]
@[simp] noncomputable def F41_r3 : CC := .reg [⟨some 12, none, (.move (.tmp 0))⟩,
  ⟨some 13, none, (.move (.tmp 1))⟩,
  ⟨some 14, none, (.call { callee := (.value (.func 48)), args := #[(.tmp 12), (.tmp 13)], argTypes := #[53, 3] })⟩,
  ⟨some 11, none, (.move (.tmp 14))⟩,
  ⟨some 15, none, (.extract (.tmp 11) 0)⟩,
  ⟨some 16, none, (.extract (.tmp 11) 1)⟩,
  ⟨some 7, none, (.assign (.tmp 15))⟩,
  ⟨some 8, none, (.assign (.tmp 16))⟩] [0, 1, 2, 7, 8]
@[simp] noncomputable def F41_r5 : CC := .reg [⟨some 31, none, (.move (.tmp 8))⟩,
  ⟨some 30, none, (.assign (.tmp 31))⟩] [0, 1, 2, 7, 30]
@[simp] noncomputable def F41_r6 : CC := .reg [⟨some 32, none, (.move (.tmp 0))⟩,
  ⟨some 33, none, (.nilCheck (.tmp 32))⟩,
  ⟨some 34, none, (.fieldAddr 78 (.tmp 33) 0)⟩,
  ⟨some 35, none, (.load 76 (.tmp 34))⟩,
  ⟨some 36, none, (.move (.tmp 7))⟩,
  ⟨some 37, none, (.move (.tmp 2))⟩,
  ⟨some 38, none, (.indexAddr 76 (.tmp 35) (.tmp 36))⟩,
  ⟨some 39, none, (.fieldAddr 89 (.tmp 38) 1)⟩,
  ⟨none, none, (.store 3 (.tmp 39) (.tmp 37))⟩] []
@[simp] noncomputable def F41_r7 : CC := .drw [⟨0, ⟨some 41, none, (.move (.tmp 0))⟩, [], []⟩,
  ⟨1, ⟨some 42, none, (.nilCheck (.tmp 41))⟩, [], []⟩,
  ⟨2, ⟨some 43, none, (.fieldAddr 78 (.tmp 42) 0)⟩, [], []⟩,
  ⟨3, ⟨some 44, none, (.load 76 (.tmp 43))⟩, [], []⟩,
  ⟨4, ⟨some 45, none, (.call { callee := (.builtin .len), args := #[(.tmp 44)], argTypes := #[76] })⟩, [], []⟩,
  ⟨5, ⟨some 46, none, (.move (.tmp 0))⟩, [], []⟩,
  ⟨6, ⟨some 47, none, (.nilCheck (.tmp 46))⟩, [], []⟩,
  ⟨7, ⟨some 48, none, (.fieldAddr 78 (.tmp 47) 1)⟩, [], []⟩,
  ⟨8, ⟨some 49, none, (.load 3 (.tmp 48))⟩, [], []⟩,
  ⟨9, ⟨some 50, none, (.binOp .geq 3 (.tmp 45) (.tmp 49) 3)⟩, [], []⟩,
  ⟨10, ⟨some 40, none, (.assign (.tmp 50))⟩, [], []⟩] [41, 42, 43, 44, 45, 46, 47, 48, 49, 50, 40] [0, 1, 2, 7, 40]
@[simp] noncomputable def F41_r8 : CC := .reg [⟨some 6, none, (.assign (.const (.int .i64 4)))⟩] [6]
@[simp] noncomputable def F41_r4 : CC := .reg [⟨some 17, none, (.move (.tmp 0))⟩,
  ⟨some 18, none, (.move (.tmp 0))⟩,
  ⟨some 19, none, (.nilCheck (.tmp 18))⟩,
  ⟨some 20, none, (.fieldAddr 78 (.tmp 19) 0)⟩,
  ⟨some 21, none, (.load 76 (.tmp 20))⟩,
  ⟨some 22, none, (.move (.tmp 7))⟩,
  ⟨some 23, none, (.move (.tmp 1))⟩,
  ⟨some 24, none, (.move (.tmp 2))⟩,
  ⟨some 25, none, (.build 89 #[(0, (.tmp 23)), (1, (.tmp 24))])⟩,
  ⟨some 26, none, (.buildSlice 76 1 #[(0, (.tmp 25))])⟩,
  ⟨some 27, none, (.call { callee := (.value (.func 54)), args := #[(.tmp 21), (.tmp 22), (.tmp 26)], argTypes := #[76, 3, 76] })⟩,
  ⟨some 28, none, (.nilCheck (.tmp 17))⟩,
  ⟨some 29, none, (.fieldAddr 78 (.tmp 28) 0)⟩,
  ⟨none, none, (.store 76 (.tmp 29) (.tmp 27))⟩] []
@[simp] noncomputable def F41_r9 : CC := .reg [⟨some 6, none, (.assign (.const (.int .i64 0)))⟩] [6]
noncomputable def F41 : CC := (.seq F41_r0 (.seq (.seq F41_r1 (.cond (.tmp 10) (.seq F41_r2 .ret) .skip)) (.seq F41_r3 (.seq (.block 0 (.seq F41_r5 (.cond (.tmp 30) F41_r6 (.seq F41_r7 (.cond (.tmp 40) (.seq F41_r8 .ret) F41_r4))))) (.seq F41_r9 .ret)))))
noncomputable def F41_inf : Nat → RI
  | 0 => ⟨[0, 1, 2], [], []⟩
  | 1 => ⟨[0, 1, 2, 10], [], []⟩
  | 2 => ⟨[6], [], []⟩
  | 3 => ⟨[0, 1, 2, 7, 8], [], []⟩
  | 5 => ⟨[0, 1, 2, 7, 30], [], []⟩
  | 6 => ⟨[], [], []⟩
  | 7 => ⟨[0, 1, 2, 7, 40], [0, 1, 3, 7, 15, 0, 32, 96, 224, 511, 1023], [(0, []), (1, []), (2, []), (3, []), (4, []), (5, []), (6, []), (7, []), (8, []), (9, []), (10, [])]⟩
  | 8 => ⟨[6], [], []⟩
  | 4 => ⟨[], [], []⟩
  | 9 => ⟨[6], [], []⟩
  | _ => ⟨[], [], []⟩
noncomputable def F41_c : Code := Try.f41.body.getD .skip
theorem F41_b : Try.f41.body = some F41_c := by kernel_rfl
theorem F41_rs : Try.f41.results.toList = ([.tmp 6] : List ResultVar) := by kernel_rfl
theorem F41_n : Try.f41.ntmps = 51 := by kernel_rfl
theorem F41_ok : toCC [] 51 F41_inf F41_c = some F41 := by kernel_rfl
theorem F41_in {args : List AV} {G : Hp} {post : AV → Hp → Prop} (ha : args.all AV.plain = true) (hn : args.length ≤ 51) (h : BDs args → awp Try.prog [] F41 (AEnds Try.prog [.tmp 6] post) (initT args) G) : ACalls Try.prog 41 args G post :=
  acalls_cc Try.func41 F41_b F41_rs F41_n F41_ok mixed ha hn h

/- 42 (*ostiary/view.View).Ports$1 -/
@[simp] noncomputable def F42_r0 : CC := .reg [⟨some 2, none, (.box 58 (.tmp 0))⟩,
  ⟨some 3, none, (.assign (.const (.bool false)))⟩] [1, 2]
@[simp] noncomputable def F42_r1 : CC := .reg [⟨some 4, none, (.load 23 (.tmp 1))⟩,
  ⟨some 5, none, (.fieldAddr 58 (.tmp 2) 0)⟩,
  ⟨some 6, none, (.fieldAddr 39 (.tmp 5) 0)⟩,
  ⟨some 7, none, (.load 32 (.tmp 6))⟩,
  ⟨some 8, none, (.call { callee := (.value (.func 10)), args := #[(.tmp 4), (.tmp 7)], argTypes := #[23, 32] })⟩,
  ⟨some 9, none, (.unOp .not 4 (.tmp 8))⟩,
  ⟨some 10, none, (.move (.tmp 9))⟩,
  ⟨some 11, some (10, false), (.load 23 (.tmp 1))⟩,
  ⟨some 12, some (10, false), (.fieldAddr 58 (.tmp 2) 0)⟩,
  ⟨some 13, some (10, false), (.fieldAddr 39 (.tmp 12) 1)⟩,
  ⟨some 14, some (10, false), (.load 32 (.tmp 13))⟩,
  ⟨some 15, some (10, false), (.call { callee := (.value (.func 10)), args := #[(.tmp 11), (.tmp 14)], argTypes := #[23, 32] })⟩,
  ⟨some 16, some (10, false), (.unOp .not 4 (.tmp 15))⟩,
  ⟨some 17, none, (.pick (.tmp 10) (.const (.bool true)) (.tmp 16))⟩,
  ⟨some 3, none, (.assign (.tmp 17))⟩] [3]
noncomputable def F42 : CC := (.seq F42_r0 (.seq F42_r1 .ret))
noncomputable def F42_inf : Nat → RI
  | 0 => ⟨[1, 2], [], []⟩
  | 1 => ⟨[3], [], []⟩
  | _ => ⟨[], [], []⟩
noncomputable def F42_c : Code := Try.f42.body.getD .skip
theorem F42_b : Try.f42.body = some F42_c := by kernel_rfl
theorem F42_rs : Try.f42.results.toList = ([.tmp 3] : List ResultVar) := by kernel_rfl
theorem F42_n : Try.f42.ntmps = 18 := by kernel_rfl
theorem F42_ok : toCC [] 18 F42_inf F42_c = some F42 := by kernel_rfl
theorem F42_in {args : List AV} {G : Hp} {post : AV → Hp → Prop} (ha : args.all AV.plain = true) (hn : args.length ≤ 18) (h : BDs args → awp Try.prog [] F42 (AEnds Try.prog [.tmp 3] post) (initT args) G) : ACalls Try.prog 42 args G post :=
  acalls_cc Try.func42 F42_b F42_rs F42_n F42_ok mixed ha hn h

/- 43 (*ostiary/shelf.Shelf[int, int]).Del -/
@[simp] noncomputable def F43_r0 : CC := .reg [⟨some 4, none, (.assign (.const (.int .i64 0)))⟩] [0, 1]
@[simp] noncomputable def F43_r1 : CC := .reg [⟨some 5, none, (.assign (.const (.int .i64 0)))⟩] [0, 1, 5]
@[simp] noncomputable def F43_r2 : CC := .reg [⟨some 10, none, (.move (.tmp 1))⟩,
  ⟨some 11, none, (.call { callee := (.builtin .len), args := #[(.tmp 10)], argTypes := #[51] })⟩,
  ⟨some 12, none, (.move (.const (.int .i64 0)))⟩] [0, 5, 10, 11, 12]
@[simp] noncomputable def F43_r3 : CC := .reg [⟨some 13, none, (.binOp .lss 3 (.tmp 12) (.tmp 11) 3)⟩] [0, 5, 10, 11, 12, 13]
@[simp] noncomputable def F43_r4 : CC := .reg [⟨some 14, none, (.indexAddr 51 (.tmp 10) (.tmp 12))⟩,
  ⟨some 15, none, (.load 3 (.tmp 14))⟩,
  ⟨some 7, none, (.assign (.tmp 15))⟩] [0, 5, 7, 10, 11, 12]
@[simp] noncomputable def F43_r5 : CC := .reg [⟨some 16, none, (.move (.tmp 0))⟩,
  ⟨some 17, none, (.binOp .eql 53 (.tmp 16) (.const (.pointer none)) 53)⟩] [0, 5, 7, 10, 11, 12, 17]
@[simp] noncomputable def F43_r6 : CC := .reg [⟨some 19, none, (.move (.tmp 0))⟩,
  ⟨some 20, none, (.move (.tmp 7))⟩,
  ⟨some 21, none, (.call { callee := (.value (.func 48)), args := #[(.tmp 19), (.tmp 20)], argTypes := #[53, 3] })⟩,
  ⟨some 18, none, (.move (.tmp 21))⟩,
  ⟨some 22, none, (.extract (.tmp 18) 0)⟩,
  ⟨some 23, none, (.extract (.tmp 18) 1)⟩,
  ⟨some 8, none, (.assign (.tmp 22))⟩,
  ⟨some 9, none, (.assign (.tmp 23))⟩] [0, 5, 8, 9, 10, 11, 12]
@[simp] noncomputable def F43_r7 : CC := .reg [⟨some 24, none, (.move (.tmp 9))⟩] [0, 5, 8, 10, 11, 12, 24]
@[simp] noncomputable def F43_r8 : CC := .reg [⟨some 25, none, (.move (.tmp 0))⟩,
  ⟨some 26, none, (.move (.tmp 0))⟩,
  ⟨some 27, none, (.nilCheck (.tmp 26))⟩,
  ⟨some 28, none, (.fieldAddr 78 (.tmp 27) 0)⟩,
  ⟨some 29, none, (.load 76 (.tmp 28))⟩,
  ⟨some 30, none, (.move (.tmp 8))⟩,
  ⟨some 31, none, (.move (.tmp 8))⟩,
  ⟨some 32, none, (.binOp .add 3 (.tmp 31) (.const (.int .i64 1)) 3)⟩,
  ⟨some 33, none, (.call { callee := (.value (.func 55)), args := #[(.tmp 29), (.tmp 30), (.tmp 32)], argTypes := #[76, 3, 3] })⟩,
  ⟨some 34, none, (.nilCheck (.tmp 25))⟩,
  ⟨some 35, none, (.fieldAddr 78 (.tmp 34) 0)⟩,
  ⟨none, none, (.store 76 (.tmp 35) (.tmp 33))⟩] [0, 5, 10, 11, 12]
@[simp] noncomputable def F43_r9 : CC := .reg [⟨some 36, none, (.move (.tmp 5))⟩,
  ⟨some 37, none, (.binOp .add 3 (.tmp 36) (.const (.int .i64 1)) 3)⟩,
  ⟨some 5, none, (.assign (.tmp 37))⟩] [0, 5, 10, 11, 12]
@[simp] noncomputable def F43_r10 : CC := .reg [⟨some 38, none, (.binOp .add 3 (.tmp 12) (.const (.int .i64 1)) 3)⟩,
  ⟨some 12, none, (.move (.tmp 38))⟩] [0, 5, 10, 11, 12]
noncomputable def F43_l0 : CC := (.seq F43_r3 (.seq (.cond (.tmp 13) .skip (.exit 0)) (.seq (.block 1 (.seq F43_r4 (.seq (.seq F43_r5 (.cond (.tmp 17) (.exit 0) .skip)) (.seq F43_r6 (.seq F43_r7 (.cond (.tmp 24) (.seq F43_r8 F43_r9) .skip)))))) F43_r10)))
@[simp] noncomputable def F43_r11 : CC := .reg [⟨some 39, none, (.move (.tmp 5))⟩,
  ⟨some 4, none, (.assign (.tmp 39))⟩] [4]
noncomputable def F43 : CC := (.seq F43_r0 (.seq F43_r1 (.seq (.seq F43_r2 (.block 0 (.loop F43_l0))) (.seq F43_r11 .ret))))
noncomputable def F43_inf : Nat → RI
  | 0 => ⟨[0, 1], [], []⟩
  | 1 => ⟨[0, 1, 5], [], []⟩
  | 2 => ⟨[0, 5, 10, 11, 12], [], []⟩
  | 3 => ⟨[0, 5, 10, 11, 12, 13], [], []⟩
  | 4 => ⟨[0, 5, 7, 10, 11, 12], [], []⟩
  | 5 => ⟨[0, 5, 7, 10, 11, 12, 17], [], []⟩
  | 6 => ⟨[0, 5, 8, 9, 10, 11, 12], [], []⟩
  | 7 => ⟨[0, 5, 8, 10, 11, 12, 24], [], []⟩
  | 8 => ⟨[0, 5, 10, 11, 12], [], []⟩
  | 9 => ⟨[0, 5, 10, 11, 12], [], []⟩
  | 10 => ⟨[0, 5, 10, 11, 12], [], []⟩
  | 11 => ⟨[4], [], []⟩
  | _ => ⟨[], [], []⟩
noncomputable def F43_c : Code := Try.f43.body.getD .skip
theorem F43_b : Try.f43.body = some F43_c := by kernel_rfl
theorem F43_rs : Try.f43.results.toList = ([.tmp 4] : List ResultVar) := by kernel_rfl
theorem F43_n : Try.f43.ntmps = 40 := by kernel_rfl
theorem F43_ok : toCC [] 40 F43_inf F43_c = some F43 := by kernel_rfl
theorem F43_in {args : List AV} {G : Hp} {post : AV → Hp → Prop} (ha : args.all AV.plain = true) (hn : args.length ≤ 40) (h : BDs args → awp Try.prog [] F43 (AEnds Try.prog [.tmp 4] post) (initT args) G) : ACalls Try.prog 43 args G post :=
  acalls_cc Try.func43 F43_b F43_rs F43_n F43_ok mixed ha hn h

/- 44 (*ostiary/view.View).Drop$1 -/
@[simp] noncomputable def F44_r0 : CC := .reg [⟨some 2, none, (.box 58 (.tmp 0))⟩,
  ⟨some 3, none, (.assign (.const (.bool false)))⟩] [1, 2]
@[simp] noncomputable def F44_r1 : CC := .reg [⟨some 4, none, (.fieldAddr 58 (.tmp 2) 0)⟩,
  ⟨some 5, none, (.fieldAddr 39 (.tmp 4) 0)⟩,
  ⟨some 6, none, (.fieldAddr 32 (.tmp 5) 0)⟩,
  ⟨some 7, none, (.load 3 (.tmp 6))⟩,
  ⟨some 8, none, (.load 3 (.tmp 1))⟩,
  ⟨some 9, none, (.binOp .eql 3 (.tmp 7) (.tmp 8) 3)⟩,
  ⟨some 10, none, (.move (.tmp 9))⟩,
  ⟨some 11, some (10, false), (.fieldAddr 58 (.tmp 2) 0)⟩,
  ⟨some 12, some (10, false), (.fieldAddr 39 (.tmp 11) 1)⟩,
  ⟨some 13, some (10, false), (.fieldAddr 32 (.tmp 12) 0)⟩,
  ⟨some 14, some (10, false), (.load 3 (.tmp 13))⟩,
  ⟨some 15, some (10, false), (.load 3 (.tmp 1))⟩,
  ⟨some 16, some (10, false), (.binOp .eql 3 (.tmp 14) (.tmp 15) 3)⟩,
  ⟨some 17, none, (.pick (.tmp 10) (.const (.bool true)) (.tmp 16))⟩,
  ⟨some 3, none, (.assign (.tmp 17))⟩] [3]
noncomputable def F44 : CC := (.seq F44_r0 (.seq F44_r1 .ret))
noncomputable def F44_inf : Nat → RI
  | 0 => ⟨[1, 2], [], []⟩
  | 1 => ⟨[3], [], []⟩
  | _ => ⟨[], [], []⟩
noncomputable def F44_c : Code := Try.f44.body.getD .skip
theorem F44_b : Try.f44.body = some F44_c := by kernel_rfl
theorem F44_rs : Try.f44.results.toList = ([.tmp 3] : List ResultVar) := by kernel_rfl
theorem F44_n : Try.f44.ntmps = 18 := by kernel_rfl
theorem F44_ok : toCC [] 18 F44_inf F44_c = some F44 := by kernel_rfl
theorem F44_in {args : List AV} {G : Hp} {post : AV → Hp → Prop} (ha : args.all AV.plain = true) (hn : args.length ≤ 18) (h : BDs args → awp Try.prog [] F44 (AEnds Try.prog [.tmp 3] post) (initT args) G) : ACalls Try.prog 44 args G post :=
  acalls_cc Try.func44 F44_b F44_rs F44_n F44_ok mixed ha hn h

/- 45 (*ostiary/shelf.Shelf[int, int]).Keys -/
@[simp] noncomputable def F45_r0 : CC := .reg [⟨some 2, none, (.assign (.const (.slice none 0 0)))⟩] [0]
@[simp] noncomputable def F45_r1 : CC := .reg [⟨some 3, none, (.assign (.const (.slice none 0 0)))⟩] [0, 3]
@[simp] noncomputable def F45_r2 : CC := .reg [⟨some 5, none, (.move (.tmp 0))⟩,
  ⟨some 6, none, (.call { callee := (.value (.func 56)), args := #[(.tmp 5)], argTypes := #[53] })⟩,
  ⟨some 7, none, (.move (.const (.int .i64 0)))⟩] [0, 3, 6, 7]
@[simp] noncomputable def F45_r3 : CC := .reg [⟨some 8, none, (.binOp .lss 3 (.tmp 7) (.tmp 6) 3)⟩] [0, 3, 6, 7, 8]
@[simp] noncomputable def F45_r4 : CC := .reg [⟨some 9, none, (.move (.tmp 7))⟩,
  ⟨some 4, none, (.assign (.tmp 9))⟩] [0, 3, 4, 6, 7]
@[simp] noncomputable def F45_r5 : CC := .reg [⟨some 10, none, (.move (.tmp 3))⟩,
  ⟨some 11, none, (.move (.tmp 0))⟩,
  ⟨some 12, none, (.nilCheck (.tmp 11))⟩,
  ⟨some 13, none, (.fieldAddr 78 (.tmp 12) 0)⟩,
  ⟨some 14, none, (.load 76 (.tmp 13))⟩,
  ⟨some 15, none, (.move (.tmp 4))⟩,
  ⟨some 16, none, (.indexAddr 76 (.tmp 14) (.tmp 15))⟩,
  ⟨some 17, none, (.fieldAddr 89 (.tmp 16) 0)⟩,
  ⟨some 18, none, (.load 3 (.tmp 17))⟩,
  ⟨some 19, none, (.buildSlice 51 1 #[(0, (.tmp 18))])⟩,
  ⟨some 20, none, (.call { callee := (.builtin .append), args := #[(.tmp 10), (.tmp 19)], argTypes := #[51, 51] })⟩,
  ⟨some 3, none, (.assign (.tmp 20))⟩] [0, 3, 6, 7]
@[simp] noncomputable def F45_r6 : CC := .reg [⟨some 21, none, (.binOp .add 3 (.tmp 7) (.const (.int .i64 1)) 3)⟩,
  ⟨some 7, none, (.move (.tmp 21))⟩] [0, 3, 6, 7]
noncomputable def F45_l0 : CC := (.seq F45_r3 (.seq (.cond (.tmp 8) .skip (.exit 0)) (.seq (.block 1 (.seq F45_r4 F45_r5)) F45_r6)))
@[simp] noncomputable def F45_r7 : CC := .reg [⟨some 22, none, (.move (.tmp 3))⟩,
  ⟨some 2, none, (.assign (.tmp 22))⟩] [2]
noncomputable def F45 : CC := (.seq F45_r0 (.seq F45_r1 (.seq (.seq F45_r2 (.block 0 (.loop F45_l0))) (.seq F45_r7 .ret))))
noncomputable def F45_inf : Nat → RI
  | 0 => ⟨[0], [], []⟩
  | 1 => ⟨[0, 3], [], []⟩
  | 2 => ⟨[0, 3, 6, 7], [], []⟩
  | 3 => ⟨[0, 3, 6, 7, 8], [], []⟩
  | 4 => ⟨[0, 3, 4, 6, 7], [], []⟩
  | 5 => ⟨[0, 3, 6, 7], [], []⟩
  | 6 => ⟨[0, 3, 6, 7], [], []⟩
  | 7 => ⟨[2], [], []⟩
  | _ => ⟨[], [], []⟩
noncomputable def F45_c : Code := Try.f45.body.getD .skip
theorem F45_b : Try.f45.body = some F45_c := by kernel_rfl
theorem F45_rs : Try.f45.results.toList = ([.tmp 2] : List ResultVar) := by kernel_rfl
theorem F45_n : Try.f45.ntmps = 23 := by kernel_rfl
theorem F45_ok : toCC [] 23 F45_inf F45_c = some F45 := by kernel_rfl
theorem F45_in {args : List AV} {G : Hp} {post : AV → Hp → Prop} (ha : args.all AV.plain = true) (hn : args.length ≤ 23) (h : BDs args → awp Try.prog [] F45 (AEnds Try.prog [.tmp 2] post) (initT args) G) : ACalls Try.prog 45 args G post :=
  acalls_cc Try.func45 F45_b F45_rs F45_n F45_ok mixed ha hn h

/- 46 (*ostiary/ostiaryref21.View).keep -/
@[simp] noncomputable def F46_r0 : CC := .reg [⟨some 8, none, (.box 32 (.tmp 2))⟩,
  ⟨some 9, none, (.box 32 (.tmp 3))⟩,
  ⟨some 12, none, (.assign (.const (.slice none 0 0)))⟩] [0, 1, 4, 5, 8, 9]
@[simp] noncomputable def F46_r1 : CC := .reg [⟨some 13, none, (.assign (.const (.slice none 0 0)))⟩] [0, 1, 4, 5, 8, 9, 13]
@[simp] noncomputable def F46_r2 : CC := .reg [⟨some 14, none, (.assign (.const (.slice none 0 0)))⟩] [0, 1, 4, 5, 8, 9, 13, 14]
@[simp] noncomputable def F46_r3 : CC := .reg [⟨some 18, none, (.move (.tmp 0))⟩,
  ⟨some 19, none, (.nilCheck (.tmp 18))⟩,
  ⟨some 20, none, (.fieldAddr 30 (.tmp 19) 2)⟩,
  ⟨some 21, none, (.load 28 (.tmp 20))⟩,
  ⟨some 22, none, (.call { callee := (.builtin .len), args := #[(.tmp 21)], argTypes := #[28] })⟩,
  ⟨some 23, none, (.move (.const (.int .i64 0)))⟩] [0, 1, 4, 5, 8, 9, 13, 14, 21, 22, 23]
@[simp] noncomputable def F46_r4 : CC := .reg [⟨some 24, none, (.binOp .lss 3 (.tmp 23) (.tmp 22) 3)⟩] [0, 1, 4, 5, 8, 9, 13, 14, 21, 22, 23, 24]
@[simp] noncomputable def F46_r5 : CC := .reg [⟨some 25, none, (.indexAddr 28 (.tmp 21) (.tmp 23))⟩,
  ⟨some 26, none, (.load 84 (.tmp 25))⟩,
  ⟨some 16, none, (.alloc 84)⟩,
  ⟨none, none, (.store 84 (.tmp 16) (.tmp 26))⟩] [0, 1, 4, 5, 8, 9, 13, 14, 16, 21, 22, 23]
@[simp] noncomputable def F46_r6 : CC := .reg [⟨some 17, none, (.assign (.const (.bool false)))⟩] [0, 1, 4, 5, 8, 9, 13, 14, 16, 17, 21, 22, 23]
@[simp] noncomputable def F46_r7 : CC := .reg [⟨some 27, none, (.move (.tmp 1))⟩] [0, 1, 4, 5, 8, 9, 13, 14, 16, 17, 21, 22, 23, 27]
@[simp] noncomputable def F46_r8 : CC := .reg [⟨some 29, none, (.binOp .eql 3 (.tmp 27) (.const (.int .i64 0)) 3)⟩,
  ⟨some 28, none, (.assign (.tmp 29))⟩] [0, 1, 4, 5, 8, 9, 13, 14, 16, 17, 21, 22, 23, 27, 28]
@[simp] noncomputable def F46_r9 : CC := .reg [⟨some 30, none, (.move (.tmp 0))⟩,
  ⟨some 31, none, (.fieldAddr 84 (.tmp 16) 0)⟩,
  ⟨some 32, none, (.load 32 (.tmp 31))⟩,
  ⟨some 33, none, (.call { callee := (.value (.func 38)), args := #[(.tmp 30), (.tmp 32)], argTypes := #[25, 32] })⟩,
  ⟨some 34, none, (.unOp .not 4 (.tmp 33))⟩,
  ⟨some 35, none, (.move (.tmp 34))⟩,
  ⟨some 36, some (35, false), (.move (.tmp 0))⟩,
  ⟨some 37, some (35, false), (.fieldAddr 84 (.tmp 16) 1)⟩,
  ⟨some 38, some (35, false), (.load 32 (.tmp 37))⟩,
  ⟨some 39, some (35, false), (.call { callee := (.value (.func 38)), args := #[(.tmp 36), (.tmp 38)], argTypes := #[25, 32] })⟩,
  ⟨some 40, some (35, false), (.unOp .not 4 (.tmp 39))⟩,
  ⟨some 41, none, (.pick (.tmp 35) (.const (.bool true)) (.tmp 40))⟩,
  ⟨some 17, none, (.assign (.tmp 41))⟩] [0, 1, 4, 5, 8, 9, 13, 14, 16, 17, 21, 22, 23]
@[simp] noncomputable def F46_r10 : CC := .reg [⟨some 43, none, (.binOp .eql 3 (.tmp 27) (.const (.int .i64 1)) 3)⟩,
  ⟨some 42, none, (.assign (.tmp 43))⟩] [0, 1, 4, 5, 8, 9, 13, 14, 16, 17, 21, 22, 23, 27, 42]
@[simp] noncomputable def F46_r11 : CC := .reg [⟨some 44, none, (.fieldAddr 84 (.tmp 16) 0)⟩,
  ⟨some 45, none, (.load 32 (.tmp 44))⟩,
  ⟨some 46, none, (.load 32 (.tmp 8))⟩,
  ⟨some 47, none, (.binOp .eql 32 (.tmp 45) (.tmp 46) 32)⟩,
  ⟨some 48, none, (.move (.tmp 47))⟩,
  ⟨some 49, some (48, false), (.fieldAddr 84 (.tmp 16) 0)⟩,
  ⟨some 50, some (48, false), (.load 32 (.tmp 49))⟩,
  ⟨some 51, some (48, false), (.load 32 (.tmp 9))⟩,
  ⟨some 52, some (48, false), (.binOp .eql 32 (.tmp 50) (.tmp 51) 32)⟩,
  ⟨some 53, none, (.pick (.tmp 48) (.const (.bool true)) (.tmp 52))⟩,
  ⟨some 54, none, (.move (.tmp 53))⟩,
  ⟨some 55, some (54, false), (.fieldAddr 84 (.tmp 16) 1)⟩,
  ⟨some 56, some (54, false), (.load 32 (.tmp 55))⟩,
  ⟨some 57, some (54, false), (.load 32 (.tmp 8))⟩,
  ⟨some 58, some (54, false), (.binOp .eql 32 (.tmp 56) (.tmp 57) 32)⟩,
  ⟨some 59, none, (.pick (.tmp 54) (.const (.bool true)) (.tmp 58))⟩,
  ⟨some 60, none, (.move (.tmp 59))⟩,
  ⟨some 61, some (60, false), (.fieldAddr 84 (.tmp 16) 1)⟩,
  ⟨some 62, some (60, false), (.load 32 (.tmp 61))⟩,
  ⟨some 63, some (60, false), (.load 32 (.tmp 9))⟩,
  ⟨some 64, some (60, false), (.binOp .eql 32 (.tmp 62) (.tmp 63) 32)⟩,
  ⟨some 65, none, (.pick (.tmp 60) (.const (.bool true)) (.tmp 64))⟩,
  ⟨some 17, none, (.assign (.tmp 65))⟩] [0, 1, 4, 5, 8, 9, 13, 14, 16, 17, 21, 22, 23]
@[simp] noncomputable def F46_r12 : CC := .reg [⟨some 67, none, (.binOp .eql 3 (.tmp 27) (.const (.int .i64 2)) 3)⟩,
  ⟨some 66, none, (.assign (.tmp 67))⟩] [0, 1, 4, 5, 8, 9, 13, 14, 16, 17, 21, 22, 23, 27, 66]
@[simp] noncomputable def F46_r13 : CC := .reg [⟨some 68, none, (.fieldAddr 84 (.tmp 16) 0)⟩,
  ⟨some 69, none, (.fieldAddr 32 (.tmp 68) 0)⟩,
  ⟨some 70, none, (.load 3 (.tmp 69))⟩,
  ⟨some 71, none, (.fieldAddr 32 (.tmp 8) 0)⟩,
  ⟨some 72, none, (.load 3 (.tmp 71))⟩,
  ⟨some 73, none, (.binOp .eql 3 (.tmp 70) (.tmp 72) 3)⟩,
  ⟨some 74, none, (.move (.tmp 73))⟩,
  ⟨some 75, some (74, false), (.fieldAddr 84 (.tmp 16) 1)⟩,
  ⟨some 76, some (74, false), (.fieldAddr 32 (.tmp 75) 0)⟩,
  ⟨some 77, some (74, false), (.load 3 (.tmp 76))⟩,
  ⟨some 78, some (74, false), (.fieldAddr 32 (.tmp 8) 0)⟩,
  ⟨some 79, some (74, false), (.load 3 (.tmp 78))⟩,
  ⟨some 80, some (74, false), (.binOp .eql 3 (.tmp 77) (.tmp 79) 3)⟩,
  ⟨some 81, none, (.pick (.tmp 74) (.const (.bool true)) (.tmp 80))⟩,
  ⟨some 17, none, (.assign (.tmp 81))⟩] [0, 1, 4, 5, 8, 9, 13, 14, 16, 17, 21, 22, 23]
@[simp] noncomputable def F46_r14 : CC := .reg [⟨some 83, none, (.binOp .eql 3 (.tmp 27) (.const (.int .i64 3)) 3)⟩,
  ⟨some 82, none, (.assign (.tmp 83))⟩] [0, 1, 4, 5, 8, 9, 13, 14, 16, 17, 21, 22, 23, 82]
@[simp] noncomputable def F46_r15 : CC := .reg [⟨some 84, none, (.move (.tmp 4))⟩,
  ⟨some 85, none, (.fieldAddr 84 (.tmp 16) 2)⟩,
  ⟨some 86, none, (.load 2 (.tmp 85))⟩,
  ⟨some 87, none, (.binOp .sub 2 (.tmp 84) (.tmp 86) 2)⟩,
  ⟨some 88, none, (.move (.tmp 5))⟩,
  ⟨some 89, none, (.binOp .gtr 2 (.tmp 87) (.tmp 88) 2)⟩,
  ⟨some 17, none, (.assign (.tmp 89))⟩] [0, 1, 4, 5, 8, 9, 13, 14, 16, 17, 21, 22, 23]
@[simp] noncomputable def F46_r16 : CC := .reg [⟨some 90, none, (.move (.tmp 17))⟩] [0, 1, 4, 5, 8, 9, 13, 14, 16, 21, 22, 23, 90]
@[simp] noncomputable def F46_r17 : CC := .reg [⟨some 91, none, (.move (.tmp 13))⟩,
  ⟨some 92, none, (.fieldAddr 84 (.tmp 16) 0)⟩,
  ⟨some 93, none, (.load 32 (.tmp 92))⟩,
  ⟨some 94, none, (.fieldAddr 84 (.tmp 16) 1)⟩,
  ⟨some 95, none, (.load 32 (.tmp 94))⟩,
  ⟨some 96, none, (.build 39 #[(0, (.tmp 93)), (1, (.tmp 95))])⟩,
  ⟨some 97, none, (.buildSlice 36 1 #[(0, (.tmp 96))])⟩,
  ⟨some 98, none, (.call { callee := (.builtin .append), args := #[(.tmp 91), (.tmp 97)], argTypes := #[36, 36] })⟩,
  ⟨some 13, none, (.assign (.tmp 98))⟩] [0, 1, 4, 5, 8, 9, 13, 14, 21, 22, 23]
@[simp] noncomputable def F46_r18 : CC := .reg [⟨some 99, none, (.move (.tmp 14))⟩,
  ⟨some 100, none, (.load 84 (.tmp 16))⟩,
  ⟨some 101, none, (.buildSlice 28 1 #[(0, (.tmp 100))])⟩,
  ⟨some 102, none, (.call { callee := (.builtin .append), args := #[(.tmp 99), (.tmp 101)], argTypes := #[28, 28] })⟩,
  ⟨some 14, none, (.assign (.tmp 102))⟩] [0, 1, 4, 5, 8, 9, 13, 14, 21, 22, 23]
@[simp] noncomputable def F46_r19 : CC := .reg [⟨some 103, none, (.binOp .add 3 (.tmp 23) (.const (.int .i64 1)) 3)⟩,
  ⟨some 23, none, (.move (.tmp 103))⟩] [0, 1, 4, 5, 8, 9, 13, 14, 21, 22, 23]
noncomputable def F46_l0 : CC := (.seq F46_r4 (.seq (.cond (.tmp 24) .skip (.exit 0)) (.seq (.block 1 (.seq F46_r5 (.seq F46_r6 (.seq (.seq F46_r7 (.block 2 (.seq F46_r8 (.cond (.tmp 28) F46_r9 (.seq F46_r10 (.cond (.tmp 42) F46_r11 (.seq F46_r12 (.cond (.tmp 66) F46_r13 (.seq F46_r14 (.cond (.tmp 82) F46_r15 .skip)))))))))) (.seq F46_r16 (.cond (.tmp 90) F46_r17 F46_r18)))))) F46_r19)))
@[simp] noncomputable def F46_r20 : CC := .reg [⟨some 104, none, (.move (.tmp 0))⟩,
  ⟨some 105, none, (.move (.tmp 14))⟩,
  ⟨some 106, none, (.nilCheck (.tmp 104))⟩,
  ⟨some 107, none, (.fieldAddr 30 (.tmp 106) 2)⟩,
  ⟨none, none, (.store 28 (.tmp 107) (.tmp 105))⟩] [13]
@[simp] noncomputable def F46_r21 : CC := .reg [⟨some 108, none, (.move (.tmp 13))⟩,
  ⟨some 12, none, (.assign (.tmp 108))⟩] [12]
noncomputable def F46 : CC := (.seq F46_r0 (.seq F46_r1 (.seq F46_r2 (.seq (.seq F46_r3 (.block 0 (.loop F46_l0))) (.seq F46_r20 (.seq F46_r21 .ret))))))
noncomputable def F46_inf : Nat → RI
  | 0 => ⟨[0, 1, 4, 5, 8, 9], [], []⟩
  | 1 => ⟨[0, 1, 4, 5, 8, 9, 13], [], []⟩
  | 2 => ⟨[0, 1, 4, 5, 8, 9, 13, 14], [], []⟩
  | 3 => ⟨[0, 1, 4, 5, 8, 9, 13, 14, 21, 22, 23], [], []⟩
  | 4 => ⟨[0, 1, 4, 5, 8, 9, 13, 14, 21, 22, 23, 24], [], []⟩
  | 5 => ⟨[0, 1, 4, 5, 8, 9, 13, 14, 16, 21, 22, 23], [], []⟩
  | 6 => ⟨[0, 1, 4, 5, 8, 9, 13, 14, 16, 17, 21, 22, 23], [], []⟩
  | 7 => ⟨[0, 1, 4, 5, 8, 9, 13, 14, 16, 17, 21, 22, 23, 27], [], []⟩
  | 8 => ⟨[0, 1, 4, 5, 8, 9, 13, 14, 16, 17, 21, 22, 23, 27, 28], [], []⟩
  | 9 => ⟨[0, 1, 4, 5, 8, 9, 13, 14, 16, 17, 21, 22, 23], [], []⟩
  | 10 => ⟨[0, 1, 4, 5, 8, 9, 13, 14, 16, 17, 21, 22, 23, 27, 42], [], []⟩
  | 11 => ⟨[0, 1, 4, 5, 8, 9, 13, 14, 16, 17, 21, 22, 23], [], []⟩
  | 12 => ⟨[0, 1, 4, 5, 8, 9, 13, 14, 16, 17, 21, 22, 23, 27, 66], [], []⟩
  | 13 => ⟨[0, 1, 4, 5, 8, 9, 13, 14, 16, 17, 21, 22, 23], [], []⟩
  | 14 => ⟨[0, 1, 4, 5, 8, 9, 13, 14, 16, 17, 21, 22, 23, 82], [], []⟩
  | 15 => ⟨[0, 1, 4, 5, 8, 9, 13, 14, 16, 17, 21, 22, 23], [], []⟩
  | 16 => ⟨[0, 1, 4, 5, 8, 9, 13, 14, 16, 21, 22, 23, 90], [], []⟩
  | 17 => ⟨[0, 1, 4, 5, 8, 9, 13, 14, 21, 22, 23], [], []⟩
  | 18 => ⟨[0, 1, 4, 5, 8, 9, 13, 14, 21, 22, 23], [], []⟩
  | 19 => ⟨[0, 1, 4, 5, 8, 9, 13, 14, 21, 22, 23], [], []⟩
  | 20 => ⟨[13], [], []⟩
  | 21 => ⟨[12], [], []⟩
  | _ => ⟨[], [], []⟩
noncomputable def F46_c : Code := Try.f46.body.getD .skip
theorem F46_b : Try.f46.body = some F46_c := by kernel_rfl
theorem F46_rs : Try.f46.results.toList = ([.tmp 12] : List ResultVar) := by kernel_rfl
theorem F46_n : Try.f46.ntmps = 109 := by kernel_rfl
theorem F46_ok : toCC [] 109 F46_inf F46_c = some F46 := by kernel_rfl
theorem F46_in {args : List AV} {G : Hp} {post : AV → Hp → Prop} (ha : args.all AV.plain = true) (hn : args.length ≤ 109) (h : BDs args → awp Try.prog [] F46 (AEnds Try.prog [.tmp 12] post) (initT args) G) : ACalls Try.prog 46 args G post :=
  acalls_cc Try.func46 F46_b F46_rs F46_n F46_ok mixed ha hn h

/- 47 (*ostiary/shelf.Shelf[int, ostiary/view.seen]).Len -/
@[simp] noncomputable def F47_r0 : CC := .reg [⟨some 2, none, (.assign (.const (.int .i64 0)))⟩] [0]
@[simp] noncomputable def F47_r1 : CC := .reg [⟨some 3, none, (.move (.tmp 0))⟩,
  ⟨some 4, none, (.binOp .eql 55 (.tmp 3) (.const (.pointer none)) 55)⟩] [0, 4]
@[simp] noncomputable def F47_r2 : CC := .reg [⟨some 2, none, (.assign (.const (.int .i64 0)))⟩] [2]
@[simp] noncomputable def F47_r3 : CC := .reg [⟨some 5, none, (.move (.tmp 0))⟩,
  ⟨some 6, none, (.nilCheck (.tmp 5))⟩,
  ⟨some 7, none, (.fieldAddr 81 (.tmp 6) 0)⟩,
  ⟨some 8, none, (.load 79 (.tmp 7))⟩,
  ⟨some 9, none, (.call { callee := (.builtin .len), args := #[(.tmp 8)], argTypes := #[79] })⟩,
  ⟨some 2, none, (.assign (.tmp 9))⟩] [2]
noncomputable def F47 : CC := (.seq F47_r0 (.seq (.seq F47_r1 (.cond (.tmp 4) (.seq F47_r2 .ret) .skip)) (.seq F47_r3 .ret)))
noncomputable def F47_inf : Nat → RI
  | 0 => ⟨[0], [], []⟩
  | 1 => ⟨[0, 4], [], []⟩
  | 2 => ⟨[2], [], []⟩
  | 3 => ⟨[2], [], []⟩
  | _ => ⟨[], [], []⟩
noncomputable def F47_c : Code := Try.f47.body.getD .skip
theorem F47_b : Try.f47.body = some F47_c := by kernel_rfl
theorem F47_rs : Try.f47.results.toList = ([.tmp 2] : List ResultVar) := by kernel_rfl
theorem F47_n : Try.f47.ntmps = 10 := by kernel_rfl
theorem F47_ok : toCC [] 10 F47_inf F47_c = some F47 := by kernel_rfl
theorem F47_in {args : List AV} {G : Hp} {post : AV → Hp → Prop} (ha : args.all AV.plain = true) (hn : args.length ≤ 10) (h : BDs args → awp Try.prog [] F47 (AEnds Try.prog [.tmp 2] post) (initT args) G) : ACalls Try.prog 47 args G post :=
  acalls_cc Try.func47 F47_b F47_rs F47_n F47_ok mixed ha hn h

/- 48 (*ostiary/shelf.Shelf[int, int]).find -/
@[simp] noncomputable def F48_r0 : CC := .reg [⟨some 4, none, (.assign (.const (.int .i64 0)))⟩,
  ⟨some 5, none, (.assign (.const (.bool false)))⟩] [0, 1]
@[simp] noncomputable def F48_r1 : CC := .drw [⟨0, ⟨some 9, none, (.move (.tmp 0))⟩, [], []⟩,
  ⟨1, ⟨some 10, none, (.nilCheck (.tmp 9))⟩, [], []⟩,
  ⟨2, ⟨some 11, none, (.fieldAddr 78 (.tmp 10) 0)⟩, [], []⟩,
  ⟨3, ⟨some 12, none, (.load 76 (.tmp 11))⟩, [], []⟩,
  ⟨4, ⟨some 13, none, (.call { callee := (.builtin .len), args := #[(.tmp 12)], argTypes := #[76] })⟩, [], []⟩,
  ⟨5, ⟨some 6, none, (.assign (.const (.int .i64 0)))⟩, [], []⟩,
  ⟨6, ⟨some 7, none, (.assign (.tmp 13))⟩, [], []⟩] [9, 10, 11, 12, 13, 6, 7] [0, 1, 6, 7]
@[simp] noncomputable def F48_r2 : CC := .reg [⟨some 14, none, (.move (.tmp 6))⟩,
  ⟨some 15, none, (.move (.tmp 7))⟩,
  ⟨some 16, none, (.binOp .lss 3 (.tmp 14) (.tmp 15) 3)⟩] [0, 1, 6, 7, 16]
@[simp] noncomputable def F48_r3 : CC := .reg [⟨some 17, none, (.move (.tmp 6))⟩,
  ⟨some 18, none, (.move (.tmp 7))⟩,
  ⟨some 19, none, (.move (.tmp 6))⟩,
  ⟨some 20, none, (.binOp .sub 3 (.tmp 18) (.tmp 19) 3)⟩,
  ⟨some 21, none, (.binOp .quo 3 (.tmp 20) (.const (.int .i64 2)) 3)⟩,
  ⟨some 22, none, (.binOp .add 3 (.tmp 17) (.tmp 21) 3)⟩,
  ⟨some 8, none, (.assign (.tmp 22))⟩] [0, 1, 6, 7, 8]
@[simp] noncomputable def F48_r4 : CC := .reg [⟨some 23, none, (.move (.tmp 0))⟩,
  ⟨some 24, none, (.nilCheck (.tmp 23))⟩,
  ⟨some 25, none, (.fieldAddr 78 (.tmp 24) 0)⟩,
  ⟨some 26, none, (.load 76 (.tmp 25))⟩,
  ⟨some 27, none, (.move (.tmp 8))⟩,
  ⟨some 28, none, (.indexAddr 76 (.tmp 26) (.tmp 27))⟩,
  ⟨some 29, none, (.fieldAddr 89 (.tmp 28) 0)⟩,
  ⟨some 30, none, (.load 3 (.tmp 29))⟩,
  ⟨some 31, none, (.move (.tmp 1))⟩,
  ⟨some 32, none, (.binOp .lss 3 (.tmp 30) (.tmp 31) 3)⟩] [0, 1, 6, 7, 8, 32]
@[simp] noncomputable def F48_r5 : CC := .reg [⟨some 33, none, (.move (.tmp 8))⟩,
  ⟨some 34, none, (.binOp .add 3 (.tmp 33) (.const (.int .i64 1)) 3)⟩,
  ⟨some 6, none, (.assign (.tmp 34))⟩] [0, 1, 6, 7]
@[simp] noncomputable def F48_r6 : CC := .reg [⟨some 35, none, (.move (.tmp 8))⟩,
  ⟨some 7, none, (.assign (.tmp 35))⟩] [0, 1, 6, 7]
noncomputable def F48_l0 : CC := (.seq (.seq F48_r2 (.cond (.tmp 16) .skip (.exit 0))) (.block 1 (.seq F48_r3 (.seq F48_r4 (.cond (.tmp 32) F48_r5 F48_r6)))))
@[simp] noncomputable def F48_r7 : CC := .drw [⟨0, ⟨some 36, none, (.move (.tmp 6))⟩, [], []⟩,
  ⟨1, ⟨some 37, none, (.move (.tmp 6))⟩, [], []⟩,
  ⟨2, ⟨some 38, none, (.move (.tmp 0))⟩, [], []⟩,
  ⟨3, ⟨some 39, none, (.nilCheck (.tmp 38))⟩, [], []⟩,
  ⟨4, ⟨some 40, none, (.fieldAddr 78 (.tmp 39) 0)⟩, [], []⟩,
  ⟨5, ⟨some 41, none, (.load 76 (.tmp 40))⟩, [], []⟩,
  ⟨6, ⟨some 42, none, (.call { callee := (.builtin .len), args := #[(.tmp 41)], argTypes := #[76] })⟩, [], []⟩,
  ⟨7, ⟨some 43, none, (.binOp .lss 3 (.tmp 37) (.tmp 42) 3)⟩, [], []⟩,
  ⟨8, ⟨some 44, none, (.move (.tmp 43))⟩, [], []⟩,
  ⟨9, ⟨some 45, some (44, true), (.move (.tmp 0))⟩, [], []⟩,
  ⟨10, ⟨some 46, some (44, true), (.nilCheck (.tmp 45))⟩, [], []⟩,
  ⟨11, ⟨some 47, some (44, true), (.fieldAddr 78 (.tmp 46) 0)⟩, [], []⟩,
  ⟨12, ⟨some 48, some (44, true), (.load 76 (.tmp 47))⟩, [], []⟩,
  ⟨13, ⟨some 49, some (44, true), (.move (.tmp 6))⟩, [], []⟩,
  ⟨14, ⟨some 50, some (44, true), (.indexAddr 76 (.tmp 48) (.tmp 49))⟩, [], []⟩,
  ⟨15, ⟨some 51, some (44, true), (.fieldAddr 89 (.tmp 50) 0)⟩, [], []⟩,
  ⟨16, ⟨some 52, some (44, true), (.load 3 (.tmp 51))⟩, [], []⟩,
  ⟨17, ⟨some 53, some (44, true), (.move (.tmp 1))⟩, [], []⟩,
  ⟨18, ⟨some 54, some (44, true), (.binOp .eql 3 (.tmp 52) (.tmp 53) 3)⟩, [], []⟩,
  ⟨19, ⟨some 55, none, (.pick (.tmp 44) (.tmp 54) (.const (.bool false)))⟩, [], []⟩,
  ⟨20, ⟨some 4, none, (.assign (.tmp 36))⟩, [], []⟩,
  ⟨21, ⟨some 5, none, (.assign (.tmp 55))⟩, [], []⟩] [36, 37, 38, 39, 40, 41, 42, 43, 44, 45, 46, 47, 48, 49, 50, 51, 52, 53, 54, 55, 4, 5] [4, 5]
noncomputable def F48 : CC := (.seq F48_r0 (.seq F48_r1 (.seq (.block 0 (.loop F48_l0)) (.seq F48_r7 .ret))))
noncomputable def F48_inf : Nat → RI
  | 0 => ⟨[0, 1], [], []⟩
  | 1 => ⟨[0, 1, 6, 7], [0, 1, 3, 7, 15, 0, 63], [(0, []), (1, []), (2, []), (3, []), (4, []), (5, []), (6, [])]⟩
  | 2 => ⟨[0, 1, 6, 7, 16], [], []⟩
  | 3 => ⟨[0, 1, 6, 7, 8], [], []⟩
  | 4 => ⟨[0, 1, 6, 7, 8, 32], [], []⟩
  | 5 => ⟨[0, 1, 6, 7], [], []⟩
  | 6 => ⟨[0, 1, 6, 7], [], []⟩
  | 7 => ⟨[4, 5], [0, 0, 0, 4, 12, 28, 60, 126, 254, 510, 1022, 2046, 4094, 510, 16382, 32766, 65534, 510, 262142, 524286, 511, 2097151], [(0, []), (1, []), (2, []), (3, []), (4, []), (5, []), (6, []), (7, []), (8, []), (9, []), (10, []), (11, []), (12, []), (13, []), (14, []), (15, []), (16, []), (17, []), (18, []), (19, []), (20, []), (21, [])]⟩
  | _ => ⟨[], [], []⟩
noncomputable def F48_c : Code := Try.f48.body.getD .skip
theorem F48_b : Try.f48.body = some F48_c := by kernel_rfl
theorem F48_rs : Try.f48.results.toList = ([.tmp 4, .tmp 5] : List ResultVar) := by kernel_rfl
theorem F48_n : Try.f48.ntmps = 56 := by kernel_rfl
theorem F48_ok : toCC [] 56 F48_inf F48_c = some F48 := by kernel_rfl
theorem F48_in {args : List AV} {G : Hp} {post : AV → Hp → Prop} (ha : args.all AV.plain = true) (hn : args.length ≤ 56) (h : BDs args → awp Try.prog [] F48 (AEnds Try.prog [.tmp 4, .tmp 5] post) (initT args) G) : ACalls Try.prog 48 args G post :=
  acalls_cc Try.func48 F48_b F48_rs F48_n F48_ok mixed ha hn h

/- 49 (*ostiary/shelf.Shelf[int, ostiary/view.seen]).find -/
@[simp] noncomputable def F49_r0 : CC := .reg [⟨some 4, none, (.assign (.const (.int .i64 0)))⟩,
  ⟨some 5, none, (.assign (.const (.bool false)))⟩] [0, 1]
@[simp] noncomputable def F49_r1 : CC := .drw [⟨0, ⟨some 9, none, (.move (.tmp 0))⟩, [], []⟩,
  ⟨1, ⟨some 10, none, (.nilCheck (.tmp 9))⟩, [], []⟩,
  ⟨2, ⟨some 11, none, (.fieldAddr 81 (.tmp 10) 0)⟩, [], []⟩,
  ⟨3, ⟨some 12, none, (.load 79 (.tmp 11))⟩, [], []⟩,
  ⟨4, ⟨some 13, none, (.call { callee := (.builtin .len), args := #[(.tmp 12)], argTypes := #[79] })⟩, [], []⟩,
  ⟨5, ⟨some 6, none, (.assign (.const (.int .i64 0)))⟩, [], []⟩,
  ⟨6, ⟨some 7, none, (.assign (.tmp 13))⟩, [], []⟩] [9, 10, 11, 12, 13, 6, 7] [0, 1, 6, 7]
@[simp] noncomputable def F49_r2 : CC := .reg [⟨some 14, none, (.move (.tmp 6))⟩,
  ⟨some 15, none, (.move (.tmp 7))⟩,
  ⟨some 16, none, (.binOp .lss 3 (.tmp 14) (.tmp 15) 3)⟩] [0, 1, 6, 7, 16]
@[simp] noncomputable def F49_r3 : CC := .reg [⟨some 17, none, (.move (.tmp 6))⟩,
  ⟨some 18, none, (.move (.tmp 7))⟩,
  ⟨some 19, none, (.move (.tmp 6))⟩,
  ⟨some 20, none, (.binOp .sub 3 (.tmp 18) (.tmp 19) 3)⟩,
  ⟨some 21, none, (.binOp .quo 3 (.tmp 20) (.const (.int .i64 2)) 3)⟩,
  ⟨some 22, none, (.binOp .add 3 (.tmp 17) (.tmp 21) 3)⟩,
  ⟨some 8, none, (.assign (.tmp 22))⟩] [0, 1, 6, 7, 8]
@[simp] noncomputable def F49_r4 : CC := .reg [⟨some 23, none, (.move (.tmp 0))⟩,
  ⟨some 24, none, (.nilCheck (.tmp 23))⟩,
  ⟨some 25, none, (.fieldAddr 81 (.tmp 24) 0)⟩,
  ⟨some 26, none, (.load 79 (.tmp 25))⟩,
  ⟨some 27, none, (.move (.tmp 8))⟩,
  ⟨some 28, none, (.indexAddr 79 (.tmp 26) (.tmp 27))⟩,
  ⟨some 29, none, (.fieldAddr 87 (.tmp 28) 0)⟩,
  ⟨some 30, none, (.load 3 (.tmp 29))⟩,
  ⟨some 31, none, (.move (.tmp 1))⟩,
  ⟨some 32, none, (.binOp .lss 3 (.tmp 30) (.tmp 31) 3)⟩] [0, 1, 6, 7, 8, 32]
@[simp] noncomputable def F49_r5 : CC := .reg [⟨some 33, none, (.move (.tmp 8))⟩,
  ⟨some 34, none, (.binOp .add 3 (.tmp 33) (.const (.int .i64 1)) 3)⟩,
  ⟨some 6, none, (.assign (.tmp 34))⟩] [0, 1, 6, 7]
@[simp] noncomputable def F49_r6 : CC := .reg [⟨some 35, none, (.move (.tmp 8))⟩,
  ⟨some 7, none, (.assign (.tmp 35))⟩] [0, 1, 6, 7]
noncomputable def F49_l0 : CC := (.seq (.seq F49_r2 (.cond (.tmp 16) .skip (.exit 0))) (.block 1 (.seq F49_r3 (.seq F49_r4 (.cond (.tmp 32) F49_r5 F49_r6)))))
@[simp] noncomputable def F49_r7 : CC := .drw [⟨0, ⟨some 36, none, (.move (.tmp 6))⟩, [], []⟩,
  ⟨1, ⟨some 37, none, (.move (.tmp 6))⟩, [], []⟩,
  ⟨2, ⟨some 38, none, (.move (.tmp 0))⟩, [], []⟩,
  ⟨3, ⟨some 39, none, (.nilCheck (.tmp 38))⟩, [], []⟩,
  ⟨4, ⟨some 40, none, (.fieldAddr 81 (.tmp 39) 0)⟩, [], []⟩,
  ⟨5, ⟨some 41, none, (.load 79 (.tmp 40))⟩, [], []⟩,
  ⟨6, ⟨some 42, none, (.call { callee := (.builtin .len), args := #[(.tmp 41)], argTypes := #[79] })⟩, [], []⟩,
  ⟨7, ⟨some 43, none, (.binOp .lss 3 (.tmp 37) (.tmp 42) 3)⟩, [], []⟩,
  ⟨8, ⟨some 44, none, (.move (.tmp 43))⟩, [], []⟩,
  ⟨9, ⟨some 45, some (44, true), (.move (.tmp 0))⟩, [], []⟩,
  ⟨10, ⟨some 46, some (44, true), (.nilCheck (.tmp 45))⟩, [], []⟩,
  ⟨11, ⟨some 47, some (44, true), (.fieldAddr 81 (.tmp 46) 0)⟩, [], []⟩,
  ⟨12, ⟨some 48, some (44, true), (.load 79 (.tmp 47))⟩, [], []⟩,
  ⟨13, ⟨some 49, some (44, true), (.move (.tmp 6))⟩, [], []⟩,
  ⟨14, ⟨some 50, some (44, true), (.indexAddr 79 (.tmp 48) (.tmp 49))⟩, [], []⟩,
  ⟨15, ⟨some 51, some (44, true), (.fieldAddr 87 (.tmp 50) 0)⟩, [], []⟩,
  ⟨16, ⟨some 52, some (44, true), (.load 3 (.tmp 51))⟩, [], []⟩,
  ⟨17, ⟨some 53, some (44, true), (.move (.tmp 1))⟩, [], []⟩,
  ⟨18, ⟨some 54, some (44, true), (.binOp .eql 3 (.tmp 52) (.tmp 53) 3)⟩, [], []⟩,
  ⟨19, ⟨some 55, none, (.pick (.tmp 44) (.tmp 54) (.const (.bool false)))⟩, [], []⟩,
  ⟨20, ⟨some 4, none, (.assign (.tmp 36))⟩, [], []⟩,
  ⟨21, ⟨some 5, none, (.assign (.tmp 55))⟩, [], []⟩] [36, 37, 38, 39, 40, 41, 42, 43, 44, 45, 46, 47, 48, 49, 50, 51, 52, 53, 54, 55, 4, 5] [4, 5]
noncomputable def F49 : CC := (.seq F49_r0 (.seq F49_r1 (.seq (.block 0 (.loop F49_l0)) (.seq F49_r7 .ret))))
noncomputable def F49_inf : Nat → RI
  | 0 => ⟨[0, 1], [], []⟩
  | 1 => ⟨[0, 1, 6, 7], [0, 1, 3, 7, 15, 0, 63], [(0, []), (1, []), (2, []), (3, []), (4, []), (5, []), (6, [])]⟩
  | 2 => ⟨[0, 1, 6, 7, 16], [], []⟩
  | 3 => ⟨[0, 1, 6, 7, 8], [], []⟩
  | 4 => ⟨[0, 1, 6, 7, 8, 32], [], []⟩
  | 5 => ⟨[0, 1, 6, 7], [], []⟩
  | 6 => ⟨[0, 1, 6, 7], [], []⟩
  | 7 => ⟨[4, 5], [0, 0, 0, 4, 12, 28, 60, 126, 254, 510, 1022, 2046, 4094, 510, 16382, 32766, 65534, 510, 262142, 524286, 511, 2097151], [(0, []), (1, []), (2, []), (3, []), (4, []), (5, []), (6, []), (7, []), (8, []), (9, []), (10, []), (11, []), (12, []), (13, []), (14, []), (15, []), (16, []), (17, []), (18, []), (19, []), (20, []), (21, [])]⟩
  | _ => ⟨[], [], []⟩
noncomputable def F49_c : Code := Try.f49.body.getD .skip
theorem F49_b : Try.f49.body = some F49_c := by kernel_rfl
theorem F49_rs : Try.f49.results.toList = ([.tmp 4, .tmp 5] : List ResultVar) := by kernel_rfl
theorem F49_n : Try.f49.ntmps = 56 := by kernel_rfl
theorem F49_ok : toCC [] 56 F49_inf F49_c = some F49 := by kernel_rfl
theorem F49_in {args : List AV} {G : Hp} {post : AV → Hp → Prop} (ha : args.all AV.plain = true) (hn : args.length ≤ 56) (h : BDs args → awp Try.prog [] F49 (AEnds Try.prog [.tmp 4, .tmp 5] post) (initT args) G) : ACalls Try.prog 49 args G post :=
  acalls_cc Try.func49 F49_b F49_rs F49_n F49_ok mixed ha hn h

/- 50 slices.Insert[[]ostiary/shelf.slot[int, ostiary/view.seen],ostiary/shelf.slot[int, ostiary/view.seen]] -/
@[simp] noncomputable def F50_r0 : CC := .reg [⟨some 6, none, (.assign (.const (.slice none 0 0)))⟩] [0, 1, 2]
@[simp] noncomputable def F50_r1 : CC := .reg [⟨some 10, none, (.move (.tmp 0))⟩,
  ⟨some 11, none, (.move (.tmp 1))⟩,
  ⟨some 12, none, (.slice 79 (.tmp 10) (some (.tmp 11)) none none)⟩] [0, 1, 2]
@[simp] noncomputable def F50_r2 : CC := .reg [⟨some 13, none, (.move (.tmp 2))⟩,
  ⟨some 14, none, (.call { callee := (.builtin .len), args := #[(.tmp 13)], argTypes := #[79] })⟩,
  ⟨some 7, none, (.assign (.tmp 14))⟩] [0, 1, 2, 7]
@[simp] noncomputable def F50_r3 : CC := .reg [⟨some 15, none, (.move (.tmp 7))⟩,
  ⟨some 16, none, (.binOp .eql 3 (.tmp 15) (.const (.int .i64 0)) 3)⟩] [0, 1, 2, 7, 16]
@[simp] noncomputable def F50_r4 : CC := .reg [⟨some 17, none, (.move (.tmp 0))⟩,
  ⟨some 6, none, (.assign (.tmp 17))⟩] [6]
@[simp] noncomputable def F50_r5 : CC := .reg [⟨some 18, none, (.move (.tmp 0))⟩,
  ⟨some 19, none, (.call { callee := (.builtin .len), args := #[(.tmp 18)], argTypes := #[79] })⟩,
  ⟨some 8, none, (.assign (.tmp 19))⟩] [0, 1, 2, 7, 8]
@[simp] noncomputable def F50_r6 : CC := .reg [⟨some 20, none, (.move (.tmp 1))⟩,
  ⟨some 21, none, (.move (.tmp 8))⟩,
  ⟨some 22, none, (.binOp .eql 3 (.tmp 20) (.tmp 21) 3)⟩] [0, 1, 2, 7, 8, 22]
@[simp] noncomputable def F50_r7 : CC := .reg [⟨some 23, none, (.move (.tmp 0))⟩,
  ⟨some 24, none, (.move (.tmp 2))⟩,
  ⟨some 25, none, (.call { callee := (.builtin .append), args := #[(.tmp 23), (.tmp 24)], argTypes := #[79, 79] })⟩,
  ⟨some 6, none, (.assign (.tmp 25))⟩] [6]
@[simp] noncomputable def F50_r8 : CC := .reg [⟨some 26, none, (.move (.tmp 8))⟩,
  ⟨some 27, none, (.move (.tmp 7))⟩,
  ⟨some 28, none, (.binOp .add 3 (.tmp 26) (.tmp 27) 3)⟩,
  ⟨some 29, none, (.move (.tmp 0))⟩,
  ⟨some 30, none, (.call { callee := (.builtin .cap), args := #[(.tmp 29)], argTypes := #[79] })⟩,
  ⟨some 31, none, (.binOp .gtr 3 (.tmp 28) (.tmp 30) 3)⟩] [0, 1, 2, 7, 8, 31]
@[simp] noncomputable def F50_r9 : CC := .reg [⟨some 32, none, (.move (.tmp 0))⟩,
  ⟨some 33, none, (.move (.tmp 1))⟩,
  ⟨some 34, none, (.slice 79 (.tmp 32) none (some (.tmp 33)) none)⟩,
  ⟨some 35, none, (.move (.tmp 8))⟩,
  ⟨some 36, none, (.move (.tmp 7))⟩,
  ⟨some 37, none, (.binOp .add 3 (.tmp 35) (.tmp 36) 3)⟩,
  ⟨some 38, none, (.move (.tmp 1))⟩,
  ⟨some 39, none, (.binOp .sub 3 (.tmp 37) (.tmp 38) 3)⟩,
  ⟨some 40, none, (.call { callee := (.builtin .append), args := #[(.tmp 34), (.tmp 39)], argTypes := #[79, 3] })⟩,
  ⟨some 9, none, (.assign (.tmp 40))⟩] [0, 1, 2, 7, 9]
@[simp] noncomputable def F50_r10 : CC := .reg [⟨some 41, none, (.move (.tmp 9))⟩,
  ⟨some 42, none, (.move (.tmp 1))⟩,
  ⟨some 43, none, (.slice 79 (.tmp 41) (some (.tmp 42)) none none)⟩,
  ⟨some 44, none, (.move (.tmp 2))⟩,
  ⟨some 45, none, (.call { callee := (.builtin .copy), args := #[(.tmp 43), (.tmp 44)], argTypes := #[79, 79] })⟩] [0, 1, 7, 9]
@[simp] noncomputable def F50_r11 : CC := .drw [⟨0, ⟨some 46, none, (.move (.tmp 9))⟩, [], []⟩,
  ⟨1, ⟨some 47, none, (.move (.tmp 1))⟩, [], []⟩,
  ⟨2, ⟨some 48, none, (.move (.tmp 7))⟩, [], []⟩,
  ⟨3, ⟨some 49, none, (.binOp .add 3 (.tmp 47) (.tmp 48) 3)⟩, [], []⟩,
  ⟨4, ⟨some 50, none, (.slice 79 (.tmp 46) (some (.tmp 49)) none none)⟩, [], []⟩,
  ⟨5, ⟨some 51, none, (.move (.tmp 0))⟩, [], []⟩,
  ⟨6, ⟨some 52, none, (.move (.tmp 1))⟩, [], []⟩,
  ⟨7, ⟨some 53, none, (.slice 79 (.tmp 51) (some (.tmp 52)) none none)⟩, [], []⟩,
  ⟨8, ⟨some 54, none, (.call { callee := (.builtin .copy), args := #[(.tmp 50), (.tmp 53)], argTypes := #[79, 79] })⟩, [], []⟩] [46, 47, 48, 49, 50, 51, 52, 53, 54] [9]
@[simp] noncomputable def F50_r12 : CC := .reg [⟨some 55, none, (.move (.tmp 9))⟩,
  ⟨some 6, none, (.assign (.tmp 55))⟩] [6]
@[simp] noncomputable def F50_r13 : CC := .reg [⟨some 56, none, (.move (.tmp 0))⟩,
  ⟨some 57, none, (.move (.tmp 8))⟩,
  ⟨some 58, none, (.move (.tmp 7))⟩,
  ⟨some 59, none, (.binOp .add 3 (.tmp 57) (.tmp 58) 3)⟩,
  ⟨some 60, none, (.slice 79 (.tmp 56) none (some (.tmp 59)) none)⟩,
  ⟨some 0, none, (.assign (.tmp 60))⟩] [0, 1, 2, 7, 8]
@[simp] noncomputable def F50_r14 : CC := .reg [⟨some 61, none, (.move (.tmp 2))⟩,
  ⟨some 62, none, (.move (.tmp 0))⟩,
  ⟨some 63, none, (.move (.tmp 1))⟩,
  ⟨some 64, none, (.move (.tmp 7))⟩,
  ⟨some 65, none, (.binOp .add 3 (.tmp 63) (.tmp 64) 3)⟩,
  ⟨some 66, none, (.slice 79 (.tmp 62) (some (.tmp 65)) none none)⟩,
  ⟨some 67, none, (.call { callee := (.value (.func 57)), args := #[(.tmp 61), (.tmp 66)], argTypes := #[79, 79] })⟩,
  ⟨some 68, none, (.unOp .not 4 (.tmp 67))⟩] [0, 1, 2, 7, 8, 68]
@[simp] noncomputable def F50_r15 : CC := .drw [⟨0, ⟨some 69, none, (.move (.tmp 0))⟩, [], []⟩,
  ⟨1, ⟨some 70, none, (.move (.tmp 1))⟩, [], []⟩,
  ⟨2, ⟨some 71, none, (.move (.tmp 7))⟩, [], []⟩,
  ⟨3, ⟨some 72, none, (.binOp .add 3 (.tmp 70) (.tmp 71) 3)⟩, [], []⟩,
  ⟨4, ⟨some 73, none, (.slice 79 (.tmp 69) (some (.tmp 72)) none none)⟩, [], []⟩,
  ⟨5, ⟨some 74, none, (.move (.tmp 0))⟩, [], []⟩,
  ⟨6, ⟨some 75, none, (.move (.tmp 1))⟩, [], []⟩,
  ⟨7, ⟨some 76, none, (.slice 79 (.tmp 74) (some (.tmp 75)) none none)⟩, [], []⟩,
  ⟨8, ⟨some 77, none, (.call { callee := (.builtin .copy), args := #[(.tmp 73), (.tmp 76)], argTypes := #[79, 79] })⟩, [], []⟩] [69, 70, 71, 72, 73, 74, 75, 76, 77] [0, 1, 2]
@[simp] noncomputable def F50_r16 : CC := .reg [⟨some 78, none, (.move (.tmp 0))⟩,
  ⟨some 79, none, (.move (.tmp 1))⟩,
  ⟨some 80, none, (.slice 79 (.tmp 78) (some (.tmp 79)) none none)⟩,
  ⟨some 81, none, (.move (.tmp 2))⟩,
  ⟨some 82, none, (.call { callee := (.builtin .copy), args := #[(.tmp 80), (.tmp 81)], argTypes := #[79, 79] })⟩] [0]
@[simp] noncomputable def F50_r17 : CC := .reg [⟨some 83, none, (.move (.tmp 0))⟩,
  ⟨some 6, none, (.assign (.tmp 83))⟩] [6]
@[simp] noncomputable def F50_r18 : CC := .reg [⟨some 84, none, (.move (.tmp 0))⟩,
  ⟨some 85, none, (.move (.tmp 8))⟩,
  ⟨some 86, none, (.slice 79 (.tmp 84) (some (.tmp 85)) none none)⟩,
  ⟨some 87, none, (.move (.tmp 2))⟩,
  ⟨some 88, none, (.call { callee := (.builtin .copy), args := #[(.tmp 86), (.tmp 87)], argTypes := #[79, 79] })⟩] [0, 1, 7]
@[simp] noncomputable def F50_r19 : CC := .reg [⟨some 89, none, (.move (.tmp 0))⟩,
  ⟨some 90, none, (.move (.tmp 1))⟩,
  ⟨some 91, none, (.slice 79 (.tmp 89) (some (.tmp 90)) none none)⟩,
  ⟨some 92, none, (.move (.tmp 7))⟩,
  ⟨some 93, none, (.call { callee := (.value (.func 58)), args := #[(.tmp 91), (.tmp 92)], argTypes := #[79, 3] })⟩] [0]
@[simp] noncomputable def F50_r20 : CC := .reg [⟨some 94, none, (.move (.tmp 0))⟩,
  ⟨some 6, none, (.assign (.tmp 94))⟩] [6]
noncomputable def F50 : CC := (.seq F50_r0 (.seq F50_r1 (.seq F50_r2 (.seq (.seq F50_r3 (.cond (.tmp 16) (.seq F50_r4 .ret) .skip)) (.seq F50_r5 (.seq (.seq F50_r6 (.cond (.tmp 22) (.seq F50_r7 .ret) .skip)) (.seq (.seq F50_r8 (.cond (.tmp 31) (.seq F50_r9 (.seq F50_r10 (.seq F50_r11 (.seq F50_r12 .ret)))) .skip)) (.seq F50_r13 (.seq (.seq F50_r14 (.cond (.tmp 68) (.seq F50_r15 (.seq F50_r16 (.seq F50_r17 .ret))) .skip)) (.seq F50_r18 (.seq F50_r19 (.seq F50_r20 .ret))))))))))))
noncomputable def F50_inf : Nat → RI
  | 0 => ⟨[0, 1, 2], [], []⟩
  | 1 => ⟨[0, 1, 2], [], []⟩
  | 2 => ⟨[0, 1, 2, 7], [], []⟩
  | 3 => ⟨[0, 1, 2, 7, 16], [], []⟩
  | 4 => ⟨[6], [], []⟩
  | 5 => ⟨[0, 1, 2, 7, 8], [], []⟩
  | 6 => ⟨[0, 1, 2, 7, 8, 22], [], []⟩
  | 7 => ⟨[6], [], []⟩
  | 8 => ⟨[0, 1, 2, 7, 8, 31], [], []⟩
  | 9 => ⟨[0, 1, 2, 7, 9], [], []⟩
  | 10 => ⟨[0, 1, 7, 9], [], []⟩
  | 11 => ⟨[9], [0, 0, 0, 6, 15, 0, 0, 96, 255], [(0, []), (1, []), (2, []), (3, []), (4, []), (5, []), (6, []), (7, []), (8, [])]⟩
  | 12 => ⟨[6], [], []⟩
  | 13 => ⟨[0, 1, 2, 7, 8], [], []⟩
  | 14 => ⟨[0, 1, 2, 7, 8, 68], [], []⟩
  | 15 => ⟨[0, 1, 2], [0, 0, 0, 6, 15, 0, 0, 96, 255], [(0, []), (1, []), (2, []), (3, []), (4, []), (5, []), (6, []), (7, []), (8, [])]⟩
  | 16 => ⟨[0], [], []⟩
  | 17 => ⟨[6], [], []⟩
  | 18 => ⟨[0, 1, 7], [], []⟩
  | 19 => ⟨[0], [], []⟩
  | 20 => ⟨[6], [], []⟩
  | _ => ⟨[], [], []⟩
noncomputable def F50_c : Code := Try.f50.body.getD .skip
theorem F50_b : Try.f50.body = some F50_c := by kernel_rfl
theorem F50_rs : Try.f50.results.toList = ([.tmp 6] : List ResultVar) := by kernel_rfl
theorem F50_n : Try.f50.ntmps = 95 := by kernel_rfl
theorem F50_ok : toCC [] 95 F50_inf F50_c = some F50 := by kernel_rfl
theorem F50_in {args : List AV} {G : Hp} {post : AV → Hp → Prop} (ha : args.all AV.plain = true) (hn : args.length ≤ 95) (h : BDs args → awp Try.prog [] F50 (AEnds Try.prog [.tmp 6] post) (initT args) G) : ACalls Try.prog 50 args G post :=
  acalls_cc Try.func50 F50_b F50_rs F50_n F50_ok mixed ha hn h
end Go.Proofs.Ytapocekfkbkefaa
