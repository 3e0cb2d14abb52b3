import Derived.Test.YtmomphnkngbgjaaC0K
set_option linter.unusedVariables false
set_option linter.unusedSimpArgs false
set_option maxRecDepth 100000
namespace Go.Proofs.Ytmomphnkngbgjaa
open Go Go.Al

/- 39 (ostiary/bind.Binding).may -/
@[simp] noncomputable def F39_r0 : CC := .reg [⟨some 1, none, (.box 40 (.tmp 0))⟩,
  ⟨some 2, none, (.assign (.const (.bool false)))⟩] [1]
@[simp] noncomputable def F39_r1 : CC := .reg [⟨some 3, none, (.fieldAddr 40 (.tmp 1) 0)⟩,
  ⟨some 4, none, (.load 37 (.tmp 3))⟩,
  ⟨some 5, none, (.binOp .lss 37 (.tmp 4) (.const (.int .u64 281474976710655)) 37)⟩,
  ⟨some 6, none, (.move (.tmp 5))⟩,
  ⟨some 7, some (6, true), (.fieldAddr 40 (.tmp 1) 2)⟩,
  ⟨some 8, some (6, true), (.load 24 (.tmp 7))⟩,
  ⟨some 9, some (6, true), (.call { callee := (.value (.func 54)), args := #[(.tmp 8)], argTypes := #[24] })⟩,
  ⟨some 10, none, (.pick (.tmp 6) (.tmp 9) (.const (.bool false)))⟩,
  ⟨some 11, none, (.move (.tmp 10))⟩,
  ⟨some 12, some (11, true), (.fieldAddr 40 (.tmp 1) 3)⟩,
  ⟨some 13, some (11, true), (.load 9 (.tmp 12))⟩,
  ⟨some 14, some (11, true), (.call { callee := (.value (.func 47)), args := #[(.tmp 13)], argTypes := #[9] })⟩,
  ⟨some 15, none, (.pick (.tmp 11) (.tmp 14) (.const (.bool false)))⟩,
  ⟨some 16, none, (.move (.tmp 15))⟩,
  ⟨some 17, some (16, true), (.fieldAddr 40 (.tmp 1) 4)⟩,
  ⟨some 18, some (16, true), (.load 9 (.tmp 17))⟩,
  ⟨some 19, some (16, true), (.binOp .eql 9 (.tmp 18) (.const (.string { data := #[] })) 9)⟩,
  ⟨some 20, some (16, true), (.move (.tmp 19))⟩,
  ⟨some 21, some (20, false), (.fieldAddr 40 (.tmp 1) 4)⟩,
  ⟨some 22, some (20, false), (.load 9 (.tmp 21))⟩,
  ⟨some 23, some (20, false), (.call { callee := (.value (.func 47)), args := #[(.tmp 22)], argTypes := #[9] })⟩,
  ⟨some 24, some (16, true), (.pick (.tmp 20) (.const (.bool true)) (.tmp 23))⟩,
  ⟨some 25, none, (.pick (.tmp 16) (.tmp 24) (.const (.bool false)))⟩,
  ⟨some 2, none, (.assign (.tmp 25))⟩] [2]
noncomputable def F39 : CC := (.seq F39_r0 (.seq F39_r1 .ret))
noncomputable def F39_inf : Nat → RI
  | 0 => ⟨[1], [], []⟩
  | 1 => ⟨[2], [], []⟩
  | _ => ⟨[], [], []⟩
noncomputable def F39_c : Code := Try.f39.body.getD .skip
theorem F39_b : Try.f39.body = some F39_c := by kernel_rfl
theorem F39_rs : Try.f39.results.toList = ([.tmp 2] : List ResultVar) := by kernel_rfl
theorem F39_n : Try.f39.ntmps = 26 := by kernel_rfl
theorem F39_ok : toCC [] 26 F39_inf F39_c = some F39 := by kernel_rfl
theorem F39_in {args : List AV} {G : Hp} {post : AV → Hp → Prop} (ha : args.all AV.plain = true) (hn : args.length ≤ 26) (h : BDs args → awp Try.prog [] F39 (AEnds Try.prog [.tmp 2] post) (initT args) G) : ACalls Try.prog 39 args G post :=
  acalls_cc Try.func39 F39_b F39_rs F39_n F39_ok mixed ha hn h

/- 40 (*ostiary/bind.Table).drop -/
@[simp] noncomputable def F40_r0 : CC := .reg [⟨some 3, none, (.box 86 (.tmp 1))⟩,
  ⟨some 4, none, (.assign (.const (.slice none 0 0)))⟩] [0, 3]
@[simp] noncomputable def F40_r1 : CC := .reg [⟨some 5, none, (.move (.tmp 0))⟩,
  ⟨some 6, none, (.binOp .eql 27 (.tmp 5) (.const (.pointer none)) 27)⟩] [0, 3, 6]
@[simp] noncomputable def F40_r2 : CC := .reg [⟨some 4, none, (.assign (.const (.slice none 0 0)))⟩] [4]
@[simp] noncomputable def F40_r3 : CC := .reg [⟨some 7, none, (.move (.tmp 0))⟩,
  ⟨some 8, none, (.nilCheck (.tmp 7))⟩,
  ⟨some 9, none, (.fieldAddr 68 (.tmp 8) 0)⟩,
  ⟨some 10, none, (.load 65 (.tmp 9))⟩,
  ⟨some 11, none, (.makeFunc (.func 56) #[] #[(.tmp 3)])⟩,
  ⟨some 12, none, (.call { callee := (.value (.func 55)), args := #[(.tmp 10), (.tmp 11)], argTypes := #[65, 98] })⟩,
  ⟨some 4, none, (.assign (.tmp 12))⟩] [4]
noncomputable def F40 : CC := (.seq F40_r0 (.seq (.seq F40_r1 (.cond (.tmp 6) (.seq F40_r2 .ret) .skip)) (.seq F40_r3 .ret)))
noncomputable def F40_inf : Nat → RI
  | 0 => ⟨[0, 3], [], []⟩
  | 1 => ⟨[0, 3, 6], [], []⟩
  | 2 => ⟨[4], [], []⟩
  | 3 => ⟨[4], [], []⟩
  | _ => ⟨[], [], []⟩
noncomputable def F40_c : Code := Try.f40.body.getD .skip
theorem F40_b : Try.f40.body = some F40_c := by kernel_rfl
theorem F40_rs : Try.f40.results.toList = ([.tmp 4] : List ResultVar) := by kernel_rfl
theorem F40_n : Try.f40.ntmps = 13 := by kernel_rfl
theorem F40_ok : toCC [3] 13 F40_inf F40_c = some F40 := by kernel_rfl
theorem F40_in {args : List AV} {G : Hp} {post : AV → Hp → Prop} (ha : args.all AV.plain = true) (hn : args.length ≤ 13) (h : BDs args → awp Try.prog [3] F40 (AEnds Try.prog [.tmp 4] post) (initT args) G) : ACalls Try.prog 40 args G post :=
  acalls_cc Try.func40 F40_b F40_rs F40_n F40_ok mixed ha hn h

/- 41 (*ostiary/bind.Table).Put$1 -/
@[simp] noncomputable def F41_r0 : CC := .reg [⟨some 2, none, (.box 40 (.tmp 0))⟩,
  ⟨some 3, none, (.assign (.const (.bool false)))⟩] [1, 2]
@[simp] noncomputable def F41_r1 : CC := .reg [⟨some 4, none, (.fieldAddr 40 (.tmp 2) 0)⟩,
  ⟨some 5, none, (.load 37 (.tmp 4))⟩,
  ⟨some 6, none, (.fieldAddr 40 (.tmp 1) 0)⟩,
  ⟨some 7, none, (.load 37 (.tmp 6))⟩,
  ⟨some 8, none, (.binOp .eql 37 (.tmp 5) (.tmp 7) 37)⟩,
  ⟨some 9, none, (.move (.tmp 8))⟩,
  ⟨some 10, some (9, false), (.fieldAddr 40 (.tmp 2) 1)⟩,
  ⟨some 11, some (9, false), (.load 38 (.tmp 10))⟩,
  ⟨some 12, some (9, false), (.fieldAddr 40 (.tmp 1) 1)⟩,
  ⟨some 13, some (9, false), (.load 38 (.tmp 12))⟩,
  ⟨some 14, some (9, false), (.binOp .eql 38 (.tmp 11) (.tmp 13) 38)⟩,
  ⟨some 15, none, (.pick (.tmp 9) (.const (.bool true)) (.tmp 14))⟩,
  ⟨some 16, none, (.move (.tmp 15))⟩,
  ⟨some 17, some (16, false), (.fieldAddr 40 (.tmp 2) 2)⟩,
  ⟨some 18, some (16, false), (.load 24 (.tmp 17))⟩,
  ⟨some 19, some (16, false), (.fieldAddr 40 (.tmp 1) 2)⟩,
  ⟨some 20, some (16, false), (.load 24 (.tmp 19))⟩,
  ⟨some 21, some (16, false), (.binOp .eql 24 (.tmp 18) (.tmp 20) 24)⟩,
  ⟨some 22, none, (.pick (.tmp 16) (.const (.bool true)) (.tmp 21))⟩,
  ⟨some 3, none, (.assign (.tmp 22))⟩] [3]
noncomputable def F41 : CC := (.seq F41_r0 (.seq F41_r1 .ret))
noncomputable def F41_inf : Nat → RI
  | 0 => ⟨[1, 2], [], []⟩
  | 1 => ⟨[3], [], []⟩
  | _ => ⟨[], [], []⟩
noncomputable def F41_c : Code := Try.f41.body.getD .skip
theorem F41_b : Try.f41.body = some F41_c := by kernel_rfl
theorem F41_rs : Try.f41.results.toList = ([.tmp 3] : List ResultVar) := by kernel_rfl
theorem F41_n : Try.f41.ntmps = 23 := by kernel_rfl
theorem F41_ok : toCC [] 23 F41_inf F41_c = some F41 := by kernel_rfl
theorem F41_in {args : List AV} {G : Hp} {post : AV → Hp → Prop} (ha : args.all AV.plain = true) (hn : args.length ≤ 23) (h : BDs args → awp Try.prog [] F41 (AEnds Try.prog [.tmp 3] post) (initT args) G) : ACalls Try.prog 41 args G post :=
  acalls_cc Try.func41 F41_b F41_rs F41_n F41_ok mixed ha hn h

/- 42 (*ostiary/shelf.Shelf[ostiary/api.Mac, ostiary/bind.Binding]).Set -/
@[simp] noncomputable def F42_r0 : CC := .reg [⟨some 5, none, (.box 40 (.tmp 2))⟩,
  ⟨some 6, none, (.assign (.const (.int .i64 0)))⟩] [0, 1, 5]
@[simp] noncomputable def F42_r1 : CC := .reg [⟨some 9, none, (.move (.tmp 0))⟩,
  ⟨some 10, none, (.binOp .eql 65 (.tmp 9) (.const (.pointer none)) 65)⟩] [0, 1, 5, 10]
@[simp] noncomputable def F42_r2 : CC := .reg [⟨some 6, none, (.assign (.const (.int .i64 11)))⟩] [6]
@[simp] noncomputable def F42_r3 : CC := .reg [⟨some 12, none, (.move (.tmp 0))⟩,
  ⟨some 13, none, (.move (.tmp 1))⟩,
  ⟨some 14, none, (.call { callee := (.value (.func 57)), args := #[(.tmp 12), (.tmp 13)], argTypes := #[65, 37] })⟩,
  ⟨some 11, none, (.move (.tmp 14))⟩,
  ⟨some 15, none, (.extract (.tmp 11) 0)⟩,
  ⟨some 16, none, (.extract (.tmp 11) 1)⟩,
  ⟨some 7, none, (.assign (.tmp 15))⟩,
  ⟨some 8, none, (.assign (.tmp 16))⟩] [0, 1, 5, 7, 8]
@[simp] noncomputable def F42_r5 : CC := .reg [⟨some 31, none, (.move (.tmp 8))⟩,
  ⟨some 30, none, (.assign (.tmp 31))⟩] [0, 1, 5, 7, 30]
@[simp] noncomputable def F42_r6 : CC := .drw [⟨0, ⟨some 32, none, (.move (.tmp 0))⟩, [], []⟩,
  ⟨1, ⟨some 33, none, (.nilCheck (.tmp 32))⟩, [], []⟩,
  ⟨2, ⟨some 34, none, (.fieldAddr 93 (.tmp 33) 0)⟩, [], []⟩,
  ⟨3, ⟨some 35, none, (.load 91 (.tmp 34))⟩, [], []⟩,
  ⟨4, ⟨some 36, none, (.move (.tmp 7))⟩, [], []⟩,
  ⟨5, ⟨some 37, none, (.load 40 (.tmp 5))⟩, [], []⟩,
  ⟨6, ⟨some 38, none, (.indexAddr 91 (.tmp 35) (.tmp 36))⟩, [], []⟩,
  ⟨7, ⟨some 39, none, (.fieldAddr 96 (.tmp 38) 1)⟩, [], []⟩,
  ⟨8, ⟨none, none, (.store 40 (.tmp 39) (.tmp 37))⟩, [], []⟩] [32, 33, 34, 35, 36, 37, 38, 39] []
@[simp] noncomputable def F42_r7 : CC := .drw [⟨0, ⟨some 41, none, (.move (.tmp 0))⟩, [], []⟩,
  ⟨1, ⟨some 42, none, (.nilCheck (.tmp 41))⟩, [], []⟩,
  ⟨2, ⟨some 43, none, (.fieldAddr 93 (.tmp 42) 0)⟩, [], []⟩,
  ⟨3, ⟨some 44, none, (.load 91 (.tmp 43))⟩, [], []⟩,
  ⟨4, ⟨some 45, none, (.call { callee := (.builtin .len), args := #[(.tmp 44)], argTypes := #[91] })⟩, [], []⟩,
  ⟨5, ⟨some 46, none, (.move (.tmp 0))⟩, [], []⟩,
  ⟨6, ⟨some 47, none, (.nilCheck (.tmp 46))⟩, [], []⟩,
  ⟨7, ⟨some 48, none, (.fieldAddr 93 (.tmp 47) 1)⟩, [], []⟩,
  ⟨8, ⟨some 49, none, (.load 3 (.tmp 48))⟩, [], []⟩,
  ⟨9, ⟨some 50, none, (.binOp .geq 3 (.tmp 45) (.tmp 49) 3)⟩, [], []⟩,
  ⟨10, ⟨some 40, none, (.assign (.tmp 50))⟩, [], []⟩] [41, 42, 43, 44, 45, 46, 47, 48, 49, 50, 40] [0, 1, 5, 7, 40]
@[simp] noncomputable def F42_r8 : CC := .reg [⟨some 6, none, (.assign (.const (.int .i64 4)))⟩] [6]
@[simp] noncomputable def F42_r4 : CC := .drw [⟨0, ⟨some 17, none, (.move (.tmp 0))⟩, [], []⟩,
  ⟨1, ⟨some 18, none, (.move (.tmp 0))⟩, [], []⟩,
  ⟨2, ⟨some 19, none, (.nilCheck (.tmp 18))⟩, [], []⟩,
  ⟨3, ⟨some 20, none, (.fieldAddr 93 (.tmp 19) 0)⟩, [], []⟩,
  ⟨4, ⟨some 21, none, (.load 91 (.tmp 20))⟩, [], []⟩,
  ⟨5, ⟨some 22, none, (.move (.tmp 7))⟩, [], []⟩,
  ⟨6, ⟨some 23, none, (.move (.tmp 1))⟩, [], []⟩,
  ⟨7, ⟨some 24, none, (.load 40 (.tmp 5))⟩, [], []⟩,
  ⟨8, ⟨some 25, none, (.build 96 #[(0, (.tmp 23)), (1, (.tmp 24))])⟩, [], []⟩,
  ⟨9, ⟨some 26, none, (.buildSlice 91 1 #[(0, (.tmp 25))])⟩, [], []⟩,
  ⟨10, ⟨some 27, none, (.call { callee := (.value (.func 58)), args := #[(.tmp 21), (.tmp 22), (.tmp 26)], argTypes := #[91, 3, 91] })⟩, [], []⟩,
  ⟨11, ⟨some 28, none, (.nilCheck (.tmp 17))⟩, [], []⟩,
  ⟨12, ⟨some 29, none, (.fieldAddr 93 (.tmp 28) 0)⟩, [], []⟩,
  ⟨13, ⟨none, none, (.store 91 (.tmp 29) (.tmp 27))⟩, [], []⟩] [17, 18, 19, 20, 21, 22, 23, 24, 25, 26, 27, 28, 29] []
@[simp] noncomputable def F42_r9 : CC := .reg [⟨some 6, none, (.assign (.const (.int .i64 0)))⟩] [6]
noncomputable def F42 : CC := (.seq F42_r0 (.seq (.seq F42_r1 (.cond (.tmp 10) (.seq F42_r2 .ret) .skip)) (.seq F42_r3 (.seq (.block 0 (.seq F42_r5 (.cond (.tmp 30) F42_r6 (.seq F42_r7 (.cond (.tmp 40) (.seq F42_r8 .ret) F42_r4))))) (.seq F42_r9 .ret)))))
noncomputable def F42_inf : Nat → RI
  | 0 => ⟨[0, 1, 5], [], []⟩
  | 1 => ⟨[0, 1, 5, 10], [], []⟩
  | 2 => ⟨[6], [], []⟩
  | 3 => ⟨[0, 1, 5, 7, 8], [], []⟩
  | 5 => ⟨[0, 1, 5, 7, 30], [], []⟩
  | 6 => ⟨[], [0, 1, 3, 7, 0, 0, 63, 127, 255], [(0, []), (1, []), (2, []), (3, []), (4, []), (5, []), (6, []), (7, []), (8, [])]⟩
  | 7 => ⟨[0, 1, 5, 7, 40], [0, 1, 3, 7, 15, 0, 32, 96, 224, 511, 1023], [(0, []), (1, []), (2, []), (3, []), (4, []), (5, []), (6, []), (7, []), (8, []), (9, []), (10, [])]⟩
  | 8 => ⟨[6], [], []⟩
  | 4 => ⟨[], [0, 0, 2, 6, 14, 0, 0, 0, 192, 448, 1022, 2047, 4095, 8191], [(0, []), (1, []), (2, []), (3, []), (4, []), (5, []), (6, []), (7, []), (8, []), (9, []), (10, []), (11, []), (12, []), (13, [])]⟩
  | 9 => ⟨[6], [], []⟩
  | _ => ⟨[], [], []⟩
noncomputable def F42_c : Code := Try.f42.body.getD .skip
theorem F42_b : Try.f42.body = some F42_c := by kernel_rfl
theorem F42_rs : Try.f42.results.toList = ([.tmp 6] : List ResultVar) := by kernel_rfl
theorem F42_n : Try.f42.ntmps = 51 := by kernel_rfl
theorem F42_ok : toCC [] 51 F42_inf F42_c = some F42 := by kernel_rfl
theorem F42_in {args : List AV} {G : Hp} {post : AV → Hp → Prop} (ha : args.all AV.plain = true) (hn : args.length ≤ 51) (h : BDs args → awp Try.prog [] F42 (AEnds Try.prog [.tmp 6] post) (initT args) G) : ACalls Try.prog 42 args G post :=
  acalls_cc Try.func42 F42_b F42_rs F42_n F42_ok mixed ha hn h

/- 43 (*ostiary/shelf.Shelf[ostiary/api.Mac, ostiary/bind.Binding]).Get -/
@[simp] noncomputable def F43_r0 : CC := .reg [⟨some 4, none, (.alloc 40)⟩,
  ⟨some 5, none, (.assign (.const (.bool false)))⟩] [0, 1, 4]
@[simp] noncomputable def F43_r1 : CC := .reg [⟨some 9, none, (.move (.tmp 0))⟩,
  ⟨some 10, none, (.binOp .neq 65 (.tmp 9) (.const (.pointer none)) 65)⟩] [0, 1, 4, 10]
@[simp] noncomputable def F43_r2 : CC := .reg [⟨some 12, none, (.move (.tmp 0))⟩,
  ⟨some 13, none, (.move (.tmp 1))⟩,
  ⟨some 14, none, (.call { callee := (.value (.func 57)), args := #[(.tmp 12), (.tmp 13)], argTypes := #[65, 37] })⟩,
  ⟨some 11, none, (.move (.tmp 14))⟩,
  ⟨some 15, none, (.extract (.tmp 11) 0)⟩,
  ⟨some 16, none, (.extract (.tmp 11) 1)⟩,
  ⟨some 6, none, (.assign (.tmp 15))⟩,
  ⟨some 7, none, (.assign (.tmp 16))⟩] [0, 4, 6, 7]
@[simp] noncomputable def F43_r3 : CC := .reg [⟨some 17, none, (.move (.tmp 7))⟩] [0, 4, 6, 17]
@[simp] noncomputable def F43_r4 : CC := .reg [⟨some 18, none, (.move (.tmp 0))⟩,
  ⟨some 19, none, (.nilCheck (.tmp 18))⟩,
  ⟨some 20, none, (.fieldAddr 93 (.tmp 19) 0)⟩,
  ⟨some 21, none, (.load 91 (.tmp 20))⟩,
  ⟨some 22, none, (.move (.tmp 6))⟩,
  ⟨some 23, none, (.indexAddr 91 (.tmp 21) (.tmp 22))⟩,
  ⟨some 24, none, (.fieldAddr 96 (.tmp 23) 1)⟩,
  ⟨some 25, none, (.load 40 (.tmp 24))⟩,
  ⟨none, none, (.store 40 (.tmp 4) (.tmp 25))⟩,
  ⟨some 5, none, (.assign (.const (.bool true)))⟩] [4, 5]
@[simp] noncomputable def F43_r5 : CC := .reg [⟨some 8, none, (.alloc 40)⟩] [4, 8]
@[simp] noncomputable def F43_r6 : CC := .reg [⟨some 26, none, (.load 40 (.tmp 8))⟩,
  ⟨none, none, (.store 40 (.tmp 4) (.tmp 26))⟩,
  ⟨some 5, none, (.assign (.const (.bool false)))⟩] [4, 5]
noncomputable def F43 : CC := (.seq F43_r0 (.seq (.seq F43_r1 (.cond (.tmp 10) (.seq F43_r2 (.seq F43_r3 (.cond (.tmp 17) (.seq F43_r4 .ret) .skip))) .skip)) (.seq F43_r5 (.seq F43_r6 .ret))))
noncomputable def F43_inf : Nat → RI
  | 0 => ⟨[0, 1, 4], [], []⟩
  | 1 => ⟨[0, 1, 4, 10], [], []⟩
  | 2 => ⟨[0, 4, 6, 7], [], []⟩
  | 3 => ⟨[0, 4, 6, 17], [], []⟩
  | 4 => ⟨[4, 5], [], []⟩
  | 5 => ⟨[4, 8], [], []⟩
  | 6 => ⟨[4, 5], [], []⟩
  | _ => ⟨[], [], []⟩
noncomputable def F43_c : Code := Try.f43.body.getD .skip
theorem F43_b : Try.f43.body = some F43_c := by kernel_rfl
theorem F43_rs : Try.f43.results.toList = ([.cell 4 40, .tmp 5] : List ResultVar) := by kernel_rfl
theorem F43_n : Try.f43.ntmps = 27 := by kernel_rfl
theorem F43_ok : toCC [] 27 F43_inf F43_c = some F43 := by kernel_rfl
theorem F43_in {args : List AV} {G : Hp} {post : AV → Hp → Prop} (ha : args.all AV.plain = true) (hn : args.length ≤ 27) (h : BDs args → awp Try.prog [] F43 (AEnds Try.prog [.cell 4 40, .tmp 5] post) (initT args) G) : ACalls Try.prog 43 args G post :=
  acalls_cc Try.func43 F43_b F43_rs F43_n F43_ok mixed ha hn h

/- 44 (*ostiary/bind.Table).first -/
@[simp] noncomputable def F44_r0 : CC := .reg [⟨some 4, none, (.alloc 40)⟩,
  ⟨some 5, none, (.assign (.const (.bool false)))⟩] [0, 1, 4]
@[simp] noncomputable def F44_r1 : CC := .reg [⟨some 8, none, (.move (.tmp 0))⟩,
  ⟨some 9, none, (.call { callee := (.value (.func 14)), args := #[(.tmp 8)], argTypes := #[27] })⟩,
  ⟨some 6, none, (.assign (.tmp 9))⟩] [1, 4, 6]
@[simp] noncomputable def F44_r2 : CC := .reg [⟨some 10, none, (.move (.tmp 6))⟩,
  ⟨some 11, none, (.move (.tmp 1))⟩,
  ⟨some 12, none, (.call { callee := (.value (.func 59)), args := #[(.tmp 10), (.tmp 11)], argTypes := #[47, 86] })⟩,
  ⟨some 7, none, (.assign (.tmp 12))⟩] [4, 6, 7]
@[simp] noncomputable def F44_r3 : CC := .reg [⟨some 13, none, (.move (.tmp 7))⟩,
  ⟨some 14, none, (.binOp .geq 3 (.tmp 13) (.const (.int .i64 0)) 3)⟩] [4, 6, 7, 14]
@[simp] noncomputable def F44_r4 : CC := .reg [⟨some 15, none, (.move (.tmp 6))⟩,
  ⟨some 16, none, (.move (.tmp 7))⟩,
  ⟨some 17, none, (.indexAddr 47 (.tmp 15) (.tmp 16))⟩,
  ⟨some 18, none, (.load 40 (.tmp 17))⟩,
  ⟨none, none, (.store 40 (.tmp 4) (.tmp 18))⟩,
  ⟨some 5, none, (.assign (.const (.bool true)))⟩] [4, 5]
@[simp] noncomputable def F44_r5 : CC := .reg [⟨some 19, none, (.build 40 #[])⟩,
  ⟨none, none, (.store 40 (.tmp 4) (.tmp 19))⟩,
  ⟨some 5, none, (.assign (.const (.bool false)))⟩] [4, 5]
noncomputable def F44 : CC := (.seq F44_r0 (.seq F44_r1 (.seq (.seq F44_r2 (.seq F44_r3 (.cond (.tmp 14) (.seq F44_r4 .ret) .skip))) (.seq F44_r5 .ret))))
noncomputable def F44_inf : Nat → RI
  | 0 => ⟨[0, 1, 4], [], []⟩
  | 1 => ⟨[1, 4, 6], [], []⟩
  | 2 => ⟨[4, 6, 7], [], []⟩
  | 3 => ⟨[4, 6, 7, 14], [], []⟩
  | 4 => ⟨[4, 5], [], []⟩
  | 5 => ⟨[4, 5], [], []⟩
  | _ => ⟨[], [], []⟩
noncomputable def F44_c : Code := Try.f44.body.getD .skip
theorem F44_b : Try.f44.body = some F44_c := by kernel_rfl
theorem F44_rs : Try.f44.results.toList = ([.cell 4 40, .tmp 5] : List ResultVar) := by kernel_rfl
theorem F44_n : Try.f44.ntmps = 20 := by kernel_rfl
theorem F44_ok : toCC [] 20 F44_inf F44_c = some F44 := by kernel_rfl
theorem F44_in {args : List AV} {G : Hp} {post : AV → Hp → Prop} (ha : args.all AV.plain = true) (hn : args.length ≤ 20) (h : BDs args → awp Try.prog [] F44 (AEnds Try.prog [.cell 4 40, .tmp 5] post) (initT args) G) : ACalls Try.prog 44 args G post :=
  acalls_cc Try.func44 F44_b F44_rs F44_n F44_ok mixed ha hn h

/- 45 (*ostiary/bind.Table).Of$1 -/
@[simp] noncomputable def F45_r0 : CC := .reg [⟨some 2, none, (.box 40 (.tmp 0))⟩,
  ⟨some 3, none, (.assign (.const (.bool false)))⟩] [1, 2]
@[simp] noncomputable def F45_r1 : CC := .reg [⟨some 4, none, (.fieldAddr 40 (.tmp 2) 1)⟩,
  ⟨some 5, none, (.load 38 (.tmp 4))⟩,
  ⟨some 6, none, (.load 38 (.tmp 1))⟩,
  ⟨some 7, none, (.binOp .eql 38 (.tmp 5) (.tmp 6) 38)⟩,
  ⟨some 3, none, (.assign (.tmp 7))⟩] [3]
noncomputable def F45 : CC := (.seq F45_r0 (.seq F45_r1 .ret))
noncomputable def F45_inf : Nat → RI
  | 0 => ⟨[1, 2], [], []⟩
  | 1 => ⟨[3], [], []⟩
  | _ => ⟨[], [], []⟩
noncomputable def F45_c : Code := Try.f45.body.getD .skip
theorem F45_b : Try.f45.body = some F45_c := by kernel_rfl
theorem F45_rs : Try.f45.results.toList = ([.tmp 3] : List ResultVar) := by kernel_rfl
theorem F45_n : Try.f45.ntmps = 8 := by kernel_rfl
theorem F45_ok : toCC [] 8 F45_inf F45_c = some F45 := by kernel_rfl
theorem F45_in {args : List AV} {G : Hp} {post : AV → Hp → Prop} (ha : args.all AV.plain = true) (hn : args.length ≤ 8) (h : BDs args → awp Try.prog [] F45 (AEnds Try.prog [.tmp 3] post) (initT args) G) : ACalls Try.prog 45 args G post :=
  acalls_cc Try.func45 F45_b F45_rs F45_n F45_ok mixed ha hn h

/- 46 (*ostiary/bind.Table).At$1 -/
@[simp] noncomputable def F46_r0 : CC := .reg [⟨some 2, none, (.box 40 (.tmp 0))⟩,
  ⟨some 3, none, (.assign (.const (.bool false)))⟩] [1, 2]
@[simp] noncomputable def F46_r1 : CC := .reg [⟨some 4, none, (.fieldAddr 40 (.tmp 2) 2)⟩,
  ⟨some 5, none, (.load 24 (.tmp 4))⟩,
  ⟨some 6, none, (.load 24 (.tmp 1))⟩,
  ⟨some 7, none, (.binOp .eql 24 (.tmp 5) (.tmp 6) 24)⟩,
  ⟨some 3, none, (.assign (.tmp 7))⟩] [3]
noncomputable def F46 : CC := (.seq F46_r0 (.seq F46_r1 .ret))
noncomputable def F46_inf : Nat → RI
  | 0 => ⟨[1, 2], [], []⟩
  | 1 => ⟨[3], [], []⟩
  | _ => ⟨[], [], []⟩
noncomputable def F46_c : Code := Try.f46.body.getD .skip
theorem F46_b : Try.f46.body = some F46_c := by kernel_rfl
theorem F46_rs : Try.f46.results.toList = ([.tmp 3] : List ResultVar) := by kernel_rfl
theorem F46_n : Try.f46.ntmps = 8 := by kernel_rfl
theorem F46_ok : toCC [] 8 F46_inf F46_c = some F46 := by kernel_rfl
theorem F46_in {args : List AV} {G : Hp} {post : AV → Hp → Prop} (ha : args.all AV.plain = true) (hn : args.length ≤ 8) (h : BDs args → awp Try.prog [] F46 (AEnds Try.prog [.tmp 3] post) (initT args) G) : ACalls Try.prog 46 args G post :=
  acalls_cc Try.func46 F46_b F46_rs F46_n F46_ok mixed ha hn h

/- 47 ostiary/talk.Name -/
@[simp] noncomputable def F47_r0 : CC := .reg [⟨some 2, none, (.assign (.const (.bool false)))⟩] [0]
@[simp] noncomputable def F47_r1 : CC := .reg [⟨some 6, none, (.move (.tmp 0))⟩,
  ⟨some 7, none, (.range 9 (.tmp 6))⟩] [0, 7]
@[simp] noncomputable def F47_r2 : CC := .reg [⟨some 8, none, (.next (.tmp 7) true)⟩,
  ⟨some 9, none, (.extract (.tmp 8) 0)⟩] [0, 7, 8, 9]
@[simp] noncomputable def F47_r3 : CC := .reg [⟨some 10, none, (.extract (.tmp 8) 1)⟩,
  ⟨some 11, none, (.extract (.tmp 8) 2)⟩,
  ⟨some 3, none, (.assign (.tmp 10))⟩,
  ⟨some 4, none, (.assign (.tmp 11))⟩] [0, 3, 4, 7]
@[simp] noncomputable def F47_r4 : CC := .reg [⟨some 12, none, (.move (.tmp 4))⟩,
  ⟨some 13, none, (.binOp .geq 21 (.tmp 12) (.const (.int .i32 97)) 21)⟩,
  ⟨some 14, none, (.move (.tmp 13))⟩,
  ⟨some 15, some (14, true), (.move (.tmp 4))⟩,
  ⟨some 16, some (14, true), (.binOp .leq 21 (.tmp 15) (.const (.int .i32 122)) 21)⟩,
  ⟨some 17, none, (.pick (.tmp 14) (.tmp 16) (.const (.bool false)))⟩,
  ⟨some 5, none, (.assign (.tmp 17))⟩] [0, 3, 4, 5, 7]
@[simp] noncomputable def F47_r5 : CC := .reg [⟨some 18, none, (.move (.tmp 5))⟩,
  ⟨some 19, none, (.unOp .not 4 (.tmp 18))⟩,
  ⟨some 20, none, (.move (.tmp 19))⟩,
  ⟨some 21, some (20, true), (.move (.tmp 3))⟩,
  ⟨some 22, some (20, true), (.binOp .eql 3 (.tmp 21) (.const (.int .i64 0)) 3)⟩,
  ⟨some 23, some (20, true), (.move (.tmp 22))⟩,
  ⟨some 24, some (23, false), (.move (.tmp 4))⟩,
  ⟨some 25, some (23, false), (.binOp .lss 21 (.tmp 24) (.const (.int .i32 48)) 21)⟩,
  ⟨some 26, some (20, true), (.pick (.tmp 23) (.const (.bool true)) (.tmp 25))⟩,
  ⟨some 27, some (20, true), (.move (.tmp 26))⟩,
  ⟨some 28, some (27, false), (.move (.tmp 4))⟩,
  ⟨some 29, some (27, false), (.binOp .gtr 21 (.tmp 28) (.const (.int .i32 57)) 21)⟩,
  ⟨some 30, some (20, true), (.pick (.tmp 27) (.const (.bool true)) (.tmp 29))⟩,
  ⟨some 31, none, (.pick (.tmp 20) (.tmp 30) (.const (.bool false)))⟩] [0, 7, 31]
@[simp] noncomputable def F47_r6 : CC := .reg [⟨some 2, none, (.assign (.const (.bool false)))⟩] [2]
noncomputable def F47_l0 : CC := (.seq F47_r2 (.seq (.cond (.tmp 9) .skip (.exit 0)) (.block 1 (.seq F47_r3 (.seq F47_r4 (.seq F47_r5 (.cond (.tmp 31) (.seq F47_r6 .ret) .skip)))))))
@[simp] noncomputable def F47_r7 : CC := .reg [⟨some 32, none, (.move (.tmp 0))⟩,
  ⟨some 33, none, (.call { callee := (.builtin .len), args := #[(.tmp 32)], argTypes := #[9] })⟩,
  ⟨some 34, none, (.binOp .geq 3 (.tmp 33) (.const (.int .i64 1)) 3)⟩,
  ⟨some 35, none, (.move (.tmp 34))⟩,
  ⟨some 36, some (35, true), (.move (.tmp 0))⟩,
  ⟨some 37, some (35, true), (.call { callee := (.builtin .len), args := #[(.tmp 36)], argTypes := #[9] })⟩,
  ⟨some 38, some (35, true), (.binOp .leq 3 (.tmp 37) (.const (.int .i64 8)) 3)⟩,
  ⟨some 39, none, (.pick (.tmp 35) (.tmp 38) (.const (.bool false)))⟩,
  ⟨some 2, none, (.assign (.tmp 39))⟩] [2]
noncomputable def F47 : CC := (.seq F47_r0 (.seq (.seq F47_r1 (.block 0 (.loop F47_l0))) (.seq F47_r7 .ret)))
noncomputable def F47_inf : Nat → RI
  | 0 => ⟨[0], [], []⟩
  | 1 => ⟨[0, 7], [], []⟩
  | 2 => ⟨[0, 7, 8, 9], [], []⟩
  | 3 => ⟨[0, 3, 4, 7], [], []⟩
  | 4 => ⟨[0, 3, 4, 5, 7], [], []⟩
  | 5 => ⟨[0, 7, 31], [], []⟩
  | 6 => ⟨[2], [], []⟩
  | 7 => ⟨[2], [], []⟩
  | _ => ⟨[], [], []⟩
noncomputable def F47_c : Code := Try.f47.body.getD .skip
theorem F47_b : Try.f47.body = some F47_c := by kernel_rfl
theorem F47_rs : Try.f47.results.toList = ([.tmp 2] : List ResultVar) := by kernel_rfl
theorem F47_n : Try.f47.ntmps = 40 := by kernel_rfl
theorem F47_ok : toCC [] 40 F47_inf F47_c = some F47 := by kernel_rfl
theorem F47_in {args : List AV} {G : Hp} {post : AV → Hp → Prop} (ha : args.all AV.plain = true) (hn : args.length ≤ 40) (h : BDs args → awp Try.prog [] F47 (AEnds Try.prog [.tmp 2] post) (initT args) G) : ACalls Try.prog 47 args G post :=
  acalls_cc Try.func47 F47_b F47_rs F47_n F47_ok mixed ha hn h

/- 48 (*ostiary/bind.Table).Leave$1 -/
@[simp] noncomputable def F48_r0 : CC := .reg [⟨some 2, none, (.box 40 (.tmp 0))⟩,
  ⟨some 3, none, (.assign (.const (.bool false)))⟩] [1, 2]
@[simp] noncomputable def F48_r1 : CC := .reg [⟨some 4, none, (.load 77 (.tmp 1))⟩,
  ⟨some 5, none, (.fieldAddr 40 (.tmp 2) 2)⟩,
  ⟨some 6, none, (.load 24 (.tmp 5))⟩,
  ⟨some 7, none, (.call { callee := (.value (.func 49)), args := #[(.tmp 4), (.tmp 6)], argTypes := #[77, 24] })⟩,
  ⟨some 3, none, (.assign (.tmp 7))⟩] [3]
noncomputable def F48 : CC := (.seq F48_r0 (.seq F48_r1 .ret))
noncomputable def F48_inf : Nat → RI
  | 0 => ⟨[1, 2], [], []⟩
  | 1 => ⟨[3], [], []⟩
  | _ => ⟨[], [], []⟩
noncomputable def F48_c : Code := Try.f48.body.getD .skip
theorem F48_b : Try.f48.body = some F48_c := by kernel_rfl
theorem F48_rs : Try.f48.results.toList = ([.tmp 3] : List ResultVar) := by kernel_rfl
theorem F48_n : Try.f48.ntmps = 8 := by kernel_rfl
theorem F48_ok : toCC [] 8 F48_inf F48_c = some F48 := by kernel_rfl
theorem F48_in {args : List AV} {G : Hp} {post : AV → Hp → Prop} (ha : args.all AV.plain = true) (hn : args.length ≤ 8) (h : BDs args → awp Try.prog [] F48 (AEnds Try.prog [.tmp 3] post) (initT args) G) : ACalls Try.prog 48 args G post :=
  acalls_cc Try.func48 F48_b F48_rs F48_n F48_ok mixed ha hn h

/- 49 slices.Contains[[]ostiary/api.Place,ostiary/api.Place] -/
@[simp] noncomputable def F49_r0 : CC := .reg [⟨some 3, none, (.box 24 (.tmp 1))⟩,
  ⟨some 4, none, (.assign (.const (.bool false)))⟩] [0, 3]
@[simp] noncomputable def F49_r1 : CC := .reg [⟨some 5, none, (.move (.tmp 0))⟩,
  ⟨some 6, none, (.load 24 (.tmp 3))⟩,
  ⟨some 7, none, (.call { callee := (.value (.func 60)), args := #[(.tmp 5), (.tmp 6)], argTypes := #[77, 24] })⟩,
  ⟨some 8, none, (.binOp .geq 3 (.tmp 7) (.const (.int .i64 0)) 3)⟩,
  ⟨some 4, none, (.assign (.tmp 8))⟩] [4]
noncomputable def F49 : CC := (.seq F49_r0 (.seq F49_r1 .ret))
noncomputable def F49_inf : Nat → RI
  | 0 => ⟨[0, 3], [], []⟩
  | 1 => ⟨[4], [], []⟩
  | _ => ⟨[], [], []⟩
noncomputable def F49_c : Code := Try.f49.body.getD .skip
theorem F49_b : Try.f49.body = some F49_c := by kernel_rfl
theorem F49_rs : Try.f49.results.toList = ([.tmp 4] : List ResultVar) := by kernel_rfl
theorem F49_n : Try.f49.ntmps = 9 := by kernel_rfl
theorem F49_ok : toCC [] 9 F49_inf F49_c = some F49 := by kernel_rfl
theorem F49_in {args : List AV} {G : Hp} {post : AV → Hp → Prop} (ha : args.all AV.plain = true) (hn : args.length ≤ 9) (h : BDs args → awp Try.prog [] F49 (AEnds Try.prog [.tmp 4] post) (initT args) G) : ACalls Try.prog 49 args G post :=
  acalls_cc Try.func49 F49_b F49_rs F49_n F49_ok mixed ha hn h

/- 50 (*ostiary/bind.Table).Forget$1 -/
@[simp] noncomputable def F50_r0 : CC := .reg [⟨some 2, none, (.box 40 (.tmp 0))⟩,
  ⟨some 3, none, (.assign (.const (.bool false)))⟩] [1, 2]
@[simp] noncomputable def F50_r1 : CC := .reg [⟨some 4, none, (.load 9 (.tmp 1))⟩,
  ⟨some 5, none, (.binOp .neq 9 (.tmp 4) (.const (.string { data := #[] })) 9)⟩,
  ⟨some 6, none, (.move (.tmp 5))⟩,
  ⟨some 7, some (6, true), (.fieldAddr 40 (.tmp 2) 3)⟩,
  ⟨some 8, some (6, true), (.load 9 (.tmp 7))⟩,
  ⟨some 9, some (6, true), (.load 9 (.tmp 1))⟩,
  ⟨some 10, some (6, true), (.binOp .eql 9 (.tmp 8) (.tmp 9) 9)⟩,
  ⟨some 11, none, (.pick (.tmp 6) (.tmp 10) (.const (.bool false)))⟩,
  ⟨some 3, none, (.assign (.tmp 11))⟩] [3]
noncomputable def F50 : CC := (.seq F50_r0 (.seq F50_r1 .ret))
noncomputable def F50_inf : Nat → RI
  | 0 => ⟨[1, 2], [], []⟩
  | 1 => ⟨[3], [], []⟩
  | _ => ⟨[], [], []⟩
noncomputable def F50_c : Code := Try.f50.body.getD .skip
theorem F50_b : Try.f50.body = some F50_c := by kernel_rfl
theorem F50_rs : Try.f50.results.toList = ([.tmp 3] : List ResultVar) := by kernel_rfl
theorem F50_n : Try.f50.ntmps = 12 := by kernel_rfl
theorem F50_ok : toCC [] 12 F50_inf F50_c = some F50 := by kernel_rfl
theorem F50_in {args : List AV} {G : Hp} {post : AV → Hp → Prop} (ha : args.all AV.plain = true) (hn : args.length ≤ 12) (h : BDs args → awp Try.prog [] F50 (AEnds Try.prog [.tmp 3] post) (initT args) G) : ACalls Try.prog 50 args G post :=
  acalls_cc Try.func50 F50_b F50_rs F50_n F50_ok mixed ha hn h
end Go.Proofs.Ytmomphnkngbgjaa
