import Derived.Test.YtbmlapcigkgdlaaC0K
set_option linter.unusedVariables false
set_option linter.unusedSimpArgs false
set_option maxRecDepth 100000
namespace Go.Proofs.Ytbmlapcigkgdlaa
open Go Go.Al

/- 15 (*ostiary/cable.Net).Attach -/
@[simp] noncomputable def F15_r0 : CC := .reg [⟨some 5, none, (.box 27 (.tmp 2))⟩,
  ⟨some 6, none, (.assign (.const (.int .i64 0)))⟩] [0, 1, 5]
@[simp] noncomputable def F15_r1 : CC := .reg [⟨some 10, none, (.move (.tmp 0))⟩,
  ⟨some 11, none, (.binOp .eql 23 (.tmp 10) (.const (.pointer none)) 23)⟩,
  ⟨some 9, none, (.assign (.tmp 11))⟩] [0, 1, 5, 9]
@[simp] noncomputable def F15_r2 : CC := .reg [⟨some 6, none, (.assign (.const (.int .i64 11)))⟩] [6]
@[simp] noncomputable def F15_r3 : CC := .reg [⟨some 13, none, (.move (.tmp 1))⟩,
  ⟨some 14, none, (.binOp .lss 3 (.tmp 13) (.const (.int .i64 0)) 3)⟩,
  ⟨some 15, none, (.move (.tmp 14))⟩,
  ⟨some 16, some (15, false), (.move (.tmp 1))⟩,
  ⟨some 17, some (15, false), (.binOp .geq 3 (.tmp 16) (.const (.int .i64 16)) 3)⟩,
  ⟨some 18, none, (.pick (.tmp 15) (.const (.bool true)) (.tmp 17))⟩,
  ⟨some 19, none, (.move (.tmp 18))⟩,
  ⟨some 20, some (19, false), (.load 27 (.tmp 5))⟩,
  ⟨some 21, some (19, false), (.call { callee := (.value (.func 23)), args := #[(.tmp 20)], argTypes := #[27] })⟩,
  ⟨some 22, some (19, false), (.unOp .not 4 (.tmp 21))⟩,
  ⟨some 23, none, (.pick (.tmp 19) (.const (.bool true)) (.tmp 22))⟩,
  ⟨some 12, none, (.assign (.tmp 23))⟩] [0, 1, 5, 12]
@[simp] noncomputable def F15_r4 : CC := .reg [⟨some 6, none, (.assign (.const (.int .i64 1)))⟩] [6]
@[simp] noncomputable def F15_r5 : CC := .reg [⟨some 25, none, (.move (.tmp 0))⟩,
  ⟨some 26, none, (.move (.tmp 1))⟩,
  ⟨some 27, none, (.call { callee := (.value (.func 12)), args := #[(.tmp 25), (.tmp 26)], argTypes := #[23, 3] })⟩,
  ⟨some 24, none, (.move (.tmp 27))⟩,
  ⟨some 28, none, (.extract (.tmp 24) 0)⟩,
  ⟨some 29, none, (.extract (.tmp 24) 1)⟩,
  ⟨some 7, none, (.alloc 27)⟩,
  ⟨none, none, (.store 27 (.tmp 7) (.tmp 28))⟩,
  ⟨some 8, none, (.assign (.tmp 29))⟩] [0, 1, 5, 8]
@[simp] noncomputable def F15_r6 : CC := .reg [⟨some 30, none, (.move (.tmp 8))⟩,
  ⟨some 31, none, (.move (.tmp 30))⟩,
  ⟨some 32, some (31, false), (.move (.tmp 0))⟩,
  ⟨some 33, some (31, false), (.load 27 (.tmp 5))⟩,
  ⟨some 34, some (31, false), (.call { callee := (.value (.func 32)), args := #[(.tmp 32), (.tmp 33)], argTypes := #[23, 27] })⟩,
  ⟨some 35, none, (.pick (.tmp 31) (.const (.bool true)) (.tmp 34))⟩] [0, 1, 5, 35]
@[simp] noncomputable def F15_r7 : CC := .reg [⟨some 6, none, (.assign (.const (.int .i64 3)))⟩] [6]
@[simp] noncomputable def F15_r8 : CC := .drw [⟨0, ⟨some 36, none, (.move (.tmp 0))⟩, [], []⟩,
  ⟨1, ⟨some 37, none, (.nilCheck (.tmp 36))⟩, [], []⟩,
  ⟨2, ⟨some 38, none, (.fieldAddr 52 (.tmp 37) 0)⟩, [], []⟩,
  ⟨3, ⟨some 39, none, (.load 49 (.tmp 38))⟩, [], []⟩,
  ⟨4, ⟨some 40, none, (.load 27 (.tmp 5))⟩, [], []⟩,
  ⟨6, ⟨some 42, none, (.move (.tmp 1))⟩, [], []⟩,
  ⟨7, ⟨some 43, none, (.build 36 #[(0, (.const (.int .i64 2))), (2, (.tmp 42))])⟩, [], []⟩,
  ⟨5, ⟨some 41, none, (.call { callee := (.value (.func 28)), args := #[(.tmp 40)], argTypes := #[27] })⟩, [3], [⟨some 39, none, (.load 49 (.tmp 38))⟩]⟩,
  ⟨8, ⟨some 44, none, (.call { callee := (.value (.func 33)), args := #[(.tmp 39), (.tmp 41), (.tmp 43)], argTypes := #[49, 3, 36] })⟩, [], []⟩] [36, 37, 38, 39, 40, 42, 43, 41, 44] []
@[simp] noncomputable def F15_r9 : CC := .reg [⟨some 6, none, (.assign (.const (.int .i64 0)))⟩] [6]
noncomputable def F15 : CC := (.seq F15_r0 (.seq (.block 0 (.seq F15_r1 (.cond (.tmp 9) (.seq F15_r2 .ret) (.seq F15_r3 (.cond (.tmp 12) (.seq F15_r4 .ret) .skip))))) (.seq (.seq F15_r5 (.seq F15_r6 (.cond (.tmp 35) (.seq F15_r7 .ret) .skip))) (.seq F15_r8 (.seq F15_r9 .ret)))))
noncomputable def F15_inf : Nat → RI
  | 0 => ⟨[0, 1, 5], [], []⟩
  | 1 => ⟨[0, 1, 5, 9], [], []⟩
  | 2 => ⟨[6], [], []⟩
  | 3 => ⟨[0, 1, 5, 12], [], []⟩
  | 4 => ⟨[6], [], []⟩
  | 5 => ⟨[0, 1, 5, 8], [], []⟩
  | 6 => ⟨[0, 1, 5, 35], [], []⟩
  | 7 => ⟨[6], [], []⟩
  | 8 => ⟨[], [0, 1, 3, 7, 0, 16, 0, 64, 255], [(0, []), (1, []), (2, []), (3, []), (4, []), (6, []), (7, []), (5, [3]), (8, [])]⟩
  | 9 => ⟨[6], [], []⟩
  | _ => ⟨[], [], []⟩
noncomputable def F15_c : Code := Try.f15.body.getD .skip
theorem F15_b : Try.f15.body = some F15_c := by kernel_rfl
theorem F15_rs : Try.f15.results.toList = ([.tmp 6] : List ResultVar) := by kernel_rfl
theorem F15_n : Try.f15.ntmps = 45 := by kernel_rfl
theorem F15_ok : toCC [] 45 F15_inf F15_c = some F15 := by kernel_rfl
theorem F15_in {args : List AV} {G : Hp} {post : AV → Hp → Prop} (ha : args.all AV.plain = true) (hn : args.length ≤ 45) (h : BDs args → awp Try.prog [] F15 (AEnds Try.prog [.tmp 6] post) (initT args) G) : ACalls Try.prog 15 args G post :=
  acalls_cc Try.func15 F15_b F15_rs F15_n F15_ok mixed ha hn h

/- 16 (*ostiary/cable.Net).Links -/
@[simp] noncomputable def F16_r0 : CC := .reg [⟨some 2, none, (.assign (.const (.slice none 0 0)))⟩] [0]
@[simp] noncomputable def F16_r1 : CC := .reg [⟨some 8, none, (.move (.tmp 0))⟩,
  ⟨some 9, none, (.binOp .eql 23 (.tmp 8) (.const (.pointer none)) 23)⟩] [0, 9]
@[simp] noncomputable def F16_r2 : CC := .reg [⟨some 2, none, (.assign (.const (.slice none 0 0)))⟩] [2]
@[simp] noncomputable def F16_r3 : CC := .reg [⟨some 3, none, (.assign (.const (.slice none 0 0)))⟩] [0, 3]
@[simp] noncomputable def F16_r4 : CC := .reg [⟨some 10, none, (.move (.tmp 0))⟩,
  ⟨some 11, none, (.nilCheck (.tmp 10))⟩,
  ⟨some 12, none, (.fieldAddr 52 (.tmp 11) 0)⟩,
  ⟨some 13, none, (.load 49 (.tmp 12))⟩,
  ⟨some 14, none, (.call { callee := (.value (.func 29)), args := #[(.tmp 13)], argTypes := #[49] })⟩,
  ⟨some 15, none, (.call { callee := (.builtin .len), args := #[(.tmp 14)], argTypes := #[67] })⟩,
  ⟨some 16, none, (.move (.const (.int .i64 0)))⟩] [0, 3, 14, 15, 16]
@[simp] noncomputable def F16_r5 : CC := .reg [⟨some 17, none, (.binOp .lss 3 (.tmp 16) (.tmp 15) 3)⟩] [0, 3, 14, 15, 16, 17]
@[simp] noncomputable def F16_r6 : CC := .reg [⟨some 18, none, (.indexAddr 67 (.tmp 14) (.tmp 16))⟩,
  ⟨some 19, none, (.load 3 (.tmp 18))⟩,
  ⟨some 5, none, (.assign (.tmp 19))⟩] [0, 3, 5, 14, 15, 16]
@[simp] noncomputable def F16_r7 : CC := .reg [⟨some 21, none, (.move (.tmp 0))⟩,
  ⟨some 22, none, (.nilCheck (.tmp 21))⟩,
  ⟨some 23, none, (.fieldAddr 52 (.tmp 22) 0)⟩,
  ⟨some 24, none, (.load 49 (.tmp 23))⟩,
  ⟨some 25, none, (.move (.tmp 5))⟩,
  ⟨some 26, none, (.call { callee := (.value (.func 27)), args := #[(.tmp 24), (.tmp 25)], argTypes := #[49, 3] })⟩,
  ⟨some 20, none, (.move (.tmp 26))⟩,
  ⟨some 27, none, (.extract (.tmp 20) 0)⟩,
  ⟨some 28, none, (.extract (.tmp 20) 1)⟩,
  ⟨some 6, none, (.alloc 36)⟩,
  ⟨none, none, (.store 36 (.tmp 6) (.tmp 27))⟩,
  ⟨some 7, none, (.assign (.tmp 28))⟩] [0, 3, 5, 6, 14, 15, 16]
@[simp] noncomputable def F16_r8 : CC := .reg [⟨some 29, none, (.fieldAddr 36 (.tmp 6) 0)⟩,
  ⟨some 30, none, (.load 3 (.tmp 29))⟩,
  ⟨some 31, none, (.binOp .eql 3 (.tmp 30) (.const (.int .i64 1)) 3)⟩,
  ⟨some 32, none, (.move (.tmp 31))⟩,
  ⟨some 33, some (32, true), (.move (.tmp 5))⟩,
  ⟨some 34, some (32, true), (.fieldAddr 36 (.tmp 6) 1)⟩,
  ⟨some 35, some (32, true), (.load 27 (.tmp 34))⟩,
  ⟨some 36, some (32, true), (.call { callee := (.value (.func 28)), args := #[(.tmp 35)], argTypes := #[27] })⟩,
  ⟨some 37, some (32, true), (.binOp .lss 3 (.tmp 33) (.tmp 36) 3)⟩,
  ⟨some 38, none, (.pick (.tmp 32) (.tmp 37) (.const (.bool false)))⟩] [0, 3, 5, 6, 14, 15, 16, 38]
@[simp] noncomputable def F16_r9 : CC := .drw [⟨0, ⟨some 39, none, (.move (.tmp 3))⟩, [], []⟩,
  ⟨1, ⟨some 40, none, (.move (.tmp 5))⟩, [], []⟩,
  ⟨3, ⟨some 42, none, (.fieldAddr 36 (.tmp 6) 1)⟩, [], []⟩,
  ⟨4, ⟨some 43, none, (.load 27 (.tmp 42))⟩, [], []⟩,
  ⟨2, ⟨some 41, none, (.call { callee := (.value (.func 30)), args := #[(.tmp 40)], argTypes := #[3] })⟩, [4], [⟨some 43, none, (.load 27 (.tmp 42))⟩]⟩,
  ⟨5, ⟨some 44, none, (.build 64 #[(0, (.tmp 41)), (1, (.tmp 43))])⟩, [], []⟩,
  ⟨6, ⟨some 45, none, (.buildSlice 45 1 #[(0, (.tmp 44))])⟩, [], []⟩,
  ⟨7, ⟨some 46, none, (.call { callee := (.builtin .append), args := #[(.tmp 39), (.tmp 45)], argTypes := #[45, 45] })⟩, [], []⟩,
  ⟨8, ⟨some 3, none, (.assign (.tmp 46))⟩, [], []⟩] [39, 40, 42, 43, 41, 44, 45, 46, 3] [0, 3, 14, 15, 16]
@[simp] noncomputable def F16_r10 : CC := .reg [⟨some 47, none, (.binOp .add 3 (.tmp 16) (.const (.int .i64 1)) 3)⟩,
  ⟨some 16, none, (.move (.tmp 47))⟩] [0, 3, 14, 15, 16]
noncomputable def F16_l0 : CC := (.seq F16_r5 (.seq (.cond (.tmp 17) .skip (.exit 0)) (.seq (.block 1 (.seq F16_r6 (.seq F16_r7 (.seq F16_r8 (.cond (.tmp 38) F16_r9 .skip))))) F16_r10)))
@[simp] noncomputable def F16_r11 : CC := .reg [⟨some 48, none, (.move (.tmp 3))⟩,
  ⟨some 2, none, (.assign (.tmp 48))⟩] [2]
noncomputable def F16 : CC := (.seq F16_r0 (.seq (.seq F16_r1 (.cond (.tmp 9) (.seq F16_r2 .ret) .skip)) (.seq F16_r3 (.seq (.seq F16_r4 (.block 0 (.loop F16_l0))) (.seq F16_r11 .ret)))))
noncomputable def F16_inf : Nat → RI
  | 0 => ⟨[0], [], []⟩
  | 1 => ⟨[0, 9], [], []⟩
  | 2 => ⟨[2], [], []⟩
  | 3 => ⟨[0, 3], [], []⟩
  | 4 => ⟨[0, 3, 14, 15, 16], [], []⟩
  | 5 => ⟨[0, 3, 14, 15, 16, 17], [], []⟩
  | 6 => ⟨[0, 3, 5, 14, 15, 16], [], []⟩
  | 7 => ⟨[0, 3, 5, 6, 14, 15, 16], [], []⟩
  | 8 => ⟨[0, 3, 5, 6, 14, 15, 16, 38], [], []⟩
  | 9 => ⟨[0, 3, 14, 15, 16], [0, 0, 2, 0, 8, 30, 62, 127, 255], [(0, []), (1, []), (3, []), (4, []), (2, [4]), (5, []), (6, []), (7, []), (8, [])]⟩
  | 10 => ⟨[0, 3, 14, 15, 16], [], []⟩
  | 11 => ⟨[2], [], []⟩
  | _ => ⟨[], [], []⟩
noncomputable def F16_c : Code := Try.f16.body.getD .skip
theorem F16_b : Try.f16.body = some F16_c := by kernel_rfl
theorem F16_rs : Try.f16.results.toList = ([.tmp 2] : List ResultVar) := by kernel_rfl
theorem F16_n : Try.f16.ntmps = 49 := by kernel_rfl
theorem F16_ok : toCC [] 49 F16_inf F16_c = some F16 := by kernel_rfl
theorem F16_in {args : List AV} {G : Hp} {post : AV → Hp → Prop} (ha : args.all AV.plain = true) (hn : args.length ≤ 49) (h : BDs args → awp Try.prog [] F16 (AEnds Try.prog [.tmp 2] post) (initT args) G) : ACalls Try.prog 16 args G post :=
  acalls_cc Try.func16 F16_b F16_rs F16_n F16_ok mixed ha hn h

/- 17 ostiary/shelf.NewShelf[int,ostiary/cable.End] -/
@[simp] noncomputable def F17_r0 : CC := .reg [⟨some 2, none, (.assign (.const (.pointer none)))⟩] [0]
@[simp] noncomputable def F17_r1 : CC := .reg [⟨some 3, none, (.move (.tmp 0))⟩,
  ⟨some 4, none, (.call { callee := (.builtin .max), args := #[(.tmp 3), (.const (.int .i64 0))], argTypes := #[3, 3] })⟩,
  ⟨some 5, none, (.build 74 #[(1, (.tmp 4))])⟩,
  ⟨some 6, none, (.box 74 (.tmp 5))⟩,
  ⟨some 2, none, (.assign (.tmp 6))⟩] [2]
noncomputable def F17 : CC := (.seq F17_r0 (.seq F17_r1 .ret))
noncomputable def F17_inf : Nat → RI
  | 0 => ⟨[0], [], []⟩
  | 1 => ⟨[2], [], []⟩
  | _ => ⟨[], [], []⟩
noncomputable def F17_c : Code := Try.f17.body.getD .skip
theorem F17_b : Try.f17.body = some F17_c := by kernel_rfl
theorem F17_rs : Try.f17.results.toList = ([.tmp 2] : List ResultVar) := by kernel_rfl
theorem F17_n : Try.f17.ntmps = 7 := by kernel_rfl
theorem F17_ok : toCC [6] 7 F17_inf F17_c = some F17 := by kernel_rfl
theorem F17_in {args : List AV} {G : Hp} {post : AV → Hp → Prop} (ha : args.all AV.plain = true) (hn : args.length ≤ 7) (h : BDs args → awp Try.prog [6] F17 (AEnds Try.prog [.tmp 2] post) (initT args) G) : ACalls Try.prog 17 args G post :=
  acalls_cc Try.func17 F17_b F17_rs F17_n F17_ok mixed ha hn h

/- 18 ostiary/ostiaryref19.Join -/
@[simp] noncomputable def F18_r0 : CC := .reg [⟨some 4, none, (.box 27 (.tmp 1))⟩,
  ⟨some 5, none, (.box 27 (.tmp 2))⟩,
  ⟨some 6, none, (.assign (.const (.slice none 0 0)))⟩,
  ⟨some 7, none, (.assign (.const (.int .i64 0)))⟩] [0, 4, 5]
@[simp] noncomputable def F18_r1 : CC := .reg [⟨some 8, none, (.load 27 (.tmp 4))⟩,
  ⟨some 9, none, (.call { callee := (.value (.func 24)), args := #[(.tmp 8)], argTypes := #[27] })⟩,
  ⟨some 10, none, (.unOp .not 4 (.tmp 9))⟩,
  ⟨some 11, none, (.move (.tmp 10))⟩,
  ⟨some 12, some (11, false), (.load 27 (.tmp 5))⟩,
  ⟨some 13, some (11, false), (.call { callee := (.value (.func 24)), args := #[(.tmp 12)], argTypes := #[27] })⟩,
  ⟨some 14, some (11, false), (.unOp .not 4 (.tmp 13))⟩,
  ⟨some 15, none, (.pick (.tmp 11) (.const (.bool true)) (.tmp 14))⟩,
  ⟨some 16, none, (.move (.tmp 15))⟩,
  ⟨some 17, some (16, false), (.load 27 (.tmp 4))⟩,
  ⟨some 18, some (16, false), (.load 27 (.tmp 5))⟩,
  ⟨some 19, some (16, false), (.binOp .eql 27 (.tmp 17) (.tmp 18) 27)⟩,
  ⟨some 20, none, (.pick (.tmp 16) (.const (.bool true)) (.tmp 19))⟩] [0, 4, 5, 20]
@[simp] noncomputable def F18_r2 : CC := .reg [⟨some 21, none, (.move (.tmp 0))⟩,
  ⟨some 6, none, (.assign (.tmp 21))⟩,
  ⟨some 7, none, (.assign (.const (.int .i64 1)))⟩] [6, 7]
@[simp] noncomputable def F18_r3 : CC := .reg [⟨some 22, none, (.move (.tmp 0))⟩,
  ⟨some 23, none, (.load 27 (.tmp 4))⟩,
  ⟨some 24, none, (.call { callee := (.value (.func 20)), args := #[(.tmp 22), (.tmp 23)], argTypes := #[25, 27] })⟩,
  ⟨some 25, none, (.field 56 (.tmp 24) 0)⟩,
  ⟨some 26, none, (.binOp .neq 3 (.tmp 25) (.const (.int .i64 0)) 3)⟩,
  ⟨some 27, none, (.move (.tmp 26))⟩,
  ⟨some 28, some (27, false), (.move (.tmp 0))⟩,
  ⟨some 29, some (27, false), (.load 27 (.tmp 5))⟩,
  ⟨some 30, some (27, false), (.call { callee := (.value (.func 20)), args := #[(.tmp 28), (.tmp 29)], argTypes := #[25, 27] })⟩,
  ⟨some 31, some (27, false), (.field 56 (.tmp 30) 0)⟩,
  ⟨some 32, some (27, false), (.binOp .neq 3 (.tmp 31) (.const (.int .i64 0)) 3)⟩,
  ⟨some 33, none, (.pick (.tmp 27) (.const (.bool true)) (.tmp 32))⟩] [0, 4, 5, 33]
@[simp] noncomputable def F18_r4 : CC := .reg [⟨some 34, none, (.move (.tmp 0))⟩,
  ⟨some 6, none, (.assign (.tmp 34))⟩,
  ⟨some 7, none, (.assign (.const (.int .i64 3)))⟩] [6, 7]
@[simp] noncomputable def F18_r5 : CC := .drw [⟨1, ⟨some 36, none, (.move (.tmp 0))⟩, [], []⟩,
  ⟨3, ⟨some 38, none, (.load 27 (.tmp 4))⟩, [], []⟩,
  ⟨4, ⟨some 39, none, (.load 27 (.tmp 5))⟩, [], []⟩,
  ⟨5, ⟨some 40, none, (.build 76 #[(0, (.tmp 38)), (1, (.tmp 39))])⟩, [], []⟩,
  ⟨6, ⟨some 41, none, (.buildSlice 25 1 #[(0, (.tmp 40))])⟩, [], []⟩,
  ⟨0, ⟨some 35, none, (.buildSlice 25 0 #[])⟩, [3, 4], [⟨some 38, none, (.load 27 (.tmp 4))⟩, ⟨some 39, none, (.load 27 (.tmp 5))⟩]⟩,
  ⟨2, ⟨some 37, none, (.call { callee := (.builtin .append), args := #[(.tmp 35), (.tmp 36)], argTypes := #[25, 25] })⟩, [3, 4], [⟨some 38, none, (.load 27 (.tmp 4))⟩, ⟨some 39, none, (.load 27 (.tmp 5))⟩]⟩,
  ⟨7, ⟨some 42, none, (.call { callee := (.builtin .append), args := #[(.tmp 37), (.tmp 41)], argTypes := #[25, 25] })⟩, [], []⟩,
  ⟨8, ⟨some 6, none, (.assign (.tmp 42))⟩, [], []⟩,
  ⟨9, ⟨some 7, none, (.assign (.const (.int .i64 0)))⟩, [], []⟩] [36, 38, 39, 40, 41, 35, 37, 42, 6, 7] [6, 7]
noncomputable def F18 : CC := (.seq F18_r0 (.seq (.seq F18_r1 (.cond (.tmp 20) (.seq F18_r2 .ret) .skip)) (.seq (.seq F18_r3 (.cond (.tmp 33) (.seq F18_r4 .ret) .skip)) (.seq F18_r5 .ret))))
noncomputable def F18_inf : Nat → RI
  | 0 => ⟨[0, 4, 5], [], []⟩
  | 1 => ⟨[0, 4, 5, 20], [], []⟩
  | 2 => ⟨[6, 7], [], []⟩
  | 3 => ⟨[0, 4, 5, 33], [], []⟩
  | 4 => ⟨[6, 7], [], []⟩
  | 5 => ⟨[6, 7], [0, 0, 3, 0, 0, 24, 56, 127, 255, 511], [(1, []), (3, []), (4, []), (5, []), (6, []), (0, [3, 4]), (2, [3, 4]), (7, []), (8, []), (9, [])]⟩
  | _ => ⟨[], [], []⟩
noncomputable def F18_c : Code := Try.f18.body.getD .skip
theorem F18_b : Try.f18.body = some F18_c := by kernel_rfl
theorem F18_rs : Try.f18.results.toList = ([.tmp 6, .tmp 7] : List ResultVar) := by kernel_rfl
theorem F18_n : Try.f18.ntmps = 43 := by kernel_rfl
theorem F18_ok : toCC [] 43 F18_inf F18_c = some F18 := by kernel_rfl
theorem F18_in {args : List AV} {G : Hp} {post : AV → Hp → Prop} (ha : args.all AV.plain = true) (hn : args.length ≤ 43) (h : BDs args → awp Try.prog [] F18 (AEnds Try.prog [.tmp 6, .tmp 7] post) (initT args) G) : ACalls Try.prog 18 args G post :=
  acalls_cc Try.func18 F18_b F18_rs F18_n F18_ok mixed ha hn h

/- 19 ostiary/ostiaryref19.Attach -/
@[simp] noncomputable def F19_r0 : CC := .reg [⟨some 5, none, (.box 27 (.tmp 2))⟩,
  ⟨some 6, none, (.assign (.const (.slice none 0 0)))⟩,
  ⟨some 7, none, (.assign (.const (.int .i64 0)))⟩] [0, 1, 5]
@[simp] noncomputable def F19_r1 : CC := .reg [⟨some 10, none, (.move (.tmp 1))⟩,
  ⟨some 11, none, (.binOp .lss 3 (.tmp 10) (.const (.int .i64 0)) 3)⟩,
  ⟨some 12, none, (.move (.tmp 11))⟩,
  ⟨some 13, some (12, false), (.move (.tmp 1))⟩,
  ⟨some 14, some (12, false), (.binOp .gtr 3 (.tmp 13) (.const (.int .i64 15)) 3)⟩,
  ⟨some 15, none, (.pick (.tmp 12) (.const (.bool true)) (.tmp 14))⟩,
  ⟨some 16, none, (.move (.tmp 15))⟩,
  ⟨some 17, some (16, false), (.load 27 (.tmp 5))⟩,
  ⟨some 18, some (16, false), (.call { callee := (.value (.func 24)), args := #[(.tmp 17)], argTypes := #[27] })⟩,
  ⟨some 19, some (16, false), (.unOp .not 4 (.tmp 18))⟩,
  ⟨some 20, none, (.pick (.tmp 16) (.const (.bool true)) (.tmp 19))⟩] [0, 1, 5, 20]
@[simp] noncomputable def F19_r2 : CC := .reg [⟨some 21, none, (.move (.tmp 0))⟩,
  ⟨some 6, none, (.assign (.tmp 21))⟩,
  ⟨some 7, none, (.assign (.const (.int .i64 1)))⟩] [6, 7]
@[simp] noncomputable def F19_r3 : CC := .reg [⟨some 23, none, (.move (.tmp 0))⟩,
  ⟨some 24, none, (.move (.tmp 1))⟩,
  ⟨some 25, none, (.call { callee := (.value (.func 25)), args := #[(.tmp 23), (.tmp 24)], argTypes := #[25, 3] })⟩,
  ⟨some 22, none, (.move (.tmp 25))⟩,
  ⟨some 26, none, (.extract (.tmp 22) 0)⟩,
  ⟨some 27, none, (.extract (.tmp 22) 1)⟩,
  ⟨some 8, none, (.alloc 27)⟩,
  ⟨none, none, (.store 27 (.tmp 8) (.tmp 26))⟩,
  ⟨some 9, none, (.assign (.tmp 27))⟩] [0, 1, 5, 9]
@[simp] noncomputable def F19_r4 : CC := .reg [⟨some 28, none, (.move (.tmp 9))⟩,
  ⟨some 29, none, (.move (.tmp 28))⟩,
  ⟨some 30, some (29, false), (.move (.tmp 0))⟩,
  ⟨some 31, some (29, false), (.load 27 (.tmp 5))⟩,
  ⟨some 32, some (29, false), (.call { callee := (.value (.func 20)), args := #[(.tmp 30), (.tmp 31)], argTypes := #[25, 27] })⟩,
  ⟨some 33, some (29, false), (.field 56 (.tmp 32) 0)⟩,
  ⟨some 34, some (29, false), (.binOp .neq 3 (.tmp 33) (.const (.int .i64 0)) 3)⟩,
  ⟨some 35, none, (.pick (.tmp 29) (.const (.bool true)) (.tmp 34))⟩] [0, 1, 5, 35]
@[simp] noncomputable def F19_r5 : CC := .reg [⟨some 36, none, (.move (.tmp 0))⟩,
  ⟨some 6, none, (.assign (.tmp 36))⟩,
  ⟨some 7, none, (.assign (.const (.int .i64 3)))⟩] [6, 7]
@[simp] noncomputable def F19_r6 : CC := .drw [⟨1, ⟨some 38, none, (.move (.tmp 0))⟩, [], []⟩,
  ⟨3, ⟨some 40, none, (.load 27 (.tmp 5))⟩, [], []⟩,
  ⟨4, ⟨some 41, none, (.move (.tmp 1))⟩, [], []⟩,
  ⟨5, ⟨some 42, none, (.build 76 #[(0, (.tmp 40)), (2, (.tmp 41)), (3, (.const (.bool true)))])⟩, [], []⟩,
  ⟨6, ⟨some 43, none, (.buildSlice 25 1 #[(0, (.tmp 42))])⟩, [], []⟩,
  ⟨0, ⟨some 37, none, (.buildSlice 25 0 #[])⟩, [3], [⟨some 40, none, (.load 27 (.tmp 5))⟩]⟩,
  ⟨2, ⟨some 39, none, (.call { callee := (.builtin .append), args := #[(.tmp 37), (.tmp 38)], argTypes := #[25, 25] })⟩, [3], [⟨some 40, none, (.load 27 (.tmp 5))⟩]⟩,
  ⟨7, ⟨some 44, none, (.call { callee := (.builtin .append), args := #[(.tmp 39), (.tmp 43)], argTypes := #[25, 25] })⟩, [], []⟩,
  ⟨8, ⟨some 6, none, (.assign (.tmp 44))⟩, [], []⟩,
  ⟨9, ⟨some 7, none, (.assign (.const (.int .i64 0)))⟩, [], []⟩] [38, 40, 41, 42, 43, 37, 39, 44, 6, 7] [6, 7]
noncomputable def F19 : CC := (.seq F19_r0 (.seq (.seq F19_r1 (.cond (.tmp 20) (.seq F19_r2 .ret) .skip)) (.seq F19_r3 (.seq (.seq F19_r4 (.cond (.tmp 35) (.seq F19_r5 .ret) .skip)) (.seq F19_r6 .ret)))))
noncomputable def F19_inf : Nat → RI
  | 0 => ⟨[0, 1, 5], [], []⟩
  | 1 => ⟨[0, 1, 5, 20], [], []⟩
  | 2 => ⟨[6, 7], [], []⟩
  | 3 => ⟨[0, 1, 5, 9], [], []⟩
  | 4 => ⟨[0, 1, 5, 35], [], []⟩
  | 5 => ⟨[6, 7], [], []⟩
  | 6 => ⟨[6, 7], [0, 0, 3, 0, 0, 24, 56, 127, 255, 511], [(1, []), (3, []), (4, []), (5, []), (6, []), (0, [3]), (2, [3]), (7, []), (8, []), (9, [])]⟩
  | _ => ⟨[], [], []⟩
noncomputable def F19_c : Code := Try.f19.body.getD .skip
theorem F19_b : Try.f19.body = some F19_c := by kernel_rfl
theorem F19_rs : Try.f19.results.toList = ([.tmp 6, .tmp 7] : List ResultVar) := by kernel_rfl
theorem F19_n : Try.f19.ntmps = 45 := by kernel_rfl
theorem F19_ok : toCC [] 45 F19_inf F19_c = some F19 := by kernel_rfl
theorem F19_in {args : List AV} {G : Hp} {post : AV → Hp → Prop} (ha : args.all AV.plain = true) (hn : args.length ≤ 45) (h : BDs args → awp Try.prog [] F19 (AEnds Try.prog [.tmp 6, .tmp 7] post) (initT args) G) : ACalls Try.prog 19 args G post :=
  acalls_cc Try.func19 F19_b F19_rs F19_n F19_ok mixed ha hn h

/- 20 ostiary/ostiaryref19.Other -/
@[simp] noncomputable def F20_r0 : CC := .reg [⟨some 3, none, (.box 27 (.tmp 1))⟩,
  ⟨some 4, none, (.alloc 56)⟩] [0, 3, 4]
@[simp] noncomputable def F20_r1 : CC := .reg [⟨some 7, none, (.move (.tmp 0))⟩,
  ⟨some 8, none, (.call { callee := (.builtin .len), args := #[(.tmp 7)], argTypes := #[25] })⟩,
  ⟨some 9, none, (.move (.const (.int .i64 0)))⟩] [3, 4, 7, 8, 9]
@[simp] noncomputable def F20_r2 : CC := .reg [⟨some 10, none, (.binOp .lss 3 (.tmp 9) (.tmp 8) 3)⟩] [3, 4, 7, 8, 9, 10]
@[simp] noncomputable def F20_r3 : CC := .reg [⟨some 11, none, (.indexAddr 25 (.tmp 7) (.tmp 9))⟩,
  ⟨some 12, none, (.load 76 (.tmp 11))⟩,
  ⟨some 6, none, (.alloc 76)⟩,
  ⟨none, none, (.store 76 (.tmp 6) (.tmp 12))⟩] [3, 4, 6, 7, 8, 9]
@[simp] noncomputable def F20_r4 : CC := .reg [⟨some 13, none, (.fieldAddr 76 (.tmp 6) 0)⟩,
  ⟨some 14, none, (.load 27 (.tmp 13))⟩,
  ⟨some 15, none, (.load 27 (.tmp 3))⟩,
  ⟨some 16, none, (.binOp .eql 27 (.tmp 14) (.tmp 15) 27)⟩,
  ⟨some 17, none, (.move (.tmp 16))⟩,
  ⟨some 18, some (17, true), (.fieldAddr 76 (.tmp 6) 3)⟩,
  ⟨some 19, some (17, true), (.load 4 (.tmp 18))⟩,
  ⟨some 20, none, (.pick (.tmp 17) (.tmp 19) (.const (.bool false)))⟩] [3, 4, 6, 7, 8, 9, 20]
@[simp] noncomputable def F20_r5 : CC := .reg [⟨some 21, none, (.fieldAddr 76 (.tmp 6) 2)⟩,
  ⟨some 22, none, (.load 3 (.tmp 21))⟩,
  ⟨some 23, none, (.build 56 #[(0, (.const (.int .i64 2))), (2, (.tmp 22))])⟩,
  ⟨none, none, (.store 56 (.tmp 4) (.tmp 23))⟩] [4]
@[simp] noncomputable def F20_r6 : CC := .reg [⟨some 24, none, (.fieldAddr 76 (.tmp 6) 0)⟩,
  ⟨some 25, none, (.load 27 (.tmp 24))⟩,
  ⟨some 26, none, (.load 27 (.tmp 3))⟩,
  ⟨some 27, none, (.binOp .eql 27 (.tmp 25) (.tmp 26) 27)⟩] [3, 4, 6, 7, 8, 9, 27]
@[simp] noncomputable def F20_r7 : CC := .reg [⟨some 28, none, (.fieldAddr 76 (.tmp 6) 1)⟩,
  ⟨some 29, none, (.load 27 (.tmp 28))⟩,
  ⟨some 30, none, (.build 56 #[(0, (.const (.int .i64 1))), (1, (.tmp 29))])⟩,
  ⟨none, none, (.store 56 (.tmp 4) (.tmp 30))⟩] [4]
@[simp] noncomputable def F20_r8 : CC := .reg [⟨some 31, none, (.fieldAddr 76 (.tmp 6) 1)⟩,
  ⟨some 32, none, (.load 27 (.tmp 31))⟩,
  ⟨some 33, none, (.load 27 (.tmp 3))⟩,
  ⟨some 34, none, (.binOp .eql 27 (.tmp 32) (.tmp 33) 27)⟩,
  ⟨some 35, none, (.move (.tmp 34))⟩,
  ⟨some 36, some (35, true), (.fieldAddr 76 (.tmp 6) 3)⟩,
  ⟨some 37, some (35, true), (.load 4 (.tmp 36))⟩,
  ⟨some 38, some (35, true), (.unOp .not 4 (.tmp 37))⟩,
  ⟨some 39, none, (.pick (.tmp 35) (.tmp 38) (.const (.bool false)))⟩] [3, 4, 6, 7, 8, 9, 39]
@[simp] noncomputable def F20_r9 : CC := .reg [⟨some 40, none, (.fieldAddr 76 (.tmp 6) 0)⟩,
  ⟨some 41, none, (.load 27 (.tmp 40))⟩,
  ⟨some 42, none, (.build 56 #[(0, (.const (.int .i64 1))), (1, (.tmp 41))])⟩,
  ⟨none, none, (.store 56 (.tmp 4) (.tmp 42))⟩] [4]
@[simp] noncomputable def F20_r10 : CC := .reg [⟨some 43, none, (.binOp .add 3 (.tmp 9) (.const (.int .i64 1)) 3)⟩,
  ⟨some 9, none, (.move (.tmp 43))⟩] [3, 4, 7, 8, 9]
noncomputable def F20_l0 : CC := (.seq F20_r2 (.seq (.cond (.tmp 10) .skip (.exit 0)) (.seq (.block 1 (.seq F20_r3 (.seq (.seq F20_r4 (.cond (.tmp 20) (.seq F20_r5 .ret) .skip)) (.seq (.seq F20_r6 (.cond (.tmp 27) (.seq F20_r7 .ret) .skip)) (.seq F20_r8 (.cond (.tmp 39) (.seq F20_r9 .ret) .skip)))))) F20_r10)))
@[simp] noncomputable def F20_r11 : CC := .reg [⟨some 44, none, (.build 56 #[])⟩,
  ⟨none, none, (.store 56 (.tmp 4) (.tmp 44))⟩] [4]
noncomputable def F20 : CC := (.seq F20_r0 (.seq (.seq F20_r1 (.block 0 (.loop F20_l0))) (.seq F20_r11 .ret)))
noncomputable def F20_inf : Nat → RI
  | 0 => ⟨[0, 3, 4], [], []⟩
  | 1 => ⟨[3, 4, 7, 8, 9], [], []⟩
  | 2 => ⟨[3, 4, 7, 8, 9, 10], [], []⟩
  | 3 => ⟨[3, 4, 6, 7, 8, 9], [], []⟩
  | 4 => ⟨[3, 4, 6, 7, 8, 9, 20], [], []⟩
  | 5 => ⟨[4], [], []⟩
  | 6 => ⟨[3, 4, 6, 7, 8, 9, 27], [], []⟩
  | 7 => ⟨[4], [], []⟩
  | 8 => ⟨[3, 4, 6, 7, 8, 9, 39], [], []⟩
  | 9 => ⟨[4], [], []⟩
  | 10 => ⟨[3, 4, 7, 8, 9], [], []⟩
  | 11 => ⟨[4], [], []⟩
  | _ => ⟨[], [], []⟩
noncomputable def F20_c : Code := Try.f20.body.getD .skip
theorem F20_b : Try.f20.body = some F20_c := by kernel_rfl
theorem F20_rs : Try.f20.results.toList = ([.cell 4 56] : List ResultVar) := by kernel_rfl
theorem F20_n : Try.f20.ntmps = 45 := by kernel_rfl
theorem F20_ok : toCC [] 45 F20_inf F20_c = some F20 := by kernel_rfl
theorem F20_in {args : List AV} {G : Hp} {post : AV → Hp → Prop} (ha : args.all AV.plain = true) (hn : args.length ≤ 45) (h : BDs args → awp Try.prog [] F20 (AEnds Try.prog [.cell 4 56] post) (initT args) G) : ACalls Try.prog 20 args G post :=
  acalls_cc Try.func20 F20_b F20_rs F20_n F20_ok mixed ha hn h

/- 21 ostiary/ostiaryref19.Pull -/
@[simp] noncomputable def F21_r0 : CC := .reg [⟨some 3, none, (.box 27 (.tmp 1))⟩,
  ⟨some 4, none, (.assign (.const (.slice none 0 0)))⟩] [0, 3]
@[simp] noncomputable def F21_r1 : CC := .reg [⟨some 5, none, (.assign (.const (.slice none 0 0)))⟩] [0, 3, 5]
@[simp] noncomputable def F21_r2 : CC := .reg [⟨some 8, none, (.move (.tmp 0))⟩,
  ⟨some 9, none, (.call { callee := (.builtin .len), args := #[(.tmp 8)], argTypes := #[25] })⟩,
  ⟨some 10, none, (.move (.const (.int .i64 0)))⟩] [3, 5, 8, 9, 10]
@[simp] noncomputable def F21_r3 : CC := .reg [⟨some 11, none, (.binOp .lss 3 (.tmp 10) (.tmp 9) 3)⟩] [3, 5, 8, 9, 10, 11]
@[simp] noncomputable def F21_r4 : CC := .reg [⟨some 12, none, (.indexAddr 25 (.tmp 8) (.tmp 10))⟩,
  ⟨some 13, none, (.load 76 (.tmp 12))⟩,
  ⟨some 7, none, (.alloc 76)⟩,
  ⟨none, none, (.store 76 (.tmp 7) (.tmp 13))⟩] [3, 5, 7, 8, 9, 10]
@[simp] noncomputable def F21_r5 : CC := .reg [⟨some 14, none, (.fieldAddr 76 (.tmp 7) 0)⟩,
  ⟨some 15, none, (.load 27 (.tmp 14))⟩,
  ⟨some 16, none, (.load 27 (.tmp 3))⟩,
  ⟨some 17, none, (.binOp .neq 27 (.tmp 15) (.tmp 16) 27)⟩,
  ⟨some 18, none, (.move (.tmp 17))⟩,
  ⟨some 19, some (18, true), (.fieldAddr 76 (.tmp 7) 3)⟩,
  ⟨some 20, some (18, true), (.load 4 (.tmp 19))⟩,
  ⟨some 21, some (18, true), (.move (.tmp 20))⟩,
  ⟨some 22, some (21, false), (.fieldAddr 76 (.tmp 7) 1)⟩,
  ⟨some 23, some (21, false), (.load 27 (.tmp 22))⟩,
  ⟨some 24, some (21, false), (.load 27 (.tmp 3))⟩,
  ⟨some 25, some (21, false), (.binOp .neq 27 (.tmp 23) (.tmp 24) 27)⟩,
  ⟨some 26, some (18, true), (.pick (.tmp 21) (.const (.bool true)) (.tmp 25))⟩,
  ⟨some 27, none, (.pick (.tmp 18) (.tmp 26) (.const (.bool false)))⟩] [3, 5, 7, 8, 9, 10, 27]
@[simp] noncomputable def F21_r6 : CC := .reg [⟨some 28, none, (.move (.tmp 5))⟩,
  ⟨some 29, none, (.load 76 (.tmp 7))⟩,
  ⟨some 30, none, (.buildSlice 25 1 #[(0, (.tmp 29))])⟩,
  ⟨some 31, none, (.call { callee := (.builtin .append), args := #[(.tmp 28), (.tmp 30)], argTypes := #[25, 25] })⟩,
  ⟨some 5, none, (.assign (.tmp 31))⟩] [3, 5, 8, 9, 10]
@[simp] noncomputable def F21_r7 : CC := .reg [⟨some 32, none, (.binOp .add 3 (.tmp 10) (.const (.int .i64 1)) 3)⟩,
  ⟨some 10, none, (.move (.tmp 32))⟩] [3, 5, 8, 9, 10]
noncomputable def F21_l0 : CC := (.seq F21_r3 (.seq (.cond (.tmp 11) .skip (.exit 0)) (.seq (.block 1 (.seq F21_r4 (.seq F21_r5 (.cond (.tmp 27) F21_r6 .skip)))) F21_r7)))
@[simp] noncomputable def F21_r8 : CC := .reg [⟨some 33, none, (.move (.tmp 5))⟩,
  ⟨some 4, none, (.assign (.tmp 33))⟩] [4]
noncomputable def F21 : CC := (.seq F21_r0 (.seq F21_r1 (.seq (.seq F21_r2 (.block 0 (.loop F21_l0))) (.seq F21_r8 .ret))))
noncomputable def F21_inf : Nat → RI
  | 0 => ⟨[0, 3], [], []⟩
  | 1 => ⟨[0, 3, 5], [], []⟩
  | 2 => ⟨[3, 5, 8, 9, 10], [], []⟩
  | 3 => ⟨[3, 5, 8, 9, 10, 11], [], []⟩
  | 4 => ⟨[3, 5, 7, 8, 9, 10], [], []⟩
  | 5 => ⟨[3, 5, 7, 8, 9, 10, 27], [], []⟩
  | 6 => ⟨[3, 5, 8, 9, 10], [], []⟩
  | 7 => ⟨[3, 5, 8, 9, 10], [], []⟩
  | 8 => ⟨[4], [], []⟩
  | _ => ⟨[], [], []⟩
noncomputable def F21_c : Code := Try.f21.body.getD .skip
theorem F21_b : Try.f21.body = some F21_c := by kernel_rfl
theorem F21_rs : Try.f21.results.toList = ([.tmp 4] : List ResultVar) := by kernel_rfl
theorem F21_n : Try.f21.ntmps = 34 := by kernel_rfl
theorem F21_ok : toCC [] 34 F21_inf F21_c = some F21 := by kernel_rfl
theorem F21_in {args : List AV} {G : Hp} {post : AV → Hp → Prop} (ha : args.all AV.plain = true) (hn : args.length ≤ 34) (h : BDs args → awp Try.prog [] F21 (AEnds Try.prog [.tmp 4] post) (initT args) G) : ACalls Try.prog 21 args G post :=
  acalls_cc Try.func21 F21_b F21_rs F21_n F21_ok mixed ha hn h

/- 22 ostiary/ostiarylaw19.plain -/
@[simp] noncomputable def F22_r0 : CC := .reg [⟨some 1, none, (.box 36 (.tmp 0))⟩,
  ⟨some 2, none, (.alloc 56)⟩] [1, 2]
@[simp] noncomputable def F22_r1 : CC := .reg [⟨some 3, none, (.fieldAddr 36 (.tmp 1) 0)⟩,
  ⟨some 4, none, (.load 3 (.tmp 3))⟩,
  ⟨some 5, none, (.fieldAddr 36 (.tmp 1) 1)⟩,
  ⟨some 6, none, (.load 27 (.tmp 5))⟩,
  ⟨some 7, none, (.fieldAddr 36 (.tmp 1) 2)⟩,
  ⟨some 8, none, (.load 3 (.tmp 7))⟩,
  ⟨some 9, none, (.build 56 #[(0, (.tmp 4)), (1, (.tmp 6)), (2, (.tmp 8))])⟩,
  ⟨none, none, (.store 56 (.tmp 2) (.tmp 9))⟩] [2]
noncomputable def F22 : CC := (.seq F22_r0 (.seq F22_r1 .ret))
noncomputable def F22_inf : Nat → RI
  | 0 => ⟨[1, 2], [], []⟩
  | 1 => ⟨[2], [], []⟩
  | _ => ⟨[], [], []⟩
noncomputable def F22_c : Code := Try.f22.body.getD .skip
theorem F22_b : Try.f22.body = some F22_c := by kernel_rfl
theorem F22_rs : Try.f22.results.toList = ([.cell 2 56] : List ResultVar) := by kernel_rfl
theorem F22_n : Try.f22.ntmps = 10 := by kernel_rfl
theorem F22_ok : toCC [] 10 F22_inf F22_c = some F22 := by kernel_rfl
theorem F22_in {args : List AV} {G : Hp} {post : AV → Hp → Prop} (ha : args.all AV.plain = true) (hn : args.length ≤ 10) (h : BDs args → awp Try.prog [] F22 (AEnds Try.prog [.cell 2 56] post) (initT args) G) : ACalls Try.prog 22 args G post :=
  acalls_cc Try.func22 F22_b F22_rs F22_n F22_ok mixed ha hn h

/- 23 ostiary/cable.Good -/
@[simp] noncomputable def F23_r0 : CC := .reg [⟨some 1, none, (.box 27 (.tmp 0))⟩,
  ⟨some 2, none, (.assign (.const (.bool false)))⟩] [1]
@[simp] noncomputable def F23_r1 : CC := .reg [⟨some 3, none, (.fieldAddr 27 (.tmp 1) 0)⟩,
  ⟨some 4, none, (.load 3 (.tmp 3))⟩,
  ⟨some 5, none, (.binOp .geq 3 (.tmp 4) (.const (.int .i64 1)) 3)⟩,
  ⟨some 6, none, (.move (.tmp 5))⟩,
  ⟨some 7, some (6, true), (.fieldAddr 27 (.tmp 1) 0)⟩,
  ⟨some 8, some (6, true), (.load 3 (.tmp 7))⟩,
  ⟨some 9, some (6, true), (.binOp .leq 3 (.tmp 8) (.const (.int .i64 8)) 3)⟩,
  ⟨some 10, none, (.pick (.tmp 6) (.tmp 9) (.const (.bool false)))⟩,
  ⟨some 11, none, (.move (.tmp 10))⟩,
  ⟨some 12, some (11, true), (.fieldAddr 27 (.tmp 1) 1)⟩,
  ⟨some 13, some (11, true), (.load 3 (.tmp 12))⟩,
  ⟨some 14, some (11, true), (.binOp .geq 3 (.tmp 13) (.const (.int .i64 1)) 3)⟩,
  ⟨some 15, none, (.pick (.tmp 11) (.tmp 14) (.const (.bool false)))⟩,
  ⟨some 16, none, (.move (.tmp 15))⟩,
  ⟨some 17, some (16, true), (.fieldAddr 27 (.tmp 1) 1)⟩,
  ⟨some 18, some (16, true), (.load 3 (.tmp 17))⟩,
  ⟨some 19, some (16, true), (.binOp .leq 3 (.tmp 18) (.const (.int .i64 8)) 3)⟩,
  ⟨some 20, none, (.pick (.tmp 16) (.tmp 19) (.const (.bool false)))⟩,
  ⟨some 2, none, (.assign (.tmp 20))⟩] [2]
noncomputable def F23 : CC := (.seq F23_r0 (.seq F23_r1 .ret))
noncomputable def F23_inf : Nat → RI
  | 0 => ⟨[1], [], []⟩
  | 1 => ⟨[2], [], []⟩
  | _ => ⟨[], [], []⟩
noncomputable def F23_c : Code := Try.f23.body.getD .skip
theorem F23_b : Try.f23.body = some F23_c := by kernel_rfl
theorem F23_rs : Try.f23.results.toList = ([.tmp 2] : List ResultVar) := by kernel_rfl
theorem F23_n : Try.f23.ntmps = 21 := by kernel_rfl
theorem F23_ok : toCC [] 21 F23_inf F23_c = some F23 := by kernel_rfl
theorem F23_in {args : List AV} {G : Hp} {post : AV → Hp → Prop} (ha : args.all AV.plain = true) (hn : args.length ≤ 21) (h : BDs args → awp Try.prog [] F23 (AEnds Try.prog [.tmp 2] post) (initT args) G) : ACalls Try.prog 23 args G post :=
  acalls_cc Try.func23 F23_b F23_rs F23_n F23_ok mixed ha hn h

/- 24 ostiary/ostiaryref19.Good -/
@[simp] noncomputable def F24_r0 : CC := .reg [⟨some 1, none, (.box 27 (.tmp 0))⟩,
  ⟨some 2, none, (.assign (.const (.bool false)))⟩] [1]
@[simp] noncomputable def F24_r1 : CC := .reg [⟨some 3, none, (.fieldAddr 27 (.tmp 1) 0)⟩,
  ⟨some 4, none, (.load 3 (.tmp 3))⟩,
  ⟨some 5, none, (.binOp .gtr 3 (.tmp 4) (.const (.int .i64 0)) 3)⟩,
  ⟨some 6, none, (.move (.tmp 5))⟩,
  ⟨some 7, some (6, true), (.fieldAddr 27 (.tmp 1) 0)⟩,
  ⟨some 8, some (6, true), (.load 3 (.tmp 7))⟩,
  ⟨some 9, some (6, true), (.binOp .lss 3 (.tmp 8) (.const (.int .i64 9)) 3)⟩,
  ⟨some 10, none, (.pick (.tmp 6) (.tmp 9) (.const (.bool false)))⟩,
  ⟨some 11, none, (.move (.tmp 10))⟩,
  ⟨some 12, some (11, true), (.fieldAddr 27 (.tmp 1) 1)⟩,
  ⟨some 13, some (11, true), (.load 3 (.tmp 12))⟩,
  ⟨some 14, some (11, true), (.binOp .gtr 3 (.tmp 13) (.const (.int .i64 0)) 3)⟩,
  ⟨some 15, none, (.pick (.tmp 11) (.tmp 14) (.const (.bool false)))⟩,
  ⟨some 16, none, (.move (.tmp 15))⟩,
  ⟨some 17, some (16, true), (.fieldAddr 27 (.tmp 1) 1)⟩,
  ⟨some 18, some (16, true), (.load 3 (.tmp 17))⟩,
  ⟨some 19, some (16, true), (.binOp .lss 3 (.tmp 18) (.const (.int .i64 9)) 3)⟩,
  ⟨some 20, none, (.pick (.tmp 16) (.tmp 19) (.const (.bool false)))⟩,
  ⟨some 2, none, (.assign (.tmp 20))⟩] [2]
noncomputable def F24 : CC := (.seq F24_r0 (.seq F24_r1 .ret))
noncomputable def F24_inf : Nat → RI
  | 0 => ⟨[1], [], []⟩
  | 1 => ⟨[2], [], []⟩
  | _ => ⟨[], [], []⟩
noncomputable def F24_c : Code := Try.f24.body.getD .skip
theorem F24_b : Try.f24.body = some F24_c := by kernel_rfl
theorem F24_rs : Try.f24.results.toList = ([.tmp 2] : List ResultVar) := by kernel_rfl
theorem F24_n : Try.f24.ntmps = 21 := by kernel_rfl
theorem F24_ok : toCC [] 21 F24_inf F24_c = some F24 := by kernel_rfl
theorem F24_in {args : List AV} {G : Hp} {post : AV → Hp → Prop} (ha : args.all AV.plain = true) (hn : args.length ≤ 21) (h : BDs args → awp Try.prog [] F24 (AEnds Try.prog [.tmp 2] post) (initT args) G) : ACalls Try.prog 24 args G post :=
  acalls_cc Try.func24 F24_b F24_rs F24_n F24_ok mixed ha hn h

/- 25 ostiary/ostiaryref19.Where -/
@[simp] noncomputable def F25_r0 : CC := .reg [⟨some 4, none, (.alloc 27)⟩,
  ⟨some 5, none, (.assign (.const (.bool false)))⟩] [0, 1, 4]
@[simp] noncomputable def F25_r1 : CC := .reg [⟨some 8, none, (.move (.tmp 0))⟩,
  ⟨some 9, none, (.call { callee := (.builtin .len), args := #[(.tmp 8)], argTypes := #[25] })⟩,
  ⟨some 10, none, (.move (.const (.int .i64 0)))⟩] [1, 4, 8, 9, 10]
@[simp] noncomputable def F25_r2 : CC := .reg [⟨some 11, none, (.binOp .lss 3 (.tmp 10) (.tmp 9) 3)⟩] [1, 4, 8, 9, 10, 11]
@[simp] noncomputable def F25_r3 : CC := .reg [⟨some 12, none, (.indexAddr 25 (.tmp 8) (.tmp 10))⟩,
  ⟨some 13, none, (.load 76 (.tmp 12))⟩,
  ⟨some 7, none, (.alloc 76)⟩,
  ⟨none, none, (.store 76 (.tmp 7) (.tmp 13))⟩] [1, 4, 7, 8, 9, 10]
@[simp] noncomputable def F25_r4 : CC := .reg [⟨some 14, none, (.fieldAddr 76 (.tmp 7) 3)⟩,
  ⟨some 15, none, (.load 4 (.tmp 14))⟩,
  ⟨some 16, none, (.move (.tmp 15))⟩,
  ⟨some 17, some (16, true), (.fieldAddr 76 (.tmp 7) 2)⟩,
  ⟨some 18, some (16, true), (.load 3 (.tmp 17))⟩,
  ⟨some 19, some (16, true), (.move (.tmp 1))⟩,
  ⟨some 20, some (16, true), (.binOp .eql 3 (.tmp 18) (.tmp 19) 3)⟩,
  ⟨some 21, none, (.pick (.tmp 16) (.tmp 20) (.const (.bool false)))⟩] [1, 4, 7, 8, 9, 10, 21]
@[simp] noncomputable def F25_r5 : CC := .reg [⟨some 22, none, (.fieldAddr 76 (.tmp 7) 0)⟩,
  ⟨some 23, none, (.load 27 (.tmp 22))⟩,
  ⟨none, none, (.store 27 (.tmp 4) (.tmp 23))⟩,
  ⟨some 5, none, (.assign (.const (.bool true)))⟩] [4, 5]
@[simp] noncomputable def F25_r6 : CC := .reg [⟨some 24, none, (.binOp .add 3 (.tmp 10) (.const (.int .i64 1)) 3)⟩,
  ⟨some 10, none, (.move (.tmp 24))⟩] [1, 4, 8, 9, 10]
noncomputable def F25_l0 : CC := (.seq F25_r2 (.seq (.cond (.tmp 11) .skip (.exit 0)) (.seq (.block 1 (.seq F25_r3 (.seq F25_r4 (.cond (.tmp 21) (.seq F25_r5 .ret) .skip)))) F25_r6)))
@[simp] noncomputable def F25_r7 : CC := .reg [⟨some 25, none, (.build 27 #[])⟩,
  ⟨none, none, (.store 27 (.tmp 4) (.tmp 25))⟩,
  ⟨some 5, none, (.assign (.const (.bool false)))⟩] [4, 5]
noncomputable def F25 : CC := (.seq F25_r0 (.seq (.seq F25_r1 (.block 0 (.loop F25_l0))) (.seq F25_r7 .ret)))
noncomputable def F25_inf : Nat → RI
  | 0 => ⟨[0, 1, 4], [], []⟩
  | 1 => ⟨[1, 4, 8, 9, 10], [], []⟩
  | 2 => ⟨[1, 4, 8, 9, 10, 11], [], []⟩
  | 3 => ⟨[1, 4, 7, 8, 9, 10], [], []⟩
  | 4 => ⟨[1, 4, 7, 8, 9, 10, 21], [], []⟩
  | 5 => ⟨[4, 5], [], []⟩
  | 6 => ⟨[1, 4, 8, 9, 10], [], []⟩
  | 7 => ⟨[4, 5], [], []⟩
  | _ => ⟨[], [], []⟩
noncomputable def F25_c : Code := Try.f25.body.getD .skip
theorem F25_b : Try.f25.body = some F25_c := by kernel_rfl
theorem F25_rs : Try.f25.results.toList = ([.cell 4 27, .tmp 5] : List ResultVar) := by kernel_rfl
theorem F25_n : Try.f25.ntmps = 26 := by kernel_rfl
theorem F25_ok : toCC [] 26 F25_inf F25_c = some F25 := by kernel_rfl
theorem F25_in {args : List AV} {G : Hp} {post : AV → Hp → Prop} (ha : args.all AV.plain = true) (hn : args.length ≤ 26) (h : BDs args → awp Try.prog [] F25 (AEnds Try.prog [.cell 4 27, .tmp 5] post) (initT args) G) : ACalls Try.prog 25 args G post :=
  acalls_cc Try.func25 F25_b F25_rs F25_n F25_ok mixed ha hn h

/- 26 ostiary/ostiaryref19.Links -/
@[simp] noncomputable def F26_r0 : CC := .reg [⟨some 2, none, (.assign (.const (.slice none 0 0)))⟩] [0]
@[simp] noncomputable def F26_r1 : CC := .reg [⟨some 3, none, (.assign (.const (.slice none 0 0)))⟩] [0, 3]
@[simp] noncomputable def F26_r2 : CC := .reg [⟨some 4, none, (.assign (.const (.int .i64 1)))⟩] [0, 3, 4]
@[simp] noncomputable def F26_r3 : CC := .reg [⟨some 8, none, (.move (.tmp 4))⟩,
  ⟨some 9, none, (.binOp .leq 3 (.tmp 8) (.const (.int .i64 8)) 3)⟩] [0, 3, 4, 9]
@[simp] noncomputable def F26_r5 : CC := .reg [⟨some 5, none, (.assign (.const (.int .i64 1)))⟩] [0, 3, 4, 5]
@[simp] noncomputable def F26_r6 : CC := .reg [⟨some 12, none, (.move (.tmp 5))⟩,
  ⟨some 13, none, (.binOp .leq 3 (.tmp 12) (.const (.int .i64 8)) 3)⟩] [0, 3, 4, 5, 13]
@[simp] noncomputable def F26_r8 : CC := .reg [⟨some 16, none, (.move (.tmp 4))⟩,
  ⟨some 17, none, (.move (.tmp 5))⟩,
  ⟨some 18, none, (.build 27 #[(0, (.tmp 16)), (1, (.tmp 17))])⟩,
  ⟨some 6, none, (.alloc 27)⟩,
  ⟨none, none, (.store 27 (.tmp 6) (.tmp 18))⟩] [0, 3, 4, 5, 6]
@[simp] noncomputable def F26_r9 : CC := .reg [⟨some 19, none, (.move (.tmp 0))⟩,
  ⟨some 20, none, (.load 27 (.tmp 6))⟩,
  ⟨some 21, none, (.call { callee := (.value (.func 20)), args := #[(.tmp 19), (.tmp 20)], argTypes := #[25, 27] })⟩,
  ⟨some 7, none, (.alloc 56)⟩,
  ⟨none, none, (.store 56 (.tmp 7) (.tmp 21))⟩] [0, 3, 4, 5, 6, 7]
@[simp] noncomputable def F26_r10 : CC := .reg [⟨some 22, none, (.fieldAddr 56 (.tmp 7) 0)⟩,
  ⟨some 23, none, (.load 3 (.tmp 22))⟩,
  ⟨some 24, none, (.binOp .eql 3 (.tmp 23) (.const (.int .i64 1)) 3)⟩,
  ⟨some 25, none, (.move (.tmp 24))⟩,
  ⟨some 26, some (25, true), (.load 27 (.tmp 6))⟩,
  ⟨some 27, some (25, true), (.fieldAddr 56 (.tmp 7) 1)⟩,
  ⟨some 28, some (25, true), (.load 27 (.tmp 27))⟩,
  ⟨some 29, some (25, true), (.call { callee := (.value (.func 34)), args := #[(.tmp 26), (.tmp 28)], argTypes := #[27, 27] })⟩,
  ⟨some 30, none, (.pick (.tmp 25) (.tmp 29) (.const (.bool false)))⟩] [0, 3, 4, 5, 6, 7, 30]
@[simp] noncomputable def F26_r11 : CC := .reg [⟨some 31, none, (.move (.tmp 3))⟩,
  ⟨some 32, none, (.load 27 (.tmp 6))⟩,
  ⟨some 33, none, (.fieldAddr 56 (.tmp 7) 1)⟩,
  ⟨some 34, none, (.load 27 (.tmp 33))⟩,
  ⟨some 35, none, (.build 64 #[(0, (.tmp 32)), (1, (.tmp 34))])⟩,
  ⟨some 36, none, (.buildSlice 45 1 #[(0, (.tmp 35))])⟩,
  ⟨some 37, none, (.call { callee := (.builtin .append), args := #[(.tmp 31), (.tmp 36)], argTypes := #[45, 45] })⟩,
  ⟨some 3, none, (.assign (.tmp 37))⟩] [0, 3, 4, 5]
@[simp] noncomputable def F26_r7 : CC := .reg [⟨some 14, none, (.move (.tmp 5))⟩,
  ⟨some 15, none, (.binOp .add 3 (.tmp 14) (.const (.int .i64 1)) 3)⟩,
  ⟨some 5, none, (.assign (.tmp 15))⟩] [0, 3, 4, 5]
noncomputable def F26_l0 : CC := (.seq (.seq F26_r6 (.cond (.tmp 13) .skip (.exit 2))) (.seq (.block 3 (.seq F26_r8 (.seq F26_r9 (.seq F26_r10 (.cond (.tmp 30) F26_r11 .skip))))) F26_r7))
@[simp] noncomputable def F26_r4 : CC := .reg [⟨some 10, none, (.move (.tmp 4))⟩,
  ⟨some 11, none, (.binOp .add 3 (.tmp 10) (.const (.int .i64 1)) 3)⟩,
  ⟨some 4, none, (.assign (.tmp 11))⟩] [0, 3, 4]
noncomputable def F26_l1 : CC := (.seq (.seq F26_r3 (.cond (.tmp 9) .skip (.exit 0))) (.seq (.block 1 (.seq F26_r5 (.block 2 (.loop F26_l0)))) F26_r4))
@[simp] noncomputable def F26_r12 : CC := .reg [⟨some 38, none, (.move (.tmp 3))⟩,
  ⟨some 2, none, (.assign (.tmp 38))⟩] [2]
noncomputable def F26 : CC := (.seq F26_r0 (.seq F26_r1 (.seq (.seq F26_r2 (.block 0 (.loop F26_l1))) (.seq F26_r12 .ret))))
noncomputable def F26_inf : Nat → RI
  | 0 => ⟨[0], [], []⟩
  | 1 => ⟨[0, 3], [], []⟩
  | 2 => ⟨[0, 3, 4], [], []⟩
  | 3 => ⟨[0, 3, 4, 9], [], []⟩
  | 5 => ⟨[0, 3, 4, 5], [], []⟩
  | 6 => ⟨[0, 3, 4, 5, 13], [], []⟩
  | 8 => ⟨[0, 3, 4, 5, 6], [], []⟩
  | 9 => ⟨[0, 3, 4, 5, 6, 7], [], []⟩
  | 10 => ⟨[0, 3, 4, 5, 6, 7, 30], [], []⟩
  | 11 => ⟨[0, 3, 4, 5], [], []⟩
  | 7 => ⟨[0, 3, 4, 5], [], []⟩
  | 4 => ⟨[0, 3, 4], [], []⟩
  | 12 => ⟨[2], [], []⟩
  | _ => ⟨[], [], []⟩
noncomputable def F26_c : Code := Try.f26.body.getD .skip
theorem F26_b : Try.f26.body = some F26_c := by kernel_rfl
theorem F26_rs : Try.f26.results.toList = ([.tmp 2] : List ResultVar) := by kernel_rfl
theorem F26_n : Try.f26.ntmps = 39 := by kernel_rfl
theorem F26_ok : toCC [] 39 F26_inf F26_c = some F26 := by kernel_rfl
theorem F26_in {args : List AV} {G : Hp} {post : AV → Hp → Prop} (ha : args.all AV.plain = true) (hn : args.length ≤ 39) (h : BDs args → awp Try.prog [] F26 (AEnds Try.prog [.tmp 2] post) (initT args) G) : ACalls Try.prog 26 args G post :=
  acalls_cc Try.func26 F26_b F26_rs F26_n F26_ok mixed ha hn h
end Go.Proofs.Ytbmlapcigkgdlaa
