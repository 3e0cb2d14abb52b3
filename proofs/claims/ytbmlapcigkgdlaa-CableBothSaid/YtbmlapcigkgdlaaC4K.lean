import Derived.Test.YtbmlapcigkgdlaaC0K
set_option linter.unusedVariables false
set_option linter.unusedSimpArgs false
set_option maxRecDepth 100000
namespace Go.Proofs.Ytbmlapcigkgdlaa
open Go Go.Al

/- 40 slices.rotateRight[ostiary/shelf.slot[int, ostiary/cable.End]] -/
@[simp] noncomputable def F40_r0 : CC := .reg [⟨some 4, none, (.move (.tmp 0))⟩,
  ⟨some 5, none, (.move (.tmp 0))⟩,
  ⟨some 6, none, (.call { callee := (.builtin .len), args := #[(.tmp 5)], argTypes := #[72] })⟩,
  ⟨some 7, none, (.move (.tmp 1))⟩,
  ⟨some 8, none, (.binOp .sub 3 (.tmp 6) (.tmp 7) 3)⟩,
  ⟨some 9, none, (.call { callee := (.value (.func 41)), args := #[(.tmp 4), (.tmp 8)], argTypes := #[72, 3] })⟩] []
noncomputable def F40 : CC := F40_r0
noncomputable def F40_inf : Nat → RI
  | 0 => ⟨[], [], []⟩
  | _ => ⟨[], [], []⟩
noncomputable def F40_c : Code := Try.f40.body.getD .skip
theorem F40_b : Try.f40.body = some F40_c := by kernel_rfl
theorem F40_rs : Try.f40.results.toList = ([] : List ResultVar) := by kernel_rfl
theorem F40_n : Try.f40.ntmps = 10 := by kernel_rfl
theorem F40_ok : toCC [] 10 F40_inf F40_c = some F40 := by kernel_rfl
theorem F40_in {args : List AV} {G : Hp} {post : AV → Hp → Prop} (ha : args.all AV.plain = true) (hn : args.length ≤ 10) (h : BDs args → awp Try.prog [] F40 (AEnds Try.prog [] post) (initT args) G) : ACalls Try.prog 40 args G post :=
  acalls_cc Try.func40 F40_b F40_rs F40_n F40_ok mixed ha hn h

/- 41 slices.rotateLeft[ostiary/shelf.slot[int, ostiary/cable.End]] -/
@[simp] noncomputable def F41_r0 : CC := .reg [⟨some 4, none, (.move (.tmp 0))⟩,
  ⟨some 5, none, (.move (.tmp 1))⟩,
  ⟨some 6, none, (.slice 72 (.tmp 4) none (some (.tmp 5)) none)⟩,
  ⟨some 7, none, (.call { callee := (.value (.func 42)), args := #[(.tmp 6)], argTypes := #[72] })⟩] [0, 1]
@[simp] noncomputable def F41_r1 : CC := .reg [⟨some 8, none, (.move (.tmp 0))⟩,
  ⟨some 9, none, (.move (.tmp 1))⟩,
  ⟨some 10, none, (.slice 72 (.tmp 8) (some (.tmp 9)) none none)⟩,
  ⟨some 11, none, (.call { callee := (.value (.func 42)), args := #[(.tmp 10)], argTypes := #[72] })⟩] [0]
@[simp] noncomputable def F41_r2 : CC := .reg [⟨some 12, none, (.move (.tmp 0))⟩,
  ⟨some 13, none, (.call { callee := (.value (.func 42)), args := #[(.tmp 12)], argTypes := #[72] })⟩] []
noncomputable def F41 : CC := (.seq F41_r0 (.seq F41_r1 F41_r2))
noncomputable def F41_inf : Nat → RI
  | 0 => ⟨[0, 1], [], []⟩
  | 1 => ⟨[0], [], []⟩
  | 2 => ⟨[], [], []⟩
  | _ => ⟨[], [], []⟩
noncomputable def F41_c : Code := Try.f41.body.getD .skip
theorem F41_b : Try.f41.body = some F41_c := by kernel_rfl
theorem F41_rs : Try.f41.results.toList = ([] : List ResultVar) := by kernel_rfl
theorem F41_n : Try.f41.ntmps = 14 := by kernel_rfl
theorem F41_ok : toCC [] 14 F41_inf F41_c = some F41 := by kernel_rfl
theorem F41_in {args : List AV} {G : Hp} {post : AV → Hp → Prop} (ha : args.all AV.plain = true) (hn : args.length ≤ 14) (h : BDs args → awp Try.prog [] F41 (AEnds Try.prog [] post) (initT args) G) : ACalls Try.prog 41 args G post :=
  acalls_cc Try.func41 F41_b F41_rs F41_n F41_ok mixed ha hn h

/- 42 slices.Reverse[[]ostiary/shelf.slot[int, ostiary/cable.End],ostiary/shelf.slot[int, ostiary/cable.End]] -/
@[simp] noncomputable def F42_r0 : CC := .reg [⟨some 4, none, (.move (.tmp 0))⟩,
  ⟨some 5, none, (.call { callee := (.builtin .len), args := #[(.tmp 4)], argTypes := #[72] })⟩,
  ⟨some 6, none, (.binOp .sub 3 (.tmp 5) (.const (.int .i64 1)) 3)⟩,
  ⟨some 2, none, (.assign (.const (.int .i64 0)))⟩,
  ⟨some 3, none, (.assign (.tmp 6))⟩] [0, 2, 3]
@[simp] noncomputable def F42_r1 : CC := .reg [⟨some 7, none, (.move (.tmp 2))⟩,
  ⟨some 8, none, (.move (.tmp 3))⟩,
  ⟨some 9, none, (.binOp .lss 3 (.tmp 7) (.tmp 8) 3)⟩] [0, 2, 3, 9]
@[simp] noncomputable def F42_r3 : CC := .drw [⟨0, ⟨some 14, none, (.move (.tmp 0))⟩, [], []⟩,
  ⟨1, ⟨some 15, none, (.move (.tmp 2))⟩, [], []⟩,
  ⟨2, ⟨some 16, none, (.move (.tmp 0))⟩, [], []⟩,
  ⟨3, ⟨some 17, none, (.move (.tmp 3))⟩, [], []⟩,
  ⟨4, ⟨some 18, none, (.move (.tmp 0))⟩, [], []⟩,
  ⟨5, ⟨some 19, none, (.move (.tmp 3))⟩, [], []⟩,
  ⟨6, ⟨some 20, none, (.indexAddr 72 (.tmp 18) (.tmp 19))⟩, [], []⟩,
  ⟨7, ⟨some 21, none, (.load 81 (.tmp 20))⟩, [], []⟩,
  ⟨8, ⟨some 22, none, (.move (.tmp 0))⟩, [], []⟩,
  ⟨9, ⟨some 23, none, (.move (.tmp 2))⟩, [], []⟩,
  ⟨10, ⟨some 24, none, (.indexAddr 72 (.tmp 22) (.tmp 23))⟩, [], []⟩,
  ⟨11, ⟨some 25, none, (.load 81 (.tmp 24))⟩, [], []⟩,
  ⟨12, ⟨some 26, none, (.indexAddr 72 (.tmp 14) (.tmp 15))⟩, [], []⟩,
  ⟨13, ⟨none, none, (.store 81 (.tmp 26) (.tmp 21))⟩, [], []⟩,
  ⟨14, ⟨some 27, none, (.indexAddr 72 (.tmp 16) (.tmp 17))⟩, [], []⟩,
  ⟨15, ⟨none, none, (.store 81 (.tmp 27) (.tmp 25))⟩, [], []⟩] [14, 15, 16, 17, 18, 19, 20, 21, 22, 23, 24, 25, 26, 27] [0, 2, 3]
@[simp] noncomputable def F42_r2 : CC := .reg [⟨some 10, none, (.move (.tmp 2))⟩,
  ⟨some 11, none, (.binOp .add 3 (.tmp 10) (.const (.int .i64 1)) 3)⟩,
  ⟨some 12, none, (.move (.tmp 3))⟩,
  ⟨some 13, none, (.binOp .sub 3 (.tmp 12) (.const (.int .i64 1)) 3)⟩,
  ⟨some 2, none, (.assign (.tmp 11))⟩,
  ⟨some 3, none, (.assign (.tmp 13))⟩] [0, 2, 3]
noncomputable def F42_l0 : CC := (.seq (.seq F42_r1 (.cond (.tmp 9) .skip (.exit 0))) (.seq (.block 1 F42_r3) F42_r2))
noncomputable def F42 : CC := (.seq F42_r0 (.block 0 (.loop F42_l0)))
noncomputable def F42_inf : Nat → RI
  | 0 => ⟨[0, 2, 3], [], []⟩
  | 1 => ⟨[0, 2, 3, 9], [], []⟩
  | 3 => ⟨[0, 2, 3], [0, 0, 0, 0, 0, 0, 48, 112, 0, 0, 768, 1792, 4083, 8179, 16383, 32767], [(0, []), (1, []), (2, []), (3, []), (4, []), (5, []), (6, []), (7, []), (8, []), (9, []), (10, []), (11, []), (12, []), (13, []), (14, []), (15, [])]⟩
  | 2 => ⟨[0, 2, 3], [], []⟩
  | _ => ⟨[], [], []⟩
noncomputable def F42_c : Code := Try.f42.body.getD .skip
theorem F42_b : Try.f42.body = some F42_c := by kernel_rfl
theorem F42_rs : Try.f42.results.toList = ([] : List ResultVar) := by kernel_rfl
theorem F42_n : Try.f42.ntmps = 28 := by kernel_rfl
theorem F42_ok : toCC [] 28 F42_inf F42_c = some F42 := by kernel_rfl
theorem F42_in {args : List AV} {G : Hp} {post : AV → Hp → Prop} (ha : args.all AV.plain = true) (hn : args.length ≤ 28) (h : BDs args → awp Try.prog [] F42 (AEnds Try.prog [] post) (initT args) G) : ACalls Try.prog 42 args G post :=
  acalls_cc Try.func42 F42_b F42_rs F42_n F42_ok mixed ha hn h
end Go.Proofs.Ytbmlapcigkgdlaa
