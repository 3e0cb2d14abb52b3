import Derived.Test.YtjkighndbjnbjaaC0K
set_option linter.unusedVariables false
set_option linter.unusedSimpArgs false
set_option maxRecDepth 100000
namespace Go.Proofs.Ytjkighndbjnbjaa
open Go Go.Al

/- 39 slices.Insert[[]ostiary/shelf.slot[ostiary/api.Ip, ostiary/pool.Lease],ostiary/shelf.slot[ostiary/api.Ip, ostiary/pool.Lease]] -/
@[simp] noncomputable def F39_r0 : CC := .reg [⟨some 6, none, (.assign (.const (.slice none 0 0)))⟩] [0, 1, 2]
@[simp] noncomputable def F39_r1 : CC := .reg [⟨some 10, none, (.move (.tmp 0))⟩,
  ⟨some 11, none, (.move (.tmp 1))⟩,
  ⟨some 12, none, (.slice 79 (.tmp 10) (some (.tmp 11)) none none)⟩] [0, 1, 2]
@[simp] noncomputable def F39_r2 : CC := .reg [⟨some 13, none, (.move (.tmp 2))⟩,
  ⟨some 14, none, (.call { callee := (.builtin .len), args := #[(.tmp 13)], argTypes := #[79] })⟩,
  ⟨some 7, none, (.assign (.tmp 14))⟩] [0, 1, 2, 7]
@[simp] noncomputable def F39_r3 : CC := .reg [⟨some 15, none, (.move (.tmp 7))⟩,
  ⟨some 16, none, (.binOp .eql 3 (.tmp 15) (.const (.int .i64 0)) 3)⟩] [0, 1, 2, 7, 16]
@[simp] noncomputable def F39_r4 : CC := .reg [⟨some 17, none, (.move (.tmp 0))⟩,
  ⟨some 6, none, (.assign (.tmp 17))⟩] [6]
@[simp] noncomputable def F39_r5 : CC := .reg [⟨some 18, none, (.move (.tmp 0))⟩,
  ⟨some 19, none, (.call { callee := (.builtin .len), args := #[(.tmp 18)], argTypes := #[79] })⟩,
  ⟨some 8, none, (.assign (.tmp 19))⟩] [0, 1, 2, 7, 8]
@[simp] noncomputable def F39_r6 : CC := .reg [⟨some 20, none, (.move (.tmp 1))⟩,
  ⟨some 21, none, (.move (.tmp 8))⟩,
  ⟨some 22, none, (.binOp .eql 3 (.tmp 20) (.tmp 21) 3)⟩] [0, 1, 2, 7, 8, 22]
@[simp] noncomputable def F39_r7 : CC := .reg [⟨some 23, none, (.move (.tmp 0))⟩,
  ⟨some 24, none, (.move (.tmp 2))⟩,
  ⟨some 25, none, (.call { callee := (.builtin .append), args := #[(.tmp 23), (.tmp 24)], argTypes := #[79, 79] })⟩,
  ⟨some 6, none, (.assign (.tmp 25))⟩] [6]
@[simp] noncomputable def F39_r8 : CC := .reg [⟨some 26, none, (.move (.tmp 8))⟩,
  ⟨some 27, none, (.move (.tmp 7))⟩,
  ⟨some 28, none, (.binOp .add 3 (.tmp 26) (.tmp 27) 3)⟩,
  ⟨some 29, none, (.move (.tmp 0))⟩,
  ⟨some 30, none, (.call { callee := (.builtin .cap), args := #[(.tmp 29)], argTypes := #[79] })⟩,
  ⟨some 31, none, (.binOp .gtr 3 (.tmp 28) (.tmp 30) 3)⟩] [0, 1, 2, 7, 8, 31]
@[simp] noncomputable def F39_r9 : CC := .reg [⟨some 32, none, (.move (.tmp 0))⟩,
  ⟨some 33, none, (.move (.tmp 1))⟩,
  ⟨some 34, none, (.slice 79 (.tmp 32) none (some (.tmp 33)) none)⟩,
  ⟨some 35, none, (.move (.tmp 8))⟩,
  ⟨some 36, none, (.move (.tmp 7))⟩,
  ⟨some 37, none, (.binOp .add 3 (.tmp 35) (.tmp 36) 3)⟩,
  ⟨some 38, none, (.move (.tmp 1))⟩,
  ⟨some 39, none, (.binOp .sub 3 (.tmp 37) (.tmp 38) 3)⟩,
  ⟨some 40, none, (.call { callee := (.builtin .append), args := #[(.tmp 34), (.tmp 39)], argTypes := #[79, 3] })⟩,
  ⟨some 9, none, (.assign (.tmp 40))⟩] [0, 1, 2, 7, 9]
@[simp] noncomputable def F39_r10 : CC := .reg [⟨some 41, none, (.move (.tmp 9))⟩,
  ⟨some 42, none, (.move (.tmp 1))⟩,
  ⟨some 43, none, (.slice 79 (.tmp 41) (some (.tmp 42)) none none)⟩,
  ⟨some 44, none, (.move (.tmp 2))⟩,
  ⟨some 45, none, (.call { callee := (.builtin .copy), args := #[(.tmp 43), (.tmp 44)], argTypes := #[79, 79] })⟩] [0, 1, 7, 9]
@[simp] noncomputable def F39_r11 : CC := .drw [⟨0, ⟨some 46, none, (.move (.tmp 9))⟩, [], []⟩,
  ⟨1, ⟨some 47, none, (.move (.tmp 1))⟩, [], []⟩,
  ⟨2, ⟨some 48, none, (.move (.tmp 7))⟩, [], []⟩,
  ⟨3, ⟨some 49, none, (.binOp .add 3 (.tmp 47) (.tmp 48) 3)⟩, [], []⟩,
  ⟨4, ⟨some 50, none, (.slice 79 (.tmp 46) (some (.tmp 49)) none none)⟩, [], []⟩,
  ⟨5, ⟨some 51, none, (.move (.tmp 0))⟩, [], []⟩,
  ⟨6, ⟨some 52, none, (.move (.tmp 1))⟩, [], []⟩,
  ⟨7, ⟨some 53, none, (.slice 79 (.tmp 51) (some (.tmp 52)) none none)⟩, [], []⟩,
  ⟨8, ⟨some 54, none, (.call { callee := (.builtin .copy), args := #[(.tmp 50), (.tmp 53)], argTypes := #[79, 79] })⟩, [], []⟩] [46, 47, 48, 49, 50, 51, 52, 53, 54] [9]
@[simp] noncomputable def F39_r12 : CC := .reg [⟨some 55, none, (.move (.tmp 9))⟩,
  ⟨some 6, none, (.assign (.tmp 55))⟩] [6]
@[simp] noncomputable def F39_r13 : CC := .reg [⟨some 56, none, (.move (.tmp 0))⟩,
  ⟨some 57, none, (.move (.tmp 8))⟩,
  ⟨some 58, none, (.move (.tmp 7))⟩,
  ⟨some 59, none, (.binOp .add 3 (.tmp 57) (.tmp 58) 3)⟩,
  ⟨some 60, none, (.slice 79 (.tmp 56) none (some (.tmp 59)) none)⟩,
  ⟨some 0, none, (.assign (.tmp 60))⟩] [0, 1, 2, 7, 8]
@[simp] noncomputable def F39_r14 : CC := .reg [⟨some 61, none, (.move (.tmp 2))⟩,
  ⟨some 62, none, (.move (.tmp 0))⟩,
  ⟨some 63, none, (.move (.tmp 1))⟩,
  ⟨some 64, none, (.move (.tmp 7))⟩,
  ⟨some 65, none, (.binOp .add 3 (.tmp 63) (.tmp 64) 3)⟩,
  ⟨some 66, none, (.slice 79 (.tmp 62) (some (.tmp 65)) none none)⟩,
  ⟨some 67, none, (.call { callee := (.value (.func 41)), args := #[(.tmp 61), (.tmp 66)], argTypes := #[79, 79] })⟩,
  ⟨some 68, none, (.unOp .not 4 (.tmp 67))⟩] [0, 1, 2, 7, 8, 68]
@[simp] noncomputable def F39_r15 : CC := .drw [⟨0, ⟨some 69, none, (.move (.tmp 0))⟩, [], []⟩,
  ⟨1, ⟨some 70, none, (.move (.tmp 1))⟩, [], []⟩,
  ⟨2, ⟨some 71, none, (.move (.tmp 7))⟩, [], []⟩,
  ⟨3, ⟨some 72, none, (.binOp .add 3 (.tmp 70) (.tmp 71) 3)⟩, [], []⟩,
  ⟨4, ⟨some 73, none, (.slice 79 (.tmp 69) (some (.tmp 72)) none none)⟩, [], []⟩,
  ⟨5, ⟨some 74, none, (.move (.tmp 0))⟩, [], []⟩,
  ⟨6, ⟨some 75, none, (.move (.tmp 1))⟩, [], []⟩,
  ⟨7, ⟨some 76, none, (.slice 79 (.tmp 74) (some (.tmp 75)) none none)⟩, [], []⟩,
  ⟨8, ⟨some 77, none, (.call { callee := (.builtin .copy), args := #[(.tmp 73), (.tmp 76)], argTypes := #[79, 79] })⟩, [], []⟩] [69, 70, 71, 72, 73, 74, 75, 76, 77] [0, 1, 2]
@[simp] noncomputable def F39_r16 : CC := .reg [⟨some 78, none, (.move (.tmp 0))⟩,
  ⟨some 79, none, (.move (.tmp 1))⟩,
  ⟨some 80, none, (.slice 79 (.tmp 78) (some (.tmp 79)) none none)⟩,
  ⟨some 81, none, (.move (.tmp 2))⟩,
  ⟨some 82, none, (.call { callee := (.builtin .copy), args := #[(.tmp 80), (.tmp 81)], argTypes := #[79, 79] })⟩] [0]
@[simp] noncomputable def F39_r17 : CC := .reg [⟨some 83, none, (.move (.tmp 0))⟩,
  ⟨some 6, none, (.assign (.tmp 83))⟩] [6]
@[simp] noncomputable def F39_r18 : CC := .reg [⟨some 84, none, (.move (.tmp 0))⟩,
  ⟨some 85, none, (.move (.tmp 8))⟩,
  ⟨some 86, none, (.slice 79 (.tmp 84) (some (.tmp 85)) none none)⟩,
  ⟨some 87, none, (.move (.tmp 2))⟩,
  ⟨some 88, none, (.call { callee := (.builtin .copy), args := #[(.tmp 86), (.tmp 87)], argTypes := #[79, 79] })⟩] [0, 1, 7]
@[simp] noncomputable def F39_r19 : CC := .reg [⟨some 89, none, (.move (.tmp 0))⟩,
  ⟨some 90, none, (.move (.tmp 1))⟩,
  ⟨some 91, none, (.slice 79 (.tmp 89) (some (.tmp 90)) none none)⟩,
  ⟨some 92, none, (.move (.tmp 7))⟩,
  ⟨some 93, none, (.call { callee := (.value (.func 42)), args := #[(.tmp 91), (.tmp 92)], argTypes := #[79, 3] })⟩] [0]
@[simp] noncomputable def F39_r20 : CC := .reg [⟨some 94, none, (.move (.tmp 0))⟩,
  ⟨some 6, none, (.assign (.tmp 94))⟩] [6]
noncomputable def F39 : CC := (.seq F39_r0 (.seq F39_r1 (.seq F39_r2 (.seq (.seq F39_r3 (.cond (.tmp 16) (.seq F39_r4 .ret) .skip)) (.seq F39_r5 (.seq (.seq F39_r6 (.cond (.tmp 22) (.seq F39_r7 .ret) .skip)) (.seq (.seq F39_r8 (.cond (.tmp 31) (.seq F39_r9 (.seq F39_r10 (.seq F39_r11 (.seq F39_r12 .ret)))) .skip)) (.seq F39_r13 (.seq (.seq F39_r14 (.cond (.tmp 68) (.seq F39_r15 (.seq F39_r16 (.seq F39_r17 .ret))) .skip)) (.seq F39_r18 (.seq F39_r19 (.seq F39_r20 .ret))))))))))))
noncomputable def F39_inf : Nat → RI
  | 0 => ⟨[0, 1, 2], [], []⟩
  | 1 => ⟨[0, 1, 2], [], []⟩
  | 2 => ⟨[0, 1, 2, 7], [], []⟩
  | 3 => ⟨[0, 1, 2, 7, 16], [], []⟩
  | 4 => ⟨[6], [], []⟩
  | 5 => ⟨[0, 1, 2, 7, 8], [], []⟩
  | 6 => ⟨[0, 1, 2, 7, 8, 22], [], []⟩
  | 7 => ⟨[6], [], []⟩
  | 8 => ⟨[0, 1, 2, 7, 8, 31], [], []⟩
  | 9 => ⟨[0, 1, 2, 7, 9], [], []⟩
  | 10 => ⟨[0, 1, 7, 9], [], []⟩
  | 11 => ⟨[9], [0, 0, 0, 6, 15, 0, 0, 96, 255], [(0, []), (1, []), (2, []), (3, []), (4, []), (5, []), (6, []), (7, []), (8, [])]⟩
  | 12 => ⟨[6], [], []⟩
  | 13 => ⟨[0, 1, 2, 7, 8], [], []⟩
  | 14 => ⟨[0, 1, 2, 7, 8, 68], [], []⟩
  | 15 => ⟨[0, 1, 2], [0, 0, 0, 6, 15, 0, 0, 96, 255], [(0, []), (1, []), (2, []), (3, []), (4, []), (5, []), (6, []), (7, []), (8, [])]⟩
  | 16 => ⟨[0], [], []⟩
  | 17 => ⟨[6], [], []⟩
  | 18 => ⟨[0, 1, 7], [], []⟩
  | 19 => ⟨[0], [], []⟩
  | 20 => ⟨[6], [], []⟩
  | _ => ⟨[], [], []⟩
noncomputable def F39_c : Code := Try.f39.body.getD .skip
theorem F39_b : Try.f39.body = some F39_c := by kernel_rfl
theorem F39_rs : Try.f39.results.toList = ([.tmp 6] : List ResultVar) := by kernel_rfl
theorem F39_n : Try.f39.ntmps = 95 := by kernel_rfl
theorem F39_ok : toCC [] 95 F39_inf F39_c = some F39 := by kernel_rfl
theorem F39_in {args : List AV} {G : Hp} {post : AV → Hp → Prop} (ha : args.all AV.plain = true) (hn : args.length ≤ 95) (h : BDs args → awp Try.prog [] F39 (AEnds Try.prog [.tmp 6] post) (initT args) G) : ACalls Try.prog 39 args G post :=
  acalls_cc Try.func39 F39_b F39_rs F39_n F39_ok mixed ha hn h

/- 40 slices.Delete[[]ostiary/shelf.slot[ostiary/api.Ip, ostiary/pool.Lease],ostiary/shelf.slot[ostiary/api.Ip, ostiary/pool.Lease]] -/
@[simp] noncomputable def F40_r0 : CC := .reg [⟨some 6, none, (.assign (.const (.slice none 0 0)))⟩] [0, 1, 2]
@[simp] noncomputable def F40_r1 : CC := .reg [⟨some 8, none, (.move (.tmp 0))⟩,
  ⟨some 9, none, (.move (.tmp 1))⟩,
  ⟨some 10, none, (.move (.tmp 2))⟩,
  ⟨some 11, none, (.move (.tmp 0))⟩,
  ⟨some 12, none, (.call { callee := (.builtin .len), args := #[(.tmp 11)], argTypes := #[79] })⟩,
  ⟨some 13, none, (.slice 79 (.tmp 8) (some (.tmp 9)) (some (.tmp 10)) (some (.tmp 12)))⟩] [0, 1, 2]
@[simp] noncomputable def F40_r2 : CC := .reg [⟨some 14, none, (.move (.tmp 1))⟩,
  ⟨some 15, none, (.move (.tmp 2))⟩,
  ⟨some 16, none, (.binOp .eql 3 (.tmp 14) (.tmp 15) 3)⟩] [0, 1, 2, 16]
@[simp] noncomputable def F40_r3 : CC := .reg [⟨some 17, none, (.move (.tmp 0))⟩,
  ⟨some 6, none, (.assign (.tmp 17))⟩] [6]
@[simp] noncomputable def F40_r4 : CC := .reg [⟨some 18, none, (.move (.tmp 0))⟩,
  ⟨some 19, none, (.call { callee := (.builtin .len), args := #[(.tmp 18)], argTypes := #[79] })⟩,
  ⟨some 7, none, (.assign (.tmp 19))⟩] [0, 1, 2, 7]
@[simp] noncomputable def F40_r5 : CC := .drw [⟨0, ⟨some 20, none, (.move (.tmp 0))⟩, [], []⟩,
  ⟨1, ⟨some 21, none, (.move (.tmp 1))⟩, [], []⟩,
  ⟨2, ⟨some 22, none, (.slice 79 (.tmp 20) none (some (.tmp 21)) none)⟩, [], []⟩,
  ⟨3, ⟨some 23, none, (.move (.tmp 0))⟩, [], []⟩,
  ⟨4, ⟨some 24, none, (.move (.tmp 2))⟩, [], []⟩,
  ⟨5, ⟨some 25, none, (.slice 79 (.tmp 23) (some (.tmp 24)) none none)⟩, [], []⟩,
  ⟨6, ⟨some 26, none, (.call { callee := (.builtin .append), args := #[(.tmp 22), (.tmp 25)], argTypes := #[79, 79] })⟩, [], []⟩,
  ⟨7, ⟨some 0, none, (.assign (.tmp 26))⟩, [], []⟩] [20, 21, 22, 23, 24, 25, 26, 0] [0, 7]
@[simp] noncomputable def F40_r6 : CC := .reg [⟨some 27, none, (.move (.tmp 0))⟩,
  ⟨some 28, none, (.move (.tmp 0))⟩,
  ⟨some 29, none, (.call { callee := (.builtin .len), args := #[(.tmp 28)], argTypes := #[79] })⟩,
  ⟨some 30, none, (.move (.tmp 7))⟩,
  ⟨some 31, none, (.slice 79 (.tmp 27) (some (.tmp 29)) (some (.tmp 30)) none)⟩,
  ⟨none, none, (.call { callee := (.builtin .clear), args := #[(.tmp 31)], argTypes := #[79] })⟩] [0]
@[simp] noncomputable def F40_r7 : CC := .reg [⟨some 32, none, (.move (.tmp 0))⟩,
  ⟨some 6, none, (.assign (.tmp 32))⟩] [6]
noncomputable def F40 : CC := (.seq F40_r0 (.seq F40_r1 (.seq (.seq F40_r2 (.cond (.tmp 16) (.seq F40_r3 .ret) .skip)) (.seq F40_r4 (.seq F40_r5 (.seq F40_r6 (.seq F40_r7 .ret)))))))
noncomputable def F40_inf : Nat → RI
  | 0 => ⟨[0, 1, 2], [], []⟩
  | 1 => ⟨[0, 1, 2], [], []⟩
  | 2 => ⟨[0, 1, 2, 16], [], []⟩
  | 3 => ⟨[6], [], []⟩
  | 4 => ⟨[0, 1, 2, 7], [], []⟩
  | 5 => ⟨[0, 7], [0, 0, 3, 0, 0, 24, 63, 127], [(0, []), (1, []), (2, []), (3, []), (4, []), (5, []), (6, []), (7, [])]⟩
  | 6 => ⟨[0], [], []⟩
  | 7 => ⟨[6], [], []⟩
  | _ => ⟨[], [], []⟩
noncomputable def F40_c : Code := Try.f40.body.getD .skip
theorem F40_b : Try.f40.body = some F40_c := by kernel_rfl
theorem F40_rs : Try.f40.results.toList = ([.tmp 6] : List ResultVar) := by kernel_rfl
theorem F40_n : Try.f40.ntmps = 33 := by kernel_rfl
theorem F40_ok : toCC [] 33 F40_inf F40_c = some F40 := by kernel_rfl
theorem F40_in {args : List AV} {G : Hp} {post : AV → Hp → Prop} (ha : args.all AV.plain = true) (hn : args.length ≤ 33) (h : BDs args → awp Try.prog [] F40 (AEnds Try.prog [.tmp 6] post) (initT args) G) : ACalls Try.prog 40 args G post :=
  acalls_cc Try.func40 F40_b F40_rs F40_n F40_ok mixed ha hn h

/- 42 slices.rotateRight[ostiary/shelf.slot[ostiary/api.Ip, ostiary/pool.Lease]] -/
@[simp] noncomputable def F42_r0 : CC := .reg [⟨some 4, none, (.move (.tmp 0))⟩,
  ⟨some 5, none, (.move (.tmp 0))⟩,
  ⟨some 6, none, (.call { callee := (.builtin .len), args := #[(.tmp 5)], argTypes := #[79] })⟩,
  ⟨some 7, none, (.move (.tmp 1))⟩,
  ⟨some 8, none, (.binOp .sub 3 (.tmp 6) (.tmp 7) 3)⟩,
  ⟨some 9, none, (.call { callee := (.value (.func 43)), args := #[(.tmp 4), (.tmp 8)], argTypes := #[79, 3] })⟩] []
noncomputable def F42 : CC := F42_r0
noncomputable def F42_inf : Nat → RI
  | 0 => ⟨[], [], []⟩
  | _ => ⟨[], [], []⟩
noncomputable def F42_c : Code := Try.f42.body.getD .skip
theorem F42_b : Try.f42.body = some F42_c := by kernel_rfl
theorem F42_rs : Try.f42.results.toList = ([] : List ResultVar) := by kernel_rfl
theorem F42_n : Try.f42.ntmps = 10 := by kernel_rfl
theorem F42_ok : toCC [] 10 F42_inf F42_c = some F42 := by kernel_rfl
theorem F42_in {args : List AV} {G : Hp} {post : AV → Hp → Prop} (ha : args.all AV.plain = true) (hn : args.length ≤ 10) (h : BDs args → awp Try.prog [] F42 (AEnds Try.prog [] post) (initT args) G) : ACalls Try.prog 42 args G post :=
  acalls_cc Try.func42 F42_b F42_rs F42_n F42_ok mixed ha hn h

/- 43 slices.rotateLeft[ostiary/shelf.slot[ostiary/api.Ip, ostiary/pool.Lease]] -/
@[simp] noncomputable def F43_r0 : CC := .reg [⟨some 4, none, (.move (.tmp 0))⟩,
  ⟨some 5, none, (.move (.tmp 1))⟩,
  ⟨some 6, none, (.slice 79 (.tmp 4) none (some (.tmp 5)) none)⟩,
  ⟨some 7, none, (.call { callee := (.value (.func 44)), args := #[(.tmp 6)], argTypes := #[79] })⟩] [0, 1]
@[simp] noncomputable def F43_r1 : CC := .reg [⟨some 8, none, (.move (.tmp 0))⟩,
  ⟨some 9, none, (.move (.tmp 1))⟩,
  ⟨some 10, none, (.slice 79 (.tmp 8) (some (.tmp 9)) none none)⟩,
  ⟨some 11, none, (.call { callee := (.value (.func 44)), args := #[(.tmp 10)], argTypes := #[79] })⟩] [0]
@[simp] noncomputable def F43_r2 : CC := .reg [⟨some 12, none, (.move (.tmp 0))⟩,
  ⟨some 13, none, (.call { callee := (.value (.func 44)), args := #[(.tmp 12)], argTypes := #[79] })⟩] []
noncomputable def F43 : CC := (.seq F43_r0 (.seq F43_r1 F43_r2))
noncomputable def F43_inf : Nat → RI
  | 0 => ⟨[0, 1], [], []⟩
  | 1 => ⟨[0], [], []⟩
  | 2 => ⟨[], [], []⟩
  | _ => ⟨[], [], []⟩
noncomputable def F43_c : Code := Try.f43.body.getD .skip
theorem F43_b : Try.f43.body = some F43_c := by kernel_rfl
theorem F43_rs : Try.f43.results.toList = ([] : List ResultVar) := by kernel_rfl
theorem F43_n : Try.f43.ntmps = 14 := by kernel_rfl
theorem F43_ok : toCC [] 14 F43_inf F43_c = some F43 := by kernel_rfl
theorem F43_in {args : List AV} {G : Hp} {post : AV → Hp → Prop} (ha : args.all AV.plain = true) (hn : args.length ≤ 14) (h : BDs args → awp Try.prog [] F43 (AEnds Try.prog [] post) (initT args) G) : ACalls Try.prog 43 args G post :=
  acalls_cc Try.func43 F43_b F43_rs F43_n F43_ok mixed ha hn h

/- 44 slices.Reverse[[]ostiary/shelf.slot[ostiary/api.Ip, ostiary/pool.Lease],ostiary/shelf.slot[ostiary/api.Ip, ostiary/pool.Lease]] -/
@[simp] noncomputable def F44_r0 : CC := .reg [⟨some 4, none, (.move (.tmp 0))⟩,
  ⟨some 5, none, (.call { callee := (.builtin .len), args := #[(.tmp 4)], argTypes := #[79] })⟩,
  ⟨some 6, none, (.binOp .sub 3 (.tmp 5) (.const (.int .i64 1)) 3)⟩,
  ⟨some 2, none, (.assign (.const (.int .i64 0)))⟩,
  ⟨some 3, none, (.assign (.tmp 6))⟩] [0, 2, 3]
@[simp] noncomputable def F44_r1 : CC := .reg [⟨some 7, none, (.move (.tmp 2))⟩,
  ⟨some 8, none, (.move (.tmp 3))⟩,
  ⟨some 9, none, (.binOp .lss 3 (.tmp 7) (.tmp 8) 3)⟩] [0, 2, 3, 9]
@[simp] noncomputable def F44_r3 : CC := .drw [⟨0, ⟨some 14, none, (.move (.tmp 0))⟩, [], []⟩,
  ⟨1, ⟨some 15, none, (.move (.tmp 2))⟩, [], []⟩,
  ⟨2, ⟨some 16, none, (.move (.tmp 0))⟩, [], []⟩,
  ⟨3, ⟨some 17, none, (.move (.tmp 3))⟩, [], []⟩,
  ⟨4, ⟨some 18, none, (.move (.tmp 0))⟩, [], []⟩,
  ⟨5, ⟨some 19, none, (.move (.tmp 3))⟩, [], []⟩,
  ⟨6, ⟨some 20, none, (.indexAddr 79 (.tmp 18) (.tmp 19))⟩, [], []⟩,
  ⟨7, ⟨some 21, none, (.load 86 (.tmp 20))⟩, [], []⟩,
  ⟨8, ⟨some 22, none, (.move (.tmp 0))⟩, [], []⟩,
  ⟨9, ⟨some 23, none, (.move (.tmp 2))⟩, [], []⟩,
  ⟨10, ⟨some 24, none, (.indexAddr 79 (.tmp 22) (.tmp 23))⟩, [], []⟩,
  ⟨11, ⟨some 25, none, (.load 86 (.tmp 24))⟩, [], []⟩,
  ⟨12, ⟨some 26, none, (.indexAddr 79 (.tmp 14) (.tmp 15))⟩, [], []⟩,
  ⟨13, ⟨none, none, (.store 86 (.tmp 26) (.tmp 21))⟩, [], []⟩,
  ⟨14, ⟨some 27, none, (.indexAddr 79 (.tmp 16) (.tmp 17))⟩, [], []⟩,
  ⟨15, ⟨none, none, (.store 86 (.tmp 27) (.tmp 25))⟩, [], []⟩] [14, 15, 16, 17, 18, 19, 20, 21, 22, 23, 24, 25, 26, 27] [0, 2, 3]
@[simp] noncomputable def F44_r2 : CC := .reg [⟨some 10, none, (.move (.tmp 2))⟩,
  ⟨some 11, none, (.binOp .add 3 (.tmp 10) (.const (.int .i64 1)) 3)⟩,
  ⟨some 12, none, (.move (.tmp 3))⟩,
  ⟨some 13, none, (.binOp .sub 3 (.tmp 12) (.const (.int .i64 1)) 3)⟩,
  ⟨some 2, none, (.assign (.tmp 11))⟩,
  ⟨some 3, none, (.assign (.tmp 13))⟩] [0, 2, 3]
noncomputable def F44_l0 : CC := (.seq (.seq F44_r1 (.cond (.tmp 9) .skip (.exit 0))) (.seq (.block 1 F44_r3) F44_r2))
noncomputable def F44 : CC := (.seq F44_r0 (.block 0 (.loop F44_l0)))
noncomputable def F44_inf : Nat → RI
  | 0 => ⟨[0, 2, 3], [], []⟩
  | 1 => ⟨[0, 2, 3, 9], [], []⟩
  | 3 => ⟨[0, 2, 3], [0, 0, 0, 0, 0, 0, 48, 112, 0, 0, 768, 1792, 4083, 8179, 16383, 32767], [(0, []), (1, []), (2, []), (3, []), (4, []), (5, []), (6, []), (7, []), (8, []), (9, []), (10, []), (11, []), (12, []), (13, []), (14, []), (15, [])]⟩
  | 2 => ⟨[0, 2, 3], [], []⟩
  | _ => ⟨[], [], []⟩
noncomputable def F44_c : Code := Try.f44.body.getD .skip
theorem F44_b : Try.f44.body = some F44_c := by kernel_rfl
theorem F44_rs : Try.f44.results.toList = ([] : List ResultVar) := by kernel_rfl
theorem F44_n : Try.f44.ntmps = 28 := by kernel_rfl
theorem F44_ok : toCC [] 28 F44_inf F44_c = some F44 := by kernel_rfl
theorem F44_in {args : List AV} {G : Hp} {post : AV → Hp → Prop} (ha : args.all AV.plain = true) (hn : args.length ≤ 28) (h : BDs args → awp Try.prog [] F44 (AEnds Try.prog [] post) (initT args) G) : ACalls Try.prog 44 args G post :=
  acalls_cc Try.func44 F44_b F44_rs F44_n F44_ok mixed ha hn h
end Go.Proofs.Ytjkighndbjnbjaa
