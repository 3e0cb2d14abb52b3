import Derived.Test.YtapocekfkbkefaaC0K
set_option linter.unusedVariables false
set_option linter.unusedSimpArgs false
set_option maxRecDepth 100000
namespace Go.Proofs.Ytapocekfkbkefaa
open Go Go.Al

/- 51 (*ostiary/shelf.Shelf[int, ostiary/view.seen]).Drop -/
@[simp] noncomputable def F51_r0 : CC := .reg [⟨some 4, none, (.assign (.const (.slice none 0 0)))⟩] [0, 1]
@[simp] noncomputable def F51_r1 : CC := .reg [⟨some 5, none, (.assign (.const (.slice none 0 0)))⟩] [0, 1, 5]
@[simp] noncomputable def F51_r2 : CC := .reg [⟨some 6, none, (.assign (.const (.slice none 0 0)))⟩] [0, 1, 5, 6]
@[simp] noncomputable def F51_r3 : CC := .reg [⟨some 9, none, (.move (.tmp 0))⟩,
  ⟨some 10, none, (.call { callee := (.value (.func 47)), args := #[(.tmp 9)], argTypes := #[55] })⟩,
  ⟨some 11, none, (.move (.const (.int .i64 0)))⟩] [0, 1, 5, 6, 10, 11]
@[simp] noncomputable def F51_r4 : CC := .reg [⟨some 12, none, (.binOp .lss 3 (.tmp 11) (.tmp 10) 3)⟩] [0, 1, 5, 6, 10, 11, 12]
@[simp] noncomputable def F51_r5 : CC := .reg [⟨some 13, none, (.move (.tmp 11))⟩,
  ⟨some 7, none, (.assign (.tmp 13))⟩] [0, 1, 5, 6, 7, 10, 11]
@[simp] noncomputable def F51_r6 : CC := .reg [⟨some 14, none, (.move (.tmp 0))⟩,
  ⟨some 15, none, (.nilCheck (.tmp 14))⟩,
  ⟨some 16, none, (.fieldAddr 81 (.tmp 15) 0)⟩,
  ⟨some 17, none, (.load 79 (.tmp 16))⟩,
  ⟨some 18, none, (.move (.tmp 7))⟩,
  ⟨some 19, none, (.indexAddr 79 (.tmp 17) (.tmp 18))⟩,
  ⟨some 20, none, (.load 87 (.tmp 19))⟩,
  ⟨some 8, none, (.alloc 87)⟩,
  ⟨none, none, (.store 87 (.tmp 8) (.tmp 20))⟩] [0, 1, 5, 6, 8, 10, 11]
@[simp] noncomputable def F51_r7 : CC := .reg [⟨some 21, none, (.move (.tmp 1))⟩,
  ⟨some 22, none, (.fieldAddr 87 (.tmp 8) 0)⟩,
  ⟨some 23, none, (.load 3 (.tmp 22))⟩,
  ⟨some 24, none, (.fieldAddr 87 (.tmp 8) 1)⟩,
  ⟨some 25, none, (.load 58 (.tmp 24))⟩,
  ⟨some 26, none, (.call { callee := (.value (.tmp 21)), args := #[(.tmp 23), (.tmp 25)], argTypes := #[3, 58] })⟩] [0, 1, 5, 6, 8, 10, 11, 26]
@[simp] noncomputable def F51_r8 : CC := .reg [⟨some 27, none, (.move (.tmp 5))⟩,
  ⟨some 28, none, (.fieldAddr 87 (.tmp 8) 1)⟩,
  ⟨some 29, none, (.load 58 (.tmp 28))⟩,
  ⟨some 30, none, (.buildSlice 62 1 #[(0, (.tmp 29))])⟩,
  ⟨some 31, none, (.call { callee := (.builtin .append), args := #[(.tmp 27), (.tmp 30)], argTypes := #[62, 62] })⟩,
  ⟨some 5, none, (.assign (.tmp 31))⟩] [0, 1, 5, 6, 10, 11]
@[simp] noncomputable def F51_r9 : CC := .reg [⟨some 32, none, (.move (.tmp 6))⟩,
  ⟨some 33, none, (.load 87 (.tmp 8))⟩,
  ⟨some 34, none, (.buildSlice 79 1 #[(0, (.tmp 33))])⟩,
  ⟨some 35, none, (.call { callee := (.builtin .append), args := #[(.tmp 32), (.tmp 34)], argTypes := #[79, 79] })⟩,
  ⟨some 6, none, (.assign (.tmp 35))⟩] [0, 1, 5, 6, 10, 11]
@[simp] noncomputable def F51_r10 : CC := .reg [⟨some 36, none, (.binOp .add 3 (.tmp 11) (.const (.int .i64 1)) 3)⟩,
  ⟨some 11, none, (.move (.tmp 36))⟩] [0, 1, 5, 6, 10, 11]
noncomputable def F51_l0 : CC := (.seq F51_r4 (.seq (.cond (.tmp 12) .skip (.exit 0)) (.seq (.block 1 (.seq F51_r5 (.seq F51_r6 (.seq F51_r7 (.cond (.tmp 26) F51_r8 F51_r9))))) F51_r10)))
@[simp] noncomputable def F51_r11 : CC := .reg [⟨some 37, none, (.move (.tmp 0))⟩,
  ⟨some 38, none, (.binOp .neq 55 (.tmp 37) (.const (.pointer none)) 55)⟩] [0, 5, 6, 38]
@[simp] noncomputable def F51_r12 : CC := .reg [⟨some 39, none, (.move (.tmp 0))⟩,
  ⟨some 40, none, (.move (.tmp 6))⟩,
  ⟨some 41, none, (.nilCheck (.tmp 39))⟩,
  ⟨some 42, none, (.fieldAddr 81 (.tmp 41) 0)⟩,
  ⟨none, none, (.store 79 (.tmp 42) (.tmp 40))⟩] [5]
@[simp] noncomputable def F51_r13 : CC := .reg [⟨some 43, none, (.move (.tmp 5))⟩,
  ⟨some 4, none, (.assign (.tmp 43))⟩] [4]
noncomputable def F51 : CC := (.seq F51_r0 (.seq F51_r1 (.seq F51_r2 (.seq (.seq F51_r3 (.block 0 (.loop F51_l0))) (.seq (.seq F51_r11 (.cond (.tmp 38) F51_r12 .skip)) (.seq F51_r13 .ret))))))
noncomputable def F51_inf : Nat → RI
  | 0 => ⟨[0, 1], [], []⟩
  | 1 => ⟨[0, 1, 5], [], []⟩
  | 2 => ⟨[0, 1, 5, 6], [], []⟩
  | 3 => ⟨[0, 1, 5, 6, 10, 11], [], []⟩
  | 4 => ⟨[0, 1, 5, 6, 10, 11, 12], [], []⟩
  | 5 => ⟨[0, 1, 5, 6, 7, 10, 11], [], []⟩
  | 6 => ⟨[0, 1, 5, 6, 8, 10, 11], [], []⟩
  | 7 => ⟨[0, 1, 5, 6, 8, 10, 11, 26], [], []⟩
  | 8 => ⟨[0, 1, 5, 6, 10, 11], [], []⟩
  | 9 => ⟨[0, 1, 5, 6, 10, 11], [], []⟩
  | 10 => ⟨[0, 1, 5, 6, 10, 11], [], []⟩
  | 11 => ⟨[0, 5, 6, 38], [], []⟩
  | 12 => ⟨[5], [], []⟩
  | 13 => ⟨[4], [], []⟩
  | _ => ⟨[], [], []⟩
noncomputable def F51_c : Code := Try.f51.body.getD .skip
theorem F51_b : Try.f51.body = some F51_c := by kernel_rfl
theorem F51_rs : Try.f51.results.toList = ([.tmp 4] : List ResultVar) := by kernel_rfl
theorem F51_n : Try.f51.ntmps = 44 := by kernel_rfl
theorem F51_ok : toCC [] 44 F51_inf F51_c = some F51 := by kernel_rfl
theorem F51_in {args : List AV} {G : Hp} {post : AV → Hp → Prop} (ha : args.all AV.plain = true) (hn : args.length ≤ 44) (h : BDs args → awp Try.prog [] F51 (AEnds Try.prog [.tmp 4] post) (initT args) G) : ACalls Try.prog 51 args G post :=
  acalls_cc Try.func51 F51_b F51_rs F51_n F51_ok mixed ha hn h

/- 52 (*ostiary/view.View).loses$1 -/
@[simp] noncomputable def F52_r0 : CC := .reg [⟨some 4, none, (.box 58 (.tmp 1))⟩,
  ⟨some 5, none, (.assign (.const (.bool false)))⟩] [2, 4]
@[simp] noncomputable def F52_r1 : CC := .reg [⟨some 6, none, (.load 73 (.tmp 2))⟩,
  ⟨some 7, none, (.load 58 (.tmp 4))⟩,
  ⟨some 8, none, (.call { callee := (.value (.tmp 6)), args := #[(.tmp 7)], argTypes := #[58] })⟩,
  ⟨some 5, none, (.assign (.tmp 8))⟩] [5]
noncomputable def F52 : CC := (.seq F52_r0 (.seq F52_r1 .ret))
noncomputable def F52_inf : Nat → RI
  | 0 => ⟨[2, 4], [], []⟩
  | 1 => ⟨[5], [], []⟩
  | _ => ⟨[], [], []⟩
noncomputable def F52_c : Code := Try.f52.body.getD .skip
theorem F52_b : Try.f52.body = some F52_c := by kernel_rfl
theorem F52_rs : Try.f52.results.toList = ([.tmp 5] : List ResultVar) := by kernel_rfl
theorem F52_n : Try.f52.ntmps = 9 := by kernel_rfl
theorem F52_ok : toCC [] 9 F52_inf F52_c = some F52 := by kernel_rfl
theorem F52_in {args : List AV} {G : Hp} {post : AV → Hp → Prop} (ha : args.all AV.plain = true) (hn : args.length ≤ 9) (h : BDs args → awp Try.prog [] F52 (AEnds Try.prog [.tmp 5] post) (initT args) G) : ACalls Try.prog 52 args G post :=
  acalls_cc Try.func52 F52_b F52_rs F52_n F52_ok mixed ha hn h

/- 53 ostiary/ostiaryref19.Good -/
@[simp] noncomputable def F53_r0 : CC := .reg [⟨some 1, none, (.box 32 (.tmp 0))⟩,
  ⟨some 2, none, (.assign (.const (.bool false)))⟩] [1]
@[simp] noncomputable def F53_r1 : CC := .reg [⟨some 3, none, (.fieldAddr 32 (.tmp 1) 0)⟩,
  ⟨some 4, none, (.load 3 (.tmp 3))⟩,
  ⟨some 5, none, (.binOp .gtr 3 (.tmp 4) (.const (.int .i64 0)) 3)⟩,
  ⟨some 6, none, (.move (.tmp 5))⟩,
  ⟨some 7, some (6, true), (.fieldAddr 32 (.tmp 1) 0)⟩,
  ⟨some 8, some (6, true), (.load 3 (.tmp 7))⟩,
  ⟨some 9, some (6, true), (.binOp .lss 3 (.tmp 8) (.const (.int .i64 9)) 3)⟩,
  ⟨some 10, none, (.pick (.tmp 6) (.tmp 9) (.const (.bool false)))⟩,
  ⟨some 11, none, (.move (.tmp 10))⟩,
  ⟨some 12, some (11, true), (.fieldAddr 32 (.tmp 1) 1)⟩,
  ⟨some 13, some (11, true), (.load 3 (.tmp 12))⟩,
  ⟨some 14, some (11, true), (.binOp .gtr 3 (.tmp 13) (.const (.int .i64 0)) 3)⟩,
  ⟨some 15, none, (.pick (.tmp 11) (.tmp 14) (.const (.bool false)))⟩,
  ⟨some 16, none, (.move (.tmp 15))⟩,
  ⟨some 17, some (16, true), (.fieldAddr 32 (.tmp 1) 1)⟩,
  ⟨some 18, some (16, true), (.load 3 (.tmp 17))⟩,
  ⟨some 19, some (16, true), (.binOp .lss 3 (.tmp 18) (.const (.int .i64 9)) 3)⟩,
  ⟨some 20, none, (.pick (.tmp 16) (.tmp 19) (.const (.bool false)))⟩,
  ⟨some 2, none, (.assign (.tmp 20))⟩] [2]
noncomputable def F53 : CC := (.seq F53_r0 (.seq F53_r1 .ret))
noncomputable def F53_inf : Nat → RI
  | 0 => ⟨[1], [], []⟩
  | 1 => ⟨[2], [], []⟩
  | _ => ⟨[], [], []⟩
noncomputable def F53_c : Code := Try.f53.body.getD .skip
theorem F53_b : Try.f53.body = some F53_c := by kernel_rfl
theorem F53_rs : Try.f53.results.toList = ([.tmp 2] : List ResultVar) := by kernel_rfl
theorem F53_n : Try.f53.ntmps = 21 := by kernel_rfl
theorem F53_ok : toCC [] 21 F53_inf F53_c = some F53 := by kernel_rfl
theorem F53_in {args : List AV} {G : Hp} {post : AV → Hp → Prop} (ha : args.all AV.plain = true) (hn : args.length ≤ 21) (h : BDs args → awp Try.prog [] F53 (AEnds Try.prog [.tmp 2] post) (initT args) G) : ACalls Try.prog 53 args G post :=
  acalls_cc Try.func53 F53_b F53_rs F53_n F53_ok mixed ha hn h

/- 54 slices.Insert[[]ostiary/shelf.slot[int, int],ostiary/shelf.slot[int, int]] -/
@[simp] noncomputable def F54_r0 : CC := .reg [⟨some 6, none, (.assign (.const (.slice none 0 0)))⟩] [0, 1, 2]
@[simp] noncomputable def F54_r1 : CC := .reg [⟨some 10, none, (.move (.tmp 0))⟩,
  ⟨some 11, none, (.move (.tmp 1))⟩,
  ⟨some 12, none, (.slice 76 (.tmp 10) (some (.tmp 11)) none none)⟩] [0, 1, 2]
@[simp] noncomputable def F54_r2 : CC := .reg [⟨some 13, none, (.move (.tmp 2))⟩,
  ⟨some 14, none, (.call { callee := (.builtin .len), args := #[(.tmp 13)], argTypes := #[76] })⟩,
  ⟨some 7, none, (.assign (.tmp 14))⟩] [0, 1, 2, 7]
@[simp] noncomputable def F54_r3 : CC := .reg [⟨some 15, none, (.move (.tmp 7))⟩,
  ⟨some 16, none, (.binOp .eql 3 (.tmp 15) (.const (.int .i64 0)) 3)⟩] [0, 1, 2, 7, 16]
@[simp] noncomputable def F54_r4 : CC := .reg [⟨some 17, none, (.move (.tmp 0))⟩,
  ⟨some 6, none, (.assign (.tmp 17))⟩] [6]
@[simp] noncomputable def F54_r5 : CC := .reg [⟨some 18, none, (.move (.tmp 0))⟩,
  ⟨some 19, none, (.call { callee := (.builtin .len), args := #[(.tmp 18)], argTypes := #[76] })⟩,
  ⟨some 8, none, (.assign (.tmp 19))⟩] [0, 1, 2, 7, 8]
@[simp] noncomputable def F54_r6 : CC := .reg [⟨some 20, none, (.move (.tmp 1))⟩,
  ⟨some 21, none, (.move (.tmp 8))⟩,
  ⟨some 22, none, (.binOp .eql 3 (.tmp 20) (.tmp 21) 3)⟩] [0, 1, 2, 7, 8, 22]
@[simp] noncomputable def F54_r7 : CC := .reg [⟨some 23, none, (.move (.tmp 0))⟩,
  ⟨some 24, none, (.move (.tmp 2))⟩,
  ⟨some 25, none, (.call { callee := (.builtin .append), args := #[(.tmp 23), (.tmp 24)], argTypes := #[76, 76] })⟩,
  ⟨some 6, none, (.assign (.tmp 25))⟩] [6]
@[simp] noncomputable def F54_r8 : CC := .reg [⟨some 26, none, (.move (.tmp 8))⟩,
  ⟨some 27, none, (.move (.tmp 7))⟩,
  ⟨some 28, none, (.binOp .add 3 (.tmp 26) (.tmp 27) 3)⟩,
  ⟨some 29, none, (.move (.tmp 0))⟩,
  ⟨some 30, none, (.call { callee := (.builtin .cap), args := #[(.tmp 29)], argTypes := #[76] })⟩,
  ⟨some 31, none, (.binOp .gtr 3 (.tmp 28) (.tmp 30) 3)⟩] [0, 1, 2, 7, 8, 31]
@[simp] noncomputable def F54_r9 : CC := .reg [⟨some 32, none, (.move (.tmp 0))⟩,
  ⟨some 33, none, (.move (.tmp 1))⟩,
  ⟨some 34, none, (.slice 76 (.tmp 32) none (some (.tmp 33)) none)⟩,
  ⟨some 35, none, (.move (.tmp 8))⟩,
  ⟨some 36, none, (.move (.tmp 7))⟩,
  ⟨some 37, none, (.binOp .add 3 (.tmp 35) (.tmp 36) 3)⟩,
  ⟨some 38, none, (.move (.tmp 1))⟩,
  ⟨some 39, none, (.binOp .sub 3 (.tmp 37) (.tmp 38) 3)⟩,
  ⟨some 40, none, (.call { callee := (.builtin .append), args := #[(.tmp 34), (.tmp 39)], argTypes := #[76, 3] })⟩,
  ⟨some 9, none, (.assign (.tmp 40))⟩] [0, 1, 2, 7, 9]
@[simp] noncomputable def F54_r10 : CC := .reg [⟨some 41, none, (.move (.tmp 9))⟩,
  ⟨some 42, none, (.move (.tmp 1))⟩,
  ⟨some 43, none, (.slice 76 (.tmp 41) (some (.tmp 42)) none none)⟩,
  ⟨some 44, none, (.move (.tmp 2))⟩,
  ⟨some 45, none, (.call { callee := (.builtin .copy), args := #[(.tmp 43), (.tmp 44)], argTypes := #[76, 76] })⟩] [0, 1, 7, 9]
@[simp] noncomputable def F54_r11 : CC := .drw [⟨0, ⟨some 46, none, (.move (.tmp 9))⟩, [], []⟩,
  ⟨1, ⟨some 47, none, (.move (.tmp 1))⟩, [], []⟩,
  ⟨2, ⟨some 48, none, (.move (.tmp 7))⟩, [], []⟩,
  ⟨3, ⟨some 49, none, (.binOp .add 3 (.tmp 47) (.tmp 48) 3)⟩, [], []⟩,
  ⟨4, ⟨some 50, none, (.slice 76 (.tmp 46) (some (.tmp 49)) none none)⟩, [], []⟩,
  ⟨5, ⟨some 51, none, (.move (.tmp 0))⟩, [], []⟩,
  ⟨6, ⟨some 52, none, (.move (.tmp 1))⟩, [], []⟩,
  ⟨7, ⟨some 53, none, (.slice 76 (.tmp 51) (some (.tmp 52)) none none)⟩, [], []⟩,
  ⟨8, ⟨some 54, none, (.call { callee := (.builtin .copy), args := #[(.tmp 50), (.tmp 53)], argTypes := #[76, 76] })⟩, [], []⟩] [46, 47, 48, 49, 50, 51, 52, 53, 54] [9]
@[simp] noncomputable def F54_r12 : CC := .reg [⟨some 55, none, (.move (.tmp 9))⟩,
  ⟨some 6, none, (.assign (.tmp 55))⟩] [6]
@[simp] noncomputable def F54_r13 : CC := .reg [⟨some 56, none, (.move (.tmp 0))⟩,
  ⟨some 57, none, (.move (.tmp 8))⟩,
  ⟨some 58, none, (.move (.tmp 7))⟩,
  ⟨some 59, none, (.binOp .add 3 (.tmp 57) (.tmp 58) 3)⟩,
  ⟨some 60, none, (.slice 76 (.tmp 56) none (some (.tmp 59)) none)⟩,
  ⟨some 0, none, (.assign (.tmp 60))⟩] [0, 1, 2, 7, 8]
@[simp] noncomputable def F54_r14 : CC := .reg [⟨some 61, none, (.move (.tmp 2))⟩,
  ⟨some 62, none, (.move (.tmp 0))⟩,
  ⟨some 63, none, (.move (.tmp 1))⟩,
  ⟨some 64, none, (.move (.tmp 7))⟩,
  ⟨some 65, none, (.binOp .add 3 (.tmp 63) (.tmp 64) 3)⟩,
  ⟨some 66, none, (.slice 76 (.tmp 62) (some (.tmp 65)) none none)⟩,
  ⟨some 67, none, (.call { callee := (.value (.func 59)), args := #[(.tmp 61), (.tmp 66)], argTypes := #[76, 76] })⟩,
  ⟨some 68, none, (.unOp .not 4 (.tmp 67))⟩] [0, 1, 2, 7, 8, 68]
@[simp] noncomputable def F54_r15 : CC := .drw [⟨0, ⟨some 69, none, (.move (.tmp 0))⟩, [], []⟩,
  ⟨1, ⟨some 70, none, (.move (.tmp 1))⟩, [], []⟩,
  ⟨2, ⟨some 71, none, (.move (.tmp 7))⟩, [], []⟩,
  ⟨3, ⟨some 72, none, (.binOp .add 3 (.tmp 70) (.tmp 71) 3)⟩, [], []⟩,
  ⟨4, ⟨some 73, none, (.slice 76 (.tmp 69) (some (.tmp 72)) none none)⟩, [], []⟩,
  ⟨5, ⟨some 74, none, (.move (.tmp 0))⟩, [], []⟩,
  ⟨6, ⟨some 75, none, (.move (.tmp 1))⟩, [], []⟩,
  ⟨7, ⟨some 76, none, (.slice 76 (.tmp 74) (some (.tmp 75)) none none)⟩, [], []⟩,
  ⟨8, ⟨some 77, none, (.call { callee := (.builtin .copy), args := #[(.tmp 73), (.tmp 76)], argTypes := #[76, 76] })⟩, [], []⟩] [69, 70, 71, 72, 73, 74, 75, 76, 77] [0, 1, 2]
@[simp] noncomputable def F54_r16 : CC := .reg [⟨some 78, none, (.move (.tmp 0))⟩,
  ⟨some 79, none, (.move (.tmp 1))⟩,
  ⟨some 80, none, (.slice 76 (.tmp 78) (some (.tmp 79)) none none)⟩,
  ⟨some 81, none, (.move (.tmp 2))⟩,
  ⟨some 82, none, (.call { callee := (.builtin .copy), args := #[(.tmp 80), (.tmp 81)], argTypes := #[76, 76] })⟩] [0]
@[simp] noncomputable def F54_r17 : CC := .reg [⟨some 83, none, (.move (.tmp 0))⟩,
  ⟨some 6, none, (.assign (.tmp 83))⟩] [6]
@[simp] noncomputable def F54_r18 : CC := .reg [⟨some 84, none, (.move (.tmp 0))⟩,
  ⟨some 85, none, (.move (.tmp 8))⟩,
  ⟨some 86, none, (.slice 76 (.tmp 84) (some (.tmp 85)) none none)⟩,
  ⟨some 87, none, (.move (.tmp 2))⟩,
  ⟨some 88, none, (.call { callee := (.builtin .copy), args := #[(.tmp 86), (.tmp 87)], argTypes := #[76, 76] })⟩] [0, 1, 7]
@[simp] noncomputable def F54_r19 : CC := .reg [⟨some 89, none, (.move (.tmp 0))⟩,
  ⟨some 90, none, (.move (.tmp 1))⟩,
  ⟨some 91, none, (.slice 76 (.tmp 89) (some (.tmp 90)) none none)⟩,
  ⟨some 92, none, (.move (.tmp 7))⟩,
  ⟨some 93, none, (.call { callee := (.value (.func 60)), args := #[(.tmp 91), (.tmp 92)], argTypes := #[76, 3] })⟩] [0]
@[simp] noncomputable def F54_r20 : CC := .reg [⟨some 94, none, (.move (.tmp 0))⟩,
  ⟨some 6, none, (.assign (.tmp 94))⟩] [6]
noncomputable def F54 : CC := (.seq F54_r0 (.seq F54_r1 (.seq F54_r2 (.seq (.seq F54_r3 (.cond (.tmp 16) (.seq F54_r4 .ret) .skip)) (.seq F54_r5 (.seq (.seq F54_r6 (.cond (.tmp 22) (.seq F54_r7 .ret) .skip)) (.seq (.seq F54_r8 (.cond (.tmp 31) (.seq F54_r9 (.seq F54_r10 (.seq F54_r11 (.seq F54_r12 .ret)))) .skip)) (.seq F54_r13 (.seq (.seq F54_r14 (.cond (.tmp 68) (.seq F54_r15 (.seq F54_r16 (.seq F54_r17 .ret))) .skip)) (.seq F54_r18 (.seq F54_r19 (.seq F54_r20 .ret))))))))))))
noncomputable def F54_inf : Nat → RI
  | 0 => ⟨[0, 1, 2], [], []⟩
  | 1 => ⟨[0, 1, 2], [], []⟩
  | 2 => ⟨[0, 1, 2, 7], [], []⟩
  | 3 => ⟨[0, 1, 2, 7, 16], [], []⟩
  | 4 => ⟨[6], [], []⟩
  | 5 => ⟨[0, 1, 2, 7, 8], [], []⟩
  | 6 => ⟨[0, 1, 2, 7, 8, 22], [], []⟩
  | 7 => ⟨[6], [], []⟩
  | 8 => ⟨[0, 1, 2, 7, 8, 31], [], []⟩
  | 9 => ⟨[0, 1, 2, 7, 9], [], []⟩
  | 10 => ⟨[0, 1, 7, 9], [], []⟩
  | 11 => ⟨[9], [0, 0, 0, 6, 15, 0, 0, 96, 255], [(0, []), (1, []), (2, []), (3, []), (4, []), (5, []), (6, []), (7, []), (8, [])]⟩
  | 12 => ⟨[6], [], []⟩
  | 13 => ⟨[0, 1, 2, 7, 8], [], []⟩
  | 14 => ⟨[0, 1, 2, 7, 8, 68], [], []⟩
  | 15 => ⟨[0, 1, 2], [0, 0, 0, 6, 15, 0, 0, 96, 255], [(0, []), (1, []), (2, []), (3, []), (4, []), (5, []), (6, []), (7, []), (8, [])]⟩
  | 16 => ⟨[0], [], []⟩
  | 17 => ⟨[6], [], []⟩
  | 18 => ⟨[0, 1, 7], [], []⟩
  | 19 => ⟨[0], [], []⟩
  | 20 => ⟨[6], [], []⟩
  | _ => ⟨[], [], []⟩
noncomputable def F54_c : Code := Try.f54.body.getD .skip
theorem F54_b : Try.f54.body = some F54_c := by kernel_rfl
theorem F54_rs : Try.f54.results.toList = ([.tmp 6] : List ResultVar) := by kernel_rfl
theorem F54_n : Try.f54.ntmps = 95 := by kernel_rfl
theorem F54_ok : toCC [] 95 F54_inf F54_c = some F54 := by kernel_rfl
theorem F54_in {args : List AV} {G : Hp} {post : AV → Hp → Prop} (ha : args.all AV.plain = true) (hn : args.length ≤ 95) (h : BDs args → awp Try.prog [] F54 (AEnds Try.prog [.tmp 6] post) (initT args) G) : ACalls Try.prog 54 args G post :=
  acalls_cc Try.func54 F54_b F54_rs F54_n F54_ok mixed ha hn h

/- 55 slices.Delete[[]ostiary/shelf.slot[int, int],ostiary/shelf.slot[int, int]] -/
@[simp] noncomputable def F55_r0 : CC := .reg [⟨some 6, none, (.assign (.const (.slice none 0 0)))⟩] [0, 1, 2]
@[simp] noncomputable def F55_r1 : CC := .reg [⟨some 8, none, (.move (.tmp 0))⟩,
  ⟨some 9, none, (.move (.tmp 1))⟩,
  ⟨some 10, none, (.move (.tmp 2))⟩,
  ⟨some 11, none, (.move (.tmp 0))⟩,
  ⟨some 12, none, (.call { callee := (.builtin .len), args := #[(.tmp 11)], argTypes := #[76] })⟩,
  ⟨some 13, none, (.slice 76 (.tmp 8) (some (.tmp 9)) (some (.tmp 10)) (some (.tmp 12)))⟩] [0, 1, 2]
@[simp] noncomputable def F55_r2 : CC := .reg [⟨some 14, none, (.move (.tmp 1))⟩,
  ⟨some 15, none, (.move (.tmp 2))⟩,
  ⟨some 16, none, (.binOp .eql 3 (.tmp 14) (.tmp 15) 3)⟩] [0, 1, 2, 16]
@[simp] noncomputable def F55_r3 : CC := .reg [⟨some 17, none, (.move (.tmp 0))⟩,
  ⟨some 6, none, (.assign (.tmp 17))⟩] [6]
@[simp] noncomputable def F55_r4 : CC := .reg [⟨some 18, none, (.move (.tmp 0))⟩,
  ⟨some 19, none, (.call { callee := (.builtin .len), args := #[(.tmp 18)], argTypes := #[76] })⟩,
  ⟨some 7, none, (.assign (.tmp 19))⟩] [0, 1, 2, 7]
@[simp] noncomputable def F55_r5 : CC := .drw [⟨0, ⟨some 20, none, (.move (.tmp 0))⟩, [], []⟩,
  ⟨1, ⟨some 21, none, (.move (.tmp 1))⟩, [], []⟩,
  ⟨2, ⟨some 22, none, (.slice 76 (.tmp 20) none (some (.tmp 21)) none)⟩, [], []⟩,
  ⟨3, ⟨some 23, none, (.move (.tmp 0))⟩, [], []⟩,
  ⟨4, ⟨some 24, none, (.move (.tmp 2))⟩, [], []⟩,
  ⟨5, ⟨some 25, none, (.slice 76 (.tmp 23) (some (.tmp 24)) none none)⟩, [], []⟩,
  ⟨6, ⟨some 26, none, (.call { callee := (.builtin .append), args := #[(.tmp 22), (.tmp 25)], argTypes := #[76, 76] })⟩, [], []⟩,
  ⟨7, ⟨some 0, none, (.assign (.tmp 26))⟩, [], []⟩] [20, 21, 22, 23, 24, 25, 26, 0] [0, 7]
@[simp] noncomputable def F55_r6 : CC := .reg [⟨some 27, none, (.move (.tmp 0))⟩,
  ⟨some 28, none, (.move (.tmp 0))⟩,
  ⟨some 29, none, (.call { callee := (.builtin .len), args := #[(.tmp 28)], argTypes := #[76] })⟩,
  ⟨some 30, none, (.move (.tmp 7))⟩,
  ⟨some 31, none, (.slice 76 (.tmp 27) (some (.tmp 29)) (some (.tmp 30)) none)⟩,
  ⟨none, none, (.call { callee := (.builtin .clear), args := #[(.tmp 31)], argTypes := #[76] })⟩] [0]
@[simp] noncomputable def F55_r7 : CC := .reg [⟨some 32, none, (.move (.tmp 0))⟩,
  ⟨some 6, none, (.assign (.tmp 32))⟩] [6]
noncomputable def F55 : CC := (.seq F55_r0 (.seq F55_r1 (.seq (.seq F55_r2 (.cond (.tmp 16) (.seq F55_r3 .ret) .skip)) (.seq F55_r4 (.seq F55_r5 (.seq F55_r6 (.seq F55_r7 .ret)))))))
noncomputable def F55_inf : Nat → RI
  | 0 => ⟨[0, 1, 2], [], []⟩
  | 1 => ⟨[0, 1, 2], [], []⟩
  | 2 => ⟨[0, 1, 2, 16], [], []⟩
  | 3 => ⟨[6], [], []⟩
  | 4 => ⟨[0, 1, 2, 7], [], []⟩
  | 5 => ⟨[0, 7], [0, 0, 3, 0, 0, 24, 63, 127], [(0, []), (1, []), (2, []), (3, []), (4, []), (5, []), (6, []), (7, [])]⟩
  | 6 => ⟨[0], [], []⟩
  | 7 => ⟨[6], [], []⟩
  | _ => ⟨[], [], []⟩
noncomputable def F55_c : Code := Try.f55.body.getD .skip
theorem F55_b : Try.f55.body = some F55_c := by kernel_rfl
theorem F55_rs : Try.f55.results.toList = ([.tmp 6] : List ResultVar) := by kernel_rfl
theorem F55_n : Try.f55.ntmps = 33 := by kernel_rfl
theorem F55_ok : toCC [] 33 F55_inf F55_c = some F55 := by kernel_rfl
theorem F55_in {args : List AV} {G : Hp} {post : AV → Hp → Prop} (ha : args.all AV.plain = true) (hn : args.length ≤ 33) (h : BDs args → awp Try.prog [] F55 (AEnds Try.prog [.tmp 6] post) (initT args) G) : ACalls Try.prog 55 args G post :=
  acalls_cc Try.func55 F55_b F55_rs F55_n F55_ok mixed ha hn h

/- 56 (*ostiary/shelf.Shelf[int, int]).Len -/
@[simp] noncomputable def F56_r0 : CC := .reg [⟨some 2, none, (.assign (.const (.int .i64 0)))⟩] [0]
@[simp] noncomputable def F56_r1 : CC := .reg [⟨some 3, none, (.move (.tmp 0))⟩,
  ⟨some 4, none, (.binOp .eql 53 (.tmp 3) (.const (.pointer none)) 53)⟩] [0, 4]
@[simp] noncomputable def F56_r2 : CC := .reg [⟨some 2, none, (.assign (.const (.int .i64 0)))⟩] [2]
@[simp] noncomputable def F56_r3 : CC := .reg [⟨some 5, none, (.move (.tmp 0))⟩,
  ⟨some 6, none, (.nilCheck (.tmp 5))⟩,
  ⟨some 7, none, (.fieldAddr 78 (.tmp 6) 0)⟩,
  ⟨some 8, none, (.load 76 (.tmp 7))⟩,
  ⟨some 9, none, (.call { callee := (.builtin .len), args := #[(.tmp 8)], argTypes := #[76] })⟩,
  ⟨some 2, none, (.assign (.tmp 9))⟩] [2]
noncomputable def F56 : CC := (.seq F56_r0 (.seq (.seq F56_r1 (.cond (.tmp 4) (.seq F56_r2 .ret) .skip)) (.seq F56_r3 .ret)))
noncomputable def F56_inf : Nat → RI
  | 0 => ⟨[0], [], []⟩
  | 1 => ⟨[0, 4], [], []⟩
  | 2 => ⟨[2], [], []⟩
  | 3 => ⟨[2], [], []⟩
  | _ => ⟨[], [], []⟩
noncomputable def F56_c : Code := Try.f56.body.getD .skip
theorem F56_b : Try.f56.body = some F56_c := by kernel_rfl
theorem F56_rs : Try.f56.results.toList = ([.tmp 2] : List ResultVar) := by kernel_rfl
theorem F56_n : Try.f56.ntmps = 10 := by kernel_rfl
theorem F56_ok : toCC [] 10 F56_inf F56_c = some F56 := by kernel_rfl
theorem F56_in {args : List AV} {G : Hp} {post : AV → Hp → Prop} (ha : args.all AV.plain = true) (hn : args.length ≤ 10) (h : BDs args → awp Try.prog [] F56 (AEnds Try.prog [.tmp 2] post) (initT args) G) : ACalls Try.prog 56 args G post :=
  acalls_cc Try.func56 F56_b F56_rs F56_n F56_ok mixed ha hn h

/- 58 slices.rotateRight[ostiary/shelf.slot[int, ostiary/view.seen]] -/
@[simp] noncomputable def F58_r0 : CC := .reg [⟨some 4, none, (.move (.tmp 0))⟩,
  ⟨some 5, none, (.move (.tmp 0))⟩,
  ⟨some 6, none, (.call { callee := (.builtin .len), args := #[(.tmp 5)], argTypes := #[79] })⟩,
  ⟨some 7, none, (.move (.tmp 1))⟩,
  ⟨some 8, none, (.binOp .sub 3 (.tmp 6) (.tmp 7) 3)⟩,
  ⟨some 9, none, (.call { callee := (.value (.func 61)), args := #[(.tmp 4), (.tmp 8)], argTypes := #[79, 3] })⟩] []
noncomputable def F58 : CC := F58_r0
noncomputable def F58_inf : Nat → RI
  | 0 => ⟨[], [], []⟩
  | _ => ⟨[], [], []⟩
noncomputable def F58_c : Code := Try.f58.body.getD .skip
theorem F58_b : Try.f58.body = some F58_c := by kernel_rfl
theorem F58_rs : Try.f58.results.toList = ([] : List ResultVar) := by kernel_rfl
theorem F58_n : Try.f58.ntmps = 10 := by kernel_rfl
theorem F58_ok : toCC [] 10 F58_inf F58_c = some F58 := by kernel_rfl
theorem F58_in {args : List AV} {G : Hp} {post : AV → Hp → Prop} (ha : args.all AV.plain = true) (hn : args.length ≤ 10) (h : BDs args → awp Try.prog [] F58 (AEnds Try.prog [] post) (initT args) G) : ACalls Try.prog 58 args G post :=
  acalls_cc Try.func58 F58_b F58_rs F58_n F58_ok mixed ha hn h

/- 60 slices.rotateRight[ostiary/shelf.slot[int, int]] -/
@[simp] noncomputable def F60_r0 : CC := .reg [⟨some 4, none, (.move (.tmp 0))⟩,
  ⟨some 5, none, (.move (.tmp 0))⟩,
  ⟨some 6, none, (.call { callee := (.builtin .len), args := #[(.tmp 5)], argTypes := #[76] })⟩,
  ⟨some 7, none, (.move (.tmp 1))⟩,
  ⟨some 8, none, (.binOp .sub 3 (.tmp 6) (.tmp 7) 3)⟩,
  ⟨some 9, none, (.call { callee := (.value (.func 62)), args := #[(.tmp 4), (.tmp 8)], argTypes := #[76, 3] })⟩] []
noncomputable def F60 : CC := F60_r0
noncomputable def F60_inf : Nat → RI
  | 0 => ⟨[], [], []⟩
  | _ => ⟨[], [], []⟩
noncomputable def F60_c : Code := Try.f60.body.getD .skip
theorem F60_b : Try.f60.body = some F60_c := by kernel_rfl
theorem F60_rs : Try.f60.results.toList = ([] : List ResultVar) := by kernel_rfl
theorem F60_n : Try.f60.ntmps = 10 := by kernel_rfl
theorem F60_ok : toCC [] 10 F60_inf F60_c = some F60 := by kernel_rfl
theorem F60_in {args : List AV} {G : Hp} {post : AV → Hp → Prop} (ha : args.all AV.plain = true) (hn : args.length ≤ 10) (h : BDs args → awp Try.prog [] F60 (AEnds Try.prog [] post) (initT args) G) : ACalls Try.prog 60 args G post :=
  acalls_cc Try.func60 F60_b F60_rs F60_n F60_ok mixed ha hn h

/- 61 slices.rotateLeft[ostiary/shelf.slot[int, ostiary/view.seen]] -/
@[simp] noncomputable def F61_r0 : CC := .reg [⟨some 4, none, (.move (.tmp 0))⟩,
  ⟨some 5, none, (.move (.tmp 1))⟩,
  ⟨some 6, none, (.slice 79 (.tmp 4) none (some (.tmp 5)) none)⟩,
  ⟨some 7, none, (.call { callee := (.value (.func 63)), args := #[(.tmp 6)], argTypes := #[79] })⟩] [0, 1]
@[simp] noncomputable def F61_r1 : CC := .reg [⟨some 8, none, (.move (.tmp 0))⟩,
  ⟨some 9, none, (.move (.tmp 1))⟩,
  ⟨some 10, none, (.slice 79 (.tmp 8) (some (.tmp 9)) none none)⟩,
  ⟨some 11, none, (.call { callee := (.value (.func 63)), args := #[(.tmp 10)], argTypes := #[79] })⟩] [0]
@[simp] noncomputable def F61_r2 : CC := .reg [⟨some 12, none, (.move (.tmp 0))⟩,
  ⟨some 13, none, (.call { callee := (.value (.func 63)), args := #[(.tmp 12)], argTypes := #[79] })⟩] []
noncomputable def F61 : CC := (.seq F61_r0 (.seq F61_r1 F61_r2))
noncomputable def F61_inf : Nat → RI
  | 0 => ⟨[0, 1], [], []⟩
  | 1 => ⟨[0], [], []⟩
  | 2 => ⟨[], [], []⟩
  | _ => ⟨[], [], []⟩
noncomputable def F61_c : Code := Try.f61.body.getD .skip
theorem F61_b : Try.f61.body = some F61_c := by kernel_rfl
theorem F61_rs : Try.f61.results.toList = ([] : List ResultVar) := by kernel_rfl
theorem F61_n : Try.f61.ntmps = 14 := by kernel_rfl
theorem F61_ok : toCC [] 14 F61_inf F61_c = some F61 := by kernel_rfl
theorem F61_in {args : List AV} {G : Hp} {post : AV → Hp → Prop} (ha : args.all AV.plain = true) (hn : args.length ≤ 14) (h : BDs args → awp Try.prog [] F61 (AEnds Try.prog [] post) (initT args) G) : ACalls Try.prog 61 args G post :=
  acalls_cc Try.func61 F61_b F61_rs F61_n F61_ok mixed ha hn h

/- 62 slices.rotateLeft[ostiary/shelf.slot[int, int]] -/
@[simp] noncomputable def F62_r0 : CC := .reg [⟨some 4, none, (.move (.tmp 0))⟩,
  ⟨some 5, none, (.move (.tmp 1))⟩,
  ⟨some 6, none, (.slice 76 (.tmp 4) none (some (.tmp 5)) none)⟩,
  ⟨some 7, none, (.call { callee := (.value (.func 64)), args := #[(.tmp 6)], argTypes := #[76] })⟩] [0, 1]
@[simp] noncomputable def F62_r1 : CC := .reg [⟨some 8, none, (.move (.tmp 0))⟩,
  ⟨some 9, none, (.move (.tmp 1))⟩,
  ⟨some 10, none, (.slice 76 (.tmp 8) (some (.tmp 9)) none none)⟩,
  ⟨some 11, none, (.call { callee := (.value (.func 64)), args := #[(.tmp 10)], argTypes := #[76] })⟩] [0]
@[simp] noncomputable def F62_r2 : CC := .reg [⟨some 12, none, (.move (.tmp 0))⟩,
  ⟨some 13, none, (.call { callee := (.value (.func 64)), args := #[(.tmp 12)], argTypes := #[76] })⟩] []
noncomputable def F62 : CC := (.seq F62_r0 (.seq F62_r1 F62_r2))
noncomputable def F62_inf : Nat → RI
  | 0 => ⟨[0, 1], [], []⟩
  | 1 => ⟨[0], [], []⟩
  | 2 => ⟨[], [], []⟩
  | _ => ⟨[], [], []⟩
noncomputable def F62_c : Code := Try.f62.body.getD .skip
theorem F62_b : Try.f62.body = some F62_c := by kernel_rfl
theorem F62_rs : Try.f62.results.toList = ([] : List ResultVar) := by kernel_rfl
theorem F62_n : Try.f62.ntmps = 14 := by kernel_rfl
theorem F62_ok : toCC [] 14 F62_inf F62_c = some F62 := by kernel_rfl
theorem F62_in {args : List AV} {G : Hp} {post : AV → Hp → Prop} (ha : args.all AV.plain = true) (hn : args.length ≤ 14) (h : BDs args → awp Try.prog [] F62 (AEnds Try.prog [] post) (initT args) G) : ACalls Try.prog 62 args G post :=
  acalls_cc Try.func62 F62_b F62_rs F62_n F62_ok mixed ha hn h

/- 63 slices.Reverse[[]ostiary/shelf.slot[int, ostiary/view.seen],ostiary/shelf.slot[int, ostiary/view.seen]] -/
@[simp] noncomputable def F63_r0 : CC := .reg [⟨some 4, none, (.move (.tmp 0))⟩,
  ⟨some 5, none, (.call { callee := (.builtin .len), args := #[(.tmp 4)], argTypes := #[79] })⟩,
  ⟨some 6, none, (.binOp .sub 3 (.tmp 5) (.const (.int .i64 1)) 3)⟩,
  ⟨some 2, none, (.assign (.const (.int .i64 0)))⟩,
  ⟨some 3, none, (.assign (.tmp 6))⟩] [0, 2, 3]
@[simp] noncomputable def F63_r1 : CC := .reg [⟨some 7, none, (.move (.tmp 2))⟩,
  ⟨some 8, none, (.move (.tmp 3))⟩,
  ⟨some 9, none, (.binOp .lss 3 (.tmp 7) (.tmp 8) 3)⟩] [0, 2, 3, 9]
@[simp] noncomputable def F63_r3 : CC := .drw [⟨0, ⟨some 14, none, (.move (.tmp 0))⟩, [], []⟩,
  ⟨1, ⟨some 15, none, (.move (.tmp 2))⟩, [], []⟩,
  ⟨2, ⟨some 16, none, (.move (.tmp 0))⟩, [], []⟩,
  ⟨3, ⟨some 17, none, (.move (.tmp 3))⟩, [], []⟩,
  ⟨4, ⟨some 18, none, (.move (.tmp 0))⟩, [], []⟩,
  ⟨5, ⟨some 19, none, (.move (.tmp 3))⟩, [], []⟩,
  ⟨6, ⟨some 20, none, (.indexAddr 79 (.tmp 18) (.tmp 19))⟩, [], []⟩,
  ⟨7, ⟨some 21, none, (.load 87 (.tmp 20))⟩, [], []⟩,
  ⟨8, ⟨some 22, none, (.move (.tmp 0))⟩, [], []⟩,
  ⟨9, ⟨some 23, none, (.move (.tmp 2))⟩, [], []⟩,
  ⟨10, ⟨some 24, none, (.indexAddr 79 (.tmp 22) (.tmp 23))⟩, [], []⟩,
  ⟨11, ⟨some 25, none, (.load 87 (.tmp 24))⟩, [], []⟩,
  ⟨12, ⟨some 26, none, (.indexAddr 79 (.tmp 14) (.tmp 15))⟩, [], []⟩,
  ⟨13, ⟨none, none, (.store 87 (.tmp 26) (.tmp 21))⟩, [], []⟩,
  ⟨14, ⟨some 27, none, (.indexAddr 79 (.tmp 16) (.tmp 17))⟩, [], []⟩,
  ⟨15, ⟨none, none, (.store 87 (.tmp 27) (.tmp 25))⟩, [], []⟩] [14, 15, 16, 17, 18, 19, 20, 21, 22, 23, 24, 25, 26, 27] [0, 2, 3]
@[simp] noncomputable def F63_r2 : CC := .reg [⟨some 10, none, (.move (.tmp 2))⟩,
  ⟨some 11, none, (.binOp .add 3 (.tmp 10) (.const (.int .i64 1)) 3)⟩,
  ⟨some 12, none, (.move (.tmp 3))⟩,
  ⟨some 13, none, (.binOp .sub 3 (.tmp 12) (.const (.int .i64 1)) 3)⟩,
  ⟨some 2, none, (.assign (.tmp 11))⟩,
  ⟨some 3, none, (.assign (.tmp 13))⟩] [0, 2, 3]
noncomputable def F63_l0 : CC := (.seq (.seq F63_r1 (.cond (.tmp 9) .skip (.exit 0))) (.seq (.block 1 F63_r3) F63_r2))
noncomputable def F63 : CC := (.seq F63_r0 (.block 0 (.loop F63_l0)))
noncomputable def F63_inf : Nat → RI
  | 0 => ⟨[0, 2, 3], [], []⟩
  | 1 => ⟨[0, 2, 3, 9], [], []⟩
  | 3 => ⟨[0, 2, 3], [0, 0, 0, 0, 0, 0, 48, 112, 0, 0, 768, 1792, 4083, 8179, 16383, 32767], [(0, []), (1, []), (2, []), (3, []), (4, []), (5, []), (6, []), (7, []), (8, []), (9, []), (10, []), (11, []), (12, []), (13, []), (14, []), (15, [])]⟩
  | 2 => ⟨[0, 2, 3], [], []⟩
  | _ => ⟨[], [], []⟩
noncomputable def F63_c : Code := Try.f63.body.getD .skip
theorem F63_b : Try.f63.body = some F63_c := by kernel_rfl
theorem F63_rs : Try.f63.results.toList = ([] : List ResultVar) := by kernel_rfl
theorem F63_n : Try.f63.ntmps = 28 := by kernel_rfl
theorem F63_ok : toCC [] 28 F63_inf F63_c = some F63 := by kernel_rfl
theorem F63_in {args : List AV} {G : Hp} {post : AV → Hp → Prop} (ha : args.all AV.plain = true) (hn : args.length ≤ 28) (h : BDs args → awp Try.prog [] F63 (AEnds Try.prog [] post) (initT args) G) : ACalls Try.prog 63 args G post :=
  acalls_cc Try.func63 F63_b F63_rs F63_n F63_ok mixed ha hn h

/- 64 slices.Reverse[[]ostiary/shelf.slot[int, int],ostiary/shelf.slot[int, int]] -/
@[simp] noncomputable def F64_r0 : CC := .reg [⟨some 4, none, (.move (.tmp 0))⟩,
  ⟨some 5, none, (.call { callee := (.builtin .len), args := #[(.tmp 4)], argTypes := #[76] })⟩,
  ⟨some 6, none, (.binOp .sub 3 (.tmp 5) (.const (.int .i64 1)) 3)⟩,
  ⟨some 2, none, (.assign (.const (.int .i64 0)))⟩,
  ⟨some 3, none, (.assign (.tmp 6))⟩] [0, 2, 3]
@[simp] noncomputable def F64_r1 : CC := .reg [⟨some 7, none, (.move (.tmp 2))⟩,
  ⟨some 8, none, (.move (.tmp 3))⟩,
  ⟨some 9, none, (.binOp .lss 3 (.tmp 7) (.tmp 8) 3)⟩] [0, 2, 3, 9]
@[simp] noncomputable def F64_r3 : CC := .drw [⟨0, ⟨some 14, none, (.move (.tmp 0))⟩, [], []⟩,
  ⟨1, ⟨some 15, none, (.move (.tmp 2))⟩, [], []⟩,
  ⟨2, ⟨some 16, none, (.move (.tmp 0))⟩, [], []⟩,
  ⟨3, ⟨some 17, none, (.move (.tmp 3))⟩, [], []⟩,
  ⟨4, ⟨some 18, none, (.move (.tmp 0))⟩, [], []⟩,
  ⟨5, ⟨some 19, none, (.move (.tmp 3))⟩, [], []⟩,
  ⟨6, ⟨some 20, none, (.indexAddr 76 (.tmp 18) (.tmp 19))⟩, [], []⟩,
  ⟨7, ⟨some 21, none, (.load 89 (.tmp 20))⟩, [], []⟩,
  ⟨8, ⟨some 22, none, (.move (.tmp 0))⟩, [], []⟩,
  ⟨9, ⟨some 23, none, (.move (.tmp 2))⟩, [], []⟩,
  ⟨10, ⟨some 24, none, (.indexAddr 76 (.tmp 22) (.tmp 23))⟩, [], []⟩,
  ⟨11, ⟨some 25, none, (.load 89 (.tmp 24))⟩, [], []⟩,
  ⟨12, ⟨some 26, none, (.indexAddr 76 (.tmp 14) (.tmp 15))⟩, [], []⟩,
  ⟨13, ⟨none, none, (.store 89 (.tmp 26) (.tmp 21))⟩, [], []⟩,
  ⟨14, ⟨some 27, none, (.indexAddr 76 (.tmp 16) (.tmp 17))⟩, [], []⟩,
  ⟨15, ⟨none, none, (.store 89 (.tmp 27) (.tmp 25))⟩, [], []⟩] [14, 15, 16, 17, 18, 19, 20, 21, 22, 23, 24, 25, 26, 27] [0, 2, 3]
@[simp] noncomputable def F64_r2 : CC := .reg [⟨some 10, none, (.move (.tmp 2))⟩,
  ⟨some 11, none, (.binOp .add 3 (.tmp 10) (.const (.int .i64 1)) 3)⟩,
  ⟨some 12, none, (.move (.tmp 3))⟩,
  ⟨some 13, none, (.binOp .sub 3 (.tmp 12) (.const (.int .i64 1)) 3)⟩,
  ⟨some 2, none, (.assign (.tmp 11))⟩,
  ⟨some 3, none, (.assign (.tmp 13))⟩] [0, 2, 3]
noncomputable def F64_l0 : CC := (.seq (.seq F64_r1 (.cond (.tmp 9) .skip (.exit 0))) (.seq (.block 1 F64_r3) F64_r2))
noncomputable def F64 : CC := (.seq F64_r0 (.block 0 (.loop F64_l0)))
noncomputable def F64_inf : Nat → RI
  | 0 => ⟨[0, 2, 3], [], []⟩
  | 1 => ⟨[0, 2, 3, 9], [], []⟩
  | 3 => ⟨[0, 2, 3], [0, 0, 0, 0, 0, 0, 48, 112, 0, 0, 768, 1792, 4083, 8179, 16383, 32767], [(0, []), (1, []), (2, []), (3, []), (4, []), (5, []), (6, []), (7, []), (8, []), (9, []), (10, []), (11, []), (12, []), (13, []), (14, []), (15, [])]⟩
  | 2 => ⟨[0, 2, 3], [], []⟩
  | _ => ⟨[], [], []⟩
noncomputable def F64_c : Code := Try.f64.body.getD .skip
theorem F64_b : Try.f64.body = some F64_c := by kernel_rfl
theorem F64_rs : Try.f64.results.toList = ([] : List ResultVar) := by kernel_rfl
theorem F64_n : Try.f64.ntmps = 28 := by kernel_rfl
theorem F64_ok : toCC [] 28 F64_inf F64_c = some F64 := by kernel_rfl
theorem F64_in {args : List AV} {G : Hp} {post : AV → Hp → Prop} (ha : args.all AV.plain = true) (hn : args.length ≤ 28) (h : BDs args → awp Try.prog [] F64 (AEnds Try.prog [] post) (initT args) G) : ACalls Try.prog 64 args G post :=
  acalls_cc Try.func64 F64_b F64_rs F64_n F64_ok mixed ha hn h
end Go.Proofs.Ytapocekfkbkefaa
