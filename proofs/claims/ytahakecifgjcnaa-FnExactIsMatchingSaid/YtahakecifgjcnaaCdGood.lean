/- Slim code of this translation. By the kernel. -/
import Derived.Test.YtahakecifgjcnaaProg
import Derived.Test.YtahakecifgjcnaaAiM2
import Derived.KernelRfl
namespace Go.Proofs.Ytahakecifgjcnaa.Ai
open Go

/- loop.example/g01128/spec.l2Edge -/
def ords163 : List (Nat × List (Nat × Bool)) := []
def cd163 : Cd := (.seq (.reg [⟨⟨some 2, Op.box 66 (Operand.tmp 0), none⟩, []⟩,
  ⟨⟨some 3, Op.box 66 (Operand.tmp 1), none⟩, []⟩,
  ⟨⟨some 4, Op.assign (Operand.const (Value.bool false)), none⟩, []⟩]) (.seq (.reg [⟨⟨some 5, Op.indexAddr 66 (Operand.tmp 2) (Operand.const (Value.int IntKind.i64 0)), none⟩, []⟩,
  ⟨⟨some 6, Op.load 3 (Operand.tmp 5), none⟩, []⟩,
  ⟨⟨some 7, Op.indexAddr 66 (Operand.tmp 3) (Operand.const (Value.int IntKind.i64 0)), none⟩, []⟩,
  ⟨⟨some 8, Op.load 3 (Operand.tmp 7), none⟩, []⟩,
  ⟨⟨some 9, Op.binOp BinOp.lss 3 (Operand.tmp 6) (Operand.tmp 8) 3, none⟩, []⟩,
  ⟨⟨some 10, Op.move (Operand.tmp 9), none⟩, []⟩,
  ⟨⟨some 11, Op.indexAddr 66 (Operand.tmp 2) (Operand.const (Value.int IntKind.i64 0)), some (10, false)⟩, []⟩,
  ⟨⟨some 12, Op.load 3 (Operand.tmp 11), some (10, false)⟩, []⟩,
  ⟨⟨some 13, Op.indexAddr 66 (Operand.tmp 3) (Operand.const (Value.int IntKind.i64 0)), some (10, false)⟩, []⟩,
  ⟨⟨some 14, Op.load 3 (Operand.tmp 13), some (10, false)⟩, []⟩,
  ⟨⟨some 15, Op.binOp BinOp.eql 3 (Operand.tmp 12) (Operand.tmp 14) 3, some (10, false)⟩, []⟩,
  ⟨⟨some 16, Op.move (Operand.tmp 15), some (10, false)⟩, []⟩,
  ⟨⟨some 17, Op.indexAddr 66 (Operand.tmp 2) (Operand.const (Value.int IntKind.i64 1)), some (16, true)⟩, []⟩,
  ⟨⟨some 18, Op.load 3 (Operand.tmp 17), some (16, true)⟩, []⟩,
  ⟨⟨some 19, Op.indexAddr 66 (Operand.tmp 3) (Operand.const (Value.int IntKind.i64 1)), some (16, true)⟩, []⟩,
  ⟨⟨some 20, Op.load 3 (Operand.tmp 19), some (16, true)⟩, []⟩,
  ⟨⟨some 21, Op.binOp BinOp.lss 3 (Operand.tmp 18) (Operand.tmp 20) 3, some (16, true)⟩, []⟩,
  ⟨⟨some 22, Op.pick (Operand.tmp 16) (Operand.tmp 21) (Operand.const (Value.bool false)), some (10, false)⟩, []⟩,
  ⟨⟨some 23, Op.pick (Operand.tmp 10) (Operand.const (Value.bool true)) (Operand.tmp 22), none⟩, []⟩,
  ⟨⟨some 4, Op.assign (Operand.tmp 23), none⟩, []⟩]) .ret))
theorem sl163 : slim Try.f163.ntmps ords163 (Try.f163.body.getD .skip) = some cd163 := by kernel_rfl
theorem in163 {args : List Value} {H : AH} {R : Value → AH → Prop} (hl : args.length = 2) (h : ∀ (Q : Exit → Sl → AH → Prop), (∀ e s H, endA Try.prog [ResultVar.tmp 4] R e s H → Q e s H) → wpC Try.prog cd163 Q (enterA args) H) : ACalls Try.prog 163 args H R :=
  ACalls.intro (by kernel_rfl) Try.func163 rfl (by kernel_rfl) sl163 hl (of_decide_eq_true (by kernel_rfl)) (by kernel_rfl) h

/- cmp.Compare[int] -/
def ords168 : List (Nat × List (Nat × Bool)) := []
def cd168 : Cd := (.seq (.reg [⟨⟨some 4, Op.assign (Operand.const (Value.int IntKind.i64 0)), none⟩, []⟩]) (.seq (.reg [⟨⟨some 7, Op.move (Operand.tmp 0), none⟩, []⟩,
  ⟨⟨some 8, Op.call { callee := (Callee.value (Operand.func 192)), args := #[(Operand.tmp 7)], argTypes := #[3] }, none⟩, []⟩,
  ⟨⟨some 5, Op.assign (Operand.tmp 8), none⟩, []⟩]) (.seq (.reg [⟨⟨some 9, Op.move (Operand.tmp 1), none⟩, []⟩,
  ⟨⟨some 10, Op.call { callee := (Callee.value (Operand.func 192)), args := #[(Operand.tmp 9)], argTypes := #[3] }, none⟩, []⟩,
  ⟨⟨some 6, Op.assign (Operand.tmp 10), none⟩, []⟩]) (.seq (.seq (.reg [⟨⟨some 11, Op.move (Operand.tmp 5), none⟩, []⟩]) (.cond (Operand.tmp 11) (.seq (.seq (.reg [⟨⟨some 12, Op.move (Operand.tmp 6), none⟩, []⟩]) (.cond (Operand.tmp 12) (.seq (.reg [⟨⟨some 4, Op.assign (Operand.const (Value.int IntKind.i64 0)), none⟩, []⟩]) .ret) .skip)) (.seq (.reg [⟨⟨some 4, Op.assign (Operand.const (Value.int IntKind.i64 (-1))), none⟩, []⟩]) .ret)) .skip)) (.seq (.seq (.reg [⟨⟨some 13, Op.move (Operand.tmp 6), none⟩, []⟩]) (.cond (Operand.tmp 13) (.seq (.reg [⟨⟨some 4, Op.assign (Operand.const (Value.int IntKind.i64 1)), none⟩, []⟩]) .ret) .skip)) (.seq (.seq (.reg [⟨⟨some 14, Op.move (Operand.tmp 0), none⟩, []⟩,
  ⟨⟨some 15, Op.move (Operand.tmp 1), none⟩, []⟩,
  ⟨⟨some 16, Op.binOp BinOp.lss 3 (Operand.tmp 14) (Operand.tmp 15) 3, none⟩, []⟩]) (.cond (Operand.tmp 16) (.seq (.reg [⟨⟨some 4, Op.assign (Operand.const (Value.int IntKind.i64 (-1))), none⟩, []⟩]) .ret) .skip)) (.seq (.seq (.reg [⟨⟨some 17, Op.move (Operand.tmp 0), none⟩, []⟩,
  ⟨⟨some 18, Op.move (Operand.tmp 1), none⟩, []⟩,
  ⟨⟨some 19, Op.binOp BinOp.gtr 3 (Operand.tmp 17) (Operand.tmp 18) 3, none⟩, []⟩]) (.cond (Operand.tmp 19) (.seq (.reg [⟨⟨some 4, Op.assign (Operand.const (Value.int IntKind.i64 1)), none⟩, []⟩]) .ret) .skip)) (.seq (.reg [⟨⟨some 4, Op.assign (Operand.const (Value.int IntKind.i64 0)), none⟩, []⟩]) .ret))))))))
theorem sl168 : slim Try.f168.ntmps ords168 (Try.f168.body.getD .skip) = some cd168 := by kernel_rfl
theorem in168 {args : List Value} {H : AH} {R : Value → AH → Prop} (hl : args.length = 2) (h : ∀ (Q : Exit → Sl → AH → Prop), (∀ e s H, endA Try.prog [ResultVar.tmp 4] R e s H → Q e s H) → wpC Try.prog cd168 Q (enterA args) H) : ACalls Try.prog 168 args H R :=
  ACalls.intro (by kernel_rfl) Try.func168 rfl (by kernel_rfl) sl168 hl (of_decide_eq_true (by kernel_rfl)) (by kernel_rfl) h

/- cmp.Or[int] -/
def ords183 : List (Nat × List (Nat × Bool)) := []
def cd183 : Cd := (.seq (.reg [⟨⟨some 2, Op.assign (Operand.const (Value.int IntKind.i64 0)), none⟩, []⟩]) (.seq (.reg [⟨⟨some 3, Op.assign (Operand.const (Value.int IntKind.i64 0)), none⟩, []⟩]) (.seq (.seq (.reg [⟨⟨some 6, Op.move (Operand.tmp 0), none⟩, []⟩,
  ⟨⟨some 7, Op.call { callee := (Callee.builtin Builtin.len), args := #[(Operand.tmp 6)], argTypes := #[22] }, none⟩, []⟩,
  ⟨⟨some 8, Op.move (Operand.const (Value.int IntKind.i64 0)), none⟩, []⟩]) (.block 0 (.loop (.seq (.reg [⟨⟨some 9, Op.binOp BinOp.lss 3 (Operand.tmp 8) (Operand.tmp 7) 3, none⟩, []⟩]) (.seq (.cond (Operand.tmp 9) .skip (.exit 0)) (.seq (.block 1 (.seq (.reg [⟨⟨some 10, Op.indexAddr 22 (Operand.tmp 6) (Operand.tmp 8), none⟩, []⟩,
  ⟨⟨some 11, Op.load 3 (Operand.tmp 10), none⟩, []⟩,
  ⟨⟨some 5, Op.assign (Operand.tmp 11), none⟩, []⟩]) (.seq (.reg [⟨⟨some 12, Op.move (Operand.tmp 5), none⟩, []⟩,
  ⟨⟨some 13, Op.move (Operand.tmp 3), none⟩, []⟩,
  ⟨⟨some 14, Op.binOp BinOp.neq 3 (Operand.tmp 12) (Operand.tmp 13) 3, none⟩, []⟩]) (.cond (Operand.tmp 14) (.seq (.reg [⟨⟨some 15, Op.move (Operand.tmp 5), none⟩, []⟩,
  ⟨⟨some 2, Op.assign (Operand.tmp 15), none⟩, []⟩]) .ret) .skip)))) (.reg [⟨⟨some 16, Op.binOp BinOp.add 3 (Operand.tmp 8) (Operand.const (Value.int IntKind.i64 1)) 3, none⟩, []⟩,
  ⟨⟨some 8, Op.move (Operand.tmp 16), none⟩, []⟩]))))))) (.seq (.reg [⟨⟨some 17, Op.move (Operand.tmp 3), none⟩, []⟩,
  ⟨⟨some 2, Op.assign (Operand.tmp 17), none⟩, []⟩]) .ret))))
theorem sl183 : slim Try.f183.ntmps ords183 (Try.f183.body.getD .skip) = some cd183 := by kernel_rfl
theorem in183 {args : List Value} {H : AH} {R : Value → AH → Prop} (hl : args.length = 1) (h : ∀ (Q : Exit → Sl → AH → Prop), (∀ e s H, endA Try.prog [ResultVar.tmp 2] R e s H → Q e s H) → wpC Try.prog cd183 Q (enterA args) H) : ACalls Try.prog 183 args H R :=
  ACalls.intro (by kernel_rfl) Try.func183 rfl (by kernel_rfl) sl183 hl (of_decide_eq_true (by kernel_rfl)) (by kernel_rfl) h

/- loop.example/g01128/impl.comparePairs -/
def ords164 : List (Nat × List (Nat × Bool)) := [(1, [(0, false), (1, false), (2, false), (3, false), (5, false), (6, false), (7, false), (8, false), (4, true), (9, true), (10, false), (11, true), (12, false)])]
def cd164 : Cd := (.seq (.reg [⟨⟨some 2, Op.box 66 (Operand.tmp 0), none⟩, []⟩,
  ⟨⟨some 3, Op.box 66 (Operand.tmp 1), none⟩, []⟩,
  ⟨⟨some 4, Op.assign (Operand.const (Value.int IntKind.i64 0)), none⟩, []⟩]) (.seq (.reg [⟨⟨some 5, Op.indexAddr 66 (Operand.tmp 2) (Operand.const (Value.int IntKind.i64 0)), none⟩, []⟩,
  ⟨⟨some 6, Op.load 3 (Operand.tmp 5), none⟩, []⟩,
  ⟨⟨some 7, Op.indexAddr 66 (Operand.tmp 3) (Operand.const (Value.int IntKind.i64 0)), none⟩, []⟩,
  ⟨⟨some 8, Op.load 3 (Operand.tmp 7), none⟩, []⟩,
  ⟨⟨some 10, Op.indexAddr 66 (Operand.tmp 2) (Operand.const (Value.int IntKind.i64 1)), none⟩, []⟩,
  ⟨⟨some 11, Op.load 3 (Operand.tmp 10), none⟩, []⟩,
  ⟨⟨some 12, Op.indexAddr 66 (Operand.tmp 3) (Operand.const (Value.int IntKind.i64 1)), none⟩, []⟩,
  ⟨⟨some 13, Op.load 3 (Operand.tmp 12), none⟩, []⟩,
  ⟨⟨some 9, Op.call { callee := (Callee.value (Operand.func 168)), args := #[(Operand.tmp 6), (Operand.tmp 8)], argTypes := #[3, 3] }, none⟩, [⟨some 13, Op.load 3 (Operand.tmp 12), none⟩, ⟨some 11, Op.load 3 (Operand.tmp 10), none⟩]⟩,
  ⟨⟨some 14, Op.call { callee := (Callee.value (Operand.func 168)), args := #[(Operand.tmp 11), (Operand.tmp 13)], argTypes := #[3, 3] }, none⟩, []⟩,
  ⟨⟨some 15, Op.buildSlice 22 2 #[(0, (Operand.tmp 9)), (1, (Operand.tmp 14))], none⟩, []⟩,
  ⟨⟨some 16, Op.call { callee := (Callee.value (Operand.func 183)), args := #[(Operand.tmp 15)], argTypes := #[22] }, none⟩, []⟩,
  ⟨⟨some 4, Op.assign (Operand.tmp 16), none⟩, []⟩]) .ret))
theorem sl164 : slim Try.f164.ntmps ords164 (Try.f164.body.getD .skip) = some cd164 := by kernel_rfl
theorem in164 {args : List Value} {H : AH} {R : Value → AH → Prop} (hl : args.length = 2) (h : ∀ (Q : Exit → Sl → AH → Prop), (∀ e s H, endA Try.prog [ResultVar.tmp 4] R e s H → Q e s H) → wpC Try.prog cd164 Q (enterA args) H) : ACalls Try.prog 164 args H R :=
  ACalls.intro (by kernel_rfl) Try.func164 rfl (by kernel_rfl) sl164 hl (of_decide_eq_true (by kernel_rfl)) (by kernel_rfl) h

/- loop.example/g01128/spec.l2Pairs -/
def ords129 : List (Nat × List (Nat × Bool)) := [(5, [(0, false), (1, false), (2, false), (3, false), (4, true), (5, false), (6, false), (7, false), (8, false), (9, false), (10, false), (11, true), (12, false), (13, false), (14, false), (15, false), (16, false), (17, false), (18, false), (19, false), (20, false), (21, false), (22, false), (23, false), (24, false), (25, false), (26, false), (27, false), (28, false), (29, false), (30, false), (31, true), (32, false), (33, false), (34, false)])]
def cd129 : Cd := (.seq (.reg [⟨⟨some 4, Op.assign (Operand.const (Value.bool false)), none⟩, []⟩]) (.seq (.seq (.reg [⟨⟨some 5, Op.assign (Operand.const (Value.int IntKind.i64 0)), none⟩, []⟩]) (.block 0 (.loop (.seq (.seq (.reg [⟨⟨some 7, Op.move (Operand.tmp 5), none⟩, []⟩,
  ⟨⟨some 8, Op.move (Operand.tmp 0), none⟩, []⟩,
  ⟨⟨some 9, Op.call { callee := (Callee.builtin Builtin.len), args := #[(Operand.tmp 8)], argTypes := #[23] }, none⟩, []⟩,
  ⟨⟨some 10, Op.binOp BinOp.lss 3 (Operand.tmp 7) (Operand.tmp 9) 3, none⟩, []⟩]) (.cond (Operand.tmp 10) .skip (.exit 0))) (.seq (.block 1 (.seq (.reg [⟨⟨some 13, Op.move (Operand.tmp 0), none⟩, []⟩,
  ⟨⟨some 14, Op.move (Operand.tmp 5), none⟩, []⟩,
  ⟨⟨some 15, Op.indexAddr 23 (Operand.tmp 13) (Operand.tmp 14), none⟩, []⟩,
  ⟨⟨some 16, Op.load 66 (Operand.tmp 15), none⟩, []⟩,
  ⟨⟨some 6, Op.alloc 66, none⟩, []⟩,
  ⟨⟨none, Op.store 66 (Operand.tmp 6) (Operand.tmp 16), none⟩, []⟩]) (.seq (.reg [⟨⟨some 17, Op.indexAddr 66 (Operand.tmp 6) (Operand.const (Value.int IntKind.i64 0)), none⟩, []⟩,
  ⟨⟨some 18, Op.load 3 (Operand.tmp 17), none⟩, []⟩,
  ⟨⟨some 19, Op.move (Operand.tmp 1), none⟩, []⟩,
  ⟨⟨some 20, Op.binOp BinOp.sub 3 (Operand.tmp 19) (Operand.const (Value.int IntKind.i64 1)) 3, none⟩, []⟩,
  ⟨⟨some 21, Op.call { callee := (Callee.value (Operand.func 128)), args := #[(Operand.tmp 18), (Operand.const (Value.int IntKind.i64 0)), (Operand.tmp 20)], argTypes := #[3, 3, 3] }, none⟩, []⟩,
  ⟨⟨some 22, Op.unOp UnOp.not 4 (Operand.tmp 21), none⟩, []⟩,
  ⟨⟨some 23, Op.move (Operand.tmp 22), none⟩, []⟩,
  ⟨⟨some 24, Op.indexAddr 66 (Operand.tmp 6) (Operand.const (Value.int IntKind.i64 1)), some (23, false)⟩, []⟩,
  ⟨⟨some 25, Op.load 3 (Operand.tmp 24), some (23, false)⟩, []⟩,
  ⟨⟨some 26, Op.move (Operand.tmp 1), some (23, false)⟩, []⟩,
  ⟨⟨some 27, Op.binOp BinOp.sub 3 (Operand.tmp 26) (Operand.const (Value.int IntKind.i64 1)) 3, some (23, false)⟩, []⟩,
  ⟨⟨some 28, Op.call { callee := (Callee.value (Operand.func 128)), args := #[(Operand.tmp 25), (Operand.const (Value.int IntKind.i64 0)), (Operand.tmp 27)], argTypes := #[3, 3, 3] }, some (23, false)⟩, []⟩,
  ⟨⟨some 29, Op.unOp UnOp.not 4 (Operand.tmp 28), some (23, false)⟩, []⟩,
  ⟨⟨some 30, Op.pick (Operand.tmp 23) (Operand.const (Value.bool true)) (Operand.tmp 29), none⟩, []⟩,
  ⟨⟨some 31, Op.move (Operand.tmp 30), none⟩, []⟩,
  ⟨⟨some 32, Op.indexAddr 66 (Operand.tmp 6) (Operand.const (Value.int IntKind.i64 0)), some (31, false)⟩, []⟩,
  ⟨⟨some 33, Op.load 3 (Operand.tmp 32), some (31, false)⟩, []⟩,
  ⟨⟨some 34, Op.indexAddr 66 (Operand.tmp 6) (Operand.const (Value.int IntKind.i64 1)), some (31, false)⟩, []⟩,
  ⟨⟨some 35, Op.load 3 (Operand.tmp 34), some (31, false)⟩, []⟩,
  ⟨⟨some 36, Op.binOp BinOp.geq 3 (Operand.tmp 33) (Operand.tmp 35) 3, some (31, false)⟩, []⟩,
  ⟨⟨some 37, Op.pick (Operand.tmp 31) (Operand.const (Value.bool true)) (Operand.tmp 36), none⟩, []⟩,
  ⟨⟨some 38, Op.move (Operand.tmp 37), none⟩, []⟩,
  ⟨⟨some 39, Op.move (Operand.tmp 5), some (38, false)⟩, []⟩,
  ⟨⟨some 40, Op.binOp BinOp.gtr 3 (Operand.tmp 39) (Operand.const (Value.int IntKind.i64 0)) 3, some (38, false)⟩, []⟩,
  ⟨⟨some 41, Op.move (Operand.tmp 40), some (38, false)⟩, []⟩,
  ⟨⟨some 42, Op.move (Operand.tmp 0), some (41, true)⟩, []⟩,
  ⟨⟨some 43, Op.move (Operand.tmp 5), some (41, true)⟩, []⟩,
  ⟨⟨some 44, Op.binOp BinOp.sub 3 (Operand.tmp 43) (Operand.const (Value.int IntKind.i64 1)) 3, some (41, true)⟩, []⟩,
  ⟨⟨some 45, Op.indexAddr 23 (Operand.tmp 42) (Operand.tmp 44), some (41, true)⟩, []⟩,
  ⟨⟨some 46, Op.load 66 (Operand.tmp 45), some (41, true)⟩, []⟩,
  ⟨⟨some 47, Op.load 66 (Operand.tmp 6), some (41, true)⟩, []⟩,
  ⟨⟨some 48, Op.call { callee := (Callee.value (Operand.func 163)), args := #[(Operand.tmp 46), (Operand.tmp 47)], argTypes := #[66, 66] }, some (41, true)⟩, []⟩,
  ⟨⟨some 49, Op.unOp UnOp.not 4 (Operand.tmp 48), some (41, true)⟩, []⟩,
  ⟨⟨some 50, Op.pick (Operand.tmp 41) (Operand.tmp 49) (Operand.const (Value.bool false)), some (38, false)⟩, []⟩,
  ⟨⟨some 51, Op.pick (Operand.tmp 38) (Operand.const (Value.bool true)) (Operand.tmp 50), none⟩, []⟩]) (.cond (Operand.tmp 51) (.seq (.reg [⟨⟨some 4, Op.assign (Operand.const (Value.bool false)), none⟩, []⟩]) .ret) .skip)))) (.reg [⟨⟨some 11, Op.move (Operand.tmp 5), none⟩, []⟩,
  ⟨⟨some 12, Op.binOp BinOp.add 3 (Operand.tmp 11) (Operand.const (Value.int IntKind.i64 1)) 3, none⟩, []⟩,
  ⟨⟨some 5, Op.assign (Operand.tmp 12), none⟩, []⟩])))))) (.seq (.reg [⟨⟨some 4, Op.assign (Operand.const (Value.bool true)), none⟩, []⟩]) .ret)))
theorem sl129 : slim Try.f129.ntmps ords129 (Try.f129.body.getD .skip) = some cd129 := by kernel_rfl
theorem in129 {args : List Value} {H : AH} {R : Value → AH → Prop} (hl : args.length = 2) (h : ∀ (Q : Exit → Sl → AH → Prop), (∀ e s H, endA Try.prog [ResultVar.tmp 4] R e s H → Q e s H) → wpC Try.prog cd129 Q (enterA args) H) : ACalls Try.prog 129 args H R :=
  ACalls.intro (by kernel_rfl) Try.func129 rfl (by kernel_rfl) sl129 hl (of_decide_eq_true (by kernel_rfl)) (by kernel_rfl) h

/- loop.example/g01128/impl.isPairs -/
def ords131 : List (Nat × List (Nat × Bool)) := [(4, [(0, false), (1, false), (2, false), (3, false), (4, false), (5, false), (6, false), (7, false), (8, false), (9, false), (10, false), (11, false), (12, false), (13, false), (14, false), (15, false), (16, false), (17, false), (18, false), (19, false), (20, false), (21, false), (22, false), (23, false), (24, false), (25, false), (26, true), (27, false), (28, false), (29, false)])]
def cd131 : Cd := (.seq (.reg [⟨⟨some 4, Op.assign (Operand.const (Value.bool false)), none⟩, []⟩]) (.seq (.seq (.reg [⟨⟨some 7, Op.move (Operand.tmp 0), none⟩, []⟩,
  ⟨⟨some 8, Op.call { callee := (Callee.builtin Builtin.len), args := #[(Operand.tmp 7)], argTypes := #[23] }, none⟩, []⟩,
  ⟨⟨some 9, Op.move (Operand.const (Value.int IntKind.i64 0)), none⟩, []⟩]) (.block 0 (.loop (.seq (.reg [⟨⟨some 10, Op.binOp BinOp.lss 3 (Operand.tmp 9) (Operand.tmp 8) 3, none⟩, []⟩]) (.seq (.cond (Operand.tmp 10) .skip (.exit 0)) (.seq (.block 1 (.seq (.reg [⟨⟨some 11, Op.move (Operand.tmp 9), none⟩, []⟩,
  ⟨⟨some 12, Op.indexAddr 23 (Operand.tmp 7) (Operand.tmp 9), none⟩, []⟩,
  ⟨⟨some 13, Op.load 66 (Operand.tmp 12), none⟩, []⟩,
  ⟨⟨some 6, Op.alloc 66, none⟩, []⟩,
  ⟨⟨some 5, Op.assign (Operand.tmp 11), none⟩, []⟩,
  ⟨⟨none, Op.store 66 (Operand.tmp 6) (Operand.tmp 13), none⟩, []⟩]) (.seq (.reg [⟨⟨some 14, Op.indexAddr 66 (Operand.tmp 6) (Operand.const (Value.int IntKind.i64 0)), none⟩, []⟩,
  ⟨⟨some 15, Op.load 3 (Operand.tmp 14), none⟩, []⟩,
  ⟨⟨some 16, Op.binOp BinOp.lss 3 (Operand.tmp 15) (Operand.const (Value.int IntKind.i64 0)) 3, none⟩, []⟩,
  ⟨⟨some 17, Op.move (Operand.tmp 16), none⟩, []⟩,
  ⟨⟨some 18, Op.indexAddr 66 (Operand.tmp 6) (Operand.const (Value.int IntKind.i64 0)), some (17, false)⟩, []⟩,
  ⟨⟨some 19, Op.load 3 (Operand.tmp 18), some (17, false)⟩, []⟩,
  ⟨⟨some 20, Op.indexAddr 66 (Operand.tmp 6) (Operand.const (Value.int IntKind.i64 1)), some (17, false)⟩, []⟩,
  ⟨⟨some 21, Op.load 3 (Operand.tmp 20), some (17, false)⟩, []⟩,
  ⟨⟨some 22, Op.binOp BinOp.geq 3 (Operand.tmp 19) (Operand.tmp 21) 3, some (17, false)⟩, []⟩,
  ⟨⟨some 23, Op.pick (Operand.tmp 17) (Operand.const (Value.bool true)) (Operand.tmp 22), none⟩, []⟩,
  ⟨⟨some 24, Op.move (Operand.tmp 23), none⟩, []⟩,
  ⟨⟨some 25, Op.indexAddr 66 (Operand.tmp 6) (Operand.const (Value.int IntKind.i64 1)), some (24, false)⟩, []⟩,
  ⟨⟨some 26, Op.load 3 (Operand.tmp 25), some (24, false)⟩, []⟩,
  ⟨⟨some 27, Op.move (Operand.tmp 1), some (24, false)⟩, []⟩,
  ⟨⟨some 28, Op.binOp BinOp.geq 3 (Operand.tmp 26) (Operand.tmp 27) 3, some (24, false)⟩, []⟩,
  ⟨⟨some 29, Op.pick (Operand.tmp 24) (Operand.const (Value.bool true)) (Operand.tmp 28), none⟩, []⟩,
  ⟨⟨some 30, Op.move (Operand.tmp 29), none⟩, []⟩,
  ⟨⟨some 31, Op.move (Operand.tmp 5), some (30, false)⟩, []⟩,
  ⟨⟨some 32, Op.binOp BinOp.gtr 3 (Operand.tmp 31) (Operand.const (Value.int IntKind.i64 0)) 3, some (30, false)⟩, []⟩,
  ⟨⟨some 33, Op.move (Operand.tmp 32), some (30, false)⟩, []⟩,
  ⟨⟨some 34, Op.move (Operand.tmp 0), some (33, true)⟩, []⟩,
  ⟨⟨some 35, Op.move (Operand.tmp 5), some (33, true)⟩, []⟩,
  ⟨⟨some 36, Op.binOp BinOp.sub 3 (Operand.tmp 35) (Operand.const (Value.int IntKind.i64 1)) 3, some (33, true)⟩, []⟩,
  ⟨⟨some 37, Op.indexAddr 23 (Operand.tmp 34) (Operand.tmp 36), some (33, true)⟩, []⟩,
  ⟨⟨some 38, Op.load 66 (Operand.tmp 37), some (33, true)⟩, []⟩,
  ⟨⟨some 39, Op.load 66 (Operand.tmp 6), some (33, true)⟩, []⟩,
  ⟨⟨some 40, Op.call { callee := (Callee.value (Operand.func 164)), args := #[(Operand.tmp 38), (Operand.tmp 39)], argTypes := #[66, 66] }, some (33, true)⟩, []⟩,
  ⟨⟨some 41, Op.binOp BinOp.geq 3 (Operand.tmp 40) (Operand.const (Value.int IntKind.i64 0)) 3, some (33, true)⟩, []⟩,
  ⟨⟨some 42, Op.pick (Operand.tmp 33) (Operand.tmp 41) (Operand.const (Value.bool false)), some (30, false)⟩, []⟩,
  ⟨⟨some 43, Op.pick (Operand.tmp 30) (Operand.const (Value.bool true)) (Operand.tmp 42), none⟩, []⟩]) (.cond (Operand.tmp 43) (.seq (.reg [⟨⟨some 4, Op.assign (Operand.const (Value.bool false)), none⟩, []⟩]) .ret) .skip)))) (.reg [⟨⟨some 44, Op.binOp BinOp.add 3 (Operand.tmp 9) (Operand.const (Value.int IntKind.i64 1)) 3, none⟩, []⟩,
  ⟨⟨some 9, Op.move (Operand.tmp 44), none⟩, []⟩]))))))) (.seq (.reg [⟨⟨some 4, Op.assign (Operand.const (Value.bool true)), none⟩, []⟩]) .ret)))
theorem sl131 : slim Try.f131.ntmps ords131 (Try.f131.body.getD .skip) = some cd131 := by kernel_rfl
theorem in131 {args : List Value} {H : AH} {R : Value → AH → Prop} (hl : args.length = 2) (h : ∀ (Q : Exit → Sl → AH → Prop), (∀ e s H, endA Try.prog [ResultVar.tmp 4] R e s H → Q e s H) → wpC Try.prog cd131 Q (enterA args) H) : ACalls Try.prog 131 args H R :=
  ACalls.intro (by kernel_rfl) Try.func131 rfl (by kernel_rfl) sl131 hl (of_decide_eq_true (by kernel_rfl)) (by kernel_rfl) h

/- loop.example/g01128/spec.l2Good -/
def ords78 : List (Nat × List (Nat × Bool)) := []
def cd78 : Cd := (.seq (.reg [⟨⟨some 1, Op.box 41 (Operand.tmp 0), none⟩, []⟩,
  ⟨⟨some 2, Op.assign (Operand.const (Value.bool false)), none⟩, []⟩]) (.seq (.reg [⟨⟨some 3, Op.fieldAddr 41 (Operand.tmp 1) 0, none⟩, []⟩,
  ⟨⟨some 4, Op.load 3 (Operand.tmp 3), none⟩, []⟩,
  ⟨⟨some 5, Op.call { callee := (Callee.value (Operand.func 128)), args := #[(Operand.tmp 4), (Operand.const (Value.int IntKind.i64 0)), (Operand.const (Value.int IntKind.i64 8))], argTypes := #[3, 3, 3] }, none⟩, []⟩,
  ⟨⟨some 6, Op.move (Operand.tmp 5), none⟩, []⟩,
  ⟨⟨some 7, Op.fieldAddr 41 (Operand.tmp 1) 1, some (6, true)⟩, []⟩,
  ⟨⟨some 8, Op.load 23 (Operand.tmp 7), some (6, true)⟩, []⟩,
  ⟨⟨some 9, Op.fieldAddr 41 (Operand.tmp 1) 0, some (6, true)⟩, []⟩,
  ⟨⟨some 10, Op.load 3 (Operand.tmp 9), some (6, true)⟩, []⟩,
  ⟨⟨some 11, Op.call { callee := (Callee.value (Operand.func 129)), args := #[(Operand.tmp 8), (Operand.tmp 10)], argTypes := #[23, 3] }, some (6, true)⟩, []⟩,
  ⟨⟨some 12, Op.pick (Operand.tmp 6) (Operand.tmp 11) (Operand.const (Value.bool false)), none⟩, []⟩,
  ⟨⟨some 2, Op.assign (Operand.tmp 12), none⟩, []⟩]) .ret))
theorem sl78 : slim Try.f78.ntmps ords78 (Try.f78.body.getD .skip) = some cd78 := by kernel_rfl
theorem in78 {args : List Value} {H : AH} {R : Value → AH → Prop} (hl : args.length = 1) (h : ∀ (Q : Exit → Sl → AH → Prop), (∀ e s H, endA Try.prog [ResultVar.tmp 2] R e s H → Q e s H) → wpC Try.prog cd78 Q (enterA args) H) : ACalls Try.prog 78 args H R :=
  ACalls.intro (by kernel_rfl) Try.func78 rfl (by kernel_rfl) sl78 hl (of_decide_eq_true (by kernel_rfl)) (by kernel_rfl) h

/- loop.example/g01128/impl.IsGraph -/
def ords80 : List (Nat × List (Nat × Bool)) := []
def cd80 : Cd := (.seq (.reg [⟨⟨some 1, Op.box 41 (Operand.tmp 0), none⟩, []⟩,
  ⟨⟨some 2, Op.assign (Operand.const (Value.bool false)), none⟩, []⟩]) (.seq (.reg [⟨⟨some 3, Op.fieldAddr 41 (Operand.tmp 1) 0, none⟩, []⟩,
  ⟨⟨some 4, Op.load 3 (Operand.tmp 3), none⟩, []⟩,
  ⟨⟨some 5, Op.call { callee := (Callee.value (Operand.func 130)), args := #[(Operand.tmp 4), (Operand.const (Value.int IntKind.i64 0)), (Operand.const (Value.int IntKind.i64 8))], argTypes := #[3, 3, 3] }, none⟩, []⟩,
  ⟨⟨some 6, Op.move (Operand.tmp 5), none⟩, []⟩,
  ⟨⟨some 7, Op.fieldAddr 41 (Operand.tmp 1) 1, some (6, true)⟩, []⟩,
  ⟨⟨some 8, Op.load 23 (Operand.tmp 7), some (6, true)⟩, []⟩,
  ⟨⟨some 9, Op.fieldAddr 41 (Operand.tmp 1) 0, some (6, true)⟩, []⟩,
  ⟨⟨some 10, Op.load 3 (Operand.tmp 9), some (6, true)⟩, []⟩,
  ⟨⟨some 11, Op.call { callee := (Callee.value (Operand.func 131)), args := #[(Operand.tmp 8), (Operand.tmp 10)], argTypes := #[23, 3] }, some (6, true)⟩, []⟩,
  ⟨⟨some 12, Op.pick (Operand.tmp 6) (Operand.tmp 11) (Operand.const (Value.bool false)), none⟩, []⟩,
  ⟨⟨some 2, Op.assign (Operand.tmp 12), none⟩, []⟩]) .ret))
theorem sl80 : slim Try.f80.ntmps ords80 (Try.f80.body.getD .skip) = some cd80 := by kernel_rfl
theorem in80 {args : List Value} {H : AH} {R : Value → AH → Prop} (hl : args.length = 1) (h : ∀ (Q : Exit → Sl → AH → Prop), (∀ e s H, endA Try.prog [ResultVar.tmp 2] R e s H → Q e s H) → wpC Try.prog cd80 Q (enterA args) H) : ACalls Try.prog 80 args H R :=
  ACalls.intro (by kernel_rfl) Try.func80 rfl (by kernel_rfl) sl80 hl (of_decide_eq_true (by kernel_rfl)) (by kernel_rfl) h
end Go.Proofs.Ytahakecifgjcnaa.Ai
