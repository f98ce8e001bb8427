/- Slim code of this translation. By the kernel. -/
import Derived.Test.YtahakecifgjcnaaProg
import Derived.Test.YtahakecifgjcnaaAiM2
import Derived.KernelRfl
namespace Go.Proofs.Ytahakecifgjcnaa.Ai
open Go

/- loop.example/g01128/spec.l8Matches -/
def ords79 : List (Nat × List (Nat × Bool)) := [(5, [(0, false), (1, false), (2, false), (3, false), (4, false), (5, false), (6, false), (7, false), (8, true), (9, false), (10, false), (11, false), (12, false), (13, false), (14, false), (15, false), (16, false), (17, false), (18, false), (19, false), (20, false), (21, false), (22, false), (23, false), (24, false), (25, false)]), (7, [(0, false), (1, false), (2, false), (3, false), (4, false), (5, false), (6, false), (7, false), (8, false), (9, true)]), (10, [(0, false), (1, false), (2, false), (3, false), (5, false), (6, false), (7, false), (4, true), (8, true), (9, true)])]
def cd79 : Cd := (.seq (.reg [⟨⟨some 2, Op.box 41 (Operand.tmp 0), none⟩, []⟩,
  ⟨⟨some 4, Op.assign (Operand.const (Value.bool false)), none⟩, []⟩]) (.seq (.reg [⟨⟨some 8, Op.buildSlice 22 0 #[], none⟩, []⟩,
  ⟨⟨some 5, Op.assign (Operand.tmp 8), none⟩, []⟩]) (.seq (.seq (.reg [⟨⟨some 6, Op.assign (Operand.const (Value.int IntKind.i64 0)), none⟩, []⟩]) (.block 0 (.loop (.seq (.seq (.reg [⟨⟨some 9, Op.move (Operand.tmp 6), none⟩, []⟩,
  ⟨⟨some 10, Op.move (Operand.tmp 1), none⟩, []⟩,
  ⟨⟨some 11, Op.call { callee := (Callee.builtin Builtin.len), args := #[(Operand.tmp 10)], argTypes := #[22] }, none⟩, []⟩,
  ⟨⟨some 12, Op.binOp BinOp.lss 3 (Operand.tmp 9) (Operand.tmp 11) 3, none⟩, []⟩]) (.cond (Operand.tmp 12) .skip (.exit 0))) (.seq (.block 1 (.seq (.seq (.reg [⟨⟨some 15, Op.move (Operand.tmp 1), none⟩, []⟩,
  ⟨⟨some 16, Op.move (Operand.tmp 6), none⟩, []⟩,
  ⟨⟨some 17, Op.indexAddr 22 (Operand.tmp 15) (Operand.tmp 16), none⟩, []⟩,
  ⟨⟨some 18, Op.load 3 (Operand.tmp 17), none⟩, []⟩,
  ⟨⟨some 19, Op.fieldAddr 41 (Operand.tmp 2) 1, none⟩, []⟩,
  ⟨⟨some 20, Op.load 23 (Operand.tmp 19), none⟩, []⟩,
  ⟨⟨some 21, Op.call { callee := (Callee.builtin Builtin.len), args := #[(Operand.tmp 20)], argTypes := #[23] }, none⟩, []⟩,
  ⟨⟨some 22, Op.binOp BinOp.sub 3 (Operand.tmp 21) (Operand.const (Value.int IntKind.i64 1)) 3, none⟩, []⟩,
  ⟨⟨some 23, Op.call { callee := (Callee.value (Operand.func 128)), args := #[(Operand.tmp 18), (Operand.const (Value.int IntKind.i64 0)), (Operand.tmp 22)], argTypes := #[3, 3, 3] }, none⟩, []⟩,
  ⟨⟨some 24, Op.unOp UnOp.not 4 (Operand.tmp 23), none⟩, []⟩,
  ⟨⟨some 25, Op.move (Operand.tmp 24), none⟩, []⟩,
  ⟨⟨some 26, Op.move (Operand.tmp 6), some (25, false)⟩, []⟩,
  ⟨⟨some 27, Op.binOp BinOp.gtr 3 (Operand.tmp 26) (Operand.const (Value.int IntKind.i64 0)) 3, some (25, false)⟩, []⟩,
  ⟨⟨some 28, Op.move (Operand.tmp 27), some (25, false)⟩, []⟩,
  ⟨⟨some 29, Op.move (Operand.tmp 1), some (28, true)⟩, []⟩,
  ⟨⟨some 30, Op.move (Operand.tmp 6), some (28, true)⟩, []⟩,
  ⟨⟨some 31, Op.binOp BinOp.sub 3 (Operand.tmp 30) (Operand.const (Value.int IntKind.i64 1)) 3, some (28, true)⟩, []⟩,
  ⟨⟨some 32, Op.indexAddr 22 (Operand.tmp 29) (Operand.tmp 31), some (28, true)⟩, []⟩,
  ⟨⟨some 33, Op.load 3 (Operand.tmp 32), some (28, true)⟩, []⟩,
  ⟨⟨some 34, Op.move (Operand.tmp 1), some (28, true)⟩, []⟩,
  ⟨⟨some 35, Op.move (Operand.tmp 6), some (28, true)⟩, []⟩,
  ⟨⟨some 36, Op.indexAddr 22 (Operand.tmp 34) (Operand.tmp 35), some (28, true)⟩, []⟩,
  ⟨⟨some 37, Op.load 3 (Operand.tmp 36), some (28, true)⟩, []⟩,
  ⟨⟨some 38, Op.binOp BinOp.geq 3 (Operand.tmp 33) (Operand.tmp 37) 3, some (28, true)⟩, []⟩,
  ⟨⟨some 39, Op.pick (Operand.tmp 28) (Operand.tmp 38) (Operand.const (Value.bool false)), some (25, false)⟩, []⟩,
  ⟨⟨some 40, Op.pick (Operand.tmp 25) (Operand.const (Value.bool true)) (Operand.tmp 39), none⟩, []⟩]) (.cond (Operand.tmp 40) (.seq (.reg [⟨⟨some 4, Op.assign (Operand.const (Value.bool false)), none⟩, []⟩]) .ret) .skip)) (.seq (.reg [⟨⟨some 41, Op.fieldAddr 41 (Operand.tmp 2) 1, none⟩, []⟩,
  ⟨⟨some 42, Op.load 23 (Operand.tmp 41), none⟩, []⟩,
  ⟨⟨some 43, Op.move (Operand.tmp 1), none⟩, []⟩,
  ⟨⟨some 44, Op.move (Operand.tmp 6), none⟩, []⟩,
  ⟨⟨some 45, Op.indexAddr 22 (Operand.tmp 43) (Operand.tmp 44), none⟩, []⟩,
  ⟨⟨some 46, Op.load 3 (Operand.tmp 45), none⟩, []⟩,
  ⟨⟨some 47, Op.indexAddr 23 (Operand.tmp 42) (Operand.tmp 46), none⟩, []⟩,
  ⟨⟨some 48, Op.load 66 (Operand.tmp 47), none⟩, []⟩,
  ⟨⟨some 7, Op.alloc 66, none⟩, []⟩,
  ⟨⟨none, Op.store 66 (Operand.tmp 7) (Operand.tmp 48), none⟩, []⟩]) (.seq (.seq (.reg [⟨⟨some 49, Op.move (Operand.tmp 5), none⟩, []⟩,
  ⟨⟨some 50, Op.indexAddr 66 (Operand.tmp 7) (Operand.const (Value.int IntKind.i64 0)), none⟩, []⟩,
  ⟨⟨some 51, Op.load 3 (Operand.tmp 50), none⟩, []⟩,
  ⟨⟨some 52, Op.call { callee := (Callee.value (Operand.func 66)), args := #[(Operand.tmp 49), (Operand.tmp 51)], argTypes := #[22, 3] }, none⟩, []⟩,
  ⟨⟨some 53, Op.move (Operand.tmp 52), none⟩, []⟩,
  ⟨⟨some 54, Op.move (Operand.tmp 5), some (53, false)⟩, []⟩,
  ⟨⟨some 55, Op.indexAddr 66 (Operand.tmp 7) (Operand.const (Value.int IntKind.i64 1)), some (53, false)⟩, []⟩,
  ⟨⟨some 56, Op.load 3 (Operand.tmp 55), some (53, false)⟩, []⟩,
  ⟨⟨some 57, Op.call { callee := (Callee.value (Operand.func 66)), args := #[(Operand.tmp 54), (Operand.tmp 56)], argTypes := #[22, 3] }, some (53, false)⟩, []⟩,
  ⟨⟨some 58, Op.pick (Operand.tmp 53) (Operand.const (Value.bool true)) (Operand.tmp 57), none⟩, []⟩]) (.cond (Operand.tmp 58) (.seq (.reg [⟨⟨some 4, Op.assign (Operand.const (Value.bool false)), none⟩, []⟩]) .ret) .skip)) (.reg [⟨⟨some 59, Op.move (Operand.tmp 5), none⟩, []⟩,
  ⟨⟨some 60, Op.indexAddr 66 (Operand.tmp 7) (Operand.const (Value.int IntKind.i64 0)), none⟩, []⟩,
  ⟨⟨some 61, Op.load 3 (Operand.tmp 60), none⟩, []⟩,
  ⟨⟨some 62, Op.buildSlice 22 1 #[(0, (Operand.tmp 61))], none⟩, []⟩,
  ⟨⟨some 64, Op.indexAddr 66 (Operand.tmp 7) (Operand.const (Value.int IntKind.i64 1)), none⟩, []⟩,
  ⟨⟨some 65, Op.load 3 (Operand.tmp 64), none⟩, []⟩,
  ⟨⟨some 66, Op.buildSlice 22 1 #[(0, (Operand.tmp 65))], none⟩, []⟩,
  ⟨⟨some 63, Op.call { callee := (Callee.builtin Builtin.append), args := #[(Operand.tmp 59), (Operand.tmp 62)], argTypes := #[22, 22] }, none⟩, [⟨some 66, Op.buildSlice 22 1 #[(0, (Operand.tmp 65))], none⟩, ⟨some 65, Op.load 3 (Operand.tmp 64), none⟩]⟩,
  ⟨⟨some 67, Op.call { callee := (Callee.builtin Builtin.append), args := #[(Operand.tmp 63), (Operand.tmp 66)], argTypes := #[22, 22] }, none⟩, []⟩,
  ⟨⟨some 5, Op.assign (Operand.tmp 67), none⟩, []⟩]))))) (.reg [⟨⟨some 13, Op.move (Operand.tmp 6), none⟩, []⟩,
  ⟨⟨some 14, Op.binOp BinOp.add 3 (Operand.tmp 13) (Operand.const (Value.int IntKind.i64 1)) 3, none⟩, []⟩,
  ⟨⟨some 6, Op.assign (Operand.tmp 14), none⟩, []⟩])))))) (.seq (.reg [⟨⟨some 4, Op.assign (Operand.const (Value.bool true)), none⟩, []⟩]) .ret))))
theorem sl79 : slim Try.f79.ntmps ords79 (Try.f79.body.getD .skip) = some cd79 := by kernel_rfl
theorem in79 {args : List Value} {H : AH} {R : Value → AH → Prop} (hl : args.length = 2) (h : ∀ (Q : Exit → Sl → AH → Prop), (∀ e s H, endA Try.prog [ResultVar.tmp 4] R e s H → Q e s H) → wpC Try.prog cd79 Q (enterA args) H) : ACalls Try.prog 79 args H R :=
  ACalls.intro (by kernel_rfl) Try.func79 rfl (by kernel_rfl) sl79 hl (of_decide_eq_true (by kernel_rfl)) (by kernel_rfl) h

/- (loop.example/g01128/impl.Graph).isMatching -/
def ords81 : List (Nat × List (Nat × Bool)) := [(7, [(0, false), (1, false), (2, false), (3, false), (4, false), (5, false), (6, false), (7, false), (8, false), (9, false), (10, false), (11, false), (12, false), (13, false), (14, false), (15, false)])]
def cd81 : Cd := (.seq (.reg [⟨⟨some 2, Op.box 41 (Operand.tmp 0), none⟩, []⟩,
  ⟨⟨some 4, Op.assign (Operand.const (Value.bool false)), none⟩, []⟩]) (.seq (.seq (.reg [⟨⟨some 9, Op.move (Operand.tmp 1), none⟩, []⟩,
  ⟨⟨some 10, Op.fieldAddr 41 (Operand.tmp 2) 1, none⟩, []⟩,
  ⟨⟨some 11, Op.load 23 (Operand.tmp 10), none⟩, []⟩,
  ⟨⟨some 12, Op.call { callee := (Callee.builtin Builtin.len), args := #[(Operand.tmp 11)], argTypes := #[23] }, none⟩, []⟩,
  ⟨⟨some 13, Op.call { callee := (Callee.value (Operand.func 132)), args := #[(Operand.tmp 9), (Operand.tmp 12)], argTypes := #[22, 3] }, none⟩, []⟩,
  ⟨⟨some 14, Op.unOp UnOp.not 4 (Operand.tmp 13), none⟩, []⟩]) (.cond (Operand.tmp 14) (.seq (.reg [⟨⟨some 4, Op.assign (Operand.const (Value.bool false)), none⟩, []⟩]) .ret) .skip)) (.seq (.reg [⟨⟨some 5, Op.assign (Operand.const (Value.int IntKind.u64 0)), none⟩, []⟩]) (.seq (.seq (.reg [⟨⟨some 15, Op.move (Operand.tmp 1), none⟩, []⟩,
  ⟨⟨some 16, Op.call { callee := (Callee.builtin Builtin.len), args := #[(Operand.tmp 15)], argTypes := #[22] }, none⟩, []⟩,
  ⟨⟨some 17, Op.move (Operand.const (Value.int IntKind.i64 0)), none⟩, []⟩]) (.block 0 (.loop (.seq (.reg [⟨⟨some 18, Op.binOp BinOp.lss 3 (Operand.tmp 17) (Operand.tmp 16) 3, none⟩, []⟩]) (.seq (.cond (Operand.tmp 18) .skip (.exit 0)) (.seq (.block 1 (.seq (.reg [⟨⟨some 19, Op.indexAddr 22 (Operand.tmp 15) (Operand.tmp 17), none⟩, []⟩,
  ⟨⟨some 20, Op.load 3 (Operand.tmp 19), none⟩, []⟩,
  ⟨⟨some 7, Op.assign (Operand.tmp 20), none⟩, []⟩]) (.seq (.reg [⟨⟨some 21, Op.fieldAddr 41 (Operand.tmp 2) 1, none⟩, []⟩,
  ⟨⟨some 22, Op.load 23 (Operand.tmp 21), none⟩, []⟩,
  ⟨⟨some 23, Op.move (Operand.tmp 7), none⟩, []⟩,
  ⟨⟨some 24, Op.indexAddr 23 (Operand.tmp 22) (Operand.tmp 23), none⟩, []⟩,
  ⟨⟨some 25, Op.indexAddr 66 (Operand.tmp 24) (Operand.const (Value.int IntKind.i64 0)), none⟩, []⟩,
  ⟨⟨some 26, Op.load 3 (Operand.tmp 25), none⟩, []⟩,
  ⟨⟨some 27, Op.binOp BinOp.shl 111 (Operand.const (Value.int IntKind.u64 1)) (Operand.tmp 26) 3, none⟩, []⟩,
  ⟨⟨some 28, Op.fieldAddr 41 (Operand.tmp 2) 1, none⟩, []⟩,
  ⟨⟨some 29, Op.load 23 (Operand.tmp 28), none⟩, []⟩,
  ⟨⟨some 30, Op.move (Operand.tmp 7), none⟩, []⟩,
  ⟨⟨some 31, Op.indexAddr 23 (Operand.tmp 29) (Operand.tmp 30), none⟩, []⟩,
  ⟨⟨some 32, Op.indexAddr 66 (Operand.tmp 31) (Operand.const (Value.int IntKind.i64 1)), none⟩, []⟩,
  ⟨⟨some 33, Op.load 3 (Operand.tmp 32), none⟩, []⟩,
  ⟨⟨some 34, Op.binOp BinOp.shl 111 (Operand.const (Value.int IntKind.u64 1)) (Operand.tmp 33) 3, none⟩, []⟩,
  ⟨⟨some 35, Op.binOp BinOp.or 111 (Operand.tmp 27) (Operand.tmp 34) 111, none⟩, []⟩,
  ⟨⟨some 8, Op.assign (Operand.tmp 35), none⟩, []⟩]) (.seq (.seq (.reg [⟨⟨some 36, Op.move (Operand.tmp 5), none⟩, []⟩,
  ⟨⟨some 37, Op.move (Operand.tmp 8), none⟩, []⟩,
  ⟨⟨some 38, Op.binOp BinOp.and 111 (Operand.tmp 36) (Operand.tmp 37) 111, none⟩, []⟩,
  ⟨⟨some 39, Op.binOp BinOp.neq 111 (Operand.tmp 38) (Operand.const (Value.int IntKind.u64 0)) 111, none⟩, []⟩]) (.cond (Operand.tmp 39) (.seq (.reg [⟨⟨some 4, Op.assign (Operand.const (Value.bool false)), none⟩, []⟩]) .ret) .skip)) (.reg [⟨⟨some 40, Op.move (Operand.tmp 5), none⟩, []⟩,
  ⟨⟨some 41, Op.move (Operand.tmp 8), none⟩, []⟩,
  ⟨⟨some 42, Op.binOp BinOp.or 111 (Operand.tmp 40) (Operand.tmp 41) 111, none⟩, []⟩,
  ⟨⟨some 5, Op.assign (Operand.tmp 42), none⟩, []⟩]))))) (.reg [⟨⟨some 43, Op.binOp BinOp.add 3 (Operand.tmp 17) (Operand.const (Value.int IntKind.i64 1)) 3, none⟩, []⟩,
  ⟨⟨some 17, Op.move (Operand.tmp 43), none⟩, []⟩]))))))) (.seq (.reg [⟨⟨some 4, Op.assign (Operand.const (Value.bool true)), none⟩, []⟩]) .ret)))))
theorem sl81 : slim Try.f81.ntmps ords81 (Try.f81.body.getD .skip) = some cd81 := by kernel_rfl
theorem in81 {args : List Value} {H : AH} {R : Value → AH → Prop} (hl : args.length = 2) (h : ∀ (Q : Exit → Sl → AH → Prop), (∀ e s H, endA Try.prog [ResultVar.tmp 4] R e s H → Q e s H) → wpC Try.prog cd81 Q (enterA args) H) : ACalls Try.prog 81 args H R :=
  ACalls.intro (by kernel_rfl) Try.func81 rfl (by kernel_rfl) sl81 hl (of_decide_eq_true (by kernel_rfl)) (by kernel_rfl) h

/- loop.example/g01128/spec.IsMatching -/
def ords28 : List (Nat × List (Nat × Bool)) := []
def cd28 : Cd := (.seq (.reg [⟨⟨some 2, Op.box 41 (Operand.tmp 0), none⟩, []⟩,
  ⟨⟨some 4, Op.assign (Operand.const (Value.bool false)), none⟩, []⟩,
  ⟨⟨some 5, Op.assign (Operand.const (Value.bool false)), none⟩, []⟩]) (.seq (.seq (.reg [⟨⟨some 6, Op.load 41 (Operand.tmp 2), none⟩, []⟩,
  ⟨⟨some 7, Op.call { callee := (Callee.value (Operand.func 78)), args := #[(Operand.tmp 6)], argTypes := #[41] }, none⟩, []⟩,
  ⟨⟨some 8, Op.unOp UnOp.not 4 (Operand.tmp 7), none⟩, []⟩]) (.cond (Operand.tmp 8) (.seq (.reg [⟨⟨some 4, Op.assign (Operand.const (Value.bool false)), none⟩, []⟩,
  ⟨⟨some 5, Op.assign (Operand.const (Value.bool false)), none⟩, []⟩]) .ret) .skip)) (.seq (.reg [⟨⟨some 9, Op.load 41 (Operand.tmp 2), none⟩, []⟩,
  ⟨⟨some 10, Op.move (Operand.tmp 1), none⟩, []⟩,
  ⟨⟨some 11, Op.call { callee := (Callee.value (Operand.func 79)), args := #[(Operand.tmp 9), (Operand.tmp 10)], argTypes := #[41, 22] }, none⟩, []⟩,
  ⟨⟨some 4, Op.assign (Operand.tmp 11), none⟩, []⟩,
  ⟨⟨some 5, Op.assign (Operand.const (Value.bool true)), none⟩, []⟩]) .ret)))
theorem sl28 : slim Try.f28.ntmps ords28 (Try.f28.body.getD .skip) = some cd28 := by kernel_rfl
theorem in28 {args : List Value} {H : AH} {R : Value → AH → Prop} (hl : args.length = 2) (h : ∀ (Q : Exit → Sl → AH → Prop), (∀ e s H, endA Try.prog [ResultVar.tmp 4, ResultVar.tmp 5] R e s H → Q e s H) → wpC Try.prog cd28 Q (enterA args) H) : ACalls Try.prog 28 args H R :=
  ACalls.intro (by kernel_rfl) Try.func28 rfl (by kernel_rfl) sl28 hl (of_decide_eq_true (by kernel_rfl)) (by kernel_rfl) h

/- loop.example/g01128/impl.IsMatching -/
def ords30 : List (Nat × List (Nat × Bool)) := []
def cd30 : Cd := (.seq (.reg [⟨⟨some 2, Op.box 41 (Operand.tmp 0), none⟩, []⟩,
  ⟨⟨some 4, Op.assign (Operand.const (Value.bool false)), none⟩, []⟩,
  ⟨⟨some 5, Op.assign (Operand.const (Value.bool false)), none⟩, []⟩]) (.seq (.seq (.reg [⟨⟨some 6, Op.load 41 (Operand.tmp 2), none⟩, []⟩,
  ⟨⟨some 7, Op.call { callee := (Callee.value (Operand.func 80)), args := #[(Operand.tmp 6)], argTypes := #[41] }, none⟩, []⟩,
  ⟨⟨some 8, Op.unOp UnOp.not 4 (Operand.tmp 7), none⟩, []⟩]) (.cond (Operand.tmp 8) (.seq (.reg [⟨⟨some 4, Op.assign (Operand.const (Value.bool false)), none⟩, []⟩,
  ⟨⟨some 5, Op.assign (Operand.const (Value.bool false)), none⟩, []⟩]) .ret) .skip)) (.seq (.reg [⟨⟨some 9, Op.load 41 (Operand.tmp 2), none⟩, []⟩,
  ⟨⟨some 10, Op.move (Operand.tmp 1), none⟩, []⟩,
  ⟨⟨some 11, Op.call { callee := (Callee.value (Operand.func 81)), args := #[(Operand.tmp 9), (Operand.tmp 10)], argTypes := #[41, 22] }, none⟩, []⟩,
  ⟨⟨some 4, Op.assign (Operand.tmp 11), none⟩, []⟩,
  ⟨⟨some 5, Op.assign (Operand.const (Value.bool true)), none⟩, []⟩]) .ret)))
theorem sl30 : slim Try.f30.ntmps ords30 (Try.f30.body.getD .skip) = some cd30 := by kernel_rfl
theorem in30 {args : List Value} {H : AH} {R : Value → AH → Prop} (hl : args.length = 2) (h : ∀ (Q : Exit → Sl → AH → Prop), (∀ e s H, endA Try.prog [ResultVar.tmp 4, ResultVar.tmp 5] R e s H → Q e s H) → wpC Try.prog cd30 Q (enterA args) H) : ACalls Try.prog 30 args H R :=
  ACalls.intro (by kernel_rfl) Try.func30 rfl (by kernel_rfl) sl30 hl (of_decide_eq_true (by kernel_rfl)) (by kernel_rfl) h
end Go.Proofs.Ytahakecifgjcnaa.Ai
