/- Slim code of this translation. By the kernel. -/
import Derived.Test.YtahakecifgjcnaaProg
import Derived.Test.YtahakecifgjcnaaAiM2
import Derived.KernelRfl
namespace Go.Proofs.Ytahakecifgjcnaa.Ai
open Go

/- slices.Index[[][2]int,[2]int] -/
def ords205 : List (Nat × List (Nat × Bool)) := [(4, [(0, false), (1, false), (2, false), (3, false), (4, false), (5, false)])]
def cd205 : Cd := (.seq (.reg [⟨⟨some 3, Op.box 66 (Operand.tmp 1), none⟩, []⟩,
  ⟨⟨some 4, Op.assign (Operand.const (Value.int IntKind.i64 0)), none⟩, []⟩]) (.seq (.seq (.reg [⟨⟨some 6, Op.move (Operand.tmp 0), none⟩, []⟩,
  ⟨⟨some 7, Op.call { callee := (Callee.builtin Builtin.len), args := #[(Operand.tmp 6)], argTypes := #[23] }, none⟩, []⟩,
  ⟨⟨some 8, Op.move (Operand.const (Value.int IntKind.i64 0)), none⟩, []⟩]) (.block 0 (.loop (.seq (.reg [⟨⟨some 9, Op.binOp BinOp.lss 3 (Operand.tmp 8) (Operand.tmp 7) 3, none⟩, []⟩]) (.seq (.cond (Operand.tmp 9) .skip (.exit 0)) (.seq (.block 1 (.seq (.reg [⟨⟨some 10, Op.move (Operand.tmp 8), none⟩, []⟩,
  ⟨⟨some 5, Op.assign (Operand.tmp 10), none⟩, []⟩]) (.seq (.reg [⟨⟨some 11, Op.load 66 (Operand.tmp 3), none⟩, []⟩,
  ⟨⟨some 12, Op.move (Operand.tmp 0), none⟩, []⟩,
  ⟨⟨some 13, Op.move (Operand.tmp 5), none⟩, []⟩,
  ⟨⟨some 14, Op.indexAddr 23 (Operand.tmp 12) (Operand.tmp 13), none⟩, []⟩,
  ⟨⟨some 15, Op.load 66 (Operand.tmp 14), none⟩, []⟩,
  ⟨⟨some 16, Op.binOp BinOp.eql 66 (Operand.tmp 11) (Operand.tmp 15) 66, none⟩, []⟩]) (.cond (Operand.tmp 16) (.seq (.reg [⟨⟨some 17, Op.move (Operand.tmp 5), none⟩, []⟩,
  ⟨⟨some 4, Op.assign (Operand.tmp 17), none⟩, []⟩]) .ret) .skip)))) (.reg [⟨⟨some 18, Op.binOp BinOp.add 3 (Operand.tmp 8) (Operand.const (Value.int IntKind.i64 1)) 3, none⟩, []⟩,
  ⟨⟨some 8, Op.move (Operand.tmp 18), none⟩, []⟩]))))))) (.seq (.reg [⟨⟨some 4, Op.assign (Operand.const (Value.int IntKind.i64 (-1))), none⟩, []⟩]) .ret)))
theorem sl205 : slim Try.f205.ntmps ords205 (Try.f205.body.getD .skip) = some cd205 := by kernel_rfl
theorem in205 {args : List Value} {H : AH} {R : Value → AH → Prop} (hl : args.length = 2) (h : ∀ (Q : Exit → Sl → AH → Prop), (∀ e s H, endA Try.prog [ResultVar.tmp 4] R e s H → Q e s H) → wpC Try.prog cd205 Q (enterA args) H) : ACalls Try.prog 205 args H R :=
  ACalls.intro (by kernel_rfl) Try.func205 rfl (by kernel_rfl) sl205 hl (of_decide_eq_true (by kernel_rfl)) (by kernel_rfl) h

/- slices.Contains[[][2]int,[2]int] -/
def ords193 : List (Nat × List (Nat × Bool)) := []
def cd193 : Cd := (.seq (.reg [⟨⟨some 3, Op.box 66 (Operand.tmp 1), none⟩, []⟩,
  ⟨⟨some 4, Op.assign (Operand.const (Value.bool false)), none⟩, []⟩]) (.seq (.reg [⟨⟨some 5, Op.move (Operand.tmp 0), none⟩, []⟩,
  ⟨⟨some 6, Op.load 66 (Operand.tmp 3), none⟩, []⟩,
  ⟨⟨some 7, Op.call { callee := (Callee.value (Operand.func 205)), args := #[(Operand.tmp 5), (Operand.tmp 6)], argTypes := #[23, 66] }, none⟩, []⟩,
  ⟨⟨some 8, Op.binOp BinOp.geq 3 (Operand.tmp 7) (Operand.const (Value.int IntKind.i64 0)) 3, none⟩, []⟩,
  ⟨⟨some 4, Op.assign (Operand.tmp 8), none⟩, []⟩]) .ret))
theorem sl193 : slim Try.f193.ntmps ords193 (Try.f193.body.getD .skip) = some cd193 := by kernel_rfl
theorem in193 {args : List Value} {H : AH} {R : Value → AH → Prop} (hl : args.length = 2) (h : ∀ (Q : Exit → Sl → AH → Prop), (∀ e s H, endA Try.prog [ResultVar.tmp 4] R e s H → Q e s H) → wpC Try.prog cd193 Q (enterA args) H) : ACalls Try.prog 193 args H R :=
  ACalls.intro (by kernel_rfl) Try.func193 rfl (by kernel_rfl) sl193 hl (of_decide_eq_true (by kernel_rfl)) (by kernel_rfl) h

/- (loop.example/g01128/impl.Graph).has -/
def ords170 : List (Nat × List (Nat × Bool)) := [(1, [(0, false), (1, false), (2, false), (3, false), (4, true), (5, true), (6, false)])]
def cd170 : Cd := (.seq (.reg [⟨⟨some 3, Op.box 41 (Operand.tmp 0), none⟩, []⟩,
  ⟨⟨some 6, Op.assign (Operand.const (Value.bool false)), none⟩, []⟩]) (.seq (.reg [⟨⟨some 7, Op.fieldAddr 41 (Operand.tmp 3) 1, none⟩, []⟩,
  ⟨⟨some 8, Op.load 23 (Operand.tmp 7), none⟩, []⟩,
  ⟨⟨some 9, Op.move (Operand.tmp 1), none⟩, []⟩,
  ⟨⟨some 10, Op.move (Operand.tmp 2), none⟩, []⟩,
  ⟨⟨some 11, Op.call { callee := (Callee.value (Operand.func 194)), args := #[(Operand.tmp 9), (Operand.tmp 10)], argTypes := #[3, 3] }, none⟩, [⟨some 8, Op.load 23 (Operand.tmp 7), none⟩]⟩,
  ⟨⟨some 12, Op.call { callee := (Callee.value (Operand.func 193)), args := #[(Operand.tmp 8), (Operand.tmp 11)], argTypes := #[23, 66] }, none⟩, []⟩,
  ⟨⟨some 6, Op.assign (Operand.tmp 12), none⟩, []⟩]) .ret))
theorem sl170 : slim Try.f170.ntmps ords170 (Try.f170.body.getD .skip) = some cd170 := by kernel_rfl
theorem in170 {args : List Value} {H : AH} {R : Value → AH → Prop} (hl : args.length = 3) (h : ∀ (Q : Exit → Sl → AH → Prop), (∀ e s H, endA Try.prog [ResultVar.tmp 6] R e s H → Q e s H) → wpC Try.prog cd170 Q (enterA args) H) : ACalls Try.prog 170 args H R :=
  ACalls.intro (by kernel_rfl) Try.func170 rfl (by kernel_rfl) sl170 hl (of_decide_eq_true (by kernel_rfl)) (by kernel_rfl) h

/- loop.example/g01128/spec.l2Near -/
def ords100 : List (Nat × List (Nat × Bool)) := []
def cd100 : Cd := (.seq (.reg [⟨⟨some 3, Op.box 41 (Operand.tmp 0), none⟩, []⟩,
  ⟨⟨some 6, Op.assign (Operand.const (Value.bool false)), none⟩, []⟩]) (.seq (.seq (.reg [⟨⟨some 7, Op.assign (Operand.const (Value.int IntKind.i64 0)), none⟩, []⟩]) (.block 0 (.loop (.seq (.seq (.reg [⟨⟨some 9, Op.move (Operand.tmp 7), none⟩, []⟩,
  ⟨⟨some 10, Op.fieldAddr 41 (Operand.tmp 3) 1, none⟩, []⟩,
  ⟨⟨some 11, Op.load 23 (Operand.tmp 10), none⟩, []⟩,
  ⟨⟨some 12, Op.call { callee := (Callee.builtin Builtin.len), args := #[(Operand.tmp 11)], argTypes := #[23] }, none⟩, []⟩,
  ⟨⟨some 13, Op.binOp BinOp.lss 3 (Operand.tmp 9) (Operand.tmp 12) 3, none⟩, []⟩]) (.cond (Operand.tmp 13) .skip (.exit 0))) (.seq (.block 1 (.seq (.reg [⟨⟨some 16, Op.fieldAddr 41 (Operand.tmp 3) 1, none⟩, []⟩,
  ⟨⟨some 17, Op.load 23 (Operand.tmp 16), none⟩, []⟩,
  ⟨⟨some 18, Op.move (Operand.tmp 7), none⟩, []⟩,
  ⟨⟨some 19, Op.indexAddr 23 (Operand.tmp 17) (Operand.tmp 18), none⟩, []⟩,
  ⟨⟨some 20, Op.load 66 (Operand.tmp 19), none⟩, []⟩,
  ⟨⟨some 8, Op.alloc 66, none⟩, []⟩,
  ⟨⟨none, Op.store 66 (Operand.tmp 8) (Operand.tmp 20), none⟩, []⟩]) (.seq (.reg [⟨⟨some 21, Op.indexAddr 66 (Operand.tmp 8) (Operand.const (Value.int IntKind.i64 0)), none⟩, []⟩,
  ⟨⟨some 22, Op.load 3 (Operand.tmp 21), none⟩, []⟩,
  ⟨⟨some 23, Op.move (Operand.tmp 1), none⟩, []⟩,
  ⟨⟨some 24, Op.binOp BinOp.eql 3 (Operand.tmp 22) (Operand.tmp 23) 3, none⟩, []⟩,
  ⟨⟨some 25, Op.move (Operand.tmp 24), none⟩, []⟩,
  ⟨⟨some 26, Op.indexAddr 66 (Operand.tmp 8) (Operand.const (Value.int IntKind.i64 1)), some (25, true)⟩, []⟩,
  ⟨⟨some 27, Op.load 3 (Operand.tmp 26), some (25, true)⟩, []⟩,
  ⟨⟨some 28, Op.move (Operand.tmp 2), some (25, true)⟩, []⟩,
  ⟨⟨some 29, Op.binOp BinOp.eql 3 (Operand.tmp 27) (Operand.tmp 28) 3, some (25, true)⟩, []⟩,
  ⟨⟨some 30, Op.pick (Operand.tmp 25) (Operand.tmp 29) (Operand.const (Value.bool false)), none⟩, []⟩,
  ⟨⟨some 31, Op.move (Operand.tmp 30), none⟩, []⟩,
  ⟨⟨some 32, Op.indexAddr 66 (Operand.tmp 8) (Operand.const (Value.int IntKind.i64 0)), some (31, false)⟩, []⟩,
  ⟨⟨some 33, Op.load 3 (Operand.tmp 32), some (31, false)⟩, []⟩,
  ⟨⟨some 34, Op.move (Operand.tmp 2), some (31, false)⟩, []⟩,
  ⟨⟨some 35, Op.binOp BinOp.eql 3 (Operand.tmp 33) (Operand.tmp 34) 3, some (31, false)⟩, []⟩,
  ⟨⟨some 36, Op.move (Operand.tmp 35), some (31, false)⟩, []⟩,
  ⟨⟨some 37, Op.indexAddr 66 (Operand.tmp 8) (Operand.const (Value.int IntKind.i64 1)), some (36, true)⟩, []⟩,
  ⟨⟨some 38, Op.load 3 (Operand.tmp 37), some (36, true)⟩, []⟩,
  ⟨⟨some 39, Op.move (Operand.tmp 1), some (36, true)⟩, []⟩,
  ⟨⟨some 40, Op.binOp BinOp.eql 3 (Operand.tmp 38) (Operand.tmp 39) 3, some (36, true)⟩, []⟩,
  ⟨⟨some 41, Op.pick (Operand.tmp 36) (Operand.tmp 40) (Operand.const (Value.bool false)), some (31, false)⟩, []⟩,
  ⟨⟨some 42, Op.pick (Operand.tmp 31) (Operand.const (Value.bool true)) (Operand.tmp 41), none⟩, []⟩]) (.cond (Operand.tmp 42) (.seq (.reg [⟨⟨some 6, Op.assign (Operand.const (Value.bool true)), none⟩, []⟩]) .ret) .skip)))) (.reg [⟨⟨some 14, Op.move (Operand.tmp 7), none⟩, []⟩,
  ⟨⟨some 15, Op.binOp BinOp.add 3 (Operand.tmp 14) (Operand.const (Value.int IntKind.i64 1)) 3, none⟩, []⟩,
  ⟨⟨some 7, Op.assign (Operand.tmp 15), none⟩, []⟩])))))) (.seq (.reg [⟨⟨some 6, Op.assign (Operand.const (Value.bool false)), none⟩, []⟩]) .ret)))
theorem sl100 : slim Try.f100.ntmps ords100 (Try.f100.body.getD .skip) = some cd100 := by kernel_rfl
theorem in100 {args : List Value} {H : AH} {R : Value → AH → Prop} (hl : args.length = 3) (h : ∀ (Q : Exit → Sl → AH → Prop), (∀ e s H, endA Try.prog [ResultVar.tmp 6] R e s H → Q e s H) → wpC Try.prog cd100 Q (enterA args) H) : ACalls Try.prog 100 args H R :=
  ACalls.intro (by kernel_rfl) Try.func100 rfl (by kernel_rfl) sl100 hl (of_decide_eq_true (by kernel_rfl)) (by kernel_rfl) h

/- (loop.example/g01128/impl.Graph).neighbors -/
def ords148 : List (Nat × List (Nat × Bool)) := []
def cd148 : Cd := (.seq (.reg [⟨⟨some 2, Op.box 41 (Operand.tmp 0), none⟩, []⟩,
  ⟨⟨some 4, Op.assign (Operand.const (Value.slice none 0 0)), none⟩, []⟩]) (.seq (.reg [⟨⟨some 7, Op.buildSlice 22 0 #[], none⟩, []⟩,
  ⟨⟨some 5, Op.assign (Operand.tmp 7), none⟩, []⟩]) (.seq (.seq (.reg [⟨⟨some 8, Op.fieldAddr 41 (Operand.tmp 2) 0, none⟩, []⟩,
  ⟨⟨some 9, Op.load 3 (Operand.tmp 8), none⟩, []⟩,
  ⟨⟨some 10, Op.move (Operand.const (Value.int IntKind.i64 0)), none⟩, []⟩]) (.block 0 (.loop (.seq (.reg [⟨⟨some 11, Op.binOp BinOp.lss 3 (Operand.tmp 10) (Operand.tmp 9) 3, none⟩, []⟩]) (.seq (.cond (Operand.tmp 11) .skip (.exit 0)) (.seq (.block 1 (.seq (.reg [⟨⟨some 12, Op.move (Operand.tmp 10), none⟩, []⟩,
  ⟨⟨some 6, Op.assign (Operand.tmp 12), none⟩, []⟩]) (.seq (.reg [⟨⟨some 13, Op.move (Operand.tmp 6), none⟩, []⟩,
  ⟨⟨some 14, Op.move (Operand.tmp 1), none⟩, []⟩,
  ⟨⟨some 15, Op.binOp BinOp.neq 3 (Operand.tmp 13) (Operand.tmp 14) 3, none⟩, []⟩,
  ⟨⟨some 16, Op.move (Operand.tmp 15), none⟩, []⟩,
  ⟨⟨some 17, Op.load 41 (Operand.tmp 2), some (16, true)⟩, []⟩,
  ⟨⟨some 18, Op.move (Operand.tmp 1), some (16, true)⟩, []⟩,
  ⟨⟨some 19, Op.move (Operand.tmp 6), some (16, true)⟩, []⟩,
  ⟨⟨some 20, Op.call { callee := (Callee.value (Operand.func 170)), args := #[(Operand.tmp 17), (Operand.tmp 18), (Operand.tmp 19)], argTypes := #[41, 3, 3] }, some (16, true)⟩, []⟩,
  ⟨⟨some 21, Op.pick (Operand.tmp 16) (Operand.tmp 20) (Operand.const (Value.bool false)), none⟩, []⟩]) (.cond (Operand.tmp 21) (.reg [⟨⟨some 22, Op.move (Operand.tmp 5), none⟩, []⟩,
  ⟨⟨some 23, Op.move (Operand.tmp 6), none⟩, []⟩,
  ⟨⟨some 24, Op.buildSlice 22 1 #[(0, (Operand.tmp 23))], none⟩, []⟩,
  ⟨⟨some 25, Op.call { callee := (Callee.builtin Builtin.append), args := #[(Operand.tmp 22), (Operand.tmp 24)], argTypes := #[22, 22] }, none⟩, []⟩,
  ⟨⟨some 5, Op.assign (Operand.tmp 25), none⟩, []⟩]) .skip)))) (.reg [⟨⟨some 26, Op.binOp BinOp.add 3 (Operand.tmp 10) (Operand.const (Value.int IntKind.i64 1)) 3, none⟩, []⟩,
  ⟨⟨some 10, Op.move (Operand.tmp 26), none⟩, []⟩]))))))) (.seq (.reg [⟨⟨some 27, Op.move (Operand.tmp 5), none⟩, []⟩,
  ⟨⟨some 4, Op.assign (Operand.tmp 27), none⟩, []⟩]) .ret))))
theorem sl148 : slim Try.f148.ntmps ords148 (Try.f148.body.getD .skip) = some cd148 := by kernel_rfl
theorem in148 {args : List Value} {H : AH} {R : Value → AH → Prop} (hl : args.length = 2) (h : ∀ (Q : Exit → Sl → AH → Prop), (∀ e s H, endA Try.prog [ResultVar.tmp 4] R e s H → Q e s H) → wpC Try.prog cd148 Q (enterA args) H) : ACalls Try.prog 148 args H R :=
  ACalls.intro (by kernel_rfl) Try.func148 rfl (by kernel_rfl) sl148 hl (of_decide_eq_true (by kernel_rfl)) (by kernel_rfl) h
end Go.Proofs.Ytahakecifgjcnaa.Ai
