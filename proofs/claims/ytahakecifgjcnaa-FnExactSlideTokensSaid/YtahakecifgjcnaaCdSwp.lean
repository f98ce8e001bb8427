/- Slim code of this translation. By the kernel. -/
import Derived.Test.YtahakecifgjcnaaProg
import Derived.Test.YtahakecifgjcnaaAiM2
import Derived.KernelRfl
namespace Go.Proofs.Ytahakecifgjcnaa.Ai
open Go

/- loop.example/g01128/spec.l1Own -/
def ords58 : List (Nat × List (Nat × Bool)) := []
def cd58 : Cd := (.seq (.reg [⟨⟨some 2, Op.assign (Operand.const (Value.slice none 0 0)), none⟩, []⟩]) (.seq (.reg [⟨⟨some 3, Op.buildSlice 22 0 #[], none⟩, []⟩,
  ⟨⟨some 4, Op.move (Operand.tmp 0), none⟩, []⟩,
  ⟨⟨some 5, Op.call { callee := (Callee.builtin Builtin.append), args := #[(Operand.tmp 3), (Operand.tmp 4)], argTypes := #[22, 22] }, none⟩, []⟩,
  ⟨⟨some 2, Op.assign (Operand.tmp 5), none⟩, []⟩]) .ret))
theorem sl58 : slim Try.f58.ntmps ords58 (Try.f58.body.getD .skip) = some cd58 := by kernel_rfl
theorem in58 {args : List Value} {H : AH} {R : Value → AH → Prop} (hl : args.length = 1) (h : ∀ (Q : Exit → Sl → AH → Prop), (∀ e s H, endA Try.prog [ResultVar.tmp 2] R e s H → Q e s H) → wpC Try.prog cd58 Q (enterA args) H) : ACalls Try.prog 58 args H R :=
  ACalls.intro (by kernel_rfl) Try.func58 rfl (by kernel_rfl) sl58 hl (of_decide_eq_true (by kernel_rfl)) (by kernel_rfl) h

/- loop.example/g01128/spec.l9At -/
def ords99 : List (Nat × List (Nat × Bool)) := []
def cd99 : Cd := (.seq (.reg [⟨⟨some 4, Op.assign (Operand.const (Value.int IntKind.i64 0)), none⟩, []⟩]) (.seq (.reg [⟨⟨some 5, Op.assign (Operand.const (Value.int IntKind.i64 0)), none⟩, []⟩]) (.seq (.block 0 (.loop (.seq (.seq (.reg [⟨⟨some 6, Op.move (Operand.tmp 0), none⟩, []⟩,
  ⟨⟨some 7, Op.move (Operand.tmp 5), none⟩, []⟩,
  ⟨⟨some 8, Op.indexAddr 22 (Operand.tmp 6) (Operand.tmp 7), none⟩, []⟩,
  ⟨⟨some 9, Op.load 3 (Operand.tmp 8), none⟩, []⟩,
  ⟨⟨some 10, Op.move (Operand.tmp 1), none⟩, []⟩,
  ⟨⟨some 11, Op.binOp BinOp.neq 3 (Operand.tmp 9) (Operand.tmp 10) 3, none⟩, []⟩]) (.cond (Operand.tmp 11) .skip (.exit 0))) (.block 1 (.reg [⟨⟨some 12, Op.move (Operand.tmp 5), none⟩, []⟩,
  ⟨⟨some 13, Op.binOp BinOp.add 3 (Operand.tmp 12) (Operand.const (Value.int IntKind.i64 1)) 3, none⟩, []⟩,
  ⟨⟨some 5, Op.assign (Operand.tmp 13), none⟩, []⟩]))))) (.seq (.reg [⟨⟨some 14, Op.move (Operand.tmp 5), none⟩, []⟩,
  ⟨⟨some 4, Op.assign (Operand.tmp 14), none⟩, []⟩]) .ret))))
theorem sl99 : slim Try.f99.ntmps ords99 (Try.f99.body.getD .skip) = some cd99 := by kernel_rfl
theorem in99 {args : List Value} {H : AH} {R : Value → AH → Prop} (hl : args.length = 2) (h : ∀ (Q : Exit → Sl → AH → Prop), (∀ e s H, endA Try.prog [ResultVar.tmp 4] R e s H → Q e s H) → wpC Try.prog cd99 Q (enterA args) H) : ACalls Try.prog 99 args H R :=
  ACalls.intro (by kernel_rfl) Try.func99 rfl (by kernel_rfl) sl99 hl (of_decide_eq_true (by kernel_rfl)) (by kernel_rfl) h

/- loop.example/g01128/spec.l9Swap -/
def ords59 : List (Nat × List (Nat × Bool)) := []
def cd59 : Cd := (.seq (.reg [⟨⟨some 6, Op.assign (Operand.const (Value.slice none 0 0)), none⟩, []⟩]) (.seq (.reg [⟨⟨some 8, Op.move (Operand.tmp 0), none⟩, []⟩,
  ⟨⟨some 9, Op.call { callee := (Callee.value (Operand.func 58)), args := #[(Operand.tmp 8)], argTypes := #[22] }, none⟩, []⟩,
  ⟨⟨some 7, Op.assign (Operand.tmp 9), none⟩, []⟩]) (.seq (.reg [⟨⟨some 10, Op.move (Operand.tmp 7), none⟩, []⟩,
  ⟨⟨some 11, Op.move (Operand.tmp 1), none⟩, []⟩,
  ⟨⟨some 12, Op.move (Operand.tmp 0), none⟩, []⟩,
  ⟨⟨some 13, Op.move (Operand.tmp 2), none⟩, []⟩,
  ⟨⟨some 14, Op.indexAddr 22 (Operand.tmp 12) (Operand.tmp 13), none⟩, []⟩,
  ⟨⟨some 15, Op.load 3 (Operand.tmp 14), none⟩, []⟩,
  ⟨⟨some 16, Op.indexAddr 22 (Operand.tmp 10) (Operand.tmp 11), none⟩, []⟩,
  ⟨⟨none, Op.store 3 (Operand.tmp 16) (Operand.tmp 15), none⟩, []⟩]) (.seq (.reg [⟨⟨some 17, Op.move (Operand.tmp 7), none⟩, []⟩,
  ⟨⟨some 18, Op.move (Operand.tmp 2), none⟩, []⟩,
  ⟨⟨some 19, Op.move (Operand.tmp 0), none⟩, []⟩,
  ⟨⟨some 20, Op.move (Operand.tmp 1), none⟩, []⟩,
  ⟨⟨some 21, Op.indexAddr 22 (Operand.tmp 19) (Operand.tmp 20), none⟩, []⟩,
  ⟨⟨some 22, Op.load 3 (Operand.tmp 21), none⟩, []⟩,
  ⟨⟨some 23, Op.indexAddr 22 (Operand.tmp 17) (Operand.tmp 18), none⟩, []⟩,
  ⟨⟨none, Op.store 3 (Operand.tmp 23) (Operand.tmp 22), none⟩, []⟩]) (.seq (.reg [⟨⟨some 24, Op.move (Operand.tmp 7), none⟩, []⟩,
  ⟨⟨some 6, Op.assign (Operand.tmp 24), none⟩, []⟩]) .ret)))))
theorem sl59 : slim Try.f59.ntmps ords59 (Try.f59.body.getD .skip) = some cd59 := by kernel_rfl
theorem in59 {args : List Value} {H : AH} {R : Value → AH → Prop} (hl : args.length = 3) (h : ∀ (Q : Exit → Sl → AH → Prop), (∀ e s H, endA Try.prog [ResultVar.tmp 6] R e s H → Q e s H) → wpC Try.prog cd59 Q (enterA args) H) : ACalls Try.prog 59 args H R :=
  ACalls.intro (by kernel_rfl) Try.func59 rfl (by kernel_rfl) sl59 hl (of_decide_eq_true (by kernel_rfl)) (by kernel_rfl) h

/- loop.example/g01128/impl.swapped -/
def ords63 : List (Nat × List (Nat × Bool)) := [(2, [(0, false), (1, false), (2, false), (3, false), (4, false), (5, false), (6, false), (7, false), (8, false), (9, false), (10, false), (11, false), (12, false), (13, false), (14, false), (15, false), (16, false), (17, true), (18, false), (19, true)])]
def cd63 : Cd := (.seq (.reg [⟨⟨some 3, Op.box 66 (Operand.tmp 1), none⟩, []⟩,
  ⟨⟨some 4, Op.assign (Operand.const (Value.slice none 0 0)), none⟩, []⟩]) (.seq (.reg [⟨⟨some 6, Op.move (Operand.tmp 0), none⟩, []⟩,
  ⟨⟨some 7, Op.call { callee := (Callee.value (Operand.func 62)), args := #[(Operand.tmp 6)], argTypes := #[22] }, none⟩, []⟩,
  ⟨⟨some 5, Op.assign (Operand.tmp 7), none⟩, []⟩]) (.seq (.reg [⟨⟨some 8, Op.move (Operand.tmp 5), none⟩, []⟩,
  ⟨⟨some 9, Op.indexAddr 66 (Operand.tmp 3) (Operand.const (Value.int IntKind.i64 0)), none⟩, []⟩,
  ⟨⟨some 10, Op.load 3 (Operand.tmp 9), none⟩, []⟩,
  ⟨⟨some 11, Op.move (Operand.tmp 5), none⟩, []⟩,
  ⟨⟨some 12, Op.indexAddr 66 (Operand.tmp 3) (Operand.const (Value.int IntKind.i64 1)), none⟩, []⟩,
  ⟨⟨some 13, Op.load 3 (Operand.tmp 12), none⟩, []⟩,
  ⟨⟨some 14, Op.move (Operand.tmp 5), none⟩, []⟩,
  ⟨⟨some 15, Op.indexAddr 66 (Operand.tmp 3) (Operand.const (Value.int IntKind.i64 1)), none⟩, []⟩,
  ⟨⟨some 16, Op.load 3 (Operand.tmp 15), none⟩, []⟩,
  ⟨⟨some 17, Op.indexAddr 22 (Operand.tmp 14) (Operand.tmp 16), none⟩, []⟩,
  ⟨⟨some 18, Op.load 3 (Operand.tmp 17), none⟩, []⟩,
  ⟨⟨some 19, Op.move (Operand.tmp 5), none⟩, []⟩,
  ⟨⟨some 20, Op.indexAddr 66 (Operand.tmp 3) (Operand.const (Value.int IntKind.i64 0)), none⟩, []⟩,
  ⟨⟨some 21, Op.load 3 (Operand.tmp 20), none⟩, []⟩,
  ⟨⟨some 22, Op.indexAddr 22 (Operand.tmp 19) (Operand.tmp 21), none⟩, []⟩,
  ⟨⟨some 23, Op.load 3 (Operand.tmp 22), none⟩, []⟩,
  ⟨⟨some 24, Op.indexAddr 22 (Operand.tmp 8) (Operand.tmp 10), none⟩, []⟩,
  ⟨⟨none, Op.store 3 (Operand.tmp 24) (Operand.tmp 18), none⟩, [⟨some 13, Op.load 3 (Operand.tmp 12), none⟩]⟩,
  ⟨⟨some 25, Op.indexAddr 22 (Operand.tmp 11) (Operand.tmp 13), none⟩, []⟩,
  ⟨⟨none, Op.store 3 (Operand.tmp 25) (Operand.tmp 23), none⟩, []⟩]) (.seq (.reg [⟨⟨some 26, Op.move (Operand.tmp 5), none⟩, []⟩,
  ⟨⟨some 4, Op.assign (Operand.tmp 26), none⟩, []⟩]) .ret))))
theorem sl63 : slim Try.f63.ntmps ords63 (Try.f63.body.getD .skip) = some cd63 := by kernel_rfl
theorem in63 {args : List Value} {H : AH} {R : Value → AH → Prop} (hl : args.length = 2) (h : ∀ (Q : Exit → Sl → AH → Prop), (∀ e s H, endA Try.prog [ResultVar.tmp 4] R e s H → Q e s H) → wpC Try.prog cd63 Q (enterA args) H) : ACalls Try.prog 63 args H R :=
  ACalls.intro (by kernel_rfl) Try.func63 rfl (by kernel_rfl) sl63 hl (of_decide_eq_true (by kernel_rfl)) (by kernel_rfl) h
end Go.Proofs.Ytahakecifgjcnaa.Ai
