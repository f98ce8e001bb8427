/- Slim code of this translation. By the kernel. -/
import Derived.Test.YtahakecifgjcnaaProg
import Derived.Test.YtahakecifgjcnaaAiM2
import Derived.KernelRfl
namespace Go.Proofs.Ytahakecifgjcnaa.Ai
open Go

/- slices.Index[[]int,int] -/
def ords103 : List (Nat × List (Nat × Bool)) := []
def cd103 : Cd := (.seq (.reg [⟨⟨some 4, Op.assign (Operand.const (Value.int IntKind.i64 0)), none⟩, []⟩]) (.seq (.seq (.reg [⟨⟨some 6, Op.move (Operand.tmp 0), none⟩, []⟩,
  ⟨⟨some 7, Op.call { callee := (Callee.builtin Builtin.len), args := #[(Operand.tmp 6)], argTypes := #[22] }, none⟩, []⟩,
  ⟨⟨some 8, Op.move (Operand.const (Value.int IntKind.i64 0)), none⟩, []⟩]) (.block 0 (.loop (.seq (.reg [⟨⟨some 9, Op.binOp BinOp.lss 3 (Operand.tmp 8) (Operand.tmp 7) 3, none⟩, []⟩]) (.seq (.cond (Operand.tmp 9) .skip (.exit 0)) (.seq (.block 1 (.seq (.reg [⟨⟨some 10, Op.move (Operand.tmp 8), none⟩, []⟩,
  ⟨⟨some 5, Op.assign (Operand.tmp 10), none⟩, []⟩]) (.seq (.reg [⟨⟨some 11, Op.move (Operand.tmp 1), none⟩, []⟩,
  ⟨⟨some 12, Op.move (Operand.tmp 0), none⟩, []⟩,
  ⟨⟨some 13, Op.move (Operand.tmp 5), none⟩, []⟩,
  ⟨⟨some 14, Op.indexAddr 22 (Operand.tmp 12) (Operand.tmp 13), none⟩, []⟩,
  ⟨⟨some 15, Op.load 3 (Operand.tmp 14), none⟩, []⟩,
  ⟨⟨some 16, Op.binOp BinOp.eql 3 (Operand.tmp 11) (Operand.tmp 15) 3, none⟩, []⟩]) (.cond (Operand.tmp 16) (.seq (.reg [⟨⟨some 17, Op.move (Operand.tmp 5), none⟩, []⟩,
  ⟨⟨some 4, Op.assign (Operand.tmp 17), none⟩, []⟩]) .ret) .skip)))) (.reg [⟨⟨some 18, Op.binOp BinOp.add 3 (Operand.tmp 8) (Operand.const (Value.int IntKind.i64 1)) 3, none⟩, []⟩,
  ⟨⟨some 8, Op.move (Operand.tmp 18), none⟩, []⟩]))))))) (.seq (.reg [⟨⟨some 4, Op.assign (Operand.const (Value.int IntKind.i64 (-1))), none⟩, []⟩]) .ret)))
theorem sl103 : slim Try.f103.ntmps ords103 (Try.f103.body.getD .skip) = some cd103 := by kernel_rfl
theorem in103 {args : List Value} {H : AH} {R : Value → AH → Prop} (hl : args.length = 2) (h : ∀ (Q : Exit → Sl → AH → Prop), (∀ e s H, endA Try.prog [ResultVar.tmp 4] R e s H → Q e s H) → wpC Try.prog cd103 Q (enterA args) H) : ACalls Try.prog 103 args H R :=
  ACalls.intro (by kernel_rfl) Try.func103 rfl (by kernel_rfl) sl103 hl (of_decide_eq_true (by kernel_rfl)) (by kernel_rfl) h

/- slices.Contains[[]int,int] -/
def ords72 : List (Nat × List (Nat × Bool)) := []
def cd72 : Cd := (.seq (.reg [⟨⟨some 4, Op.assign (Operand.const (Value.bool false)), none⟩, []⟩]) (.seq (.reg [⟨⟨some 5, Op.move (Operand.tmp 0), none⟩, []⟩,
  ⟨⟨some 6, Op.move (Operand.tmp 1), none⟩, []⟩,
  ⟨⟨some 7, Op.call { callee := (Callee.value (Operand.func 103)), args := #[(Operand.tmp 5), (Operand.tmp 6)], argTypes := #[22, 3] }, none⟩, []⟩,
  ⟨⟨some 8, Op.binOp BinOp.geq 3 (Operand.tmp 7) (Operand.const (Value.int IntKind.i64 0)) 3, none⟩, []⟩,
  ⟨⟨some 4, Op.assign (Operand.tmp 8), none⟩, []⟩]) .ret))
theorem sl72 : slim Try.f72.ntmps ords72 (Try.f72.body.getD .skip) = some cd72 := by kernel_rfl
theorem in72 {args : List Value} {H : AH} {R : Value → AH → Prop} (hl : args.length = 2) (h : ∀ (Q : Exit → Sl → AH → Prop), (∀ e s H, endA Try.prog [ResultVar.tmp 4] R e s H → Q e s H) → wpC Try.prog cd72 Q (enterA args) H) : ACalls Try.prog 72 args H R :=
  ACalls.intro (by kernel_rfl) Try.func72 rfl (by kernel_rfl) sl72 hl (of_decide_eq_true (by kernel_rfl)) (by kernel_rfl) h
end Go.Proofs.Ytahakecifgjcnaa.Ai
