/- Slim code of this translation. By the kernel. -/
import Derived.Test.YtahakecifgjcnaaProg
import Derived.Test.YtahakecifgjcnaaAiM2
import Derived.KernelRfl
namespace Go.Proofs.Ytahakecifgjcnaa.Ai
open Go

/- loop.example/g01128/impl.diagonals -/
def ords74 : List (Nat × List (Nat × Bool)) := []
def cd74 : Cd := (.seq (.reg [⟨⟨some 2, Op.assign (Operand.const (Value.slice none 0 0)), none⟩, []⟩]) (.seq (.reg [⟨⟨some 5, Op.buildSlice 22 0 #[], none⟩, []⟩,
  ⟨⟨some 3, Op.assign (Operand.tmp 5), none⟩, []⟩]) (.seq (.seq (.reg [⟨⟨some 6, Op.move (Operand.const (Value.int IntKind.i64 0)), none⟩, []⟩]) (.block 0 (.loop (.seq (.reg [⟨⟨some 7, Op.binOp BinOp.lss 3 (Operand.tmp 6) (Operand.const (Value.int IntKind.i64 100)) 3, none⟩, []⟩]) (.seq (.cond (Operand.tmp 7) .skip (.exit 0)) (.seq (.block 1 (.seq (.reg [⟨⟨some 8, Op.move (Operand.tmp 6), none⟩, []⟩,
  ⟨⟨some 4, Op.assign (Operand.tmp 8), none⟩, []⟩]) (.seq (.reg [⟨⟨some 9, Op.move (Operand.tmp 0), none⟩, []⟩,
  ⟨⟨some 10, Op.move (Operand.tmp 4), none⟩, []⟩,
  ⟨⟨some 11, Op.call { callee := (Callee.value (Operand.func 121)), args := #[(Operand.tmp 9), (Operand.tmp 10)], argTypes := #[3, 3] }, none⟩, []⟩]) (.cond (Operand.tmp 11) (.reg [⟨⟨some 12, Op.move (Operand.tmp 3), none⟩, []⟩,
  ⟨⟨some 13, Op.move (Operand.tmp 4), none⟩, []⟩,
  ⟨⟨some 14, Op.buildSlice 22 1 #[(0, (Operand.tmp 13))], none⟩, []⟩,
  ⟨⟨some 15, Op.call { callee := (Callee.builtin Builtin.append), args := #[(Operand.tmp 12), (Operand.tmp 14)], argTypes := #[22, 22] }, none⟩, []⟩,
  ⟨⟨some 3, Op.assign (Operand.tmp 15), none⟩, []⟩]) .skip)))) (.reg [⟨⟨some 16, Op.binOp BinOp.add 3 (Operand.tmp 6) (Operand.const (Value.int IntKind.i64 1)) 3, none⟩, []⟩,
  ⟨⟨some 6, Op.move (Operand.tmp 16), none⟩, []⟩]))))))) (.seq (.reg [⟨⟨some 17, Op.move (Operand.tmp 3), none⟩, []⟩,
  ⟨⟨some 2, Op.assign (Operand.tmp 17), none⟩, []⟩]) .ret))))
theorem sl74 : slim Try.f74.ntmps ords74 (Try.f74.body.getD .skip) = some cd74 := by kernel_rfl
theorem in74 {args : List Value} {H : AH} {R : Value → AH → Prop} (hl : args.length = 1) (h : ∀ (Q : Exit → Sl → AH → Prop), (∀ e s H, endA Try.prog [ResultVar.tmp 2] R e s H → Q e s H) → wpC Try.prog cd74 Q (enterA args) H) : ACalls Try.prog 74 args H R :=
  ACalls.intro (by kernel_rfl) Try.func74 rfl (by kernel_rfl) sl74 hl (of_decide_eq_true (by kernel_rfl)) (by kernel_rfl) h
end Go.Proofs.Ytahakecifgjcnaa.Ai
