/- Slim code of this translation. By the kernel. -/
import Derived.Test.YtahakecifgjcnaaProg
import Derived.Test.YtahakecifgjcnaaAiM2
import Derived.KernelRfl
namespace Go.Proofs.Ytahakecifgjcnaa.Ai
open Go

/- loop.example/g01128/impl.pair -/
def ords194 : List (Nat × List (Nat × Bool)) := []
def cd194 : Cd := (.seq (.reg [⟨⟨some 4, Op.alloc 66, none⟩, []⟩]) (.seq (.reg [⟨⟨some 5, Op.move (Operand.tmp 0), none⟩, []⟩,
  ⟨⟨some 6, Op.move (Operand.tmp 1), none⟩, []⟩,
  ⟨⟨some 7, Op.call { callee := (Callee.builtin Builtin.min), args := #[(Operand.tmp 5), (Operand.tmp 6)], argTypes := #[3, 3] }, none⟩, []⟩,
  ⟨⟨some 8, Op.move (Operand.tmp 0), none⟩, []⟩,
  ⟨⟨some 9, Op.move (Operand.tmp 1), none⟩, []⟩,
  ⟨⟨some 10, Op.call { callee := (Callee.builtin Builtin.max), args := #[(Operand.tmp 8), (Operand.tmp 9)], argTypes := #[3, 3] }, none⟩, []⟩,
  ⟨⟨some 11, Op.build 66 #[(0, (Operand.tmp 7)), (1, (Operand.tmp 10))], none⟩, []⟩,
  ⟨⟨none, Op.store 66 (Operand.tmp 4) (Operand.tmp 11), none⟩, []⟩]) .ret))
theorem sl194 : slim Try.f194.ntmps ords194 (Try.f194.body.getD .skip) = some cd194 := by kernel_rfl
set_option maxRecDepth 20000 in
theorem in194 {args : List Value} {H : AH} {R : Value → AH → Prop} (hl : args.length = 2) (h : ∀ (Q : Exit → Sl → AH → Prop), (∀ e s H, endA Try.prog [ResultVar.cell 4 66] R e s H → Q e s H) → wpC Try.prog cd194 Q (enterA args) H) : ACalls Try.prog 194 args H R :=
  ACalls.intro (by kernel_rfl) Try.func194 rfl (by kernel_rfl) sl194 hl (of_decide_eq_true (by kernel_rfl)) (by kernel_rfl) h
end Go.Proofs.Ytahakecifgjcnaa.Ai
