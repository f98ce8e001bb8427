/- Slim code of this translation. By the kernel. -/
import Derived.Test.YtnoihoeaconllaaProg
import Derived.Test.YtnoihoeaconllaaAiC
import Derived.KernelRfl
namespace Go.Proofs.Ytnoihoeaconllaa.Ai
open Go

/- loop.example/g01128/spec.l8Corners -/
def ords92 : List (Nat × List (Nat × Bool)) := []
def cd92 : Cd := (.seq (.reg [⟨⟨some 2, Op.assign (Operand.const (Value.bool false)), none⟩, []⟩]) (.seq (.reg [⟨⟨some 3, Op.move (Operand.tmp 0), none⟩, []⟩,
  ⟨⟨some 4, Op.call { callee := (Callee.value (Operand.func 65)), args := #[(Operand.tmp 3), (Operand.const (Value.int IntKind.i64 3)), (Operand.const (Value.int IntKind.i64 8))], argTypes := #[3, 3, 3] }, none⟩, []⟩,
  ⟨⟨some 2, Op.assign (Operand.tmp 4), none⟩, []⟩]) .ret))
theorem sl92 : slim Try.f92.ntmps ords92 (Try.f92.body.getD .skip) = some cd92 := by kernel_rfl
theorem in92 {args : List Value} {H : AH} {R : Value → AH → Prop} (hl : args.length = 1) (h : ∀ (Q : Exit → Sl → AH → Prop), (∀ e s H, endA Try.prog [ResultVar.tmp 2] R e s H → Q e s H) → wpC Try.prog cd92 Q (enterA args) H) : ACalls Try.prog 92 args H R :=
  ACalls.intro (by kernel_rfl) Try.func92 rfl (by kernel_rfl) sl92 hl (of_decide_eq_true (by kernel_rfl)) (by kernel_rfl) h

/- loop.example/g01128/impl.isPolygon -/
def ords94 : List (Nat × List (Nat × Bool)) := []
def cd94 : Cd := (.seq (.reg [⟨⟨some 2, Op.assign (Operand.const (Value.bool false)), none⟩, []⟩]) (.seq (.reg [⟨⟨some 3, Op.move (Operand.tmp 0), none⟩, []⟩,
  ⟨⟨some 4, Op.call { callee := (Callee.value (Operand.func 68)), args := #[(Operand.tmp 3), (Operand.const (Value.int IntKind.i64 3)), (Operand.const (Value.int IntKind.i64 8))], argTypes := #[3, 3, 3] }, none⟩, []⟩,
  ⟨⟨some 2, Op.assign (Operand.tmp 4), none⟩, []⟩]) .ret))
theorem sl94 : slim Try.f94.ntmps ords94 (Try.f94.body.getD .skip) = some cd94 := by kernel_rfl
theorem in94 {args : List Value} {H : AH} {R : Value → AH → Prop} (hl : args.length = 1) (h : ∀ (Q : Exit → Sl → AH → Prop), (∀ e s H, endA Try.prog [ResultVar.tmp 2] R e s H → Q e s H) → wpC Try.prog cd94 Q (enterA args) H) : ACalls Try.prog 94 args H R :=
  ACalls.intro (by kernel_rfl) Try.func94 rfl (by kernel_rfl) sl94 hl (of_decide_eq_true (by kernel_rfl)) (by kernel_rfl) h
end Go.Proofs.Ytnoihoeaconllaa.Ai
