/- Slim code of this translation. By the kernel. -/
import Derived.Test.YtnoihoeaconllaaProg
import Derived.Test.YtnoihoeaconllaaAiM2
import Derived.KernelRfl
namespace Go.Proofs.Ytnoihoeaconllaa.Ai
open Go

/- slices.Collect[int] -/
def ords104 : List (Nat × List (Nat × Bool)) := []
def cd104 : Cd := (.seq (.reg [⟨⟨some 2, Op.assign (Operand.const (Value.slice none 0 0)), none⟩, []⟩]) (.seq (.reg [⟨⟨some 3, Op.move (Operand.tmp 0), none⟩, []⟩,
  ⟨⟨some 4, Op.call { callee := (Callee.value (Operand.func 123)), args := #[(Operand.const (Value.slice none 0 0)), (Operand.tmp 3)], argTypes := #[22, 80] }, none⟩, []⟩,
  ⟨⟨some 2, Op.assign (Operand.tmp 4), none⟩, []⟩]) .ret))
theorem sl104 : slim Try.f104.ntmps ords104 (Try.f104.body.getD .skip) = some cd104 := by kernel_rfl
theorem in104 {args : List Value} {H : AH} {R : Value → AH → Prop} (hl : args.length = 1) (h : ∀ (Q : Exit → Sl → AH → Prop), (∀ e s H, endA Try.prog [ResultVar.tmp 2] R e s H → Q e s H) → wpC Try.prog cd104 Q (enterA args) H) : ACalls Try.prog 104 args H R :=
  ACalls.intro (by kernel_rfl) Try.func104 rfl (by kernel_rfl) sl104 hl (of_decide_eq_true (by kernel_rfl)) (by kernel_rfl) h

/- slices.Values[[]int,int] -/
def ords86 : List (Nat × List (Nat × Bool)) := []
def cd86 : Cd := (.seq (.reg [⟨⟨some 1, Op.box 22 (Operand.tmp 0), none⟩, []⟩,
  ⟨⟨some 2, Op.assign (Operand.const Value.nilFunc), none⟩, []⟩]) (.seq (.reg [⟨⟨some 3, Op.makeFunc (Fn.func 105) #[] #[(Operand.tmp 1)], none⟩, []⟩,
  ⟨⟨some 2, Op.assign (Operand.tmp 3), none⟩, []⟩]) .ret))
theorem sl86 : slim Try.f86.ntmps ords86 (Try.f86.body.getD .skip) = some cd86 := by kernel_rfl
theorem in86 {args : List Value} {H : AH} {R : Value → AH → Prop} (hl : args.length = 1) (h : ∀ (Q : Exit → Sl → AH → Prop), (∀ e s H, endA Try.prog [ResultVar.tmp 2] R e s H → Q e s H) → wpC Try.prog cd86 Q (enterA args) H) : ACalls Try.prog 86 args H R :=
  ACalls.intro (by kernel_rfl) Try.func86 rfl (by kernel_rfl) sl86 hl (of_decide_eq_true (by kernel_rfl)) (by kernel_rfl) h

/- slices.Sorted[int] -/
def ords85 : List (Nat × List (Nat × Bool)) := []
def cd85 : Cd := (.seq (.reg [⟨⟨some 2, Op.assign (Operand.const (Value.slice none 0 0)), none⟩, []⟩]) (.seq (.reg [⟨⟨some 4, Op.move (Operand.tmp 0), none⟩, []⟩,
  ⟨⟨some 5, Op.call { callee := (Callee.value (Operand.func 104)), args := #[(Operand.tmp 4)], argTypes := #[80] }, none⟩, []⟩,
  ⟨⟨some 3, Op.assign (Operand.tmp 5), none⟩, []⟩]) (.seq (.reg [⟨⟨some 6, Op.move (Operand.tmp 3), none⟩, []⟩,
  ⟨⟨some 7, Op.call { callee := (Callee.value (Operand.func 71)), args := #[(Operand.tmp 6)], argTypes := #[22] }, none⟩, []⟩]) (.seq (.reg [⟨⟨some 8, Op.move (Operand.tmp 3), none⟩, []⟩,
  ⟨⟨some 2, Op.assign (Operand.tmp 8), none⟩, []⟩]) .ret))))
theorem sl85 : slim Try.f85.ntmps ords85 (Try.f85.body.getD .skip) = some cd85 := by kernel_rfl
theorem in85 {args : List Value} {H : AH} {R : Value → AH → Prop} (hl : args.length = 1) (h : ∀ (Q : Exit → Sl → AH → Prop), (∀ e s H, endA Try.prog [ResultVar.tmp 2] R e s H → Q e s H) → wpC Try.prog cd85 Q (enterA args) H) : ACalls Try.prog 85 args H R :=
  ACalls.intro (by kernel_rfl) Try.func85 rfl (by kernel_rfl) sl85 hl (of_decide_eq_true (by kernel_rfl)) (by kernel_rfl) h
end Go.Proofs.Ytnoihoeaconllaa.Ai
