/- Slim code of this translation. By the kernel. -/
import Derived.Test.YtahakecifgjcnaaProg
import Derived.Test.YtahakecifgjcnaaAiM2
import Derived.KernelRfl
namespace Go.Proofs.Ytahakecifgjcnaa.Ai
open Go

/- loop.example/g01128/laws.szGraph -/
def ords27 : List (Nat × List (Nat × Bool)) := []
def cd27 : Cd := (.seq (.reg [⟨⟨some 2, Op.box 37 (Operand.tmp 0), none⟩, []⟩,
  ⟨⟨some 4, Op.assign (Operand.const (Value.int IntKind.i64 0)), none⟩, []⟩]) (.seq (.reg [⟨⟨some 5, Op.fieldAddr 37 (Operand.tmp 2) 1, none⟩, []⟩,
  ⟨⟨some 6, Op.load 23 (Operand.tmp 5), none⟩, []⟩,
  ⟨⟨some 7, Op.move (Operand.tmp 1), none⟩, []⟩,
  ⟨⟨some 8, Op.call { callee := (Callee.value (Operand.func 15)), args := #[(Operand.tmp 6), (Operand.tmp 7)], argTypes := #[23, 3] }, none⟩, []⟩,
  ⟨⟨some 1, Op.assign (Operand.tmp 8), none⟩, []⟩]) (.seq (.seq (.reg [⟨⟨some 9, Op.move (Operand.tmp 1), none⟩, []⟩,
  ⟨⟨some 10, Op.binOp BinOp.lss 3 (Operand.tmp 9) (Operand.const (Value.int IntKind.i64 0)) 3, none⟩, []⟩]) (.cond (Operand.tmp 10) (.seq (.reg [⟨⟨some 4, Op.assign (Operand.const (Value.int IntKind.i64 (-1))), none⟩, []⟩]) .ret) .skip)) (.seq (.reg [⟨⟨some 11, Op.move (Operand.tmp 1), none⟩, []⟩,
  ⟨⟨some 4, Op.assign (Operand.tmp 11), none⟩, []⟩]) .ret))))
theorem sl27 : slim Try.f27.ntmps ords27 (Try.f27.body.getD .skip) = some cd27 := by kernel_rfl
theorem in27 {args : List Value} {H : AH} {R : Value → AH → Prop} (hl : args.length = 2) (h : ∀ (Q : Exit → Sl → AH → Prop), (∀ e s H, endA Try.prog [ResultVar.tmp 4] R e s H → Q e s H) → wpC Try.prog cd27 Q (enterA args) H) : ACalls Try.prog 27 args H R :=
  ACalls.intro (by kernel_rfl) Try.func27 rfl (by kernel_rfl) sl27 hl (of_decide_eq_true (by kernel_rfl)) (by kernel_rfl) h

/- loop.example/g01128/laws.toGraph -/
def ords29 : List (Nat × List (Nat × Bool)) := []
def cd29 : Cd := (.seq (.reg [⟨⟨some 1, Op.box 37 (Operand.tmp 0), none⟩, []⟩,
  ⟨⟨some 2, Op.alloc 41, none⟩, []⟩]) (.seq (.reg [⟨⟨some 3, Op.alloc 41, none⟩, []⟩]) (.seq (.reg [⟨⟨some 4, Op.fieldAddr 37 (Operand.tmp 1) 0, none⟩, []⟩,
  ⟨⟨some 5, Op.load 3 (Operand.tmp 4), none⟩, []⟩,
  ⟨⟨some 6, Op.fieldAddr 41 (Operand.tmp 3) 0, none⟩, []⟩,
  ⟨⟨none, Op.store 3 (Operand.tmp 6) (Operand.tmp 5), none⟩, []⟩]) (.seq (.reg [⟨⟨some 7, Op.fieldAddr 37 (Operand.tmp 1) 1, none⟩, []⟩,
  ⟨⟨some 8, Op.load 23 (Operand.tmp 7), none⟩, []⟩,
  ⟨⟨some 9, Op.call { callee := (Callee.value (Operand.func 18)), args := #[(Operand.tmp 8)], argTypes := #[23] }, none⟩, []⟩,
  ⟨⟨some 10, Op.fieldAddr 41 (Operand.tmp 3) 1, none⟩, []⟩,
  ⟨⟨none, Op.store 23 (Operand.tmp 10) (Operand.tmp 9), none⟩, []⟩]) (.seq (.reg [⟨⟨some 11, Op.load 41 (Operand.tmp 3), none⟩, []⟩,
  ⟨⟨none, Op.store 41 (Operand.tmp 2) (Operand.tmp 11), none⟩, []⟩]) .ret)))))
theorem sl29 : slim Try.f29.ntmps ords29 (Try.f29.body.getD .skip) = some cd29 := by kernel_rfl
set_option maxRecDepth 20000 in
theorem in29 {args : List Value} {H : AH} {R : Value → AH → Prop} (hl : args.length = 1) (h : ∀ (Q : Exit → Sl → AH → Prop), (∀ e s H, endA Try.prog [ResultVar.cell 2 41] R e s H → Q e s H) → wpC Try.prog cd29 Q (enterA args) H) : ACalls Try.prog 29 args H R :=
  ACalls.intro (by kernel_rfl) Try.func29 rfl (by kernel_rfl) sl29 hl (of_decide_eq_true (by kernel_rfl)) (by kernel_rfl) h

/- loop.example/g01128/laws.eqGraph -/
def ords31 : List (Nat × List (Nat × Bool)) := []
def cd31 : Cd := (.seq (.reg [⟨⟨some 2, Op.box 41 (Operand.tmp 0), none⟩, []⟩,
  ⟨⟨some 3, Op.box 41 (Operand.tmp 1), none⟩, []⟩,
  ⟨⟨some 4, Op.assign (Operand.const (Value.bool false)), none⟩, []⟩]) (.seq (.seq (.reg [⟨⟨some 5, Op.fieldAddr 41 (Operand.tmp 2) 0, none⟩, []⟩,
  ⟨⟨some 6, Op.load 3 (Operand.tmp 5), none⟩, []⟩,
  ⟨⟨some 7, Op.fieldAddr 41 (Operand.tmp 3) 0, none⟩, []⟩,
  ⟨⟨some 8, Op.load 3 (Operand.tmp 7), none⟩, []⟩,
  ⟨⟨some 9, Op.binOp BinOp.neq 3 (Operand.tmp 6) (Operand.tmp 8) 3, none⟩, []⟩]) (.cond (Operand.tmp 9) (.seq (.reg [⟨⟨some 4, Op.assign (Operand.const (Value.bool false)), none⟩, []⟩]) .ret) .skip)) (.seq (.seq (.reg [⟨⟨some 10, Op.fieldAddr 41 (Operand.tmp 2) 1, none⟩, []⟩,
  ⟨⟨some 11, Op.load 23 (Operand.tmp 10), none⟩, []⟩,
  ⟨⟨some 12, Op.fieldAddr 41 (Operand.tmp 3) 1, none⟩, []⟩,
  ⟨⟨some 13, Op.load 23 (Operand.tmp 12), none⟩, []⟩,
  ⟨⟨some 14, Op.call { callee := (Callee.value (Operand.func 21)), args := #[(Operand.tmp 11), (Operand.tmp 13)], argTypes := #[23, 23] }, none⟩, []⟩,
  ⟨⟨some 15, Op.unOp UnOp.not 4 (Operand.tmp 14), none⟩, []⟩]) (.cond (Operand.tmp 15) (.seq (.reg [⟨⟨some 4, Op.assign (Operand.const (Value.bool false)), none⟩, []⟩]) .ret) .skip)) (.seq (.reg [⟨⟨some 4, Op.assign (Operand.const (Value.bool true)), none⟩, []⟩]) .ret))))
theorem sl31 : slim Try.f31.ntmps ords31 (Try.f31.body.getD .skip) = some cd31 := by kernel_rfl
theorem in31 {args : List Value} {H : AH} {R : Value → AH → Prop} (hl : args.length = 2) (h : ∀ (Q : Exit → Sl → AH → Prop), (∀ e s H, endA Try.prog [ResultVar.tmp 4] R e s H → Q e s H) → wpC Try.prog cd31 Q (enterA args) H) : ACalls Try.prog 31 args H R :=
  ACalls.intro (by kernel_rfl) Try.func31 rfl (by kernel_rfl) sl31 hl (of_decide_eq_true (by kernel_rfl)) (by kernel_rfl) h

/- loop.example/g01128/laws.markGraph -/
def ords43 : List (Nat × List (Nat × Bool)) := []
def cd43 : Cd := (.seq (.reg [⟨⟨some 2, Op.box 41 (Operand.tmp 0), none⟩, []⟩,
  ⟨⟨some 4, Op.assign (Operand.const (Value.int IntKind.i64 0)), none⟩, []⟩]) (.seq (.reg [⟨⟨some 5, Op.fieldAddr 41 (Operand.tmp 2) 1, none⟩, []⟩,
  ⟨⟨some 6, Op.load 23 (Operand.tmp 5), none⟩, []⟩,
  ⟨⟨some 7, Op.move (Operand.tmp 1), none⟩, []⟩,
  ⟨⟨some 8, Op.call { callee := (Callee.value (Operand.func 23)), args := #[(Operand.tmp 6), (Operand.tmp 7)], argTypes := #[23, 3] }, none⟩, []⟩,
  ⟨⟨some 1, Op.assign (Operand.tmp 8), none⟩, []⟩]) (.seq (.reg [⟨⟨some 9, Op.move (Operand.tmp 1), none⟩, []⟩,
  ⟨⟨some 4, Op.assign (Operand.tmp 9), none⟩, []⟩]) .ret)))
theorem sl43 : slim Try.f43.ntmps ords43 (Try.f43.body.getD .skip) = some cd43 := by kernel_rfl
theorem in43 {args : List Value} {H : AH} {R : Value → AH → Prop} (hl : args.length = 2) (h : ∀ (Q : Exit → Sl → AH → Prop), (∀ e s H, endA Try.prog [ResultVar.tmp 4] R e s H → Q e s H) → wpC Try.prog cd43 Q (enterA args) H) : ACalls Try.prog 43 args H R :=
  ACalls.intro (by kernel_rfl) Try.func43 rfl (by kernel_rfl) sl43 hl (of_decide_eq_true (by kernel_rfl)) (by kernel_rfl) h
end Go.Proofs.Ytahakecifgjcnaa.Ai
