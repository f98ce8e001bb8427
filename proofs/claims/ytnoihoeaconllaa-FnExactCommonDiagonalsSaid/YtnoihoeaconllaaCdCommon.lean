/- Slim code of this translation. By the kernel. -/
import Derived.Test.YtnoihoeaconllaaProg
import Derived.Test.YtnoihoeaconllaaAiC
import Derived.KernelRfl
namespace Go.Proofs.Ytnoihoeaconllaa.Ai
open Go

/- slices.Index[[]int,int] -/
def ords74 : List (Nat × List (Nat × Bool)) := []
def cd74 : Cd := (.seq (.reg [⟨⟨some 4, Op.assign (Operand.const (Value.int IntKind.i64 0)), none⟩, []⟩]) (.seq (.seq (.reg [⟨⟨some 6, Op.move (Operand.tmp 0), none⟩, []⟩,
  ⟨⟨some 7, Op.call { callee := (Callee.builtin Builtin.len), args := #[(Operand.tmp 6)], argTypes := #[22] }, none⟩, []⟩,
  ⟨⟨some 8, Op.move (Operand.const (Value.int IntKind.i64 0)), none⟩, []⟩]) (.block 0 (.loop (.seq (.reg [⟨⟨some 9, Op.binOp BinOp.lss 3 (Operand.tmp 8) (Operand.tmp 7) 3, none⟩, []⟩]) (.seq (.cond (Operand.tmp 9) .skip (.exit 0)) (.seq (.block 1 (.seq (.reg [⟨⟨some 10, Op.move (Operand.tmp 8), none⟩, []⟩,
  ⟨⟨some 5, Op.assign (Operand.tmp 10), none⟩, []⟩]) (.seq (.reg [⟨⟨some 11, Op.move (Operand.tmp 1), none⟩, []⟩,
  ⟨⟨some 12, Op.move (Operand.tmp 0), none⟩, []⟩,
  ⟨⟨some 13, Op.move (Operand.tmp 5), none⟩, []⟩,
  ⟨⟨some 14, Op.indexAddr 22 (Operand.tmp 12) (Operand.tmp 13), none⟩, []⟩,
  ⟨⟨some 15, Op.load 3 (Operand.tmp 14), none⟩, []⟩,
  ⟨⟨some 16, Op.binOp BinOp.eql 3 (Operand.tmp 11) (Operand.tmp 15) 3, none⟩, []⟩]) (.cond (Operand.tmp 16) (.seq (.reg [⟨⟨some 17, Op.move (Operand.tmp 5), none⟩, []⟩,
  ⟨⟨some 4, Op.assign (Operand.tmp 17), none⟩, []⟩]) .ret) .skip)))) (.reg [⟨⟨some 18, Op.binOp BinOp.add 3 (Operand.tmp 8) (Operand.const (Value.int IntKind.i64 1)) 3, none⟩, []⟩,
  ⟨⟨some 8, Op.move (Operand.tmp 18), none⟩, []⟩]))))))) (.seq (.reg [⟨⟨some 4, Op.assign (Operand.const (Value.int IntKind.i64 (-1))), none⟩, []⟩]) .ret)))
theorem sl74 : slim Try.f74.ntmps ords74 (Try.f74.body.getD .skip) = some cd74 := by kernel_rfl
theorem in74 {args : List Value} {H : AH} {R : Value → AH → Prop} (hl : args.length = 2) (h : ∀ (Q : Exit → Sl → AH → Prop), (∀ e s H, endA Try.prog [ResultVar.tmp 4] R e s H → Q e s H) → wpC Try.prog cd74 Q (enterA args) H) : ACalls Try.prog 74 args H R :=
  ACalls.intro (by kernel_rfl) Try.func74 rfl (by kernel_rfl) sl74 hl (of_decide_eq_true (by kernel_rfl)) (by kernel_rfl) h

/- slices.Contains[[]int,int] -/
def ords83 : List (Nat × List (Nat × Bool)) := []
def cd83 : Cd := (.seq (.reg [⟨⟨some 4, Op.assign (Operand.const (Value.bool false)), none⟩, []⟩]) (.seq (.reg [⟨⟨some 5, Op.move (Operand.tmp 0), none⟩, []⟩,
  ⟨⟨some 6, Op.move (Operand.tmp 1), none⟩, []⟩,
  ⟨⟨some 7, Op.call { callee := (Callee.value (Operand.func 74)), args := #[(Operand.tmp 5), (Operand.tmp 6)], argTypes := #[22, 3] }, none⟩, []⟩,
  ⟨⟨some 8, Op.binOp BinOp.geq 3 (Operand.tmp 7) (Operand.const (Value.int IntKind.i64 0)) 3, none⟩, []⟩,
  ⟨⟨some 4, Op.assign (Operand.tmp 8), none⟩, []⟩]) .ret))
theorem sl83 : slim Try.f83.ntmps ords83 (Try.f83.body.getD .skip) = some cd83 := by kernel_rfl
theorem in83 {args : List Value} {H : AH} {R : Value → AH → Prop} (hl : args.length = 2) (h : ∀ (Q : Exit → Sl → AH → Prop), (∀ e s H, endA Try.prog [ResultVar.tmp 4] R e s H → Q e s H) → wpC Try.prog cd83 Q (enterA args) H) : ACalls Try.prog 83 args H R :=
  ACalls.intro (by kernel_rfl) Try.func83 rfl (by kernel_rfl) sl83 hl (of_decide_eq_true (by kernel_rfl)) (by kernel_rfl) h

/- loop.example/g01128/impl.without -/
def ords60 : List (Nat × List (Nat × Bool)) := []
def cd60 : Cd := (.seq (.reg [⟨⟨some 4, Op.assign (Operand.const (Value.slice none 0 0)), none⟩, []⟩]) (.seq (.reg [⟨⟨some 8, Op.buildSlice 22 0 #[], none⟩, []⟩,
  ⟨⟨some 5, Op.assign (Operand.tmp 8), none⟩, []⟩]) (.seq (.seq (.reg [⟨⟨some 9, Op.move (Operand.tmp 0), none⟩, []⟩,
  ⟨⟨some 10, Op.call { callee := (Callee.builtin Builtin.len), args := #[(Operand.tmp 9)], argTypes := #[22] }, none⟩, []⟩,
  ⟨⟨some 11, Op.move (Operand.const (Value.int IntKind.i64 0)), none⟩, []⟩]) (.block 0 (.loop (.seq (.reg [⟨⟨some 12, Op.binOp BinOp.lss 3 (Operand.tmp 11) (Operand.tmp 10) 3, none⟩, []⟩]) (.seq (.cond (Operand.tmp 12) .skip (.exit 0)) (.seq (.block 1 (.seq (.reg [⟨⟨some 13, Op.indexAddr 22 (Operand.tmp 9) (Operand.tmp 11), none⟩, []⟩,
  ⟨⟨some 14, Op.load 3 (Operand.tmp 13), none⟩, []⟩,
  ⟨⟨some 7, Op.assign (Operand.tmp 14), none⟩, []⟩]) (.seq (.reg [⟨⟨some 15, Op.move (Operand.tmp 1), none⟩, []⟩,
  ⟨⟨some 16, Op.move (Operand.tmp 7), none⟩, []⟩,
  ⟨⟨some 17, Op.call { callee := (Callee.value (Operand.func 83)), args := #[(Operand.tmp 15), (Operand.tmp 16)], argTypes := #[22, 3] }, none⟩, []⟩,
  ⟨⟨some 18, Op.unOp UnOp.not 4 (Operand.tmp 17), none⟩, []⟩]) (.cond (Operand.tmp 18) (.reg [⟨⟨some 19, Op.move (Operand.tmp 5), none⟩, []⟩,
  ⟨⟨some 20, Op.move (Operand.tmp 7), none⟩, []⟩,
  ⟨⟨some 21, Op.buildSlice 22 1 #[(0, (Operand.tmp 20))], none⟩, []⟩,
  ⟨⟨some 22, Op.call { callee := (Callee.builtin Builtin.append), args := #[(Operand.tmp 19), (Operand.tmp 21)], argTypes := #[22, 22] }, none⟩, []⟩,
  ⟨⟨some 5, Op.assign (Operand.tmp 22), none⟩, []⟩]) .skip)))) (.reg [⟨⟨some 23, Op.binOp BinOp.add 3 (Operand.tmp 11) (Operand.const (Value.int IntKind.i64 1)) 3, none⟩, []⟩,
  ⟨⟨some 11, Op.move (Operand.tmp 23), none⟩, []⟩]))))))) (.seq (.reg [⟨⟨some 24, Op.move (Operand.tmp 5), none⟩, []⟩,
  ⟨⟨some 4, Op.assign (Operand.tmp 24), none⟩, []⟩]) .ret))))
theorem sl60 : slim Try.f60.ntmps ords60 (Try.f60.body.getD .skip) = some cd60 := by kernel_rfl
theorem in60 {args : List Value} {H : AH} {R : Value → AH → Prop} (hl : args.length = 2) (h : ∀ (Q : Exit → Sl → AH → Prop), (∀ e s H, endA Try.prog [ResultVar.tmp 4] R e s H → Q e s H) → wpC Try.prog cd60 Q (enterA args) H) : ACalls Try.prog 60 args H R :=
  ACalls.intro (by kernel_rfl) Try.func60 rfl (by kernel_rfl) sl60 hl (of_decide_eq_true (by kernel_rfl)) (by kernel_rfl) h

/- loop.example/g01128/spec.CommonDiagonals -/
def ords19 : List (Nat × List (Nat × Bool)) := []
def cd19 : Cd := (.seq (.reg [⟨⟨some 6, Op.assign (Operand.const (Value.slice none 0 0)), none⟩, []⟩,
  ⟨⟨some 7, Op.assign (Operand.const (Value.bool false)), none⟩, []⟩]) (.seq (.reg [⟨⟨some 10, Op.buildSlice 22 0 #[], none⟩, []⟩,
  ⟨⟨some 8, Op.assign (Operand.tmp 10), none⟩, []⟩]) (.seq (.seq (.reg [⟨⟨some 11, Op.move (Operand.tmp 0), none⟩, []⟩,
  ⟨⟨some 12, Op.move (Operand.tmp 1), none⟩, []⟩,
  ⟨⟨some 13, Op.call { callee := (Callee.value (Operand.func 54)), args := #[(Operand.tmp 11), (Operand.tmp 12)], argTypes := #[3, 22] }, none⟩, []⟩,
  ⟨⟨some 14, Op.unOp UnOp.not 4 (Operand.tmp 13), none⟩, []⟩,
  ⟨⟨some 15, Op.move (Operand.tmp 14), none⟩, []⟩,
  ⟨⟨some 16, Op.move (Operand.tmp 0), some (15, false)⟩, []⟩,
  ⟨⟨some 17, Op.move (Operand.tmp 2), some (15, false)⟩, []⟩,
  ⟨⟨some 18, Op.call { callee := (Callee.value (Operand.func 54)), args := #[(Operand.tmp 16), (Operand.tmp 17)], argTypes := #[3, 22] }, some (15, false)⟩, []⟩,
  ⟨⟨some 19, Op.unOp UnOp.not 4 (Operand.tmp 18), some (15, false)⟩, []⟩,
  ⟨⟨some 20, Op.pick (Operand.tmp 15) (Operand.const (Value.bool true)) (Operand.tmp 19), none⟩, []⟩]) (.cond (Operand.tmp 20) (.seq (.reg [⟨⟨some 21, Op.move (Operand.tmp 8), none⟩, []⟩,
  ⟨⟨some 6, Op.assign (Operand.tmp 21), none⟩, []⟩,
  ⟨⟨some 7, Op.assign (Operand.const (Value.bool false)), none⟩, []⟩]) .ret) .skip)) (.seq (.seq (.reg [⟨⟨some 9, Op.assign (Operand.const (Value.int IntKind.i64 0)), none⟩, []⟩]) (.block 0 (.loop (.seq (.seq (.reg [⟨⟨some 22, Op.move (Operand.tmp 9), none⟩, []⟩,
  ⟨⟨some 23, Op.move (Operand.tmp 1), none⟩, []⟩,
  ⟨⟨some 24, Op.call { callee := (Callee.builtin Builtin.len), args := #[(Operand.tmp 23)], argTypes := #[22] }, none⟩, []⟩,
  ⟨⟨some 25, Op.binOp BinOp.lss 3 (Operand.tmp 22) (Operand.tmp 24) 3, none⟩, []⟩]) (.cond (Operand.tmp 25) .skip (.exit 0))) (.seq (.block 1 (.seq (.reg [⟨⟨some 28, Op.move (Operand.tmp 2), none⟩, []⟩,
  ⟨⟨some 29, Op.move (Operand.tmp 1), none⟩, []⟩,
  ⟨⟨some 30, Op.move (Operand.tmp 9), none⟩, []⟩,
  ⟨⟨some 31, Op.indexAddr 22 (Operand.tmp 29) (Operand.tmp 30), none⟩, []⟩,
  ⟨⟨some 32, Op.load 3 (Operand.tmp 31), none⟩, []⟩,
  ⟨⟨some 33, Op.call { callee := (Callee.value (Operand.func 59)), args := #[(Operand.tmp 28), (Operand.tmp 32)], argTypes := #[22, 3] }, none⟩, []⟩]) (.cond (Operand.tmp 33) (.reg [⟨⟨some 34, Op.move (Operand.tmp 8), none⟩, []⟩,
  ⟨⟨some 35, Op.move (Operand.tmp 1), none⟩, []⟩,
  ⟨⟨some 36, Op.move (Operand.tmp 9), none⟩, []⟩,
  ⟨⟨some 37, Op.indexAddr 22 (Operand.tmp 35) (Operand.tmp 36), none⟩, []⟩,
  ⟨⟨some 38, Op.load 3 (Operand.tmp 37), none⟩, []⟩,
  ⟨⟨some 39, Op.buildSlice 22 1 #[(0, (Operand.tmp 38))], none⟩, []⟩,
  ⟨⟨some 40, Op.call { callee := (Callee.builtin Builtin.append), args := #[(Operand.tmp 34), (Operand.tmp 39)], argTypes := #[22, 22] }, none⟩, []⟩,
  ⟨⟨some 8, Op.assign (Operand.tmp 40), none⟩, []⟩]) .skip))) (.reg [⟨⟨some 26, Op.move (Operand.tmp 9), none⟩, []⟩,
  ⟨⟨some 27, Op.binOp BinOp.add 3 (Operand.tmp 26) (Operand.const (Value.int IntKind.i64 1)) 3, none⟩, []⟩,
  ⟨⟨some 9, Op.assign (Operand.tmp 27), none⟩, []⟩])))))) (.seq (.reg [⟨⟨some 41, Op.move (Operand.tmp 8), none⟩, []⟩,
  ⟨⟨some 6, Op.assign (Operand.tmp 41), none⟩, []⟩,
  ⟨⟨some 7, Op.assign (Operand.const (Value.bool true)), none⟩, []⟩]) .ret)))))
theorem sl19 : slim Try.f19.ntmps ords19 (Try.f19.body.getD .skip) = some cd19 := by kernel_rfl
theorem in19 {args : List Value} {H : AH} {R : Value → AH → Prop} (hl : args.length = 3) (h : ∀ (Q : Exit → Sl → AH → Prop), (∀ e s H, endA Try.prog [ResultVar.tmp 6, ResultVar.tmp 7] R e s H → Q e s H) → wpC Try.prog cd19 Q (enterA args) H) : ACalls Try.prog 19 args H R :=
  ACalls.intro (by kernel_rfl) Try.func19 rfl (by kernel_rfl) sl19 hl (of_decide_eq_true (by kernel_rfl)) (by kernel_rfl) h

/- loop.example/g01128/impl.CommonDiagonals -/
def ords20 : List (Nat × List (Nat × Bool)) := []
def cd20 : Cd := (.seq (.reg [⟨⟨some 6, Op.assign (Operand.const (Value.slice none 0 0)), none⟩, []⟩,
  ⟨⟨some 7, Op.assign (Operand.const (Value.bool false)), none⟩, []⟩]) (.seq (.seq (.reg [⟨⟨some 8, Op.move (Operand.tmp 0), none⟩, []⟩,
  ⟨⟨some 9, Op.move (Operand.tmp 1), none⟩, []⟩,
  ⟨⟨some 10, Op.move (Operand.tmp 2), none⟩, []⟩,
  ⟨⟨some 11, Op.buildSlice 35 2 #[(0, (Operand.tmp 9)), (1, (Operand.tmp 10))], none⟩, []⟩,
  ⟨⟨some 12, Op.call { callee := (Callee.value (Operand.func 57)), args := #[(Operand.tmp 8), (Operand.tmp 11)], argTypes := #[3, 35] }, none⟩, []⟩,
  ⟨⟨some 13, Op.unOp UnOp.not 4 (Operand.tmp 12), none⟩, []⟩]) (.cond (Operand.tmp 13) (.seq (.reg [⟨⟨some 6, Op.assign (Operand.const (Value.slice none 0 0)), none⟩, []⟩,
  ⟨⟨some 7, Op.assign (Operand.const (Value.bool false)), none⟩, []⟩]) .ret) .skip)) (.seq (.reg [⟨⟨some 14, Op.move (Operand.tmp 1), none⟩, []⟩,
  ⟨⟨some 15, Op.move (Operand.tmp 1), none⟩, []⟩,
  ⟨⟨some 16, Op.move (Operand.tmp 2), none⟩, []⟩,
  ⟨⟨some 17, Op.call { callee := (Callee.value (Operand.func 60)), args := #[(Operand.tmp 15), (Operand.tmp 16)], argTypes := #[22, 22] }, none⟩, []⟩,
  ⟨⟨some 18, Op.call { callee := (Callee.value (Operand.func 60)), args := #[(Operand.tmp 14), (Operand.tmp 17)], argTypes := #[22, 22] }, none⟩, []⟩,
  ⟨⟨some 6, Op.assign (Operand.tmp 18), none⟩, []⟩,
  ⟨⟨some 7, Op.assign (Operand.const (Value.bool true)), none⟩, []⟩]) .ret)))
theorem sl20 : slim Try.f20.ntmps ords20 (Try.f20.body.getD .skip) = some cd20 := by kernel_rfl
theorem in20 {args : List Value} {H : AH} {R : Value → AH → Prop} (hl : args.length = 3) (h : ∀ (Q : Exit → Sl → AH → Prop), (∀ e s H, endA Try.prog [ResultVar.tmp 6, ResultVar.tmp 7] R e s H → Q e s H) → wpC Try.prog cd20 Q (enterA args) H) : ACalls Try.prog 20 args H R :=
  ACalls.intro (by kernel_rfl) Try.func20 rfl (by kernel_rfl) sl20 hl (of_decide_eq_true (by kernel_rfl)) (by kernel_rfl) h
end Go.Proofs.Ytnoihoeaconllaa.Ai
