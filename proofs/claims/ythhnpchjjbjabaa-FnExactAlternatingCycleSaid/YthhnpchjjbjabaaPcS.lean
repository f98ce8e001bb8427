/- Pieces of the difference: spec's side; DifferencePieces, both sides. -/
import Derived.Test.YthhnpchjjbjabaaPcI
import Derived.Test.YthhnpchjjbjabaaReach
import Derived.Test.YthhnpchjjbjabaaRoads
import Derived.Test.YthhnpchjjbjabaaHas
import Derived.Test.YthhnpchjjbjabaaArr
import Derived.Test.YthhnpchjjbjabaaGood
import Derived.Test.YthhnpchjjbjabaaProg
import Derived.Test.YthhnpchjjbjabaaAiM2
import Derived.KernelRfl
/- Slim code of this translation. By the kernel. -/
namespace Go.Proofs.Ythhnpchjjbjabaa.Ai
open Go

/- loop.example/g01128/spec.l8Two -/
def ords89 : List (Nat × List (Nat × Bool)) := []
def cd89 : Cd := (.seq (.reg [⟨⟨some 3, Op.box 28 (Operand.tmp 0), none⟩, []⟩,
  ⟨⟨some 6, Op.assign (Operand.const (Value.bool false)), none⟩, []⟩]) (.seq (.reg [⟨⟨some 7, Op.load 28 (Operand.tmp 3), none⟩, []⟩,
  ⟨⟨some 8, Op.call { callee := (Callee.value (Operand.func 57)), args := #[(Operand.tmp 7)], argTypes := #[28] }, none⟩, []⟩,
  ⟨⟨some 9, Op.move (Operand.tmp 8), none⟩, []⟩,
  ⟨⟨some 10, Op.load 28 (Operand.tmp 3), some (9, true)⟩, []⟩,
  ⟨⟨some 11, Op.move (Operand.tmp 1), some (9, true)⟩, []⟩,
  ⟨⟨some 12, Op.call { callee := (Callee.value (Operand.func 134)), args := #[(Operand.tmp 10), (Operand.tmp 11)], argTypes := #[28, 32] }, some (9, true)⟩, []⟩,
  ⟨⟨some 13, Op.pick (Operand.tmp 9) (Operand.tmp 12) (Operand.const (Value.bool false)), none⟩, []⟩,
  ⟨⟨some 14, Op.move (Operand.tmp 13), none⟩, []⟩,
  ⟨⟨some 15, Op.load 28 (Operand.tmp 3), some (14, true)⟩, []⟩,
  ⟨⟨some 16, Op.move (Operand.tmp 2), some (14, true)⟩, []⟩,
  ⟨⟨some 17, Op.call { callee := (Callee.value (Operand.func 134)), args := #[(Operand.tmp 15), (Operand.tmp 16)], argTypes := #[28, 32] }, some (14, true)⟩, []⟩,
  ⟨⟨some 18, Op.pick (Operand.tmp 14) (Operand.tmp 17) (Operand.const (Value.bool false)), none⟩, []⟩,
  ⟨⟨some 6, Op.assign (Operand.tmp 18), none⟩, []⟩]) .ret))
theorem sl89 : slim Try.f89.ntmps ords89 (Try.f89.body.getD .skip) = some cd89 := by kernel_rfl
theorem in89 {args : List Value} {H : AH} {R : Value → AH → Prop} (hl : args.length = 3) (h : ∀ (Q : Exit → Sl → AH → Prop), (∀ e s H, endA Try.prog [ResultVar.tmp 6] R e s H → Q e s H) → wpC Try.prog cd89 Q (enterA args) H) : ACalls Try.prog 89 args H R :=
  ACalls.intro (by kernel_rfl) Try.func89 rfl (by kernel_rfl) sl89 hl (of_decide_eq_true (by kernel_rfl)) (by kernel_rfl) h

/- loop.example/g01128/impl.areMatchings -/
def ords91 : List (Nat × List (Nat × Bool)) := []
def cd91 : Cd := (.seq (.reg [⟨⟨some 3, Op.box 28 (Operand.tmp 0), none⟩, []⟩,
  ⟨⟨some 6, Op.assign (Operand.const (Value.bool false)), none⟩, []⟩]) (.seq (.reg [⟨⟨some 7, Op.load 28 (Operand.tmp 3), none⟩, []⟩,
  ⟨⟨some 8, Op.call { callee := (Callee.value (Operand.func 60)), args := #[(Operand.tmp 7)], argTypes := #[28] }, none⟩, []⟩,
  ⟨⟨some 9, Op.move (Operand.tmp 8), none⟩, []⟩,
  ⟨⟨some 10, Op.load 28 (Operand.tmp 3), some (9, true)⟩, []⟩,
  ⟨⟨some 11, Op.move (Operand.tmp 1), some (9, true)⟩, []⟩,
  ⟨⟨some 12, Op.call { callee := (Callee.value (Operand.func 137)), args := #[(Operand.tmp 10), (Operand.tmp 11)], argTypes := #[28, 32] }, some (9, true)⟩, []⟩,
  ⟨⟨some 13, Op.pick (Operand.tmp 9) (Operand.tmp 12) (Operand.const (Value.bool false)), none⟩, []⟩,
  ⟨⟨some 14, Op.move (Operand.tmp 13), none⟩, []⟩,
  ⟨⟨some 15, Op.load 28 (Operand.tmp 3), some (14, true)⟩, []⟩,
  ⟨⟨some 16, Op.move (Operand.tmp 2), some (14, true)⟩, []⟩,
  ⟨⟨some 17, Op.call { callee := (Callee.value (Operand.func 137)), args := #[(Operand.tmp 15), (Operand.tmp 16)], argTypes := #[28, 32] }, some (14, true)⟩, []⟩,
  ⟨⟨some 18, Op.pick (Operand.tmp 14) (Operand.tmp 17) (Operand.const (Value.bool false)), none⟩, []⟩,
  ⟨⟨some 6, Op.assign (Operand.tmp 18), none⟩, []⟩]) .ret))
theorem sl91 : slim Try.f91.ntmps ords91 (Try.f91.body.getD .skip) = some cd91 := by kernel_rfl
theorem in91 {args : List Value} {H : AH} {R : Value → AH → Prop} (hl : args.length = 3) (h : ∀ (Q : Exit → Sl → AH → Prop), (∀ e s H, endA Try.prog [ResultVar.tmp 6] R e s H → Q e s H) → wpC Try.prog cd91 Q (enterA args) H) : ACalls Try.prog 91 args H R :=
  ACalls.intro (by kernel_rfl) Try.func91 rfl (by kernel_rfl) sl91 hl (of_decide_eq_true (by kernel_rfl)) (by kernel_rfl) h

/- loop.example/g01128/spec.l8Differ -/
def ords135 : List (Nat × List (Nat × Bool)) := [(6, [(0, false), (1, false), (2, false), (3, false), (4, false), (5, false), (6, false), (7, false), (8, true), (9, false), (10, true)])]
def cd135 : Cd := (.seq (.reg [⟨⟨some 3, Op.box 28 (Operand.tmp 0), none⟩, []⟩,
  ⟨⟨some 6, Op.alloc 28, none⟩, []⟩]) (.seq (.reg [⟨⟨some 9, Op.fieldAddr 28 (Operand.tmp 3) 0, none⟩, []⟩,
  ⟨⟨some 10, Op.load 3 (Operand.tmp 9), none⟩, []⟩,
  ⟨⟨some 11, Op.buildSlice 22 0 #[], none⟩, []⟩,
  ⟨⟨some 12, Op.build 28 #[(0, (Operand.tmp 10)), (1, (Operand.tmp 11))], none⟩, []⟩,
  ⟨⟨some 7, Op.alloc 28, none⟩, []⟩,
  ⟨⟨none, Op.store 28 (Operand.tmp 7) (Operand.tmp 12), none⟩, []⟩]) (.seq (.seq (.reg [⟨⟨some 8, Op.assign (Operand.const (Value.int IntKind.i64 0)), none⟩, []⟩]) (.block 0 (.loop (.seq (.seq (.reg [⟨⟨some 13, Op.move (Operand.tmp 8), none⟩, []⟩,
  ⟨⟨some 14, Op.fieldAddr 28 (Operand.tmp 3) 1, none⟩, []⟩,
  ⟨⟨some 15, Op.load 22 (Operand.tmp 14), none⟩, []⟩,
  ⟨⟨some 16, Op.call { callee := (Callee.builtin Builtin.len), args := #[(Operand.tmp 15)], argTypes := #[22] }, none⟩, []⟩,
  ⟨⟨some 17, Op.binOp BinOp.lss 3 (Operand.tmp 13) (Operand.tmp 16) 3, none⟩, []⟩]) (.cond (Operand.tmp 17) .skip (.exit 0))) (.seq (.block 1 (.seq (.reg [⟨⟨some 20, Op.move (Operand.tmp 1), none⟩, []⟩,
  ⟨⟨some 21, Op.move (Operand.tmp 8), none⟩, []⟩,
  ⟨⟨some 22, Op.call { callee := (Callee.value (Operand.func 123)), args := #[(Operand.tmp 20), (Operand.tmp 21)], argTypes := #[32, 3] }, none⟩, []⟩,
  ⟨⟨some 23, Op.move (Operand.tmp 2), none⟩, []⟩,
  ⟨⟨some 24, Op.move (Operand.tmp 8), none⟩, []⟩,
  ⟨⟨some 25, Op.call { callee := (Callee.value (Operand.func 123)), args := #[(Operand.tmp 23), (Operand.tmp 24)], argTypes := #[32, 3] }, none⟩, []⟩,
  ⟨⟨some 26, Op.binOp BinOp.neq 4 (Operand.tmp 22) (Operand.tmp 25) 4, none⟩, []⟩]) (.cond (Operand.tmp 26) (.reg [⟨⟨some 27, Op.fieldAddr 28 (Operand.tmp 7) 1, none⟩, []⟩,
  ⟨⟨some 28, Op.load 22 (Operand.tmp 27), none⟩, []⟩,
  ⟨⟨some 29, Op.fieldAddr 28 (Operand.tmp 3) 1, none⟩, []⟩,
  ⟨⟨some 30, Op.load 22 (Operand.tmp 29), none⟩, []⟩,
  ⟨⟨some 31, Op.move (Operand.tmp 8), none⟩, []⟩,
  ⟨⟨some 32, Op.indexAddr 22 (Operand.tmp 30) (Operand.tmp 31), none⟩, []⟩,
  ⟨⟨some 33, Op.load 76 (Operand.tmp 32), none⟩, []⟩,
  ⟨⟨some 34, Op.buildSlice 22 1 #[(0, (Operand.tmp 33))], none⟩, []⟩,
  ⟨⟨some 35, Op.call { callee := (Callee.builtin Builtin.append), args := #[(Operand.tmp 28), (Operand.tmp 34)], argTypes := #[22, 22] }, none⟩, []⟩,
  ⟨⟨some 36, Op.fieldAddr 28 (Operand.tmp 7) 1, none⟩, []⟩,
  ⟨⟨none, Op.store 22 (Operand.tmp 36) (Operand.tmp 35), none⟩, []⟩]) .skip))) (.reg [⟨⟨some 18, Op.move (Operand.tmp 8), none⟩, []⟩,
  ⟨⟨some 19, Op.binOp BinOp.add 3 (Operand.tmp 18) (Operand.const (Value.int IntKind.i64 1)) 3, none⟩, []⟩,
  ⟨⟨some 8, Op.assign (Operand.tmp 19), none⟩, []⟩])))))) (.seq (.reg [⟨⟨some 37, Op.load 28 (Operand.tmp 7), none⟩, []⟩,
  ⟨⟨none, Op.store 28 (Operand.tmp 6) (Operand.tmp 37), none⟩, []⟩]) .ret))))
theorem sl135 : slim Try.f135.ntmps ords135 (Try.f135.body.getD .skip) = some cd135 := by kernel_rfl
set_option maxRecDepth 20000 in
theorem in135 {args : List Value} {H : AH} {R : Value → AH → Prop} (hl : args.length = 3) (h : ∀ (Q : Exit → Sl → AH → Prop), (∀ e s H, endA Try.prog [ResultVar.cell 6 28] R e s H → Q e s H) → wpC Try.prog cd135 Q (enterA args) H) : ACalls Try.prog 135 args H R :=
  ACalls.intro (by kernel_rfl) Try.func135 rfl (by kernel_rfl) sl135 hl (of_decide_eq_true (by kernel_rfl)) (by kernel_rfl) h

/- loop.example/g01128/spec.l8Pieces -/
def ords90 : List (Nat × List (Nat × Bool)) := []
def cd90 : Cd := (.seq (.reg [⟨⟨some 3, Op.box 28 (Operand.tmp 0), none⟩, []⟩,
  ⟨⟨some 6, Op.assign (Operand.const (Value.slice none 0 0)), none⟩, []⟩]) (.seq (.reg [⟨⟨some 11, Op.buildSlice 38 0 #[], none⟩, []⟩,
  ⟨⟨some 12, Op.load 28 (Operand.tmp 3), none⟩, []⟩,
  ⟨⟨some 13, Op.move (Operand.tmp 1), none⟩, []⟩,
  ⟨⟨some 14, Op.move (Operand.tmp 2), none⟩, []⟩,
  ⟨⟨some 15, Op.call { callee := (Callee.value (Operand.func 135)), args := #[(Operand.tmp 12), (Operand.tmp 13), (Operand.tmp 14)], argTypes := #[28, 32, 32] }, none⟩, []⟩,
  ⟨⟨some 16, Op.buildSlice 32 0 #[], none⟩, []⟩,
  ⟨⟨some 8, Op.alloc 28, none⟩, []⟩,
  ⟨⟨some 7, Op.assign (Operand.tmp 11), none⟩, []⟩,
  ⟨⟨none, Op.store 28 (Operand.tmp 8) (Operand.tmp 15), none⟩, []⟩,
  ⟨⟨some 9, Op.assign (Operand.tmp 16), none⟩, []⟩]) (.seq (.seq (.reg [⟨⟨some 10, Op.assign (Operand.const (Value.int IntKind.i64 0)), none⟩, []⟩]) (.block 0 (.loop (.seq (.seq (.reg [⟨⟨some 17, Op.move (Operand.tmp 10), none⟩, []⟩,
  ⟨⟨some 18, Op.fieldAddr 28 (Operand.tmp 3) 0, none⟩, []⟩,
  ⟨⟨some 19, Op.load 3 (Operand.tmp 18), none⟩, []⟩,
  ⟨⟨some 20, Op.binOp BinOp.lss 3 (Operand.tmp 17) (Operand.tmp 19) 3, none⟩, []⟩]) (.cond (Operand.tmp 20) .skip (.exit 0))) (.seq (.block 1 (.seq (.reg [⟨⟨some 23, Op.load 28 (Operand.tmp 8), none⟩, []⟩,
  ⟨⟨some 24, Op.move (Operand.tmp 10), none⟩, []⟩,
  ⟨⟨some 25, Op.call { callee := (Callee.value (Operand.func 136)), args := #[(Operand.tmp 23), (Operand.tmp 24)], argTypes := #[28, 3] }, none⟩, []⟩,
  ⟨⟨some 26, Op.call { callee := (Callee.builtin Builtin.len), args := #[(Operand.tmp 25)], argTypes := #[32] }, none⟩, []⟩,
  ⟨⟨some 27, Op.binOp BinOp.gtr 3 (Operand.tmp 26) (Operand.const (Value.int IntKind.i64 0)) 3, none⟩, []⟩]) (.cond (Operand.tmp 27) (.reg [⟨⟨some 28, Op.move (Operand.tmp 9), none⟩, []⟩,
  ⟨⟨some 29, Op.move (Operand.tmp 10), none⟩, []⟩,
  ⟨⟨some 30, Op.buildSlice 32 1 #[(0, (Operand.tmp 29))], none⟩, []⟩,
  ⟨⟨some 31, Op.call { callee := (Callee.builtin Builtin.append), args := #[(Operand.tmp 28), (Operand.tmp 30)], argTypes := #[32, 32] }, none⟩, []⟩,
  ⟨⟨some 9, Op.assign (Operand.tmp 31), none⟩, []⟩]) .skip))) (.reg [⟨⟨some 21, Op.move (Operand.tmp 10), none⟩, []⟩,
  ⟨⟨some 22, Op.binOp BinOp.add 3 (Operand.tmp 21) (Operand.const (Value.int IntKind.i64 1)) 3, none⟩, []⟩,
  ⟨⟨some 10, Op.assign (Operand.tmp 22), none⟩, []⟩])))))) (.seq (.reg [⟨⟨some 32, Op.move (Operand.tmp 7), none⟩, []⟩,
  ⟨⟨some 33, Op.load 28 (Operand.tmp 8), none⟩, []⟩,
  ⟨⟨some 34, Op.move (Operand.tmp 9), none⟩, []⟩,
  ⟨⟨some 35, Op.call { callee := (Callee.value (Operand.func 109)), args := #[(Operand.tmp 33), (Operand.tmp 34)], argTypes := #[28, 32] }, none⟩, []⟩,
  ⟨⟨some 36, Op.call { callee := (Callee.builtin Builtin.append), args := #[(Operand.tmp 32), (Operand.tmp 35)], argTypes := #[38, 38] }, none⟩, []⟩,
  ⟨⟨some 7, Op.assign (Operand.tmp 36), none⟩, []⟩]) (.seq (.reg [⟨⟨some 37, Op.move (Operand.tmp 7), none⟩, []⟩,
  ⟨⟨some 6, Op.assign (Operand.tmp 37), none⟩, []⟩]) .ret)))))
theorem sl90 : slim Try.f90.ntmps ords90 (Try.f90.body.getD .skip) = some cd90 := by kernel_rfl
theorem in90 {args : List Value} {H : AH} {R : Value → AH → Prop} (hl : args.length = 3) (h : ∀ (Q : Exit → Sl → AH → Prop), (∀ e s H, endA Try.prog [ResultVar.tmp 6] R e s H → Q e s H) → wpC Try.prog cd90 Q (enterA args) H) : ACalls Try.prog 90 args H R :=
  ACalls.intro (by kernel_rfl) Try.func90 rfl (by kernel_rfl) sl90 hl (of_decide_eq_true (by kernel_rfl)) (by kernel_rfl) h

/- loop.example/g01128/impl.DifferencePieces -/
def ords45 : List (Nat × List (Nat × Bool)) := []
def cd45 : Cd := (.seq (.reg [⟨⟨some 3, Op.box 28 (Operand.tmp 0), none⟩, []⟩,
  ⟨⟨some 6, Op.assign (Operand.const (Value.slice none 0 0)), none⟩, []⟩,
  ⟨⟨some 7, Op.assign (Operand.const (Value.bool false)), none⟩, []⟩]) (.seq (.seq (.reg [⟨⟨some 8, Op.load 28 (Operand.tmp 3), none⟩, []⟩,
  ⟨⟨some 9, Op.move (Operand.tmp 1), none⟩, []⟩,
  ⟨⟨some 10, Op.move (Operand.tmp 2), none⟩, []⟩,
  ⟨⟨some 11, Op.call { callee := (Callee.value (Operand.func 91)), args := #[(Operand.tmp 8), (Operand.tmp 9), (Operand.tmp 10)], argTypes := #[28, 32, 32] }, none⟩, []⟩,
  ⟨⟨some 12, Op.unOp UnOp.not 4 (Operand.tmp 11), none⟩, []⟩]) (.cond (Operand.tmp 12) (.seq (.reg [⟨⟨some 6, Op.assign (Operand.const (Value.slice none 0 0)), none⟩, []⟩,
  ⟨⟨some 7, Op.assign (Operand.const (Value.bool false)), none⟩, []⟩]) .ret) .skip)) (.seq (.reg [⟨⟨some 13, Op.load 28 (Operand.tmp 3), none⟩, []⟩,
  ⟨⟨some 14, Op.move (Operand.tmp 1), none⟩, []⟩,
  ⟨⟨some 15, Op.move (Operand.tmp 2), none⟩, []⟩,
  ⟨⟨some 16, Op.call { callee := (Callee.value (Operand.func 92)), args := #[(Operand.tmp 13), (Operand.tmp 14), (Operand.tmp 15)], argTypes := #[28, 32, 32] }, none⟩, []⟩,
  ⟨⟨some 6, Op.assign (Operand.tmp 16), none⟩, []⟩,
  ⟨⟨some 7, Op.assign (Operand.const (Value.bool true)), none⟩, []⟩]) .ret)))
theorem sl45 : slim Try.f45.ntmps ords45 (Try.f45.body.getD .skip) = some cd45 := by kernel_rfl
theorem in45 {args : List Value} {H : AH} {R : Value → AH → Prop} (hl : args.length = 3) (h : ∀ (Q : Exit → Sl → AH → Prop), (∀ e s H, endA Try.prog [ResultVar.tmp 6, ResultVar.tmp 7] R e s H → Q e s H) → wpC Try.prog cd45 Q (enterA args) H) : ACalls Try.prog 45 args H R :=
  ACalls.intro (by kernel_rfl) Try.func45 rfl (by kernel_rfl) sl45 hl (of_decide_eq_true (by kernel_rfl)) (by kernel_rfl) h

/- loop.example/g01128/spec.DifferencePieces -/
def ords44 : List (Nat × List (Nat × Bool)) := []
def cd44 : Cd := (.seq (.reg [⟨⟨some 3, Op.box 28 (Operand.tmp 0), none⟩, []⟩,
  ⟨⟨some 6, Op.assign (Operand.const (Value.slice none 0 0)), none⟩, []⟩,
  ⟨⟨some 7, Op.assign (Operand.const (Value.bool false)), none⟩, []⟩]) (.seq (.seq (.reg [⟨⟨some 8, Op.load 28 (Operand.tmp 3), none⟩, []⟩,
  ⟨⟨some 9, Op.move (Operand.tmp 1), none⟩, []⟩,
  ⟨⟨some 10, Op.move (Operand.tmp 2), none⟩, []⟩,
  ⟨⟨some 11, Op.call { callee := (Callee.value (Operand.func 89)), args := #[(Operand.tmp 8), (Operand.tmp 9), (Operand.tmp 10)], argTypes := #[28, 32, 32] }, none⟩, []⟩,
  ⟨⟨some 12, Op.unOp UnOp.not 4 (Operand.tmp 11), none⟩, []⟩]) (.cond (Operand.tmp 12) (.seq (.reg [⟨⟨some 13, Op.buildSlice 38 0 #[], none⟩, []⟩,
  ⟨⟨some 6, Op.assign (Operand.tmp 13), none⟩, []⟩,
  ⟨⟨some 7, Op.assign (Operand.const (Value.bool false)), none⟩, []⟩]) .ret) .skip)) (.seq (.reg [⟨⟨some 14, Op.load 28 (Operand.tmp 3), none⟩, []⟩,
  ⟨⟨some 15, Op.move (Operand.tmp 1), none⟩, []⟩,
  ⟨⟨some 16, Op.move (Operand.tmp 2), none⟩, []⟩,
  ⟨⟨some 17, Op.call { callee := (Callee.value (Operand.func 90)), args := #[(Operand.tmp 14), (Operand.tmp 15), (Operand.tmp 16)], argTypes := #[28, 32, 32] }, none⟩, []⟩,
  ⟨⟨some 6, Op.assign (Operand.tmp 17), none⟩, []⟩,
  ⟨⟨some 7, Op.assign (Operand.const (Value.bool true)), none⟩, []⟩]) .ret)))
theorem sl44 : slim Try.f44.ntmps ords44 (Try.f44.body.getD .skip) = some cd44 := by kernel_rfl
theorem in44 {args : List Value} {H : AH} {R : Value → AH → Prop} (hl : args.length = 3) (h : ∀ (Q : Exit → Sl → AH → Prop), (∀ e s H, endA Try.prog [ResultVar.tmp 6, ResultVar.tmp 7] R e s H → Q e s H) → wpC Try.prog cd44 Q (enterA args) H) : ACalls Try.prog 44 args H R :=
  ACalls.intro (by kernel_rfl) Try.func44 rfl (by kernel_rfl) sl44 hl (of_decide_eq_true (by kernel_rfl)) (by kernel_rfl) h
end Go.Proofs.Ythhnpchjjbjabaa.Ai

namespace Go.Proofs.Ythhnpchjjbjabaa.Ai
open Go Go.RowKit
set_option linter.unusedVariables false
set_option linter.unusedSimpArgs false

theorem bld_G (n : Int) (p : Option Addr) (m c : Nat) : buildA Try.prog 28 [(0, .int .i64 n), (1, .slice p m c)] = some (.agg (List.toArray [.int .i64 n, .slice p m c])) := by kernel_rfl

/-- a graph and two matchings of it -/
abbrev DpOk (n : Int) (es : List (Int × Int)) (a b : List Int) : Prop := Grd n es ∧ Mtc es a ∧ Mtc es b

set_option maxRecDepth 20000 in
theorem l8Two_c (n : Int) (v w u : Value) (es : List (Int × Int)) (a b : List Int) (H : AH) (hr : RowP 76 H v es) (hlen : es.length ≤ 1099511627776) (ha : Row 3 H w a) (hb : Row 3 H u b) (hla : a.length ≤ 1048576) (hlb : b.length ≤ 1048576) :
    ACalls Try.prog 89 [.agg (List.toArray [.int .i64 n, v]), w, u] H fun r H' => r = .bool (decide (DpOk n es a b)) ∧ H <+: H' := by
  refine in89 rfl ?_
  intro Q hQ
  simp (maxSteps := 1000000) (disch := omega) only [cd89, hr.boxG, S, S1, S2, S3, S4, S5, ST, eq_self, reduceIte, reduceCtorEq, Nat.reduceEqDiff, Nat.reduceAdd]
  generalize hA : H ++ [AObj.cells [.int .i64 n, v] 28 false] = A
  have pA : H <+: A := by rw [← hA]; exact List.prefix_append _ _
  have cA : A[H.length]? = some (.cells [.int .i64 n, v] 28 false) := by rw [← hA]; exact at_new ..
  have rA := hr.pre pA
  simp (maxSteps := 1000000) (disch := omega) only [ld_agg ag28 cs28 cA, S, S1, S2, S3, S4, S5, ST, eq_self, reduceIte, reduceCtorEq, Nat.reduceEqDiff, Nat.reduceAdd]
  refine CallH.by (l2Good_c n v es A rA (by omega)) ?_
  rintro _ B ⟨rfl, pB⟩
  have cB := pre_at pB cA
  by_cases e : Grd n es
  rotate_left
  · simp (maxSteps := 1000000) (disch := omega) only [decide_eq_false e, S, S1, S2, S3, S4, S5, ST, eq_self, reduceIte, reduceCtorEq, Nat.reduceEqDiff, Nat.reduceAdd]
    refine hQ _ _ _ ?_
    simp (maxSteps := 1000000) (disch := omega) only [S, S1, S2, S3, S4, S5, ST, eq_self, reduceIte, reduceCtorEq, Nat.reduceEqDiff, Nat.reduceAdd]
    exact ⟨by rw [decide_eq_false (fun h => e h.1)], pA.trans pB⟩
  simp (maxSteps := 1000000) (disch := omega) only [decide_eq_true e, ld_agg ag28 cs28 cB, S, S1, S2, S3, S4, S5, ST, eq_self, reduceIte, reduceCtorEq, Nat.reduceEqDiff, Nat.reduceAdd]
  refine CallH.by (l8Matches_c n v w es a B (rA.pre pB) (ha.pre (pA.trans pB)) (by omega) hla) ?_
  rintro _ C ⟨rfl, pC⟩
  have cC := pre_at pC cB
  by_cases e2 : Mtc es a
  rotate_left
  · simp (maxSteps := 1000000) (disch := omega) only [decide_eq_true e, decide_eq_false e2, S, S1, S2, S3, S4, S5, ST, eq_self, reduceIte, reduceCtorEq, Nat.reduceEqDiff, Nat.reduceAdd]
    refine hQ _ _ _ ?_
    simp (maxSteps := 1000000) (disch := omega) only [S, S1, S2, S3, S4, S5, ST, eq_self, reduceIte, reduceCtorEq, Nat.reduceEqDiff, Nat.reduceAdd]
    exact ⟨by rw [decide_eq_false (fun h => e2 h.2.1)], pA.trans (pB.trans pC)⟩
  simp (maxSteps := 1000000) (disch := omega) only [decide_eq_true e, decide_eq_true e2, ld_agg ag28 cs28 cC, S, S1, S2, S3, S4, S5, ST, eq_self, reduceIte, reduceCtorEq, Nat.reduceEqDiff, Nat.reduceAdd]
  refine CallH.by (l8Matches_c n v u es b C (rA.pre (pB.trans pC)) (hb.pre (pA.trans (pB.trans pC))) (by omega) hlb) ?_
  rintro _ D ⟨rfl, pD⟩
  simp (maxSteps := 1000000) (disch := omega) only [decide_eq_true e2, S, S1, S2, S3, S4, S5, ST, eq_self, reduceIte, reduceCtorEq, Nat.reduceEqDiff, Nat.reduceAdd]
  refine hQ _ _ _ ?_
  simp (maxSteps := 1000000) (disch := omega) only [S, S1, S2, S3, S4, S5, ST, eq_self, reduceIte, reduceCtorEq, Nat.reduceEqDiff, Nat.reduceAdd]
  refine ⟨?_, pA.trans (pB.trans (pC.trans pD))⟩
  by_cases e3 : Mtc es b
  · rw [decide_eq_true e3, decide_eq_true ⟨e, e2, e3⟩]
  · rw [decide_eq_false e3, decide_eq_false (fun h => e3 h.2.2)]

set_option maxRecDepth 20000 in
theorem areMatchings_c (n : Int) (v w u : Value) (es : List (Int × Int)) (a b : List Int) (H : AH) (hr : RowP 76 H v es) (hlen : es.length ≤ 1099511627776) (ha : Row 3 H w a) (hb : Row 3 H u b) (hla : a.length ≤ 1048576) (hlb : b.length ≤ 1048576) :
    ACalls Try.prog 91 [.agg (List.toArray [.int .i64 n, v]), w, u] H fun r H' => r = .bool (decide (DpOk n es a b)) ∧ H <+: H' := by
  refine in91 rfl ?_
  intro Q hQ
  simp (maxSteps := 1000000) (disch := omega) only [cd91, hr.boxG, S, S1, S2, S3, S4, S5, ST, eq_self, reduceIte, reduceCtorEq, Nat.reduceEqDiff, Nat.reduceAdd]
  generalize hA : H ++ [AObj.cells [.int .i64 n, v] 28 false] = A
  have pA : H <+: A := by rw [← hA]; exact List.prefix_append _ _
  have cA : A[H.length]? = some (.cells [.int .i64 n, v] 28 false) := by rw [← hA]; exact at_new ..
  have rA := hr.pre pA
  simp (maxSteps := 1000000) (disch := omega) only [ld_agg ag28 cs28 cA, S, S1, S2, S3, S4, S5, ST, eq_self, reduceIte, reduceCtorEq, Nat.reduceEqDiff, Nat.reduceAdd]
  refine CallH.by (IsGraph_c n v es A rA (by omega)) ?_
  rintro _ B ⟨rfl, pB⟩
  have cB := pre_at pB cA
  by_cases e : Grd n es
  rotate_left
  · simp (maxSteps := 1000000) (disch := omega) only [decide_eq_false e, S, S1, S2, S3, S4, S5, ST, eq_self, reduceIte, reduceCtorEq, Nat.reduceEqDiff, Nat.reduceAdd]
    refine hQ _ _ _ ?_
    simp (maxSteps := 1000000) (disch := omega) only [S, S1, S2, S3, S4, S5, ST, eq_self, reduceIte, reduceCtorEq, Nat.reduceEqDiff, Nat.reduceAdd]
    exact ⟨by rw [decide_eq_false (fun h => e h.1)], pA.trans pB⟩
  simp (maxSteps := 1000000) (disch := omega) only [decide_eq_true e, ld_agg ag28 cs28 cB, S, S1, S2, S3, S4, S5, ST, eq_self, reduceIte, reduceCtorEq, Nat.reduceEqDiff, Nat.reduceAdd]
  refine CallH.by (isMatching_c n v w es a B (rA.pre pB) (ha.pre (pA.trans pB)) (by omega) (by omega) e) ?_
  rintro _ C ⟨rfl, pC⟩
  have cC := pre_at pC cB
  by_cases e2 : Mtc es a
  rotate_left
  · simp (maxSteps := 1000000) (disch := omega) only [decide_eq_true e, decide_eq_false e2, S, S1, S2, S3, S4, S5, ST, eq_self, reduceIte, reduceCtorEq, Nat.reduceEqDiff, Nat.reduceAdd]
    refine hQ _ _ _ ?_
    simp (maxSteps := 1000000) (disch := omega) only [S, S1, S2, S3, S4, S5, ST, eq_self, reduceIte, reduceCtorEq, Nat.reduceEqDiff, Nat.reduceAdd]
    exact ⟨by rw [decide_eq_false (fun h => e2 h.2.1)], pA.trans (pB.trans pC)⟩
  simp (maxSteps := 1000000) (disch := omega) only [decide_eq_true e, decide_eq_true e2, ld_agg ag28 cs28 cC, S, S1, S2, S3, S4, S5, ST, eq_self, reduceIte, reduceCtorEq, Nat.reduceEqDiff, Nat.reduceAdd]
  refine CallH.by (isMatching_c n v u es b C (rA.pre (pB.trans pC)) (hb.pre (pA.trans (pB.trans pC))) (by omega) (by omega) e) ?_
  rintro _ D ⟨rfl, pD⟩
  simp (maxSteps := 1000000) (disch := omega) only [decide_eq_true e2, S, S1, S2, S3, S4, S5, ST, eq_self, reduceIte, reduceCtorEq, Nat.reduceEqDiff, Nat.reduceAdd]
  refine hQ _ _ _ ?_
  simp (maxSteps := 1000000) (disch := omega) only [S, S1, S2, S3, S4, S5, ST, eq_self, reduceIte, reduceCtorEq, Nat.reduceEqDiff, Nat.reduceAdd]
  refine ⟨?_, pA.trans (pB.trans (pC.trans pD))⟩
  by_cases e3 : Mtc es b
  · rw [decide_eq_true e3, decide_eq_true ⟨e, e2, e3⟩]
  · rw [decide_eq_false e3, decide_eq_false (fun h => e3 h.2.2)]

set_option maxRecDepth 20000 in
set_option maxHeartbeats 4000000 in
theorem l8Differ_c (n : Int) (v w u : Value) (es : List (Int × Int)) (a b : List Int) (H : AH) (hr : RowP 76 H v es) (hlen : es.length ≤ 1099511627) (ha : Row 3 H w a) (hb : Row 3 H u b) (hla : a.length ≤ 1048576) (hlb : b.length ≤ 1048576) :
    ACalls Try.prog 135 [.agg (List.toArray [.int .i64 n, v]), w, u] H fun r H' => ∃ st, r = .agg (List.toArray [.int .i64 n, st]) ∧ RowP 76 H' st (dE es a b) ∧ H <+: H' := by
  refine in135 rfl ?_
  intro Q hQ
  simp (maxSteps := 1000000) (disch := omega) only [cd135, hr.boxG, S, S1, S2, S3, S4, S5, ST, eq_self, reduceIte, reduceCtorEq, Nat.reduceEqDiff, Nat.reduceAdd]
  generalize hA0 : H ++ [AObj.cells [.int .i64 n, v] 28 false] = A0
  have pA0 : H <+: A0 := by rw [← hA0]; exact List.prefix_append _ _
  have cA0 : A0[H.length]? = some (.cells [.int .i64 n, v] 28 false) := by rw [← hA0]; exact at_new ..
  have rA0 := hr.pre pA0
  simp (maxSteps := 1000000) (disch := omega) only [alloc_G, S, S1, S2, S3, S4, S5, ST, eq_self, reduceIte, reduceCtorEq, Nat.reduceEqDiff, Nat.reduceAdd]
  generalize hA : A0 ++ [AObj.cells [.int .i64 0, .slice none 0 0] 28 false] = A
  have pA1 : A0 <+: A := by rw [← hA]; exact List.prefix_append _ _
  have cT : A[A0.length]? = some (.cells [.int .i64 0, .slice none 0 0] 28 false) := by rw [← hA]; exact at_new ..
  have lA0 : A0.length = H.length + 1 := by rw [← hA0]; simp
  have lA : A.length = A0.length + 1 := by rw [← hA]; simp
  have cA := pre_at pA1 cA0
  have pA := pA0.trans pA1
  simp (maxSteps := 1000000) (disch := omega) only [cell_of cA, S, S1, S2, S3, S4, S5, ST, eq_self, reduceIte, reduceCtorEq, Nat.reduceEqDiff, Nat.reduceAdd]
  generalize hE : A ++ [AObj.cells [] 76 false] = E
  have pE : A <+: E := by rw [← hE]; exact List.prefix_append _ _
  have lE : E.length = A.length + 1 := by rw [← hE]; simp
  have m0 : MineP 76 A E (.slice (some ⟨A.length, 0, none⟩) 0 0) [] := by rw [← hE]; exact MineP.nil0 (P := Try.prog) A A (Nat.le_refl _)
  have st0 := st_G m0.row (at_new E (.cells [.int .i64 0, .slice none 0 0] 28 false)) rfl n
  rw [set_new] at st0
  simp (maxSteps := 1000000) (disch := omega) only [bld_G, alloc_G, st0, S, S1, S2, S3, S4, S5, ST, eq_self, reduceIte, reduceCtorEq, Nat.reduceEqDiff, Nat.reduceAdd]
  generalize hG : E ++ [AObj.cells [.int .i64 n, .slice (some ⟨A.length, 0, none⟩) 0 0] 28 false] = G
  have pG : E <+: G := by rw [← hG]; exact List.prefix_append _ _
  have cG : G[E.length]? = some (.cells [.int .i64 n, .slice (some ⟨A.length, 0, none⟩) 0 0] 28 false) := by rw [← hG]; exact at_new ..
  have lG : G.length = E.length + 1 := by rw [← hG]; simp
  have rA := rA0.pre pA1
  refine LoopH.by (fun m s H' => ∃ (i : Nat) (st : Value), m + i = es.length ∧ s 1 = w ∧ s 2 = u ∧ s 3 = .pointer (some ⟨H.length, 0, none⟩) ∧ s 6 = .pointer (some ⟨A0.length, 0, none⟩) ∧ s 7 = .pointer (some ⟨E.length, 0, none⟩) ∧ s 8 = .int .i64 ((i : Nat) : Int) ∧ H'[E.length]? = some (.cells [.int .i64 n, st] 28 false) ∧ (rowO st = A.length ∨ G.length ≤ rowO st) ∧ st ≠ .slice none 0 0 ∧ MineP 76 A H' st (dED es (dix a b i)) ∧ A <+: H') es.length ?_ ?_
  · exact ⟨0, .slice (some ⟨A.length, 0, none⟩) 0 0, by simp, rfl, rfl, rfl, rfl, rfl, rfl, cG, .inl rfl, (by intro e; cases e), m0.pre pG, pE.trans pG⟩
  rintro m s H' ⟨i, st, hm, h1, h2, h3, h6, h7, h8, hc5, hst, hsn, hmn, hpp⟩
  have cH := pre_at hpp cA
  have rH := rA.pre hpp
  have aH := ha.pre (pA.trans hpp)
  have bH := hb.pre (pA.trans hpp)
  simp (maxSteps := 1000000) (disch := omega) only [h1, h2, h3, h6, h7, h8, cell_of cH, rH.len Try.underlying22, S, S1, S2, S3, S4, S5, ST, eq_self, reduceIte, reduceCtorEq, Nat.reduceEqDiff, Nat.reduceAdd]
  refine brD.intro (fun q => ?_) (fun q => ?_)
  · have hi : i < es.length := by omega
    simp (maxSteps := 1000000) (disch := omega) only [h1, h2, h3, h6, h7, h8, S, S1, S2, S3, S4, S5, ST, eq_self, reduceIte, reduceCtorEq, Nat.reduceEqDiff, Nat.reduceAdd]
    refine CallH.by (l1Has_c w a (i : Int) H' aH (by omega)) ?_
    rintro _ _ ⟨rfl, rfl⟩
    simp (maxSteps := 1000000) (disch := omega) only [h1, h2, h3, h6, h7, h8, S, S1, S2, S3, S4, S5, ST, eq_self, reduceIte, reduceCtorEq, Nat.reduceEqDiff, Nat.reduceAdd]
    refine CallH.by (l1Has_c u b (i : Int) H' bH (by omega)) ?_
    rintro _ _ ⟨rfl, rfl⟩
    have hdl := dix_len a b i
    have hdel : (dED es (dix a b i)).length ≤ i := by unfold dED; rw [List.length_map]; exact hdl
    have hne : ∀ o, o = E.length → o ≠ rowO st := fun o ho => by omega
    have l5 := at_lt hc5
    have hld := rH.ld ag76 cs76 hi
    have hdix : ∀ t : Bool, (decide ((i : Int) ∈ a) != decide ((i : Int) ∈ b)) = t → dED es (dix a b (i + 1)) = dED es (dix a b i) ++ if t = true then [es.getD i (0, 0)] else [] := by
      intro t ht
      simp only [dix]
      rw [ht]
      unfold dED
      rw [List.map_append]
      congr 1
      cases t <;> simp
    have go : ∀ t : Bool, (decide ((i : Int) ∈ a) != decide ((i : Int) ∈ b)) = t → t = t := fun t _ => rfl
    by_cases ea : (i : Int) ∈ a <;> by_cases eb : (i : Int) ∈ b
    · have hs := hdix false (by rw [decide_eq_true ea, decide_eq_true eb]; rfl)
      rw [if_neg (by decide), List.append_nil] at hs
      rw [← hs] at hmn
      simp (maxSteps := 1000000) (disch := omega) only [decide_eq_true ea, decide_eq_true eb, h1, h2, h3, h6, h7, h8, wrap64, S, S1, S2, S3, S4, S5, ST, eq_self, reduceIte, reduceCtorEq, Nat.reduceEqDiff, Nat.reduceAdd]
      refine ⟨m - 1, by omega, i + 1, st, ?_⟩
      (repeat' first | exact hc5 | exact hst | exact hsn | exact hmn | exact hpp | apply And.intro) <;> first | (simp only [Value.int.injEq, true_and]; omega) | omega | rfl | assumption | (simp; done) | (simp; omega)
    · have hs := hdix true (by rw [decide_eq_true ea, decide_eq_false eb]; rfl)
      rw [if_pos rfl] at hs
      obtain ⟨st2, H3, k1, k2, k3, k4, k5, k6⟩ := own1_22 hmn hpp (by omega) (es.getD i (0, 0)).1 (es.getD i (0, 0)).2
      have d5 : H3[E.length]? = some (.cells [.int .i64 n, st] 28 false) := k4 _ _ (.inr (hne _ rfl)) hc5
      obtain ⟨q2, hq2⟩ := k2.row.shape
      have t2 : st2.cells.toList = [st2] := by rw [hq2]; rfl
      have hst3 := st_at (P := Try.prog) (t := 22) (i := 1) (y := st2) cs22 d5 (by show 1 < 2; decide) k6 t2
      simp (maxSteps := 1000000) (disch := omega) only [decide_eq_true ea, decide_eq_false eb, h1, h2, h3, h6, h7, h8, cell_of hc5, cell_of cH, rH.ix Try.underlying22 cs76, Int.toNat_natCast, hld, k1, hst3, wrap64, S, S1, S2, S3, S4, S5, ST, eq_self, reduceIte, reduceCtorEq, Nat.reduceEqDiff, Nat.reduceAdd]
      have f5 : (H3.set E.length (.cells ([.int .i64 n, st].set 1 st2) 28 false))[E.length]? = some (.cells [.int .i64 n, st2] 28 false) := by
        rw [List.getElem?_set_self (at_lt d5)]; rfl
      have fs1 : rowO st2 = A.length ∨ G.length ≤ rowO st2 := .inr (by omega)
      have fs2 : st2 ≠ .slice none 0 0 := by
        intro hh
        rw [hh] at k5
        have : rowO (Value.slice none 0 0) = 0 := rfl
        omega
      have fm : MineP 76 A (H3.set E.length (.cells ([.int .i64 n, st].set 1 st2) 28 false)) st2 (dED es (dix a b (i + 1))) := by
        rw [hs]
        exact k2.keepL fun hl y hy => by rw [List.getElem?_set_ne (by omega)]; exact hy
      have fp : A <+: H3.set E.length (.cells ([.int .i64 n, st].set 1 st2) 28 false) := pre_set k3 (by omega) _
      refine ⟨m - 1, by omega, i + 1, st2, ?_⟩
      (repeat' first | exact f5 | exact fs1 | exact fs2 | exact fm | exact fp | apply And.intro) <;> first | (simp only [Value.int.injEq, true_and]; omega) | omega | rfl | assumption | (simp; done) | (simp; omega)
    · have hs := hdix true (by rw [decide_eq_false ea, decide_eq_true eb]; rfl)
      rw [if_pos rfl] at hs
      obtain ⟨st2, H3, k1, k2, k3, k4, k5, k6⟩ := own1_22 hmn hpp (by omega) (es.getD i (0, 0)).1 (es.getD i (0, 0)).2
      have d5 : H3[E.length]? = some (.cells [.int .i64 n, st] 28 false) := k4 _ _ (.inr (hne _ rfl)) hc5
      obtain ⟨q2, hq2⟩ := k2.row.shape
      have t2 : st2.cells.toList = [st2] := by rw [hq2]; rfl
      have hst3 := st_at (P := Try.prog) (t := 22) (i := 1) (y := st2) cs22 d5 (by show 1 < 2; decide) k6 t2
      simp (maxSteps := 1000000) (disch := omega) only [decide_eq_false ea, decide_eq_true eb, h1, h2, h3, h6, h7, h8, cell_of hc5, cell_of cH, rH.ix Try.underlying22 cs76, Int.toNat_natCast, hld, k1, hst3, wrap64, S, S1, S2, S3, S4, S5, ST, eq_self, reduceIte, reduceCtorEq, Nat.reduceEqDiff, Nat.reduceAdd]
      have f5 : (H3.set E.length (.cells ([.int .i64 n, st].set 1 st2) 28 false))[E.length]? = some (.cells [.int .i64 n, st2] 28 false) := by
        rw [List.getElem?_set_self (at_lt d5)]; rfl
      have fs1 : rowO st2 = A.length ∨ G.length ≤ rowO st2 := .inr (by omega)
      have fs2 : st2 ≠ .slice none 0 0 := by
        intro hh
        rw [hh] at k5
        have : rowO (Value.slice none 0 0) = 0 := rfl
        omega
      have fm : MineP 76 A (H3.set E.length (.cells ([.int .i64 n, st].set 1 st2) 28 false)) st2 (dED es (dix a b (i + 1))) := by
        rw [hs]
        exact k2.keepL fun hl y hy => by rw [List.getElem?_set_ne (by omega)]; exact hy
      have fp : A <+: H3.set E.length (.cells ([.int .i64 n, st].set 1 st2) 28 false) := pre_set k3 (by omega) _
      refine ⟨m - 1, by omega, i + 1, st2, ?_⟩
      (repeat' first | exact f5 | exact fs1 | exact fs2 | exact fm | exact fp | apply And.intro) <;> first | (simp only [Value.int.injEq, true_and]; omega) | omega | rfl | assumption | (simp; done) | (simp; omega)
    · have hs := hdix false (by rw [decide_eq_false ea, decide_eq_false eb]; rfl)
      rw [if_neg (by decide), List.append_nil] at hs
      rw [← hs] at hmn
      simp (maxSteps := 1000000) (disch := omega) only [decide_eq_false ea, decide_eq_false eb, h1, h2, h3, h6, h7, h8, wrap64, S, S1, S2, S3, S4, S5, ST, eq_self, reduceIte, reduceCtorEq, Nat.reduceEqDiff, Nat.reduceAdd]
      refine ⟨m - 1, by omega, i + 1, st, ?_⟩
      (repeat' first | exact hc5 | exact hst | exact hsn | exact hmn | exact hpp | apply And.intro) <;> first | (simp only [Value.int.injEq, true_and]; omega) | omega | rfl | assumption | (simp; done) | (simp; omega)
  · have hi : i = es.length := by omega
    subst hi
    have cTH := pre_at hpp cT
    have hstore := st_G hmn.row cTH rfl n
    simp (maxSteps := 1000000) (disch := omega) only [h6, h7, ld_agg ag28 cs28 hc5, hstore, S, S1, S2, S3, S4, S5, ST, eq_self, reduceIte, reduceCtorEq, Nat.reduceEqDiff, Nat.reduceAdd]
    have d4 := at_set (d := .cells [.int .i64 n, st] 28 false) cTH
    have lAH := hpp.length_le
    refine hQ _ _ _ (end_cell _ _ _ _ _ _ (.agg (List.toArray [.int .i64 n, st])) ?_ rfl ⟨st, rfl, ?_, pre_set (pA.trans hpp) (by have := pA0.length_le; omega) _⟩)
    · simp (maxSteps := 1000000) (disch := omega) only [h6, ld_agg ag28 cs28 d4, S, S1, S2, S3, S4, S5, ST, eq_self, reduceIte, reduceCtorEq, Nat.reduceEqDiff, Nat.reduceAdd]
    · exact (hmn.keepL fun hl y hy => by rw [List.getElem?_set_ne (by omega)]; exact hy).row

set_option maxRecDepth 20000 in
set_option maxHeartbeats 4000000 in
theorem l8Pieces_c (n : Nat) (v w u : Value) (es : List (Int × Int)) (a b : List Int) (H : AH) (hr : RowP 76 H v es) (hlen : es.length ≤ 1099511627776) (hg : Grd (n : Int) es) (ha : Row 3 H w a) (hb : Row 3 H u b) (hla : a.length ≤ 1048576) (hlb : b.length ≤ 1048576) :
    ACalls Try.prog 90 [.agg (List.toArray [.int .i64 (n : Int), v]), w, u] H fun r H' => InL H.length H'.length 32 3 H' r (piecesL (dE es a b) (domL (dE es a b) n n)) ∧ H <+: H' := by
  have hn8 : n ≤ 8 := by have := hg.1; omega
  have hes := grd_28 hg
  refine in90 rfl ?_
  intro Q hQ
  simp (maxSteps := 1000000) (disch := omega) only [cd90, hr.boxG, S, S1, S2, S3, S4, S5, ST, eq_self, reduceIte, reduceCtorEq, Nat.reduceEqDiff, Nat.reduceAdd]
  generalize hA : H ++ [AObj.cells [.int .i64 ↑n, v] 28 false] = A
  have pA : H <+: A := by rw [← hA]; exact List.prefix_append _ _
  have cA : A[H.length]? = some (.cells [.int .i64 ↑n, v] 28 false) := by rw [← hA]; exact at_new ..
  have rA := hr.pre pA
  have u0 := InU.new H.length 32 3 A pA.length_le
  have lA : A.length = H.length + 1 := by rw [← hA]; simp
  generalize hB : A ++ [AObj.cells [] 32 false] = B at *
  have pB : A <+: B := by rw [← hB]; exact List.prefix_append _ _
  have lB : B.length = A.length + 1 := by rw [← hB]; simp
  have cB := pre_at pB cA
  simp (maxSteps := 1000000) (disch := omega) only [ld_agg ag28 cs28 cB, S, S1, S2, S3, S4, S5, ST, eq_self, reduceIte, reduceCtorEq, Nat.reduceEqDiff, Nat.reduceAdd]
  refine CallH.by (l8Differ_c (n : Int) v w u es a b B (rA.pre pB) (by omega) (ha.pre (pA.trans pB)) (hb.pre (pA.trans pB)) hla hlb) ?_
  rintro _ E ⟨st, rfl, hst, pE⟩
  have hdl : (dE es a b).length ≤ 28 := by
    have := dix_len a b es.length
    unfold dE dED; rw [List.length_map]; omega
  generalize hdE : dE es a b = ps at *
  have lE := pE.length_le
  have cE := pre_at pE cB
  simp (maxSteps := 1000000) (disch := omega) only [S, S1, S2, S3, S4, S5, ST, eq_self, reduceIte, reduceCtorEq, Nat.reduceEqDiff, Nat.reduceAdd]
  generalize hF : E ++ [AObj.cells [] 3 false] = F
  have pF : E <+: F := by rw [← hF]; exact List.prefix_append _ _
  have lF : F.length = E.length + 1 := by rw [← hF]; simp
  have cF : F[E.length]? = some (.cells (ints []) 3 false) := by rw [← hF]; exact at_new ..
  have st0 := st_G hst (at_new F (.cells [.int .i64 0, .slice none 0 0] 28 false)) rfl (n : Int)
  rw [set_new] at st0
  simp (maxSteps := 1000000) (disch := omega) only [alloc_G, st0, S, S1, S2, S3, S4, S5, ST, eq_self, reduceIte, reduceCtorEq, Nat.reduceEqDiff, Nat.reduceAdd]
  generalize hG : F ++ [AObj.cells [.int .i64 (n : Int), st] 28 false] = G
  have pG : F <+: G := by rw [← hG]; exact List.prefix_append _ _
  have cG : G[F.length]? = some (.cells [.int .i64 (n : Int), st] 28 false) := by rw [← hG]; exact at_new ..
  have lG : G.length = F.length + 1 := by rw [← hG]; simp
  have own0 : Own 3 E G (.slice (some ⟨E.length, 0, none⟩) 0 0) (domL ps n 0) := .inr ⟨E.length, rfl, Nat.le_refl _, pre_at pG cF⟩
  have hO0 : rowO (Value.slice (some ⟨E.length, 0, none⟩) 0 0) = E.length ∨ G.length ≤ rowO (Value.slice (some ⟨E.length, 0, none⟩) 0 0) := .inl rfl
  have hN0 : Value.slice (some ⟨E.length, 0, none⟩) 0 0 ≠ .slice none 0 0 := by intro e; cases e
  have pEG := pF.trans pG
  refine LoopH.by (fun m s H' => ∃ (i : Nat), m + i = n ∧ s 3 = .pointer (some ⟨H.length, 0, none⟩) ∧ s 7 = .slice (some ⟨A.length, 0, none⟩) 0 0 ∧ s 8 = .pointer (some ⟨F.length, 0, none⟩) ∧ s 10 = .int .i64 ((i : Nat) : Int) ∧ Own 3 E H' (s 9) (domL ps n i) ∧ (rowO (s 9) = E.length ∨ G.length ≤ rowO (s 9)) ∧ s 9 ≠ .slice none 0 0 ∧ H'[F.length]? = some (.cells [.int .i64 (n : Int), st] 28 false) ∧ E <+: H') n ?_ ?_
  · refine ⟨0, ?_⟩
    simp (maxSteps := 1000000) (disch := omega) only [S, S1, S2, S3, S4, S5, ST, eq_self, reduceIte, reduceCtorEq, Nat.reduceEqDiff, Nat.reduceAdd]
    (repeat' first | exact own0 | exact hO0 | exact hN0 | exact cG | exact pEG | apply And.intro) <;> first | (simp only [Value.int.injEq, true_and]; omega) | omega | rfl | assumption | (simp; done) | (simp; omega)
  rintro m s H' ⟨i, hm, h3, h7, h8, h10, ho, hO, hN, hc, hp⟩
  generalize hU : s 9 = U at *
  have cH := pre_at (pE.trans hp) cB
  have hstH := hst.pre hp
  simp (maxSteps := 1000000) (disch := omega) only [h3, h7, h8, h10, hU, cell_of cH, S, S1, S2, S3, S4, S5, ST, eq_self, reduceIte, reduceCtorEq, Nat.reduceEqDiff, Nat.reduceAdd]
  refine brD.intro (fun q => ?_) (fun q => ?_)
  · have hi : i < n := by omega
    simp (maxSteps := 1000000) (disch := omega) only [h3, h7, h8, h10, hU, ld_agg ag28 cs28 hc, S, S1, S2, S3, S4, S5, ST, eq_self, reduceIte, reduceCtorEq, Nat.reduceEqDiff, Nat.reduceAdd]
    refine CallH.by (l2Neighbors_c (n : Int) st ps (i : Int) H' hstH (by omega) (by omega)) ?_
    rintro nb K ⟨hnb, pK⟩
    rw [Int.toNat_natCast] at hnb
    have hoK := ho.pre pK
    have hcK := pre_at pK hc
    have hpK := hp.trans pK
    have hsucc := domL_succ ps n i
    have hdo := domL_len ps n i
    simp (maxSteps := 1000000) (disch := omega) only [h3, h7, h8, h10, hU, hnb.row.len Try.underlying32, S, S1, S2, S3, S4, S5, ST, eq_self, reduceIte, reduceCtorEq, Nat.reduceEqDiff, Nat.reduceAdd]
    refine brD.intro (fun e => ?_) (fun e => ?_)
    · have hnb1 : nbB ps n (i : Int) = true := by unfold nbB; rw [decide_eq_true_iff]; omega
      rw [if_pos hnb1] at hsucc
      obtain ⟨U', H2, j1, j2, j3, j4, j5, j6⟩ := own1_32 hoK hpK (by omega) (i : Int)
      rw [← hsucc] at j2
      have l5 := at_lt hc
      have f1 : H2[F.length]? = some (.cells [.int .i64 (n : Int), st] 28 false) := j4 _ _ (.inr (by omega)) hcK
      have lK := pK.length_le
      have f2 : rowO U' = E.length ∨ G.length ≤ rowO U' := .inr (by omega)
      have f3 : U' ≠ .slice none 0 0 := by
        intro hh
        rw [hh] at j5
        have : rowO (Value.slice none 0 0) = 0 := rfl
        omega
      simp (maxSteps := 1000000) (disch := omega) only [e, h3, h7, h8, h10, hU, j1, wrap64, S, S1, S2, S3, S4, S5, ST, eq_self, reduceIte, reduceCtorEq, Nat.reduceEqDiff, Nat.reduceAdd]
      refine ⟨m - 1, by omega, i + 1, ?_⟩
      (repeat' first | exact j2 | exact f2 | exact f3 | exact f1 | exact j3 | apply And.intro) <;> first | (simp only [Value.int.injEq, true_and]; omega) | omega | rfl | assumption | (simp; done) | (simp; omega)
    · have hnb1 : ¬ nbB ps n (i : Int) = true := by unfold nbB; rw [decide_eq_true_iff]; omega
      rw [if_neg hnb1, List.append_nil] at hsucc
      rw [← hsucc] at hoK
      simp (maxSteps := 1000000) (disch := omega) only [e, h3, h7, h8, h10, hU, wrap64, S, S1, S2, S3, S4, S5, ST, eq_self, reduceIte, reduceCtorEq, Nat.reduceEqDiff, Nat.reduceAdd]
      refine ⟨m - 1, by omega, i + 1, ?_⟩
      (repeat' first | exact hoK | exact hO | exact hN | exact hcK | exact hpK | apply And.intro) <;> first | (simp only [Value.int.injEq, true_and]; omega) | omega | rfl | assumption | (simp; done) | (simp; omega)
  · have hi : i = n := by omega
    subst hi
    simp (maxSteps := 1000000) (disch := omega) only [h3, h7, h8, hU, ld_agg ag28 cs28 hc, S, S1, S2, S3, S4, S5, ST, eq_self, reduceIte, reduceCtorEq, Nat.reduceEqDiff, Nat.reduceAdd]
    have hdm : ∀ z ∈ domL ps i i, 0 ≤ z ∧ z < 8 := fun z hz => by have := ((domL_mem ps i i z).1 hz).1; omega
    have hdl2 := domL_len ps i i
    refine CallH.by (l2Pieces_c (i : Int) st U ps (domL ps i i) H' hstH (by omega) ho.row hdm (by omega)) ?_
    rintro r K ⟨hL, pK⟩
    have hpl := pieces_le ps (domL ps i i) hdm
    have uK := (u0.pre (pE.trans (hp.trans pK))).wide (Nat.le_refl _) (show A.length + 1 ≤ H'.length by have := hp.length_le; omega)
    obtain ⟨v', H5, o', us', q1, q2, q3, q4, q5, q6⟩ := uK.appL (P := Try.prog) (t2 := 38) Try.underlying38 cs32 (by rw [by32]; decide) zk32 hL (by have := hp.length_le; omega) pK.length_le (Nat.le_refl _) (by simp; omega)
    rw [List.nil_append] at q2 q3
    have z0 : ([] : List (List Int)).length = 0 := rfl
    rw [z0] at q1
    simp (maxSteps := 1000000) (disch := omega) only [q1, S, S1, S2, S3, S4, S5, ST, eq_self, reduceIte, reduceCtorEq, Nat.reduceEqDiff, Nat.reduceAdd]
    refine hQ _ _ _ ?_
    simp (maxSteps := 1000000) (disch := omega) only [q2, S, S1, S2, S3, S4, S5, ST, eq_self, reduceIte, reduceCtorEq, Nat.reduceEqDiff, Nat.reduceAdd]
    refine ⟨q3.inl, prefix_of fun j y hy => q5 j y (by have := at_lt hy; omega) (pre_at (pA.trans (pB.trans (pE.trans (hp.trans pK)))) hy)⟩

/-- what DifferencePieces tells -/
def dpL (n : Int) (es : List (Int × Int)) (a b : List Int) : List (List Int) := if DpOk n es a b then piecesL (dE es a b) (domL (dE es a b) n.toNat n.toNat) else []

set_option maxRecDepth 20000 in
theorem DpI_c (n : Int) (v w u : Value) (es : List (Int × Int)) (a b : List Int) (H : AH) (hr : RowP 76 H v es) (hlen : es.length ≤ 1048576) (hes : ∀ y ∈ es, I64 y.1 ∧ I64 y.2) (ha : Row 3 H w a) (hla : a.length ≤ 1048576) (hxa : ∀ y ∈ a, I64 y) (hb : Row 3 H u b) (hlb : b.length ≤ 1048576) (hxb : ∀ y ∈ b, I64 y) (hn : I64 n) :
    ACalls Try.prog 45 [.agg (List.toArray [.int .i64 n, v]), w, u] H fun r H' => ∃ g, r = .tuple (List.toArray [g, .bool (decide (DpOk n es a b))]) ∧ InL H.length H'.length 32 3 H' g (dpL n es a b) ∧ H <+: H' := by
  refine in45 rfl ?_
  intro Q hQ
  simp (maxSteps := 1000000) (disch := omega) only [cd45, hr.boxG, S, S1, S2, S3, S4, S5, ST, eq_self, reduceIte, reduceCtorEq, Nat.reduceEqDiff, Nat.reduceAdd]
  generalize hA : H ++ [AObj.cells [.int .i64 n, v] 28 false] = A
  have pA : H <+: A := by rw [← hA]; exact List.prefix_append _ _
  have cA : A[H.length]? = some (.cells [.int .i64 n, v] 28 false) := by rw [← hA]; exact at_new ..
  have rA := hr.pre pA
  simp (maxSteps := 1000000) (disch := omega) only [ld_agg ag28 cs28 cA, S, S1, S2, S3, S4, S5, ST, eq_self, reduceIte, reduceCtorEq, Nat.reduceEqDiff, Nat.reduceAdd]
  refine CallH.by (areMatchings_c n v w u es a b A rA (by omega) (ha.pre pA) (hb.pre pA) hla hlb) ?_
  rintro _ B ⟨rfl, pB⟩
  have cB := pre_at pB cA
  by_cases e : DpOk n es a b
  rotate_left
  · simp (maxSteps := 1000000) (disch := omega) only [decide_eq_false e, S, S1, S2, S3, S4, S5, ST, eq_self, reduceIte, reduceCtorEq, Nat.reduceEqDiff, Nat.reduceAdd]
    refine hQ _ _ _ ?_
    simp (maxSteps := 1000000) (disch := omega) only [S, S1, S2, S3, S4, S5, ST, eq_self, reduceIte, reduceCtorEq, Nat.reduceEqDiff, Nat.reduceAdd]
    have hz : dpL n es a b = [] := by unfold dpL; rw [if_neg e]
    rw [decide_eq_false e, hz]
    exact ⟨_, rfl, .inl ⟨rfl, rfl⟩, pA.trans pB⟩
  obtain ⟨k, hk⟩ : ∃ k : Nat, n = k := ⟨n.toNat, by have := e.1.1; omega⟩
  subst hk
  simp (maxSteps := 1000000) (disch := omega) only [decide_eq_true e, ld_agg ag28 cs28 cB, S, S1, S2, S3, S4, S5, ST, eq_self, reduceIte, reduceCtorEq, Nat.reduceEqDiff, Nat.reduceAdd]
  refine CallH.by (pieces_c k v w u es a b B (rA.pre pB) (by omega) e.1 (ha.pre (pA.trans pB)) (hb.pre (pA.trans pB)) hla hlb e.2.1 e.2.2) ?_
  rintro g C ⟨hL, pC⟩
  simp (maxSteps := 1000000) (disch := omega) only [S, S1, S2, S3, S4, S5, ST, eq_self, reduceIte, reduceCtorEq, Nat.reduceEqDiff, Nat.reduceAdd]
  refine hQ _ _ _ ?_
  simp (maxSteps := 1000000) (disch := omega) only [hL.tup9, S, S1, S2, S3, S4, S5, ST, eq_self, reduceIte, reduceCtorEq, Nat.reduceEqDiff, Nat.reduceAdd]
  have hz : dpL (k : Int) es a b = piecesL (dE es a b) (domL (dE es a b) k k) := by unfold dpL; rw [if_pos e, Int.toNat_natCast]
  rw [decide_eq_true e, hz]
  exact ⟨g, rfl, hL.wide (pA.trans pB).length_le (Nat.le_refl _), pA.trans (pB.trans pC)⟩

set_option maxRecDepth 20000 in
theorem DpS_c (n : Int) (v w u : Value) (es : List (Int × Int)) (a b : List Int) (H : AH) (hr : RowP 76 H v es) (hlen : es.length ≤ 1048576) (hes : ∀ y ∈ es, I64 y.1 ∧ I64 y.2) (ha : Row 3 H w a) (hla : a.length ≤ 1048576) (hxa : ∀ y ∈ a, I64 y) (hb : Row 3 H u b) (hlb : b.length ≤ 1048576) (hxb : ∀ y ∈ b, I64 y) (hn : I64 n) :
    ACalls Try.prog 44 [.agg (List.toArray [.int .i64 n, v]), w, u] H fun r H' => ∃ g, r = .tuple (List.toArray [g, .bool (decide (DpOk n es a b))]) ∧ InL H.length H'.length 32 3 H' g (dpL n es a b) ∧ H <+: H' := by
  refine in44 rfl ?_
  intro Q hQ
  simp (maxSteps := 1000000) (disch := omega) only [cd44, hr.boxG, S, S1, S2, S3, S4, S5, ST, eq_self, reduceIte, reduceCtorEq, Nat.reduceEqDiff, Nat.reduceAdd]
  generalize hA : H ++ [AObj.cells [.int .i64 n, v] 28 false] = A
  have pA : H <+: A := by rw [← hA]; exact List.prefix_append _ _
  have cA : A[H.length]? = some (.cells [.int .i64 n, v] 28 false) := by rw [← hA]; exact at_new ..
  have rA := hr.pre pA
  simp (maxSteps := 1000000) (disch := omega) only [ld_agg ag28 cs28 cA, S, S1, S2, S3, S4, S5, ST, eq_self, reduceIte, reduceCtorEq, Nat.reduceEqDiff, Nat.reduceAdd]
  refine CallH.by (l8Two_c n v w u es a b A rA (by omega) (ha.pre pA) (hb.pre pA) hla hlb) ?_
  rintro _ B ⟨rfl, pB⟩
  have cB := pre_at pB cA
  by_cases e : DpOk n es a b
  rotate_left
  · have u0 := InU.new H.length 32 3 B (pA.trans pB).length_le
    simp (maxSteps := 1000000) (disch := omega) only [decide_eq_false e, S, S1, S2, S3, S4, S5, ST, eq_self, reduceIte, reduceCtorEq, Nat.reduceEqDiff, Nat.reduceAdd]
    refine hQ _ _ _ ?_
    simp (maxSteps := 1000000) (disch := omega) only [S, S1, S2, S3, S4, S5, ST, eq_self, reduceIte, reduceCtorEq, Nat.reduceEqDiff, Nat.reduceAdd]
    have hz : dpL n es a b = [] := by unfold dpL; rw [if_neg e]
    rw [decide_eq_false e, hz]
    exact ⟨_, rfl, by simpa using u0.inl, (pA.trans pB).trans (List.prefix_append _ _)⟩
  obtain ⟨k, hk⟩ : ∃ k : Nat, n = k := ⟨n.toNat, by have := e.1.1; omega⟩
  subst hk
  simp (maxSteps := 1000000) (disch := omega) only [decide_eq_true e, ld_agg ag28 cs28 cB, S, S1, S2, S3, S4, S5, ST, eq_self, reduceIte, reduceCtorEq, Nat.reduceEqDiff, Nat.reduceAdd]
  refine CallH.by (l8Pieces_c k v w u es a b B (rA.pre pB) (by omega) e.1 (ha.pre (pA.trans pB)) (hb.pre (pA.trans pB)) hla hlb) ?_
  rintro g C ⟨hL, pC⟩
  simp (maxSteps := 1000000) (disch := omega) only [S, S1, S2, S3, S4, S5, ST, eq_self, reduceIte, reduceCtorEq, Nat.reduceEqDiff, Nat.reduceAdd]
  refine hQ _ _ _ ?_
  simp (maxSteps := 1000000) (disch := omega) only [hL.tup9, S, S1, S2, S3, S4, S5, ST, eq_self, reduceIte, reduceCtorEq, Nat.reduceEqDiff, Nat.reduceAdd]
  have hz : dpL (k : Int) es a b = piecesL (dE es a b) (domL (dE es a b) k k) := by unfold dpL; rw [if_pos e, Int.toNat_natCast]
  rw [decide_eq_true e, hz]
  exact ⟨g, rfl, hL.wide (pA.trans pB).length_le (Nat.le_refl _), pA.trans (pB.trans pC)⟩
end Go.Proofs.Ythhnpchjjbjabaa.Ai
