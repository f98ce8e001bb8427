/- Sorting lists that are in order already: nothing changes (slices.SortFunc with slices.Compare). -/
import Derived.Test.YthhnpchjjbjabaaGood
import Derived.Test.YthhnpchjjbjabaaProg
import Derived.Test.YthhnpchjjbjabaaAiM2
import Derived.KernelRfl
/- Slim code of this translation. By the kernel. -/
namespace Go.Proofs.Ythhnpchjjbjabaa.Ai
open Go

/- slices.Compare[[]int,int] -/
def ords125 : List (Nat × List (Nat × Bool)) := []
def cd125 : Cd := (.seq (.reg [⟨⟨some 4, Op.assign (Operand.const (Value.int IntKind.i64 0)), none⟩, []⟩]) (.seq (.seq (.reg [⟨⟨some 9, Op.move (Operand.tmp 0), none⟩, []⟩,
  ⟨⟨some 10, Op.call { callee := (Callee.builtin Builtin.len), args := #[(Operand.tmp 9)], argTypes := #[32] }, none⟩, []⟩,
  ⟨⟨some 11, Op.move (Operand.const (Value.int IntKind.i64 0)), none⟩, []⟩]) (.block 0 (.loop (.seq (.reg [⟨⟨some 12, Op.binOp BinOp.lss 3 (Operand.tmp 11) (Operand.tmp 10) 3, none⟩, []⟩]) (.seq (.cond (Operand.tmp 12) .skip (.exit 0)) (.seq (.block 1 (.seq (.reg [⟨⟨some 13, Op.move (Operand.tmp 11), none⟩, []⟩,
  ⟨⟨some 14, Op.indexAddr 32 (Operand.tmp 9) (Operand.tmp 11), none⟩, []⟩,
  ⟨⟨some 15, Op.load 3 (Operand.tmp 14), none⟩, []⟩,
  ⟨⟨some 5, Op.assign (Operand.tmp 13), none⟩, []⟩,
  ⟨⟨some 6, Op.assign (Operand.tmp 15), none⟩, []⟩]) (.seq (.seq (.reg [⟨⟨some 16, Op.move (Operand.tmp 5), none⟩, []⟩,
  ⟨⟨some 17, Op.move (Operand.tmp 1), none⟩, []⟩,
  ⟨⟨some 18, Op.call { callee := (Callee.builtin Builtin.len), args := #[(Operand.tmp 17)], argTypes := #[32] }, none⟩, []⟩,
  ⟨⟨some 19, Op.binOp BinOp.geq 3 (Operand.tmp 16) (Operand.tmp 18) 3, none⟩, []⟩]) (.cond (Operand.tmp 19) (.seq (.reg [⟨⟨some 4, Op.assign (Operand.const (Value.int IntKind.i64 1)), none⟩, []⟩]) .ret) .skip)) (.seq (.reg [⟨⟨some 20, Op.move (Operand.tmp 1), none⟩, []⟩,
  ⟨⟨some 21, Op.move (Operand.tmp 5), none⟩, []⟩,
  ⟨⟨some 22, Op.indexAddr 32 (Operand.tmp 20) (Operand.tmp 21), none⟩, []⟩,
  ⟨⟨some 23, Op.load 3 (Operand.tmp 22), none⟩, []⟩,
  ⟨⟨some 7, Op.assign (Operand.tmp 23), none⟩, []⟩]) (.seq (.reg [⟨⟨some 24, Op.move (Operand.tmp 6), none⟩, []⟩,
  ⟨⟨some 25, Op.move (Operand.tmp 7), none⟩, []⟩,
  ⟨⟨some 26, Op.call { callee := (Callee.value (Operand.func 159)), args := #[(Operand.tmp 24), (Operand.tmp 25)], argTypes := #[3, 3] }, none⟩, []⟩,
  ⟨⟨some 8, Op.assign (Operand.tmp 26), none⟩, []⟩]) (.seq (.reg [⟨⟨some 27, Op.move (Operand.tmp 8), none⟩, []⟩,
  ⟨⟨some 28, Op.binOp BinOp.neq 3 (Operand.tmp 27) (Operand.const (Value.int IntKind.i64 0)) 3, none⟩, []⟩]) (.cond (Operand.tmp 28) (.seq (.reg [⟨⟨some 29, Op.move (Operand.tmp 8), none⟩, []⟩,
  ⟨⟨some 4, Op.assign (Operand.tmp 29), none⟩, []⟩]) .ret) .skip))))))) (.reg [⟨⟨some 30, Op.binOp BinOp.add 3 (Operand.tmp 11) (Operand.const (Value.int IntKind.i64 1)) 3, none⟩, []⟩,
  ⟨⟨some 11, Op.move (Operand.tmp 30), none⟩, []⟩]))))))) (.seq (.seq (.reg [⟨⟨some 31, Op.move (Operand.tmp 0), none⟩, []⟩,
  ⟨⟨some 32, Op.call { callee := (Callee.builtin Builtin.len), args := #[(Operand.tmp 31)], argTypes := #[32] }, none⟩, []⟩,
  ⟨⟨some 33, Op.move (Operand.tmp 1), none⟩, []⟩,
  ⟨⟨some 34, Op.call { callee := (Callee.builtin Builtin.len), args := #[(Operand.tmp 33)], argTypes := #[32] }, none⟩, []⟩,
  ⟨⟨some 35, Op.binOp BinOp.lss 3 (Operand.tmp 32) (Operand.tmp 34) 3, none⟩, []⟩]) (.cond (Operand.tmp 35) (.seq (.reg [⟨⟨some 4, Op.assign (Operand.const (Value.int IntKind.i64 (-1))), none⟩, []⟩]) .ret) .skip)) (.seq (.reg [⟨⟨some 4, Op.assign (Operand.const (Value.int IntKind.i64 0)), none⟩, []⟩]) .ret))))
theorem sl125 : slim Try.f125.ntmps ords125 (Try.f125.body.getD .skip) = some cd125 := by kernel_rfl
theorem in125 {args : List Value} {H : AH} {R : Value → AH → Prop} (hl : args.length = 2) (h : ∀ (Q : Exit → Sl → AH → Prop), (∀ e s H, endA Try.prog [ResultVar.tmp 4] R e s H → Q e s H) → wpC Try.prog cd125 Q (enterA args) H) : ACalls Try.prog 125 args H R :=
  ACalls.intro (by kernel_rfl) Try.func125 rfl (by kernel_rfl) sl125 hl (of_decide_eq_true (by kernel_rfl)) (by kernel_rfl) h

/- slices.order2CmpFunc[[]int] -/
def ords206 : List (Nat × List (Nat × Bool)) := [(1, [(0, false), (1, false), (2, false), (3, false), (4, false), (5, false), (6, false), (7, false), (8, false), (9, true), (10, false)])]
def cd206 : Cd := (.seq (.reg [⟨⟨some 10, Op.assign (Operand.const (Value.int IntKind.i64 0)), none⟩, []⟩,
  ⟨⟨some 11, Op.assign (Operand.const (Value.int IntKind.i64 0)), none⟩, []⟩]) (.seq (.seq (.reg [⟨⟨some 12, Op.move (Operand.tmp 4), none⟩, []⟩,
  ⟨⟨some 13, Op.move (Operand.tmp 0), none⟩, []⟩,
  ⟨⟨some 14, Op.move (Operand.tmp 2), none⟩, []⟩,
  ⟨⟨some 15, Op.indexAddr 38 (Operand.tmp 13) (Operand.tmp 14), none⟩, []⟩,
  ⟨⟨some 16, Op.load 32 (Operand.tmp 15), none⟩, []⟩,
  ⟨⟨some 17, Op.move (Operand.tmp 0), none⟩, []⟩,
  ⟨⟨some 18, Op.move (Operand.tmp 1), none⟩, []⟩,
  ⟨⟨some 19, Op.indexAddr 38 (Operand.tmp 17) (Operand.tmp 18), none⟩, []⟩,
  ⟨⟨some 20, Op.load 32 (Operand.tmp 19), none⟩, []⟩,
  ⟨⟨some 21, Op.call { callee := (Callee.value (Operand.tmp 12)), args := #[(Operand.tmp 16), (Operand.tmp 20)], argTypes := #[32, 32] }, none⟩, []⟩,
  ⟨⟨some 22, Op.binOp BinOp.lss 3 (Operand.tmp 21) (Operand.const (Value.int IntKind.i64 0)) 3, none⟩, []⟩]) (.cond (Operand.tmp 22) (.seq (.reg [⟨⟨some 23, Op.move (Operand.tmp 3), none⟩, []⟩,
  ⟨⟨some 24, Op.nilCheck (Operand.tmp 23), none⟩, []⟩,
  ⟨⟨some 25, Op.load 3 (Operand.tmp 24), none⟩, []⟩,
  ⟨⟨some 26, Op.binOp BinOp.add 3 (Operand.tmp 25) (Operand.const (Value.int IntKind.i64 1)) 3, none⟩, []⟩,
  ⟨⟨some 27, Op.nilCheck (Operand.tmp 23), none⟩, []⟩,
  ⟨⟨none, Op.store 3 (Operand.tmp 27) (Operand.tmp 26), none⟩, []⟩]) (.seq (.reg [⟨⟨some 28, Op.move (Operand.tmp 2), none⟩, []⟩,
  ⟨⟨some 29, Op.move (Operand.tmp 1), none⟩, []⟩,
  ⟨⟨some 10, Op.assign (Operand.tmp 28), none⟩, []⟩,
  ⟨⟨some 11, Op.assign (Operand.tmp 29), none⟩, []⟩]) .ret)) .skip)) (.seq (.reg [⟨⟨some 30, Op.move (Operand.tmp 1), none⟩, []⟩,
  ⟨⟨some 31, Op.move (Operand.tmp 2), none⟩, []⟩,
  ⟨⟨some 10, Op.assign (Operand.tmp 30), none⟩, []⟩,
  ⟨⟨some 11, Op.assign (Operand.tmp 31), none⟩, []⟩]) .ret)))
theorem sl206 : slim Try.f206.ntmps ords206 (Try.f206.body.getD .skip) = some cd206 := by kernel_rfl
theorem in206 {args : List Value} {H : AH} {R : Value → AH → Prop} (hl : args.length = 5) (h : ∀ (Q : Exit → Sl → AH → Prop), (∀ e s H, endA Try.prog [ResultVar.tmp 10, ResultVar.tmp 11] R e s H → Q e s H) → wpC Try.prog cd206 Q (enterA args) H) : ACalls Try.prog 206 args H R :=
  ACalls.intro (by kernel_rfl) Try.func206 rfl (by kernel_rfl) sl206 hl (of_decide_eq_true (by kernel_rfl)) (by kernel_rfl) h

/- slices.medianCmpFunc[[]int] -/
def ords200 : List (Nat × List (Nat × Bool)) := []
def cd200 : Cd := (.seq (.reg [⟨⟨some 12, Op.assign (Operand.const (Value.int IntKind.i64 0)), none⟩, []⟩]) (.seq (.reg [⟨⟨some 14, Op.move (Operand.tmp 0), none⟩, []⟩,
  ⟨⟨some 15, Op.move (Operand.tmp 1), none⟩, []⟩,
  ⟨⟨some 16, Op.move (Operand.tmp 2), none⟩, []⟩,
  ⟨⟨some 17, Op.move (Operand.tmp 4), none⟩, []⟩,
  ⟨⟨some 18, Op.move (Operand.tmp 5), none⟩, []⟩,
  ⟨⟨some 19, Op.call { callee := (Callee.value (Operand.func 206)), args := #[(Operand.tmp 14), (Operand.tmp 15), (Operand.tmp 16), (Operand.tmp 17), (Operand.tmp 18)], argTypes := #[38, 3, 3, 169, 109] }, none⟩, []⟩,
  ⟨⟨some 13, Op.move (Operand.tmp 19), none⟩, []⟩,
  ⟨⟨some 20, Op.extract (Operand.tmp 13) 0, none⟩, []⟩,
  ⟨⟨some 21, Op.extract (Operand.tmp 13) 1, none⟩, []⟩,
  ⟨⟨some 1, Op.assign (Operand.tmp 20), none⟩, []⟩,
  ⟨⟨some 2, Op.assign (Operand.tmp 21), none⟩, []⟩]) (.seq (.reg [⟨⟨some 23, Op.move (Operand.tmp 0), none⟩, []⟩,
  ⟨⟨some 24, Op.move (Operand.tmp 2), none⟩, []⟩,
  ⟨⟨some 25, Op.move (Operand.tmp 3), none⟩, []⟩,
  ⟨⟨some 26, Op.move (Operand.tmp 4), none⟩, []⟩,
  ⟨⟨some 27, Op.move (Operand.tmp 5), none⟩, []⟩,
  ⟨⟨some 28, Op.call { callee := (Callee.value (Operand.func 206)), args := #[(Operand.tmp 23), (Operand.tmp 24), (Operand.tmp 25), (Operand.tmp 26), (Operand.tmp 27)], argTypes := #[38, 3, 3, 169, 109] }, none⟩, []⟩,
  ⟨⟨some 22, Op.move (Operand.tmp 28), none⟩, []⟩,
  ⟨⟨some 29, Op.extract (Operand.tmp 22) 0, none⟩, []⟩,
  ⟨⟨some 30, Op.extract (Operand.tmp 22) 1, none⟩, []⟩,
  ⟨⟨some 2, Op.assign (Operand.tmp 29), none⟩, []⟩,
  ⟨⟨some 3, Op.assign (Operand.tmp 30), none⟩, []⟩]) (.seq (.reg [⟨⟨some 32, Op.move (Operand.tmp 0), none⟩, []⟩,
  ⟨⟨some 33, Op.move (Operand.tmp 1), none⟩, []⟩,
  ⟨⟨some 34, Op.move (Operand.tmp 2), none⟩, []⟩,
  ⟨⟨some 35, Op.move (Operand.tmp 4), none⟩, []⟩,
  ⟨⟨some 36, Op.move (Operand.tmp 5), none⟩, []⟩,
  ⟨⟨some 37, Op.call { callee := (Callee.value (Operand.func 206)), args := #[(Operand.tmp 32), (Operand.tmp 33), (Operand.tmp 34), (Operand.tmp 35), (Operand.tmp 36)], argTypes := #[38, 3, 3, 169, 109] }, none⟩, []⟩,
  ⟨⟨some 31, Op.move (Operand.tmp 37), none⟩, []⟩,
  ⟨⟨some 38, Op.extract (Operand.tmp 31) 0, none⟩, []⟩,
  ⟨⟨some 39, Op.extract (Operand.tmp 31) 1, none⟩, []⟩,
  ⟨⟨some 1, Op.assign (Operand.tmp 38), none⟩, []⟩,
  ⟨⟨some 2, Op.assign (Operand.tmp 39), none⟩, []⟩]) (.seq (.reg [⟨⟨some 40, Op.move (Operand.tmp 2), none⟩, []⟩,
  ⟨⟨some 12, Op.assign (Operand.tmp 40), none⟩, []⟩]) .ret)))))
theorem sl200 : slim Try.f200.ntmps ords200 (Try.f200.body.getD .skip) = some cd200 := by kernel_rfl
theorem in200 {args : List Value} {H : AH} {R : Value → AH → Prop} (hl : args.length = 6) (h : ∀ (Q : Exit → Sl → AH → Prop), (∀ e s H, endA Try.prog [ResultVar.tmp 12] R e s H → Q e s H) → wpC Try.prog cd200 Q (enterA args) H) : ACalls Try.prog 200 args H R :=
  ACalls.intro (by kernel_rfl) Try.func200 rfl (by kernel_rfl) sl200 hl (of_decide_eq_true (by kernel_rfl)) (by kernel_rfl) h

/- slices.medianAdjacentCmpFunc[[]int] -/
def ords199 : List (Nat × List (Nat × Bool)) := []
def cd199 : Cd := (.seq (.reg [⟨⟨some 8, Op.assign (Operand.const (Value.int IntKind.i64 0)), none⟩, []⟩]) (.seq (.reg [⟨⟨some 9, Op.move (Operand.tmp 0), none⟩, []⟩,
  ⟨⟨some 10, Op.move (Operand.tmp 1), none⟩, []⟩,
  ⟨⟨some 11, Op.binOp BinOp.sub 3 (Operand.tmp 10) (Operand.const (Value.int IntKind.i64 1)) 3, none⟩, []⟩,
  ⟨⟨some 12, Op.move (Operand.tmp 1), none⟩, []⟩,
  ⟨⟨some 13, Op.move (Operand.tmp 1), none⟩, []⟩,
  ⟨⟨some 14, Op.binOp BinOp.add 3 (Operand.tmp 13) (Operand.const (Value.int IntKind.i64 1)) 3, none⟩, []⟩,
  ⟨⟨some 15, Op.move (Operand.tmp 2), none⟩, []⟩,
  ⟨⟨some 16, Op.move (Operand.tmp 3), none⟩, []⟩,
  ⟨⟨some 17, Op.call { callee := (Callee.value (Operand.func 200)), args := #[(Operand.tmp 9), (Operand.tmp 11), (Operand.tmp 12), (Operand.tmp 14), (Operand.tmp 15), (Operand.tmp 16)], argTypes := #[38, 3, 3, 3, 169, 109] }, none⟩, []⟩,
  ⟨⟨some 8, Op.assign (Operand.tmp 17), none⟩, []⟩]) .ret))
theorem sl199 : slim Try.f199.ntmps ords199 (Try.f199.body.getD .skip) = some cd199 := by kernel_rfl
theorem in199 {args : List Value} {H : AH} {R : Value → AH → Prop} (hl : args.length = 4) (h : ∀ (Q : Exit → Sl → AH → Prop), (∀ e s H, endA Try.prog [ResultVar.tmp 8] R e s H → Q e s H) → wpC Try.prog cd199 Q (enterA args) H) : ACalls Try.prog 199 args H R :=
  ACalls.intro (by kernel_rfl) Try.func199 rfl (by kernel_rfl) sl199 hl (of_decide_eq_true (by kernel_rfl)) (by kernel_rfl) h

/- slices.partialInsertionSortCmpFunc[[]int] -/
def ords175 : List (Nat × List (Nat × Bool)) := [(5, [(0, false), (1, false), (2, false), (3, false), (4, false), (5, false), (6, false), (7, false), (8, false), (9, false), (10, false), (11, false), (12, false), (13, false), (14, true), (15, false), (16, false), (17, false)]), (11, [(0, false), (1, false), (2, false), (3, false), (4, false), (5, false), (6, false), (7, false), (8, false), (9, false), (10, false), (11, false), (12, false), (13, false), (14, false), (15, true), (16, false), (17, true)]), (16, [(0, false), (1, false), (2, false), (3, false), (4, false), (5, false), (6, false), (7, false), (8, false), (9, false), (10, true), (11, false), (12, false)]), (17, [(0, false), (1, false), (2, false), (3, false), (4, false), (5, false), (6, false), (7, false), (8, false), (9, false), (10, false), (11, false), (12, false), (13, false), (14, false), (15, true), (16, false), (17, true)]), (22, [(0, false), (1, false), (2, false), (3, false), (4, false), (5, false), (6, false), (7, false), (8, false), (9, false), (10, true), (11, false), (12, false)]), (23, [(0, false), (1, false), (2, false), (3, false), (4, false), (5, false), (6, false), (7, false), (8, false), (9, false), (10, false), (11, false), (12, false), (13, false), (14, false), (15, true), (16, false), (17, true)])]
def cd175 : Cd := (.seq (.reg [⟨⟨some 8, Op.assign (Operand.const (Value.bool false)), none⟩, []⟩]) (.seq (.reg [⟨⟨some 13, Op.move (Operand.tmp 1), none⟩, []⟩,
  ⟨⟨some 14, Op.binOp BinOp.add 3 (Operand.tmp 13) (Operand.const (Value.int IntKind.i64 1)) 3, none⟩, []⟩,
  ⟨⟨some 9, Op.assign (Operand.tmp 14), none⟩, []⟩]) (.seq (.seq (.reg [⟨⟨some 10, Op.assign (Operand.const (Value.int IntKind.i64 0)), none⟩, []⟩]) (.block 0 (.loop (.seq (.seq (.reg [⟨⟨some 15, Op.move (Operand.tmp 10), none⟩, []⟩,
  ⟨⟨some 16, Op.binOp BinOp.lss 3 (Operand.tmp 15) (Operand.const (Value.int IntKind.i64 5)) 3, none⟩, []⟩]) (.cond (Operand.tmp 16) .skip (.exit 0))) (.seq (.block 1 (.seq (.block 2 (.loop (.seq (.seq (.reg [⟨⟨some 19, Op.move (Operand.tmp 9), none⟩, []⟩,
  ⟨⟨some 20, Op.move (Operand.tmp 2), none⟩, []⟩,
  ⟨⟨some 21, Op.binOp BinOp.lss 3 (Operand.tmp 19) (Operand.tmp 20) 3, none⟩, []⟩,
  ⟨⟨some 22, Op.move (Operand.tmp 21), none⟩, []⟩,
  ⟨⟨some 23, Op.move (Operand.tmp 3), some (22, true)⟩, []⟩,
  ⟨⟨some 24, Op.move (Operand.tmp 0), some (22, true)⟩, []⟩,
  ⟨⟨some 25, Op.move (Operand.tmp 9), some (22, true)⟩, []⟩,
  ⟨⟨some 26, Op.indexAddr 38 (Operand.tmp 24) (Operand.tmp 25), some (22, true)⟩, []⟩,
  ⟨⟨some 27, Op.load 32 (Operand.tmp 26), some (22, true)⟩, []⟩,
  ⟨⟨some 28, Op.move (Operand.tmp 0), some (22, true)⟩, []⟩,
  ⟨⟨some 29, Op.move (Operand.tmp 9), some (22, true)⟩, []⟩,
  ⟨⟨some 30, Op.binOp BinOp.sub 3 (Operand.tmp 29) (Operand.const (Value.int IntKind.i64 1)) 3, some (22, true)⟩, []⟩,
  ⟨⟨some 31, Op.indexAddr 38 (Operand.tmp 28) (Operand.tmp 30), some (22, true)⟩, []⟩,
  ⟨⟨some 32, Op.load 32 (Operand.tmp 31), some (22, true)⟩, []⟩,
  ⟨⟨some 33, Op.call { callee := (Callee.value (Operand.tmp 23)), args := #[(Operand.tmp 27), (Operand.tmp 32)], argTypes := #[32, 32] }, some (22, true)⟩, []⟩,
  ⟨⟨some 34, Op.binOp BinOp.lss 3 (Operand.tmp 33) (Operand.const (Value.int IntKind.i64 0)) 3, some (22, true)⟩, []⟩,
  ⟨⟨some 35, Op.unOp UnOp.not 4 (Operand.tmp 34), some (22, true)⟩, []⟩,
  ⟨⟨some 36, Op.pick (Operand.tmp 22) (Operand.tmp 35) (Operand.const (Value.bool false)), none⟩, []⟩]) (.cond (Operand.tmp 36) .skip (.exit 2))) (.block 3 (.reg [⟨⟨some 37, Op.move (Operand.tmp 9), none⟩, []⟩,
  ⟨⟨some 38, Op.binOp BinOp.add 3 (Operand.tmp 37) (Operand.const (Value.int IntKind.i64 1)) 3, none⟩, []⟩,
  ⟨⟨some 9, Op.assign (Operand.tmp 38), none⟩, []⟩]))))) (.seq (.seq (.reg [⟨⟨some 39, Op.move (Operand.tmp 9), none⟩, []⟩,
  ⟨⟨some 40, Op.move (Operand.tmp 2), none⟩, []⟩,
  ⟨⟨some 41, Op.binOp BinOp.eql 3 (Operand.tmp 39) (Operand.tmp 40) 3, none⟩, []⟩]) (.cond (Operand.tmp 41) (.seq (.reg [⟨⟨some 8, Op.assign (Operand.const (Value.bool true)), none⟩, []⟩]) .ret) .skip)) (.seq (.seq (.reg [⟨⟨some 42, Op.move (Operand.tmp 2), none⟩, []⟩,
  ⟨⟨some 43, Op.move (Operand.tmp 1), none⟩, []⟩,
  ⟨⟨some 44, Op.binOp BinOp.sub 3 (Operand.tmp 42) (Operand.tmp 43) 3, none⟩, []⟩,
  ⟨⟨some 45, Op.binOp BinOp.lss 3 (Operand.tmp 44) (Operand.const (Value.int IntKind.i64 50)) 3, none⟩, []⟩]) (.cond (Operand.tmp 45) (.seq (.reg [⟨⟨some 8, Op.assign (Operand.const (Value.bool false)), none⟩, []⟩]) .ret) .skip)) (.seq (.reg [⟨⟨some 46, Op.move (Operand.tmp 0), none⟩, []⟩,
  ⟨⟨some 47, Op.move (Operand.tmp 9), none⟩, []⟩,
  ⟨⟨some 48, Op.move (Operand.tmp 0), none⟩, []⟩,
  ⟨⟨some 49, Op.move (Operand.tmp 9), none⟩, []⟩,
  ⟨⟨some 50, Op.binOp BinOp.sub 3 (Operand.tmp 49) (Operand.const (Value.int IntKind.i64 1)) 3, none⟩, []⟩,
  ⟨⟨some 51, Op.move (Operand.tmp 0), none⟩, []⟩,
  ⟨⟨some 52, Op.move (Operand.tmp 9), none⟩, []⟩,
  ⟨⟨some 53, Op.binOp BinOp.sub 3 (Operand.tmp 52) (Operand.const (Value.int IntKind.i64 1)) 3, none⟩, []⟩,
  ⟨⟨some 54, Op.indexAddr 38 (Operand.tmp 51) (Operand.tmp 53), none⟩, []⟩,
  ⟨⟨some 55, Op.load 32 (Operand.tmp 54), none⟩, []⟩,
  ⟨⟨some 56, Op.move (Operand.tmp 0), none⟩, []⟩,
  ⟨⟨some 57, Op.move (Operand.tmp 9), none⟩, []⟩,
  ⟨⟨some 58, Op.indexAddr 38 (Operand.tmp 56) (Operand.tmp 57), none⟩, []⟩,
  ⟨⟨some 59, Op.load 32 (Operand.tmp 58), none⟩, []⟩,
  ⟨⟨some 60, Op.indexAddr 38 (Operand.tmp 46) (Operand.tmp 47), none⟩, []⟩,
  ⟨⟨none, Op.store 32 (Operand.tmp 60) (Operand.tmp 55), none⟩, []⟩,
  ⟨⟨some 61, Op.indexAddr 38 (Operand.tmp 48) (Operand.tmp 50), none⟩, []⟩,
  ⟨⟨none, Op.store 32 (Operand.tmp 61) (Operand.tmp 59), none⟩, []⟩]) (.seq (.seq (.reg [⟨⟨some 62, Op.move (Operand.tmp 9), none⟩, []⟩,
  ⟨⟨some 63, Op.move (Operand.tmp 1), none⟩, []⟩,
  ⟨⟨some 64, Op.binOp BinOp.sub 3 (Operand.tmp 62) (Operand.tmp 63) 3, none⟩, []⟩,
  ⟨⟨some 65, Op.binOp BinOp.geq 3 (Operand.tmp 64) (Operand.const (Value.int IntKind.i64 2)) 3, none⟩, []⟩]) (.cond (Operand.tmp 65) (.seq (.reg [⟨⟨some 66, Op.move (Operand.tmp 9), none⟩, []⟩,
  ⟨⟨some 67, Op.binOp BinOp.sub 3 (Operand.tmp 66) (Operand.const (Value.int IntKind.i64 1)) 3, none⟩, []⟩,
  ⟨⟨some 11, Op.assign (Operand.tmp 67), none⟩, []⟩]) (.block 4 (.loop (.seq (.seq (.reg [⟨⟨some 68, Op.move (Operand.tmp 11), none⟩, []⟩,
  ⟨⟨some 69, Op.binOp BinOp.geq 3 (Operand.tmp 68) (Operand.const (Value.int IntKind.i64 1)) 3, none⟩, []⟩]) (.cond (Operand.tmp 69) .skip (.exit 4))) (.seq (.block 5 (.seq (.seq (.reg [⟨⟨some 72, Op.move (Operand.tmp 3), none⟩, []⟩,
  ⟨⟨some 73, Op.move (Operand.tmp 0), none⟩, []⟩,
  ⟨⟨some 74, Op.move (Operand.tmp 11), none⟩, []⟩,
  ⟨⟨some 75, Op.indexAddr 38 (Operand.tmp 73) (Operand.tmp 74), none⟩, []⟩,
  ⟨⟨some 76, Op.load 32 (Operand.tmp 75), none⟩, []⟩,
  ⟨⟨some 77, Op.move (Operand.tmp 0), none⟩, []⟩,
  ⟨⟨some 78, Op.move (Operand.tmp 11), none⟩, []⟩,
  ⟨⟨some 79, Op.binOp BinOp.sub 3 (Operand.tmp 78) (Operand.const (Value.int IntKind.i64 1)) 3, none⟩, []⟩,
  ⟨⟨some 80, Op.indexAddr 38 (Operand.tmp 77) (Operand.tmp 79), none⟩, []⟩,
  ⟨⟨some 81, Op.load 32 (Operand.tmp 80), none⟩, []⟩,
  ⟨⟨some 82, Op.call { callee := (Callee.value (Operand.tmp 72)), args := #[(Operand.tmp 76), (Operand.tmp 81)], argTypes := #[32, 32] }, none⟩, []⟩,
  ⟨⟨some 83, Op.binOp BinOp.lss 3 (Operand.tmp 82) (Operand.const (Value.int IntKind.i64 0)) 3, none⟩, []⟩,
  ⟨⟨some 84, Op.unOp UnOp.not 4 (Operand.tmp 83), none⟩, []⟩]) (.cond (Operand.tmp 84) (.exit 4) .skip)) (.reg [⟨⟨some 85, Op.move (Operand.tmp 0), none⟩, []⟩,
  ⟨⟨some 86, Op.move (Operand.tmp 11), none⟩, []⟩,
  ⟨⟨some 87, Op.move (Operand.tmp 0), none⟩, []⟩,
  ⟨⟨some 88, Op.move (Operand.tmp 11), none⟩, []⟩,
  ⟨⟨some 89, Op.binOp BinOp.sub 3 (Operand.tmp 88) (Operand.const (Value.int IntKind.i64 1)) 3, none⟩, []⟩,
  ⟨⟨some 90, Op.move (Operand.tmp 0), none⟩, []⟩,
  ⟨⟨some 91, Op.move (Operand.tmp 11), none⟩, []⟩,
  ⟨⟨some 92, Op.binOp BinOp.sub 3 (Operand.tmp 91) (Operand.const (Value.int IntKind.i64 1)) 3, none⟩, []⟩,
  ⟨⟨some 93, Op.indexAddr 38 (Operand.tmp 90) (Operand.tmp 92), none⟩, []⟩,
  ⟨⟨some 94, Op.load 32 (Operand.tmp 93), none⟩, []⟩,
  ⟨⟨some 95, Op.move (Operand.tmp 0), none⟩, []⟩,
  ⟨⟨some 96, Op.move (Operand.tmp 11), none⟩, []⟩,
  ⟨⟨some 97, Op.indexAddr 38 (Operand.tmp 95) (Operand.tmp 96), none⟩, []⟩,
  ⟨⟨some 98, Op.load 32 (Operand.tmp 97), none⟩, []⟩,
  ⟨⟨some 99, Op.indexAddr 38 (Operand.tmp 85) (Operand.tmp 86), none⟩, []⟩,
  ⟨⟨none, Op.store 32 (Operand.tmp 99) (Operand.tmp 94), none⟩, []⟩,
  ⟨⟨some 100, Op.indexAddr 38 (Operand.tmp 87) (Operand.tmp 89), none⟩, []⟩,
  ⟨⟨none, Op.store 32 (Operand.tmp 100) (Operand.tmp 98), none⟩, []⟩]))) (.reg [⟨⟨some 70, Op.move (Operand.tmp 11), none⟩, []⟩,
  ⟨⟨some 71, Op.binOp BinOp.sub 3 (Operand.tmp 70) (Operand.const (Value.int IntKind.i64 1)) 3, none⟩, []⟩,
  ⟨⟨some 11, Op.assign (Operand.tmp 71), none⟩, []⟩])))))) .skip)) (.seq (.reg [⟨⟨some 101, Op.move (Operand.tmp 2), none⟩, []⟩,
  ⟨⟨some 102, Op.move (Operand.tmp 9), none⟩, []⟩,
  ⟨⟨some 103, Op.binOp BinOp.sub 3 (Operand.tmp 101) (Operand.tmp 102) 3, none⟩, []⟩,
  ⟨⟨some 104, Op.binOp BinOp.geq 3 (Operand.tmp 103) (Operand.const (Value.int IntKind.i64 2)) 3, none⟩, []⟩]) (.cond (Operand.tmp 104) (.seq (.reg [⟨⟨some 105, Op.move (Operand.tmp 9), none⟩, []⟩,
  ⟨⟨some 106, Op.binOp BinOp.add 3 (Operand.tmp 105) (Operand.const (Value.int IntKind.i64 1)) 3, none⟩, []⟩,
  ⟨⟨some 12, Op.assign (Operand.tmp 106), none⟩, []⟩]) (.block 6 (.loop (.seq (.seq (.reg [⟨⟨some 107, Op.move (Operand.tmp 12), none⟩, []⟩,
  ⟨⟨some 108, Op.move (Operand.tmp 2), none⟩, []⟩,
  ⟨⟨some 109, Op.binOp BinOp.lss 3 (Operand.tmp 107) (Operand.tmp 108) 3, none⟩, []⟩]) (.cond (Operand.tmp 109) .skip (.exit 6))) (.seq (.block 7 (.seq (.seq (.reg [⟨⟨some 112, Op.move (Operand.tmp 3), none⟩, []⟩,
  ⟨⟨some 113, Op.move (Operand.tmp 0), none⟩, []⟩,
  ⟨⟨some 114, Op.move (Operand.tmp 12), none⟩, []⟩,
  ⟨⟨some 115, Op.indexAddr 38 (Operand.tmp 113) (Operand.tmp 114), none⟩, []⟩,
  ⟨⟨some 116, Op.load 32 (Operand.tmp 115), none⟩, []⟩,
  ⟨⟨some 117, Op.move (Operand.tmp 0), none⟩, []⟩,
  ⟨⟨some 118, Op.move (Operand.tmp 12), none⟩, []⟩,
  ⟨⟨some 119, Op.binOp BinOp.sub 3 (Operand.tmp 118) (Operand.const (Value.int IntKind.i64 1)) 3, none⟩, []⟩,
  ⟨⟨some 120, Op.indexAddr 38 (Operand.tmp 117) (Operand.tmp 119), none⟩, []⟩,
  ⟨⟨some 121, Op.load 32 (Operand.tmp 120), none⟩, []⟩,
  ⟨⟨some 122, Op.call { callee := (Callee.value (Operand.tmp 112)), args := #[(Operand.tmp 116), (Operand.tmp 121)], argTypes := #[32, 32] }, none⟩, []⟩,
  ⟨⟨some 123, Op.binOp BinOp.lss 3 (Operand.tmp 122) (Operand.const (Value.int IntKind.i64 0)) 3, none⟩, []⟩,
  ⟨⟨some 124, Op.unOp UnOp.not 4 (Operand.tmp 123), none⟩, []⟩]) (.cond (Operand.tmp 124) (.exit 6) .skip)) (.reg [⟨⟨some 125, Op.move (Operand.tmp 0), none⟩, []⟩,
  ⟨⟨some 126, Op.move (Operand.tmp 12), none⟩, []⟩,
  ⟨⟨some 127, Op.move (Operand.tmp 0), none⟩, []⟩,
  ⟨⟨some 128, Op.move (Operand.tmp 12), none⟩, []⟩,
  ⟨⟨some 129, Op.binOp BinOp.sub 3 (Operand.tmp 128) (Operand.const (Value.int IntKind.i64 1)) 3, none⟩, []⟩,
  ⟨⟨some 130, Op.move (Operand.tmp 0), none⟩, []⟩,
  ⟨⟨some 131, Op.move (Operand.tmp 12), none⟩, []⟩,
  ⟨⟨some 132, Op.binOp BinOp.sub 3 (Operand.tmp 131) (Operand.const (Value.int IntKind.i64 1)) 3, none⟩, []⟩,
  ⟨⟨some 133, Op.indexAddr 38 (Operand.tmp 130) (Operand.tmp 132), none⟩, []⟩,
  ⟨⟨some 134, Op.load 32 (Operand.tmp 133), none⟩, []⟩,
  ⟨⟨some 135, Op.move (Operand.tmp 0), none⟩, []⟩,
  ⟨⟨some 136, Op.move (Operand.tmp 12), none⟩, []⟩,
  ⟨⟨some 137, Op.indexAddr 38 (Operand.tmp 135) (Operand.tmp 136), none⟩, []⟩,
  ⟨⟨some 138, Op.load 32 (Operand.tmp 137), none⟩, []⟩,
  ⟨⟨some 139, Op.indexAddr 38 (Operand.tmp 125) (Operand.tmp 126), none⟩, []⟩,
  ⟨⟨none, Op.store 32 (Operand.tmp 139) (Operand.tmp 134), none⟩, []⟩,
  ⟨⟨some 140, Op.indexAddr 38 (Operand.tmp 127) (Operand.tmp 129), none⟩, []⟩,
  ⟨⟨none, Op.store 32 (Operand.tmp 140) (Operand.tmp 138), none⟩, []⟩]))) (.reg [⟨⟨some 110, Op.move (Operand.tmp 12), none⟩, []⟩,
  ⟨⟨some 111, Op.binOp BinOp.add 3 (Operand.tmp 110) (Operand.const (Value.int IntKind.i64 1)) 3, none⟩, []⟩,
  ⟨⟨some 12, Op.assign (Operand.tmp 111), none⟩, []⟩])))))) .skip)))))))) (.reg [⟨⟨some 17, Op.move (Operand.tmp 10), none⟩, []⟩,
  ⟨⟨some 18, Op.binOp BinOp.add 3 (Operand.tmp 17) (Operand.const (Value.int IntKind.i64 1)) 3, none⟩, []⟩,
  ⟨⟨some 10, Op.assign (Operand.tmp 18), none⟩, []⟩])))))) (.seq (.reg [⟨⟨some 8, Op.assign (Operand.const (Value.bool false)), none⟩, []⟩]) .ret))))
theorem sl175 : slim Try.f175.ntmps ords175 (Try.f175.body.getD .skip) = some cd175 := by kernel_rfl
theorem in175 {args : List Value} {H : AH} {R : Value → AH → Prop} (hl : args.length = 4) (h : ∀ (Q : Exit → Sl → AH → Prop), (∀ e s H, endA Try.prog [ResultVar.tmp 8] R e s H → Q e s H) → wpC Try.prog cd175 Q (enterA args) H) : ACalls Try.prog 175 args H R :=
  ACalls.intro (by kernel_rfl) Try.func175 rfl (by kernel_rfl) sl175 hl (of_decide_eq_true (by kernel_rfl)) (by kernel_rfl) h

/- slices.insertionSortCmpFunc[[]int] -/
def ords170 : List (Nat × List (Nat × Bool)) := [(4, [(0, false), (1, false), (2, false), (3, false), (4, false), (5, false), (6, false), (7, false), (8, false), (9, false), (10, false), (11, false), (12, false), (13, false), (14, true), (15, false), (16, false)]), (6, [(0, false), (1, false), (2, false), (3, false), (4, false), (5, false), (6, false), (7, false), (8, false), (9, false), (10, false), (11, false), (12, false), (13, false), (14, false), (15, true), (16, false), (17, true)])]
def cd170 : Cd := (.seq (.reg [⟨⟨some 10, Op.move (Operand.tmp 1), none⟩, []⟩,
  ⟨⟨some 11, Op.binOp BinOp.add 3 (Operand.tmp 10) (Operand.const (Value.int IntKind.i64 1)) 3, none⟩, []⟩,
  ⟨⟨some 8, Op.assign (Operand.tmp 11), none⟩, []⟩]) (.block 0 (.loop (.seq (.seq (.reg [⟨⟨some 12, Op.move (Operand.tmp 8), none⟩, []⟩,
  ⟨⟨some 13, Op.move (Operand.tmp 2), none⟩, []⟩,
  ⟨⟨some 14, Op.binOp BinOp.lss 3 (Operand.tmp 12) (Operand.tmp 13) 3, none⟩, []⟩]) (.cond (Operand.tmp 14) .skip (.exit 0))) (.seq (.block 1 (.seq (.reg [⟨⟨some 17, Op.move (Operand.tmp 8), none⟩, []⟩,
  ⟨⟨some 9, Op.assign (Operand.tmp 17), none⟩, []⟩]) (.block 2 (.loop (.seq (.seq (.reg [⟨⟨some 18, Op.move (Operand.tmp 9), none⟩, []⟩,
  ⟨⟨some 19, Op.move (Operand.tmp 1), none⟩, []⟩,
  ⟨⟨some 20, Op.binOp BinOp.gtr 3 (Operand.tmp 18) (Operand.tmp 19) 3, none⟩, []⟩,
  ⟨⟨some 21, Op.move (Operand.tmp 20), none⟩, []⟩,
  ⟨⟨some 22, Op.move (Operand.tmp 3), some (21, true)⟩, []⟩,
  ⟨⟨some 23, Op.move (Operand.tmp 0), some (21, true)⟩, []⟩,
  ⟨⟨some 24, Op.move (Operand.tmp 9), some (21, true)⟩, []⟩,
  ⟨⟨some 25, Op.indexAddr 38 (Operand.tmp 23) (Operand.tmp 24), some (21, true)⟩, []⟩,
  ⟨⟨some 26, Op.load 32 (Operand.tmp 25), some (21, true)⟩, []⟩,
  ⟨⟨some 27, Op.move (Operand.tmp 0), some (21, true)⟩, []⟩,
  ⟨⟨some 28, Op.move (Operand.tmp 9), some (21, true)⟩, []⟩,
  ⟨⟨some 29, Op.binOp BinOp.sub 3 (Operand.tmp 28) (Operand.const (Value.int IntKind.i64 1)) 3, some (21, true)⟩, []⟩,
  ⟨⟨some 30, Op.indexAddr 38 (Operand.tmp 27) (Operand.tmp 29), some (21, true)⟩, []⟩,
  ⟨⟨some 31, Op.load 32 (Operand.tmp 30), some (21, true)⟩, []⟩,
  ⟨⟨some 32, Op.call { callee := (Callee.value (Operand.tmp 22)), args := #[(Operand.tmp 26), (Operand.tmp 31)], argTypes := #[32, 32] }, some (21, true)⟩, []⟩,
  ⟨⟨some 33, Op.binOp BinOp.lss 3 (Operand.tmp 32) (Operand.const (Value.int IntKind.i64 0)) 3, some (21, true)⟩, []⟩,
  ⟨⟨some 34, Op.pick (Operand.tmp 21) (Operand.tmp 33) (Operand.const (Value.bool false)), none⟩, []⟩]) (.cond (Operand.tmp 34) .skip (.exit 2))) (.seq (.block 3 (.reg [⟨⟨some 37, Op.move (Operand.tmp 0), none⟩, []⟩,
  ⟨⟨some 38, Op.move (Operand.tmp 9), none⟩, []⟩,
  ⟨⟨some 39, Op.move (Operand.tmp 0), none⟩, []⟩,
  ⟨⟨some 40, Op.move (Operand.tmp 9), none⟩, []⟩,
  ⟨⟨some 41, Op.binOp BinOp.sub 3 (Operand.tmp 40) (Operand.const (Value.int IntKind.i64 1)) 3, none⟩, []⟩,
  ⟨⟨some 42, Op.move (Operand.tmp 0), none⟩, []⟩,
  ⟨⟨some 43, Op.move (Operand.tmp 9), none⟩, []⟩,
  ⟨⟨some 44, Op.binOp BinOp.sub 3 (Operand.tmp 43) (Operand.const (Value.int IntKind.i64 1)) 3, none⟩, []⟩,
  ⟨⟨some 45, Op.indexAddr 38 (Operand.tmp 42) (Operand.tmp 44), none⟩, []⟩,
  ⟨⟨some 46, Op.load 32 (Operand.tmp 45), none⟩, []⟩,
  ⟨⟨some 47, Op.move (Operand.tmp 0), none⟩, []⟩,
  ⟨⟨some 48, Op.move (Operand.tmp 9), none⟩, []⟩,
  ⟨⟨some 49, Op.indexAddr 38 (Operand.tmp 47) (Operand.tmp 48), none⟩, []⟩,
  ⟨⟨some 50, Op.load 32 (Operand.tmp 49), none⟩, []⟩,
  ⟨⟨some 51, Op.indexAddr 38 (Operand.tmp 37) (Operand.tmp 38), none⟩, []⟩,
  ⟨⟨none, Op.store 32 (Operand.tmp 51) (Operand.tmp 46), none⟩, []⟩,
  ⟨⟨some 52, Op.indexAddr 38 (Operand.tmp 39) (Operand.tmp 41), none⟩, []⟩,
  ⟨⟨none, Op.store 32 (Operand.tmp 52) (Operand.tmp 50), none⟩, []⟩])) (.reg [⟨⟨some 35, Op.move (Operand.tmp 9), none⟩, []⟩,
  ⟨⟨some 36, Op.binOp BinOp.sub 3 (Operand.tmp 35) (Operand.const (Value.int IntKind.i64 1)) 3, none⟩, []⟩,
  ⟨⟨some 9, Op.assign (Operand.tmp 36), none⟩, []⟩]))))))) (.reg [⟨⟨some 15, Op.move (Operand.tmp 8), none⟩, []⟩,
  ⟨⟨some 16, Op.binOp BinOp.add 3 (Operand.tmp 15) (Operand.const (Value.int IntKind.i64 1)) 3, none⟩, []⟩,
  ⟨⟨some 8, Op.assign (Operand.tmp 16), none⟩, []⟩]))))))
theorem sl170 : slim Try.f170.ntmps ords170 (Try.f170.body.getD .skip) = some cd170 := by kernel_rfl
theorem in170 {args : List Value} {H : AH} {R : Value → AH → Prop} (hl : args.length = 4) (h : ∀ (Q : Exit → Sl → AH → Prop), (∀ e s H, endA Try.prog [] R e s H → Q e s H) → wpC Try.prog cd170 Q (enterA args) H) : ACalls Try.prog 170 args H R :=
  ACalls.intro (by kernel_rfl) Try.func170 rfl (by kernel_rfl) sl170 hl (of_decide_eq_true (by kernel_rfl)) (by kernel_rfl) h

/- slices.choosePivotCmpFunc[[]int] -/
def ords173 : List (Nat × List (Nat × Bool)) := []
def cd173 : Cd := (.seq (.reg [⟨⟨some 8, Op.assign (Operand.const (Value.int IntKind.i64 0)), none⟩, []⟩,
  ⟨⟨some 9, Op.assign (Operand.const (Value.int IntKind.i64 0)), none⟩, []⟩]) (.seq (.reg [⟨⟨some 15, Op.move (Operand.tmp 2), none⟩, []⟩,
  ⟨⟨some 16, Op.move (Operand.tmp 1), none⟩, []⟩,
  ⟨⟨some 17, Op.binOp BinOp.sub 3 (Operand.tmp 15) (Operand.tmp 16) 3, none⟩, []⟩,
  ⟨⟨some 10, Op.assign (Operand.tmp 17), none⟩, []⟩]) (.seq (.reg [⟨⟨some 11, Op.alloc 3, none⟩, []⟩]) (.seq (.reg [⟨⟨some 18, Op.move (Operand.tmp 1), none⟩, []⟩,
  ⟨⟨some 19, Op.move (Operand.tmp 10), none⟩, []⟩,
  ⟨⟨some 20, Op.binOp BinOp.quo 3 (Operand.tmp 19) (Operand.const (Value.int IntKind.i64 4)) 3, none⟩, []⟩,
  ⟨⟨some 21, Op.binOp BinOp.mul 3 (Operand.tmp 20) (Operand.const (Value.int IntKind.i64 1)) 3, none⟩, []⟩,
  ⟨⟨some 22, Op.binOp BinOp.add 3 (Operand.tmp 18) (Operand.tmp 21) 3, none⟩, []⟩,
  ⟨⟨some 12, Op.assign (Operand.tmp 22), none⟩, []⟩]) (.seq (.reg [⟨⟨some 23, Op.move (Operand.tmp 1), none⟩, []⟩,
  ⟨⟨some 24, Op.move (Operand.tmp 10), none⟩, []⟩,
  ⟨⟨some 25, Op.binOp BinOp.quo 3 (Operand.tmp 24) (Operand.const (Value.int IntKind.i64 4)) 3, none⟩, []⟩,
  ⟨⟨some 26, Op.binOp BinOp.mul 3 (Operand.tmp 25) (Operand.const (Value.int IntKind.i64 2)) 3, none⟩, []⟩,
  ⟨⟨some 27, Op.binOp BinOp.add 3 (Operand.tmp 23) (Operand.tmp 26) 3, none⟩, []⟩,
  ⟨⟨some 13, Op.assign (Operand.tmp 27), none⟩, []⟩]) (.seq (.reg [⟨⟨some 28, Op.move (Operand.tmp 1), none⟩, []⟩,
  ⟨⟨some 29, Op.move (Operand.tmp 10), none⟩, []⟩,
  ⟨⟨some 30, Op.binOp BinOp.quo 3 (Operand.tmp 29) (Operand.const (Value.int IntKind.i64 4)) 3, none⟩, []⟩,
  ⟨⟨some 31, Op.binOp BinOp.mul 3 (Operand.tmp 30) (Operand.const (Value.int IntKind.i64 3)) 3, none⟩, []⟩,
  ⟨⟨some 32, Op.binOp BinOp.add 3 (Operand.tmp 28) (Operand.tmp 31) 3, none⟩, []⟩,
  ⟨⟨some 14, Op.assign (Operand.tmp 32), none⟩, []⟩]) (.seq (.seq (.reg [⟨⟨some 33, Op.move (Operand.tmp 10), none⟩, []⟩,
  ⟨⟨some 34, Op.binOp BinOp.geq 3 (Operand.tmp 33) (Operand.const (Value.int IntKind.i64 8)) 3, none⟩, []⟩]) (.cond (Operand.tmp 34) (.seq (.seq (.reg [⟨⟨some 35, Op.move (Operand.tmp 10), none⟩, []⟩,
  ⟨⟨some 36, Op.binOp BinOp.geq 3 (Operand.tmp 35) (Operand.const (Value.int IntKind.i64 50)) 3, none⟩, []⟩]) (.cond (Operand.tmp 36) (.seq (.reg [⟨⟨some 37, Op.move (Operand.tmp 0), none⟩, []⟩,
  ⟨⟨some 38, Op.move (Operand.tmp 12), none⟩, []⟩,
  ⟨⟨some 39, Op.move (Operand.tmp 3), none⟩, []⟩,
  ⟨⟨some 40, Op.call { callee := (Callee.value (Operand.func 199)), args := #[(Operand.tmp 37), (Operand.tmp 38), (Operand.tmp 11), (Operand.tmp 39)], argTypes := #[38, 3, 169, 109] }, none⟩, []⟩,
  ⟨⟨some 12, Op.assign (Operand.tmp 40), none⟩, []⟩]) (.seq (.reg [⟨⟨some 41, Op.move (Operand.tmp 0), none⟩, []⟩,
  ⟨⟨some 42, Op.move (Operand.tmp 13), none⟩, []⟩,
  ⟨⟨some 43, Op.move (Operand.tmp 3), none⟩, []⟩,
  ⟨⟨some 44, Op.call { callee := (Callee.value (Operand.func 199)), args := #[(Operand.tmp 41), (Operand.tmp 42), (Operand.tmp 11), (Operand.tmp 43)], argTypes := #[38, 3, 169, 109] }, none⟩, []⟩,
  ⟨⟨some 13, Op.assign (Operand.tmp 44), none⟩, []⟩]) (.reg [⟨⟨some 45, Op.move (Operand.tmp 0), none⟩, []⟩,
  ⟨⟨some 46, Op.move (Operand.tmp 14), none⟩, []⟩,
  ⟨⟨some 47, Op.move (Operand.tmp 3), none⟩, []⟩,
  ⟨⟨some 48, Op.call { callee := (Callee.value (Operand.func 199)), args := #[(Operand.tmp 45), (Operand.tmp 46), (Operand.tmp 11), (Operand.tmp 47)], argTypes := #[38, 3, 169, 109] }, none⟩, []⟩,
  ⟨⟨some 14, Op.assign (Operand.tmp 48), none⟩, []⟩]))) .skip)) (.reg [⟨⟨some 49, Op.move (Operand.tmp 0), none⟩, []⟩,
  ⟨⟨some 50, Op.move (Operand.tmp 12), none⟩, []⟩,
  ⟨⟨some 51, Op.move (Operand.tmp 13), none⟩, []⟩,
  ⟨⟨some 52, Op.move (Operand.tmp 14), none⟩, []⟩,
  ⟨⟨some 53, Op.move (Operand.tmp 3), none⟩, []⟩,
  ⟨⟨some 54, Op.call { callee := (Callee.value (Operand.func 200)), args := #[(Operand.tmp 49), (Operand.tmp 50), (Operand.tmp 51), (Operand.tmp 52), (Operand.tmp 11), (Operand.tmp 53)], argTypes := #[38, 3, 3, 3, 169, 109] }, none⟩, []⟩,
  ⟨⟨some 13, Op.assign (Operand.tmp 54), none⟩, []⟩])) .skip)) (.seq (.reg [⟨⟨some 55, Op.load 3 (Operand.tmp 11), none⟩, []⟩]) (.block 0 (.seq (.reg [⟨⟨some 58, Op.binOp BinOp.eql 3 (Operand.tmp 55) (Operand.const (Value.int IntKind.i64 0)) 3, none⟩, []⟩,
  ⟨⟨some 57, Op.assign (Operand.tmp 58), none⟩, []⟩]) (.cond (Operand.tmp 57) (.seq (.reg [⟨⟨some 59, Op.move (Operand.tmp 13), none⟩, []⟩,
  ⟨⟨some 8, Op.assign (Operand.tmp 59), none⟩, []⟩,
  ⟨⟨some 9, Op.assign (Operand.const (Value.int IntKind.i64 1)), none⟩, []⟩]) .ret) (.seq (.reg [⟨⟨some 61, Op.binOp BinOp.eql 3 (Operand.tmp 55) (Operand.const (Value.int IntKind.i64 12)) 3, none⟩, []⟩,
  ⟨⟨some 60, Op.assign (Operand.tmp 61), none⟩, []⟩]) (.cond (Operand.tmp 60) (.seq (.reg [⟨⟨some 62, Op.move (Operand.tmp 13), none⟩, []⟩,
  ⟨⟨some 8, Op.assign (Operand.tmp 62), none⟩, []⟩,
  ⟨⟨some 9, Op.assign (Operand.const (Value.int IntKind.i64 2)), none⟩, []⟩]) .ret) (.seq (.reg [⟨⟨some 56, Op.move (Operand.tmp 13), none⟩, []⟩,
  ⟨⟨some 8, Op.assign (Operand.tmp 56), none⟩, []⟩,
  ⟨⟨some 9, Op.assign (Operand.const (Value.int IntKind.i64 0)), none⟩, []⟩]) .ret))))))))))))))
theorem sl173 : slim Try.f173.ntmps ords173 (Try.f173.body.getD .skip) = some cd173 := by kernel_rfl
theorem in173 {args : List Value} {H : AH} {R : Value → AH → Prop} (hl : args.length = 4) (h : ∀ (Q : Exit → Sl → AH → Prop), (∀ e s H, endA Try.prog [ResultVar.tmp 8, ResultVar.tmp 9] R e s H → Q e s H) → wpC Try.prog cd173 Q (enterA args) H) : ACalls Try.prog 173 args H R :=
  ACalls.intro (by kernel_rfl) Try.func173 rfl (by kernel_rfl) sl173 hl (of_decide_eq_true (by kernel_rfl)) (by kernel_rfl) h

/- slices.pdqsortCmpFunc[[]int] -/
def ords157 : List (Nat × List (Nat × Bool)) := [(17, [(0, false), (1, false), (2, false), (3, false), (4, false), (5, false), (6, false), (7, false), (8, false), (9, false), (10, false), (11, false), (12, false), (13, true), (14, false), (15, false), (16, false)])]
def cd157 : Cd := (.seq (.reg [⟨⟨some 10, Op.assign (Operand.const (Value.bool true)), none⟩, []⟩]) (.seq (.reg [⟨⟨some 11, Op.assign (Operand.const (Value.bool true)), none⟩, []⟩]) (.block 0 (.loop (.block 1 (.seq (.reg [⟨⟨some 21, Op.move (Operand.tmp 2), none⟩, []⟩,
  ⟨⟨some 22, Op.move (Operand.tmp 1), none⟩, []⟩,
  ⟨⟨some 23, Op.binOp BinOp.sub 3 (Operand.tmp 21) (Operand.tmp 22) 3, none⟩, []⟩,
  ⟨⟨some 12, Op.assign (Operand.tmp 23), none⟩, []⟩]) (.seq (.seq (.reg [⟨⟨some 24, Op.move (Operand.tmp 12), none⟩, []⟩,
  ⟨⟨some 25, Op.binOp BinOp.leq 3 (Operand.tmp 24) (Operand.const (Value.int IntKind.i64 12)) 3, none⟩, []⟩]) (.cond (Operand.tmp 25) (.seq (.reg [⟨⟨some 26, Op.move (Operand.tmp 0), none⟩, []⟩,
  ⟨⟨some 27, Op.move (Operand.tmp 1), none⟩, []⟩,
  ⟨⟨some 28, Op.move (Operand.tmp 2), none⟩, []⟩,
  ⟨⟨some 29, Op.move (Operand.tmp 4), none⟩, []⟩,
  ⟨⟨some 30, Op.call { callee := (Callee.value (Operand.func 170)), args := #[(Operand.tmp 26), (Operand.tmp 27), (Operand.tmp 28), (Operand.tmp 29)], argTypes := #[38, 3, 3, 109] }, none⟩, []⟩]) .ret) .skip)) (.seq (.seq (.reg [⟨⟨some 31, Op.move (Operand.tmp 3), none⟩, []⟩,
  ⟨⟨some 32, Op.binOp BinOp.eql 3 (Operand.tmp 31) (Operand.const (Value.int IntKind.i64 0)) 3, none⟩, []⟩]) (.cond (Operand.tmp 32) (.seq (.reg [⟨⟨some 33, Op.move (Operand.tmp 0), none⟩, []⟩,
  ⟨⟨some 34, Op.move (Operand.tmp 1), none⟩, []⟩,
  ⟨⟨some 35, Op.move (Operand.tmp 2), none⟩, []⟩,
  ⟨⟨some 36, Op.move (Operand.tmp 4), none⟩, []⟩,
  ⟨⟨some 37, Op.call { callee := (Callee.value (Operand.func 171)), args := #[(Operand.tmp 33), (Operand.tmp 34), (Operand.tmp 35), (Operand.tmp 36)], argTypes := #[38, 3, 3, 109] }, none⟩, []⟩]) .ret) .skip)) (.seq (.seq (.reg [⟨⟨some 38, Op.move (Operand.tmp 10), none⟩, []⟩,
  ⟨⟨some 39, Op.unOp UnOp.not 4 (Operand.tmp 38), none⟩, []⟩]) (.cond (Operand.tmp 39) (.seq (.reg [⟨⟨some 40, Op.move (Operand.tmp 0), none⟩, []⟩,
  ⟨⟨some 41, Op.move (Operand.tmp 1), none⟩, []⟩,
  ⟨⟨some 42, Op.move (Operand.tmp 2), none⟩, []⟩,
  ⟨⟨some 43, Op.move (Operand.tmp 4), none⟩, []⟩,
  ⟨⟨some 44, Op.call { callee := (Callee.value (Operand.func 172)), args := #[(Operand.tmp 40), (Operand.tmp 41), (Operand.tmp 42), (Operand.tmp 43)], argTypes := #[38, 3, 3, 109] }, none⟩, []⟩]) (.reg [⟨⟨some 45, Op.move (Operand.tmp 3), none⟩, []⟩,
  ⟨⟨some 46, Op.binOp BinOp.sub 3 (Operand.tmp 45) (Operand.const (Value.int IntKind.i64 1)) 3, none⟩, []⟩,
  ⟨⟨some 3, Op.assign (Operand.tmp 46), none⟩, []⟩])) .skip)) (.seq (.reg [⟨⟨some 48, Op.move (Operand.tmp 0), none⟩, []⟩,
  ⟨⟨some 49, Op.move (Operand.tmp 1), none⟩, []⟩,
  ⟨⟨some 50, Op.move (Operand.tmp 2), none⟩, []⟩,
  ⟨⟨some 51, Op.move (Operand.tmp 4), none⟩, []⟩,
  ⟨⟨some 52, Op.call { callee := (Callee.value (Operand.func 173)), args := #[(Operand.tmp 48), (Operand.tmp 49), (Operand.tmp 50), (Operand.tmp 51)], argTypes := #[38, 3, 3, 109] }, none⟩, []⟩,
  ⟨⟨some 47, Op.move (Operand.tmp 52), none⟩, []⟩,
  ⟨⟨some 53, Op.extract (Operand.tmp 47) 0, none⟩, []⟩,
  ⟨⟨some 54, Op.extract (Operand.tmp 47) 1, none⟩, []⟩,
  ⟨⟨some 13, Op.assign (Operand.tmp 53), none⟩, []⟩,
  ⟨⟨some 14, Op.assign (Operand.tmp 54), none⟩, []⟩]) (.seq (.seq (.reg [⟨⟨some 55, Op.move (Operand.tmp 14), none⟩, []⟩,
  ⟨⟨some 56, Op.binOp BinOp.eql 142 (Operand.tmp 55) (Operand.const (Value.int IntKind.i64 2)) 142, none⟩, []⟩]) (.cond (Operand.tmp 56) (.seq (.reg [⟨⟨some 57, Op.move (Operand.tmp 0), none⟩, []⟩,
  ⟨⟨some 58, Op.move (Operand.tmp 1), none⟩, []⟩,
  ⟨⟨some 59, Op.move (Operand.tmp 2), none⟩, []⟩,
  ⟨⟨some 60, Op.move (Operand.tmp 4), none⟩, []⟩,
  ⟨⟨some 61, Op.call { callee := (Callee.value (Operand.func 174)), args := #[(Operand.tmp 57), (Operand.tmp 58), (Operand.tmp 59), (Operand.tmp 60)], argTypes := #[38, 3, 3, 109] }, none⟩, []⟩]) (.seq (.reg [⟨⟨some 62, Op.move (Operand.tmp 2), none⟩, []⟩,
  ⟨⟨some 63, Op.binOp BinOp.sub 3 (Operand.tmp 62) (Operand.const (Value.int IntKind.i64 1)) 3, none⟩, []⟩,
  ⟨⟨some 64, Op.move (Operand.tmp 13), none⟩, []⟩,
  ⟨⟨some 65, Op.move (Operand.tmp 1), none⟩, []⟩,
  ⟨⟨some 66, Op.binOp BinOp.sub 3 (Operand.tmp 64) (Operand.tmp 65) 3, none⟩, []⟩,
  ⟨⟨some 67, Op.binOp BinOp.sub 3 (Operand.tmp 63) (Operand.tmp 66) 3, none⟩, []⟩,
  ⟨⟨some 13, Op.assign (Operand.tmp 67), none⟩, []⟩]) (.reg [⟨⟨some 14, Op.assign (Operand.const (Value.int IntKind.i64 1)), none⟩, []⟩]))) .skip)) (.seq (.seq (.reg [⟨⟨some 68, Op.move (Operand.tmp 10), none⟩, []⟩,
  ⟨⟨some 69, Op.move (Operand.tmp 68), none⟩, []⟩,
  ⟨⟨some 70, Op.move (Operand.tmp 11), some (69, true)⟩, []⟩,
  ⟨⟨some 71, Op.pick (Operand.tmp 69) (Operand.tmp 70) (Operand.const (Value.bool false)), none⟩, []⟩,
  ⟨⟨some 72, Op.move (Operand.tmp 71), none⟩, []⟩,
  ⟨⟨some 73, Op.move (Operand.tmp 14), some (72, true)⟩, []⟩,
  ⟨⟨some 74, Op.binOp BinOp.eql 142 (Operand.tmp 73) (Operand.const (Value.int IntKind.i64 1)) 142, some (72, true)⟩, []⟩,
  ⟨⟨some 75, Op.pick (Operand.tmp 72) (Operand.tmp 74) (Operand.const (Value.bool false)), none⟩, []⟩]) (.cond (Operand.tmp 75) (.seq (.reg [⟨⟨some 76, Op.move (Operand.tmp 0), none⟩, []⟩,
  ⟨⟨some 77, Op.move (Operand.tmp 1), none⟩, []⟩,
  ⟨⟨some 78, Op.move (Operand.tmp 2), none⟩, []⟩,
  ⟨⟨some 79, Op.move (Operand.tmp 4), none⟩, []⟩,
  ⟨⟨some 80, Op.call { callee := (Callee.value (Operand.func 175)), args := #[(Operand.tmp 76), (Operand.tmp 77), (Operand.tmp 78), (Operand.tmp 79)], argTypes := #[38, 3, 3, 109] }, none⟩, []⟩]) (.cond (Operand.tmp 80) .ret .skip)) .skip)) (.seq (.seq (.reg [⟨⟨some 81, Op.move (Operand.tmp 1), none⟩, []⟩,
  ⟨⟨some 82, Op.binOp BinOp.gtr 3 (Operand.tmp 81) (Operand.const (Value.int IntKind.i64 0)) 3, none⟩, []⟩,
  ⟨⟨some 83, Op.move (Operand.tmp 82), none⟩, []⟩,
  ⟨⟨some 84, Op.move (Operand.tmp 4), some (83, true)⟩, []⟩,
  ⟨⟨some 85, Op.move (Operand.tmp 0), some (83, true)⟩, []⟩,
  ⟨⟨some 86, Op.move (Operand.tmp 1), some (83, true)⟩, []⟩,
  ⟨⟨some 87, Op.binOp BinOp.sub 3 (Operand.tmp 86) (Operand.const (Value.int IntKind.i64 1)) 3, some (83, true)⟩, []⟩,
  ⟨⟨some 88, Op.indexAddr 38 (Operand.tmp 85) (Operand.tmp 87), some (83, true)⟩, []⟩,
  ⟨⟨some 89, Op.load 32 (Operand.tmp 88), some (83, true)⟩, []⟩,
  ⟨⟨some 90, Op.move (Operand.tmp 0), some (83, true)⟩, []⟩,
  ⟨⟨some 91, Op.move (Operand.tmp 13), some (83, true)⟩, []⟩,
  ⟨⟨some 92, Op.indexAddr 38 (Operand.tmp 90) (Operand.tmp 91), some (83, true)⟩, []⟩,
  ⟨⟨some 93, Op.load 32 (Operand.tmp 92), some (83, true)⟩, []⟩,
  ⟨⟨some 94, Op.call { callee := (Callee.value (Operand.tmp 84)), args := #[(Operand.tmp 89), (Operand.tmp 93)], argTypes := #[32, 32] }, some (83, true)⟩, []⟩,
  ⟨⟨some 95, Op.binOp BinOp.lss 3 (Operand.tmp 94) (Operand.const (Value.int IntKind.i64 0)) 3, some (83, true)⟩, []⟩,
  ⟨⟨some 96, Op.unOp UnOp.not 4 (Operand.tmp 95), some (83, true)⟩, []⟩,
  ⟨⟨some 97, Op.pick (Operand.tmp 83) (Operand.tmp 96) (Operand.const (Value.bool false)), none⟩, []⟩]) (.cond (Operand.tmp 97) (.seq (.reg [⟨⟨some 98, Op.move (Operand.tmp 0), none⟩, []⟩,
  ⟨⟨some 99, Op.move (Operand.tmp 1), none⟩, []⟩,
  ⟨⟨some 100, Op.move (Operand.tmp 2), none⟩, []⟩,
  ⟨⟨some 101, Op.move (Operand.tmp 13), none⟩, []⟩,
  ⟨⟨some 102, Op.move (Operand.tmp 4), none⟩, []⟩,
  ⟨⟨some 103, Op.call { callee := (Callee.value (Operand.func 176)), args := #[(Operand.tmp 98), (Operand.tmp 99), (Operand.tmp 100), (Operand.tmp 101), (Operand.tmp 102)], argTypes := #[38, 3, 3, 3, 109] }, none⟩, []⟩,
  ⟨⟨some 15, Op.assign (Operand.tmp 103), none⟩, []⟩]) (.seq (.reg [⟨⟨some 104, Op.move (Operand.tmp 15), none⟩, []⟩,
  ⟨⟨some 1, Op.assign (Operand.tmp 104), none⟩, []⟩]) (.exit 1))) .skip)) (.seq (.reg [⟨⟨some 106, Op.move (Operand.tmp 0), none⟩, []⟩,
  ⟨⟨some 107, Op.move (Operand.tmp 1), none⟩, []⟩,
  ⟨⟨some 108, Op.move (Operand.tmp 2), none⟩, []⟩,
  ⟨⟨some 109, Op.move (Operand.tmp 13), none⟩, []⟩,
  ⟨⟨some 110, Op.move (Operand.tmp 4), none⟩, []⟩,
  ⟨⟨some 111, Op.call { callee := (Callee.value (Operand.func 177)), args := #[(Operand.tmp 106), (Operand.tmp 107), (Operand.tmp 108), (Operand.tmp 109), (Operand.tmp 110)], argTypes := #[38, 3, 3, 3, 109] }, none⟩, []⟩,
  ⟨⟨some 105, Op.move (Operand.tmp 111), none⟩, []⟩,
  ⟨⟨some 112, Op.extract (Operand.tmp 105) 0, none⟩, []⟩,
  ⟨⟨some 113, Op.extract (Operand.tmp 105) 1, none⟩, []⟩,
  ⟨⟨some 16, Op.assign (Operand.tmp 112), none⟩, []⟩,
  ⟨⟨some 17, Op.assign (Operand.tmp 113), none⟩, []⟩]) (.seq (.reg [⟨⟨some 114, Op.move (Operand.tmp 17), none⟩, []⟩,
  ⟨⟨some 11, Op.assign (Operand.tmp 114), none⟩, []⟩]) (.seq (.reg [⟨⟨some 115, Op.move (Operand.tmp 16), none⟩, []⟩,
  ⟨⟨some 116, Op.move (Operand.tmp 1), none⟩, []⟩,
  ⟨⟨some 117, Op.binOp BinOp.sub 3 (Operand.tmp 115) (Operand.tmp 116) 3, none⟩, []⟩,
  ⟨⟨some 118, Op.move (Operand.tmp 2), none⟩, []⟩,
  ⟨⟨some 119, Op.move (Operand.tmp 16), none⟩, []⟩,
  ⟨⟨some 120, Op.binOp BinOp.sub 3 (Operand.tmp 118) (Operand.tmp 119) 3, none⟩, []⟩,
  ⟨⟨some 18, Op.assign (Operand.tmp 117), none⟩, []⟩,
  ⟨⟨some 19, Op.assign (Operand.tmp 120), none⟩, []⟩]) (.seq (.reg [⟨⟨some 121, Op.move (Operand.tmp 12), none⟩, []⟩,
  ⟨⟨some 122, Op.binOp BinOp.quo 3 (Operand.tmp 121) (Operand.const (Value.int IntKind.i64 8)) 3, none⟩, []⟩,
  ⟨⟨some 20, Op.assign (Operand.tmp 122), none⟩, []⟩]) (.seq (.reg [⟨⟨some 123, Op.move (Operand.tmp 18), none⟩, []⟩,
  ⟨⟨some 124, Op.move (Operand.tmp 19), none⟩, []⟩,
  ⟨⟨some 125, Op.binOp BinOp.lss 3 (Operand.tmp 123) (Operand.tmp 124) 3, none⟩, []⟩]) (.cond (Operand.tmp 125) (.seq (.reg [⟨⟨some 126, Op.move (Operand.tmp 18), none⟩, []⟩,
  ⟨⟨some 127, Op.move (Operand.tmp 20), none⟩, []⟩,
  ⟨⟨some 128, Op.binOp BinOp.geq 3 (Operand.tmp 126) (Operand.tmp 127) 3, none⟩, []⟩,
  ⟨⟨some 10, Op.assign (Operand.tmp 128), none⟩, []⟩]) (.seq (.reg [⟨⟨some 129, Op.move (Operand.tmp 0), none⟩, []⟩,
  ⟨⟨some 130, Op.move (Operand.tmp 1), none⟩, []⟩,
  ⟨⟨some 131, Op.move (Operand.tmp 16), none⟩, []⟩,
  ⟨⟨some 132, Op.move (Operand.tmp 3), none⟩, []⟩,
  ⟨⟨some 133, Op.move (Operand.tmp 4), none⟩, []⟩,
  ⟨⟨some 134, Op.call { callee := (Callee.value (Operand.func 157)), args := #[(Operand.tmp 129), (Operand.tmp 130), (Operand.tmp 131), (Operand.tmp 132), (Operand.tmp 133)], argTypes := #[38, 3, 3, 3, 109] }, none⟩, []⟩]) (.reg [⟨⟨some 135, Op.move (Operand.tmp 16), none⟩, []⟩,
  ⟨⟨some 136, Op.binOp BinOp.add 3 (Operand.tmp 135) (Operand.const (Value.int IntKind.i64 1)) 3, none⟩, []⟩,
  ⟨⟨some 1, Op.assign (Operand.tmp 136), none⟩, []⟩]))) (.seq (.reg [⟨⟨some 137, Op.move (Operand.tmp 19), none⟩, []⟩,
  ⟨⟨some 138, Op.move (Operand.tmp 20), none⟩, []⟩,
  ⟨⟨some 139, Op.binOp BinOp.geq 3 (Operand.tmp 137) (Operand.tmp 138) 3, none⟩, []⟩,
  ⟨⟨some 10, Op.assign (Operand.tmp 139), none⟩, []⟩]) (.seq (.reg [⟨⟨some 140, Op.move (Operand.tmp 0), none⟩, []⟩,
  ⟨⟨some 141, Op.move (Operand.tmp 16), none⟩, []⟩,
  ⟨⟨some 142, Op.binOp BinOp.add 3 (Operand.tmp 141) (Operand.const (Value.int IntKind.i64 1)) 3, none⟩, []⟩,
  ⟨⟨some 143, Op.move (Operand.tmp 2), none⟩, []⟩,
  ⟨⟨some 144, Op.move (Operand.tmp 3), none⟩, []⟩,
  ⟨⟨some 145, Op.move (Operand.tmp 4), none⟩, []⟩,
  ⟨⟨some 146, Op.call { callee := (Callee.value (Operand.func 157)), args := #[(Operand.tmp 140), (Operand.tmp 142), (Operand.tmp 143), (Operand.tmp 144), (Operand.tmp 145)], argTypes := #[38, 3, 3, 3, 109] }, none⟩, []⟩]) (.reg [⟨⟨some 147, Op.move (Operand.tmp 16), none⟩, []⟩,
  ⟨⟨some 2, Op.assign (Operand.tmp 147), none⟩, []⟩]))))))))))))))))))))))
theorem sl157 : slim Try.f157.ntmps ords157 (Try.f157.body.getD .skip) = some cd157 := by kernel_rfl
theorem in157 {args : List Value} {H : AH} {R : Value → AH → Prop} (hl : args.length = 5) (h : ∀ (Q : Exit → Sl → AH → Prop), (∀ e s H, endA Try.prog [] R e s H → Q e s H) → wpC Try.prog cd157 Q (enterA args) H) : ACalls Try.prog 157 args H R :=
  ACalls.intro (by kernel_rfl) Try.func157 rfl (by kernel_rfl) sl157 hl (of_decide_eq_true (by kernel_rfl)) (by kernel_rfl) h
end Go.Proofs.Ythhnpchjjbjabaa.Ai

namespace Go.Proofs.Ythhnpchjjbjabaa.Ai
open Go Go.RowKit
set_option linter.unusedVariables false
set_option linter.unusedSimpArgs false

/-- the order of lists -/
def cmpL : List Int → List Int → Int
  | [], [] => 0
  | [], _ :: _ => -1
  | _ :: _, [] => 1
  | a :: xs, b :: ys => if cmpI a b ≠ 0 then cmpI a b else cmpL xs ys
theorem cmpL_nil (ys : List Int) : cmpL [] ys = if 0 < ys.length then -1 else 0 := by
  cases ys with
  | nil => rfl
  | cons b bs => simp [cmpL]
theorem cmpL_step (xs ys : List Int) (i : Nat) (hi : i < xs.length) : cmpL (xs.drop i) (ys.drop i) = if ys.length ≤ i then 1 else if cmpI (xs.getD i 0) (ys.getD i 0) ≠ 0 then cmpI (xs.getD i 0) (ys.getD i 0) else cmpL (xs.drop (i + 1)) (ys.drop (i + 1)) := by
  have hx : xs.getD i 0 = xs[i] := by simp [hi]
  rw [List.drop_eq_getElem_cons hi]
  by_cases hj : ys.length ≤ i
  · rw [if_pos hj, List.drop_of_length_le hj]; rfl
  · have hj' : i < ys.length := by omega
    have hy : ys.getD i 0 = ys[i] := by simp [hj']
    rw [if_neg hj, List.drop_eq_getElem_cons hj', hx, hy]; rfl
theorem cmpI_i64 (a b : Int) : -1 ≤ cmpI a b ∧ cmpI a b ≤ 1 := by unfold cmpI; repeat' split <;> omega

abbrev fnCmp : Value := .func (.func 125) #[] (List.toArray [])

set_option maxHeartbeats 1000000 in
theorem CmpL_c (v w : Value) (xs ys : List Int) (H : AH) (hr : Row 3 H v xs) (hr2 : Row 3 H w ys) (hlen : xs.length ≤ 1099511627776) (hlen2 : ys.length ≤ 1099511627776) :
    ACalls Try.prog 125 [v, w] H fun r H' => r = .int .i64 (cmpL xs ys) ∧ H = H' := by
  refine in125 rfl ?_
  intro Q hQ
  simp (maxSteps := 1000000) (disch := omega) only [cd125, hr.len Try.underlying32, S, S1, S2, S3, S4, S5, ST, eq_self, reduceIte, reduceCtorEq, Nat.reduceEqDiff, Nat.reduceAdd]
  refine LoopH.by (fun m s H' => ∃ i, m + i = xs.length ∧ s 0 = v ∧ s 1 = w ∧ s 9 = v ∧ s 10 = .int .i64 (xs.length : Int) ∧ s 11 = .int .i64 ((i : Nat) : Int) ∧ H = H' ∧ cmpL xs ys = cmpL (xs.drop i) (ys.drop i) ∧ (i ≤ ys.length ∨ i = 0)) xs.length ?_ ?_
  · exact ⟨0, by simp, rfl, rfl, rfl, rfl, rfl, rfl, by simp, .inr rfl⟩
  · rintro m s H' ⟨i, hm, h0, h1, h9, h10, h11, rfl, hc, hy⟩
    simp (maxSteps := 1000000) (disch := omega) only [h0, h1, h9, h10, h11, S, S1, S2, S3, S4, S5, ST, eq_self, reduceIte, reduceCtorEq, Nat.reduceEqDiff, Nat.reduceAdd]
    refine brD.intro (fun g => ?_) (fun g => ?_)
    · have hi : i < xs.length := by omega
      rw [cmpL_step xs ys i hi] at hc
      simp (maxSteps := 1000000) (disch := omega) only [h0, h1, h9, h10, h11, hr.ix Try.underlying32 cs3, hr.cell, Int.toNat_natCast, hr2.len Try.underlying32, S, S1, S2, S3, S4, S5, ST, eq_self, reduceIte, reduceCtorEq, Nat.reduceEqDiff, Nat.reduceAdd]
      refine brD.intro (fun e => ?_) (fun e => ?_)
      · simp (maxSteps := 1000000) (disch := omega) only [S, S1, S2, S3, S4, S5, ST, eq_self, reduceIte, reduceCtorEq, Nat.reduceEqDiff, Nat.reduceAdd]
        refine hQ _ _ _ ?_
        simp (maxSteps := 1000000) (disch := omega) only [S, S1, S2, S3, S4, S5, ST, eq_self, reduceIte, reduceCtorEq, Nat.reduceEqDiff, Nat.reduceAdd]
        rw [hc, if_pos (by omega)]
      · have hj : i < ys.length := by omega
        rw [if_neg (by omega)] at hc
        simp (maxSteps := 1000000) (disch := omega) only [h0, h1, h9, h10, h11, hr2.ix Try.underlying32 cs3, hr2.cell, Int.toNat_natCast, S, S1, S2, S3, S4, S5, ST, eq_self, reduceIte, reduceCtorEq, Nat.reduceEqDiff, Nat.reduceAdd]
        refine CallH.by (Compare_c _ _ H) ?_
        rintro _ _ ⟨rfl, rfl⟩
        simp (maxSteps := 1000000) (disch := omega) only [S, S1, S2, S3, S4, S5, ST, eq_self, reduceIte, reduceCtorEq, Nat.reduceEqDiff, Nat.reduceAdd]
        refine brD.intro (fun e2 => ?_) (fun e2 => ?_) <;> simp (maxSteps := 1000000) (disch := omega) only [h0, h1, h9, h10, h11, wrap64, S, S1, S2, S3, S4, S5, ST, eq_self, reduceIte, reduceCtorEq, Nat.reduceEqDiff, Nat.reduceAdd]
        · refine hQ _ _ _ ?_
          simp (maxSteps := 1000000) (disch := omega) only [S, S1, S2, S3, S4, S5, ST, eq_self, reduceIte, reduceCtorEq, Nat.reduceEqDiff, Nat.reduceAdd]
          rw [hc, if_pos e2]
        · rw [if_neg e2] at hc
          have f1 : i + 1 ≤ ys.length ∨ i + 1 = 0 := .inl hj
          refine ⟨m - 1, by omega, i + 1, ?_⟩
          (repeat' first | exact hc | exact f1 | apply And.intro) <;> first | (simp only [Value.int.injEq, true_and]; omega) | omega | rfl | assumption | (simp; done) | (simp; omega)
    · have hxe : i = xs.length := by omega
      rw [hxe, List.drop_length, cmpL_nil] at hc
      simp (maxSteps := 1000000) (disch := omega) only [h0, h1, hr.len Try.underlying32, hr2.len Try.underlying32, S, S1, S2, S3, S4, S5, ST, eq_self, reduceIte, reduceCtorEq, Nat.reduceEqDiff, Nat.reduceAdd]
      refine brD.intro (fun e => ?_) (fun e => ?_) <;> simp (maxSteps := 1000000) (disch := omega) only [S, S1, S2, S3, S4, S5, ST, eq_self, reduceIte, reduceCtorEq, Nat.reduceEqDiff, Nat.reduceAdd]
      · refine hQ _ _ _ ?_
        simp (maxSteps := 1000000) (disch := omega) only [S, S1, S2, S3, S4, S5, ST, eq_self, reduceIte, reduceCtorEq, Nat.reduceEqDiff, Nat.reduceAdd]
        rw [hc, if_pos (by simp; omega)]
      · refine hQ _ _ _ ?_
        simp (maxSteps := 1000000) (disch := omega) only [S, S1, S2, S3, S4, S5, ST, eq_self, reduceIte, reduceCtorEq, Nat.reduceEqDiff, Nat.reduceAdd]
        rw [hc, if_neg (by simp; omega)]

/-- in strict order -/
def SrtL (ls : List (List Int)) : Prop := ∀ i j, i < j → j < ls.length → 0 < cmpL (ls.getD j []) (ls.getD i [])
/-- such lists in memory -/
structure Sts (H : AH) (v : Value) (us : List Value) (ls : List (List Int)) : Prop where
  row : RowV 32 H v us
  len : us.length = ls.length
  each : ∀ i, i < ls.length → Row 3 H (us.getD i undef) (ls.getD i [])
  small : ∀ i, i < ls.length → (ls.getD i []).length ≤ 1099511627776
  bnd : ls.length ≤ 60000
  srt : SrtL ls
theorem Sts.pre {H H' : AH} {v : Value} {us : List Value} {ls : List (List Int)} (h : Sts H v us ls) (hp : H <+: H') : Sts H' v us ls := ⟨h.row.pre hp, h.len, fun i hi => (h.each i hi).pre hp, h.small, h.bnd, h.srt⟩
theorem cmpL_self : ∀ xs : List Int, cmpL xs xs = 0
  | [] => rfl
  | a :: xs => by
    have : cmpI a a = 0 := by unfold cmpI; rw [if_neg (by omega), if_neg (by omega)]
    rw [cmpL, if_neg (by rw [this]; decide)]; exact cmpL_self xs
theorem Sts.le {H : AH} {v : Value} {us : List Value} {ls : List (List Int)} (h : Sts H v us ls) {i j : Nat} (hij : i ≤ j) (hj : j < ls.length) : ¬ cmpL (ls.getD j []) (ls.getD i []) < 0 := by
  by_cases e : i = j
  · subst e; rw [cmpL_self]; omega
  · have := h.srt i j (by omega) hj; omega

section
variable {v : Value} {us : List Value} {ls : List (List Int)} {H : AH}
theorem Sts.cell (h : Sts H v us ls) {i : Nat} (hi : i < ls.length) : cellA H (rowO v) (rowK v + i) = some (us.getD i undef) := h.row.cell (by have := h.len; omega)
theorem Sts.cmp (h : Sts H v us ls) {i j : Nat} (hi : i < ls.length) (hj : j < ls.length) :
    ACalls Try.prog 125 [us.getD i undef, us.getD j undef] H fun r H' => r = .int .i64 (cmpL (ls.getD i []) (ls.getD j [])) ∧ H = H' := CmpL_c _ _ _ _ H (h.each i hi) (h.each j hj) (h.small i hi) (h.small j hj)

theorem order2_c (h : Sts H v us ls) (a b : Nat) (p : Value) (hab : a ≤ b) (hb : b < ls.length) :
    ACalls Try.prog 206 [v, .int .i64 (a : Int), .int .i64 (b : Int), p, fnCmp] H fun r H' => r = .tuple (List.toArray [.int .i64 (a : Int), .int .i64 (b : Int)]) ∧ H = H' := by
  refine in206 rfl ?_
  intro Q hQ
  have hl := h.len
  have hca := h.cell (show a < ls.length by omega)
  have hcb := h.cell hb
  simp (maxSteps := 1000000) (disch := omega) only [cd206, h.row.ix Try.underlying38 cs32, Int.toNat_natCast, hca, hcb, S, S1, S2, S3, S4, S5, ST, eq_self, reduceIte, reduceCtorEq, Nat.reduceEqDiff, Nat.reduceAdd]
  refine CallH.by (h.cmp hb (show a < ls.length by omega)) ?_
  rintro _ _ ⟨rfl, rfl⟩
  simp (maxSteps := 1000000) (disch := omega) only [S, S1, S2, S3, S4, S5, ST, eq_self, reduceIte, reduceCtorEq, Nat.reduceEqDiff, Nat.reduceAdd]
  refine brD.intro (fun e => absurd e (h.le hab hb)) (fun e => ?_)
  simp (maxSteps := 1000000) (disch := omega) only [S, S1, S2, S3, S4, S5, ST, eq_self, reduceIte, reduceCtorEq, Nat.reduceEqDiff, Nat.reduceAdd]
  refine hQ _ _ _ ?_
  simp (maxSteps := 1000000) (disch := omega) only [S, S1, S2, S3, S4, S5, ST, eq_self, reduceIte, reduceCtorEq, Nat.reduceEqDiff, Nat.reduceAdd]

theorem median_c (h : Sts H v us ls) (a b c : Nat) (p : Value) (hab : a ≤ b) (hbc : b ≤ c) (hc : c < ls.length) :
    ACalls Try.prog 200 [v, .int .i64 (a : Int), .int .i64 (b : Int), .int .i64 (c : Int), p, fnCmp] H fun r H' => r = .int .i64 (b : Int) ∧ H = H' := by
  refine in200 rfl ?_
  intro Q hQ
  simp (maxSteps := 1000000) (disch := omega) only [cd200, S, S1, S2, S3, S4, S5, ST, eq_self, reduceIte, reduceCtorEq, Nat.reduceEqDiff, Nat.reduceAdd]
  refine CallH.by (order2_c h a b p hab (by omega)) ?_
  rintro _ _ ⟨rfl, rfl⟩
  simp (maxSteps := 1000000) (disch := omega) only [S, S1, S2, S3, S4, S5, ST, eq_self, reduceIte, reduceCtorEq, Nat.reduceEqDiff, Nat.reduceAdd]
  refine CallH.by (order2_c h b c p hbc hc) ?_
  rintro _ _ ⟨rfl, rfl⟩
  simp (maxSteps := 1000000) (disch := omega) only [S, S1, S2, S3, S4, S5, ST, eq_self, reduceIte, reduceCtorEq, Nat.reduceEqDiff, Nat.reduceAdd]
  refine CallH.by (order2_c h a b p hab (by omega)) ?_
  rintro _ _ ⟨rfl, rfl⟩
  simp (maxSteps := 1000000) (disch := omega) only [S, S1, S2, S3, S4, S5, ST, eq_self, reduceIte, reduceCtorEq, Nat.reduceEqDiff, Nat.reduceAdd]
  refine hQ _ _ _ ?_
  simp (maxSteps := 1000000) (disch := omega) only [S, S1, S2, S3, S4, S5, ST, eq_self, reduceIte, reduceCtorEq, Nat.reduceEqDiff, Nat.reduceAdd]

theorem medianAdj_c (h : Sts H v us ls) (a : Nat) (p : Value) (ha : 1 ≤ a) (hc : a + 1 < ls.length) :
    ACalls Try.prog 199 [v, .int .i64 (a : Int), p, fnCmp] H fun r H' => r = .int .i64 (a : Int) ∧ H = H' := by
  refine in199 rfl ?_
  intro Q hQ
  have hb := h.bnd
  have e1 : (a : Int) - 1 = ((a - 1 : Nat) : Int) := by omega
  have e2 : (a : Int) + 1 = ((a + 1 : Nat) : Int) := by omega
  simp (maxSteps := 1000000) (disch := omega) only [cd199, wrap64, e1, e2, S, S1, S2, S3, S4, S5, ST, eq_self, reduceIte, reduceCtorEq, Nat.reduceEqDiff, Nat.reduceAdd]
  refine CallH.by (median_c h (a - 1) a (a + 1) p (by omega) (by omega) hc) ?_
  rintro _ _ ⟨rfl, rfl⟩
  simp (maxSteps := 1000000) (disch := omega) only [S, S1, S2, S3, S4, S5, ST, eq_self, reduceIte, reduceCtorEq, Nat.reduceEqDiff, Nat.reduceAdd]
  refine hQ _ _ _ ?_
  simp (maxSteps := 1000000) (disch := omega) only [S, S1, S2, S3, S4, S5, ST, eq_self, reduceIte, reduceCtorEq, Nat.reduceEqDiff, Nat.reduceAdd]

set_option maxRecDepth 20000 in
set_option maxHeartbeats 1000000 in
theorem partialIns_c (h : Sts H v us ls) (h1 : 1 ≤ ls.length) :
    ACalls Try.prog 175 [v, .int .i64 0, .int .i64 (ls.length : Int), fnCmp] H fun r H' => r = .bool true ∧ H = H' := by
  refine in175 rfl ?_
  intro Q hQ
  have hb := h.bnd
  have hl := h.len
  simp (maxSteps := 1000000) (disch := omega) only [cd175, wrap64, S, S1, S2, S3, S4, S5, ST, eq_self, reduceIte, reduceCtorEq, Nat.reduceEqDiff, Nat.reduceAdd]
  refine LoopH.by (fun m s H' => s 0 = v ∧ s 2 = .int .i64 (ls.length : Int) ∧ s 3 = fnCmp ∧ s 9 = .int .i64 1 ∧ s 10 = .int .i64 0 ∧ H = H') 0 ?_ ?_
  · exact ⟨rfl, rfl, rfl, rfl, rfl, rfl⟩
  · rintro m s H' ⟨h0, h2, h3, h9, h10, rfl⟩
    simp (maxSteps := 1000000) (disch := omega) only [h0, h2, h3, h9, h10, S, S1, S2, S3, S4, S5, ST, eq_self, reduceIte, reduceCtorEq, Nat.reduceEqDiff, Nat.reduceAdd]
    refine brD.intro (fun _ => ?_) (fun g => absurd (by decide) g)
    simp (maxSteps := 1000000) (disch := omega) only [h0, h2, h3, h9, h10, S, S1, S2, S3, S4, S5, ST, eq_self, reduceIte, reduceCtorEq, Nat.reduceEqDiff, Nat.reduceAdd]
    refine LoopH.by (fun m' s' H' => ∃ i, m' + i = ls.length ∧ 1 ≤ i ∧ s' 0 = v ∧ s' 2 = .int .i64 (ls.length : Int) ∧ s' 3 = fnCmp ∧ s' 9 = .int .i64 ((i : Nat) : Int) ∧ H = H') (ls.length - 1) ?_ ?_
    · exact ⟨1, by omega, by omega, by simp [S, S1, S2, S3, S4, S5, ST, eq_self, reduceIte, reduceCtorEq, Nat.reduceEqDiff, Nat.reduceAdd, h0], by simp [S, S1, S2, S3, S4, S5, ST, eq_self, reduceIte, reduceCtorEq, Nat.reduceEqDiff, Nat.reduceAdd, h2], by simp [S, S1, S2, S3, S4, S5, ST, eq_self, reduceIte, reduceCtorEq, Nat.reduceEqDiff, Nat.reduceAdd, h3], by simp [S, S1, S2, S3, S4, S5, ST, eq_self, reduceIte, reduceCtorEq, Nat.reduceEqDiff, Nat.reduceAdd, h9], rfl⟩
    · rintro m' s' H' ⟨i, hm, hi1, g0, g2, g3, g9, rfl⟩
      have e1 : (i : Int) - 1 = ((i - 1 : Nat) : Int) := by omega
      simp (maxSteps := 1000000) (disch := omega) only [g0, g2, g3, g9, S, S1, S2, S3, S4, S5, ST, eq_self, reduceIte, reduceCtorEq, Nat.reduceEqDiff, Nat.reduceAdd]
      refine brD.intro (fun g => ?_) (fun g => ?_)
      · have hi : i < ls.length := by omega
        have hc1 := h.cell hi
        have hc2 := h.cell (show i - 1 < ls.length by omega)
        simp (maxSteps := 1000000) (disch := omega) only [g, g0, g2, g3, g9, wrap64, e1, h.row.ix Try.underlying38 cs32, Int.toNat_natCast, hc1, hc2, S, S1, S2, S3, S4, S5, ST, eq_self, reduceIte, reduceCtorEq, Nat.reduceEqDiff, Nat.reduceAdd]
        refine CallH.by (h.cmp hi (show i - 1 < ls.length by omega)) ?_
        rintro _ _ ⟨rfl, rfl⟩
        simp (maxSteps := 1000000) (disch := omega) only [g, S, S1, S2, S3, S4, S5, ST, eq_self, reduceIte, reduceCtorEq, Nat.reduceEqDiff, Nat.reduceAdd]
        refine brD.intro (fun e => absurd e (h.le (by omega) hi)) (fun e => ?_)
        simp (maxSteps := 1000000) (disch := omega) only [g, e, g0, g2, g3, g9, wrap64, S, S1, S2, S3, S4, S5, ST, eq_self, reduceIte, reduceCtorEq, Nat.reduceEqDiff, Nat.reduceAdd]
        refine ⟨m' - 1, by omega, i + 1, ?_⟩
        (repeat' apply And.intro) <;> first | (simp only [Value.int.injEq, true_and]; omega) | omega | rfl | assumption | (simp; done) | (simp; omega)
      · have hi : i = ls.length := by omega
        subst hi
        simp (maxSteps := 1000000) (disch := omega) only [g, g0, g2, g3, g9, S, S1, S2, S3, S4, S5, ST, eq_self, reduceIte, reduceCtorEq, Nat.reduceEqDiff, Nat.reduceAdd]
        refine hQ _ _ _ ?_
        simp (maxSteps := 1000000) (disch := omega) only [S, S1, S2, S3, S4, S5, ST, eq_self, reduceIte, reduceCtorEq, Nat.reduceEqDiff, Nat.reduceAdd]

set_option maxRecDepth 20000 in
set_option maxHeartbeats 1000000 in
theorem insCmp_c (h : Sts H v us ls) :
    ACalls Try.prog 170 [v, .int .i64 0, .int .i64 (ls.length : Int), fnCmp] H fun r H' => H = H' := by
  refine in170 rfl ?_
  intro Q hQ
  have hb := h.bnd
  have hl := h.len
  simp (maxSteps := 1000000) (disch := omega) only [cd170, wrap64, S, S1, S2, S3, S4, S5, ST, eq_self, reduceIte, reduceCtorEq, Nat.reduceEqDiff, Nat.reduceAdd]
  refine LoopH.by (fun m s H' => ∃ i, m + i = ls.length + 1 ∧ 1 ≤ i ∧ s 0 = v ∧ s 1 = .int .i64 0 ∧ s 2 = .int .i64 (ls.length : Int) ∧ s 3 = fnCmp ∧ s 8 = .int .i64 ((i : Nat) : Int) ∧ H = H') ls.length ?_ ?_
  · exact ⟨1, by omega, by omega, rfl, rfl, rfl, rfl, rfl, rfl⟩
  · rintro m s H' ⟨i, hm, hi1, h0, h1, h2, h3, h8, rfl⟩
    simp (maxSteps := 1000000) (disch := omega) only [h0, h1, h2, h3, h8, S, S1, S2, S3, S4, S5, ST, eq_self, reduceIte, reduceCtorEq, Nat.reduceEqDiff, Nat.reduceAdd]
    refine brD.intro (fun g => ?_) (fun g => ?_)
    · have hi : i < ls.length := by omega
      have e1 : (i : Int) - 1 = ((i - 1 : Nat) : Int) := by omega
      have hc1 := h.cell hi
      have hc2 := h.cell (show i - 1 < ls.length by omega)
      simp (maxSteps := 1000000) (disch := omega) only [h0, h1, h2, h3, h8, S, S1, S2, S3, S4, S5, ST, eq_self, reduceIte, reduceCtorEq, Nat.reduceEqDiff, Nat.reduceAdd]
      refine LoopH.by (fun m' s' H' => s' 0 = v ∧ s' 1 = .int .i64 0 ∧ s' 2 = .int .i64 (ls.length : Int) ∧ s' 3 = fnCmp ∧ s' 8 = .int .i64 ((i : Nat) : Int) ∧ s' 9 = .int .i64 ((i : Nat) : Int) ∧ H = H') 0 ?_ ?_
      · simp only [S, S1, S2, S3, S4, S5, ST, eq_self, reduceIte, reduceCtorEq, Nat.reduceEqDiff, Nat.reduceAdd, h0, h1, h2, h3, h8]
      · rintro m' s' H' ⟨g0, g1, g2, g3, g8, g9, rfl⟩
        have hgt : (i : Int) > 0 := by omega
        simp (maxSteps := 1000000) (disch := omega) only [g0, g1, g2, g3, g8, g9, S, S1, S2, S3, S4, S5, ST, eq_self, reduceIte, reduceCtorEq, Nat.reduceEqDiff, Nat.reduceAdd]
        refine brD.intro (fun q => ?_) (fun q => absurd hgt q)
        simp (maxSteps := 1000000) (disch := omega) only [q, g0, g1, g2, g3, g8, g9, wrap64, e1, h.row.ix Try.underlying38 cs32, Int.toNat_natCast, hc1, hc2, S, S1, S2, S3, S4, S5, ST, eq_self, reduceIte, reduceCtorEq, Nat.reduceEqDiff, Nat.reduceAdd]
        refine CallH.by (h.cmp hi (show i - 1 < ls.length by omega)) ?_
        rintro _ _ ⟨rfl, rfl⟩
        simp (maxSteps := 1000000) (disch := omega) only [q, S, S1, S2, S3, S4, S5, ST, eq_self, reduceIte, reduceCtorEq, Nat.reduceEqDiff, Nat.reduceAdd]
        refine brD.intro (fun e => absurd e (h.le (by omega) hi)) (fun e => ?_)
        simp (maxSteps := 1000000) (disch := omega) only [q, e, g0, g1, g2, g3, g8, g9, wrap64, S, S1, S2, S3, S4, S5, ST, eq_self, reduceIte, reduceCtorEq, Nat.reduceEqDiff, Nat.reduceAdd]
        refine ⟨m - 1, by omega, i + 1, ?_⟩
        (repeat' apply And.intro) <;> first | (simp only [Value.int.injEq, true_and]; omega) | omega | rfl | assumption | (simp; done) | (simp; omega)
    · simp (maxSteps := 1000000) (disch := omega) only [S, S1, S2, S3, S4, S5, ST, eq_self, reduceIte, reduceCtorEq, Nat.reduceEqDiff, Nat.reduceAdd]
      refine hQ _ _ _ ?_
      simp (maxSteps := 1000000) (disch := omega) only [S, S1, S2, S3, S4, S5, ST, eq_self, reduceIte, reduceCtorEq, Nat.reduceEqDiff, Nat.reduceAdd]

theorem alloc_int (H : AH) : allocA Try.prog 3 H = some (.pointer (some ⟨H.length, 0, none⟩), H ++ [.cells [.int .i64 0] 3 false]) := by kernel_rfl

set_option maxRecDepth 20000 in
set_option maxHeartbeats 1000000 in
theorem choosePivot_c (h : Sts H v us ls) (h1 : 13 ≤ ls.length) :
    ACalls Try.prog 173 [v, .int .i64 0, .int .i64 (ls.length : Int), fnCmp] H fun r H' => (∃ j : Int, r = .tuple (List.toArray [.int .i64 j, .int .i64 1])) ∧ H <+: H' := by
  refine in173 rfl ?_
  intro Q hQ
  have hb := h.bnd
  have hl := h.len
  obtain ⟨q, hqd⟩ : ∃ q, ls.length / 4 = q := ⟨_, rfl⟩
  have hq : IntKind.i64.wrap ((ls.length : Int).tdiv 4) = (q : Int) := by
    rw [Int.tdiv_eq_ediv_of_nonneg (by omega), wrap64 (by omega) (by omega)]
    omega
  have e1 : (0 : Int) + (q : Int) * 1 = (q : Int) := by omega
  have e2 : (0 : Int) + (q : Int) * 2 = ((2 * q : Nat) : Int) := by omega
  have e3 : (0 : Int) + (q : Int) * 3 = ((3 * q : Nat) : Int) := by omega
  have e0 : (ls.length : Int) - 0 = (ls.length : Int) := by omega
  simp (maxSteps := 1000000) (disch := omega) only [cd173, alloc_int, wrap64, e0, hq, e1, e2, e3, S, S1, S2, S3, S4, S5, ST, eq_self, reduceIte, reduceCtorEq, Nat.reduceEqDiff, Nat.reduceAdd]
  generalize hA : H ++ [AObj.cells [.int .i64 0] 3 false] = A
  have pA : H <+: A := by rw [← hA]; exact List.prefix_append _ _
  have cA : A[H.length]? = some (.cells [.int .i64 0] 3 false) := by rw [← hA]; exact at_new ..
  have hA2 := h.pre pA
  refine brD.intro (fun g => ?_) (fun g => absurd (show (ls.length : Int) ≥ 8 by omega) g)
  simp (maxSteps := 1000000) (disch := omega) only [S, S1, S2, S3, S4, S5, ST, eq_self, reduceIte, reduceCtorEq, Nat.reduceEqDiff, Nat.reduceAdd]
  refine brD.intro (fun g2 => ?_) (fun g2 => ?_)
  · simp (maxSteps := 1000000) (disch := omega) only [S, S1, S2, S3, S4, S5, ST, eq_self, reduceIte, reduceCtorEq, Nat.reduceEqDiff, Nat.reduceAdd]
    refine CallH.by (medianAdj_c hA2 q _ (by omega) (by omega)) ?_
    rintro _ _ ⟨rfl, rfl⟩
    simp (maxSteps := 1000000) (disch := omega) only [S, S1, S2, S3, S4, S5, ST, eq_self, reduceIte, reduceCtorEq, Nat.reduceEqDiff, Nat.reduceAdd]
    refine CallH.by (medianAdj_c hA2 (2 * q) _ (by omega) (by omega)) ?_
    rintro _ _ ⟨rfl, rfl⟩
    simp (maxSteps := 1000000) (disch := omega) only [S, S1, S2, S3, S4, S5, ST, eq_self, reduceIte, reduceCtorEq, Nat.reduceEqDiff, Nat.reduceAdd]
    refine CallH.by (medianAdj_c hA2 (3 * q) _ (by omega) (by omega)) ?_
    rintro _ _ ⟨rfl, rfl⟩
    simp (maxSteps := 1000000) (disch := omega) only [S, S1, S2, S3, S4, S5, ST, eq_self, reduceIte, reduceCtorEq, Nat.reduceEqDiff, Nat.reduceAdd]
    refine CallH.by (median_c hA2 q (2 * q) (3 * q) _ (by omega) (by omega) (by omega)) ?_
    rintro _ _ ⟨rfl, rfl⟩
    simp (maxSteps := 1000000) (disch := omega) only [cell_of cA, S, S1, S2, S3, S4, S5, ST, eq_self, reduceIte, reduceCtorEq, Nat.reduceEqDiff, Nat.reduceAdd]
    first
      | (refine brD.intro (fun _ => ?_) (fun g3 => absurd rfl g3)
         simp (maxSteps := 1000000) (disch := omega) only [S, S1, S2, S3, S4, S5, ST, eq_self, reduceIte, reduceCtorEq, Nat.reduceEqDiff, Nat.reduceAdd])
      | skip
    refine hQ _ _ _ ?_
    simp (maxSteps := 1000000) (disch := omega) only [S, S1, S2, S3, S4, S5, ST, eq_self, reduceIte, reduceCtorEq, Nat.reduceEqDiff, Nat.reduceAdd]
    exact ⟨⟨_, rfl⟩, pA⟩
  · simp (maxSteps := 1000000) (disch := omega) only [S, S1, S2, S3, S4, S5, ST, eq_self, reduceIte, reduceCtorEq, Nat.reduceEqDiff, Nat.reduceAdd]
    refine CallH.by (median_c hA2 q (2 * q) (3 * q) _ (by omega) (by omega) (by omega)) ?_
    rintro _ _ ⟨rfl, rfl⟩
    simp (maxSteps := 1000000) (disch := omega) only [cell_of cA, S, S1, S2, S3, S4, S5, ST, eq_self, reduceIte, reduceCtorEq, Nat.reduceEqDiff, Nat.reduceAdd]
    first
      | (refine brD.intro (fun _ => ?_) (fun g3 => absurd rfl g3)
         simp (maxSteps := 1000000) (disch := omega) only [S, S1, S2, S3, S4, S5, ST, eq_self, reduceIte, reduceCtorEq, Nat.reduceEqDiff, Nat.reduceAdd])
      | skip
    refine hQ _ _ _ ?_
    simp (maxSteps := 1000000) (disch := omega) only [S, S1, S2, S3, S4, S5, ST, eq_self, reduceIte, reduceCtorEq, Nat.reduceEqDiff, Nat.reduceAdd]
    exact ⟨⟨_, rfl⟩, pA⟩

set_option maxRecDepth 20000 in
set_option maxHeartbeats 1000000 in
theorem pdqCmp_c (h : Sts H v us ls) (lim : Int) (hlim : lim ≠ 0 ∨ ls.length ≤ 12) :
    ACalls Try.prog 157 [v, .int .i64 0, .int .i64 (ls.length : Int), .int .i64 lim, fnCmp] H fun r H' => H <+: H' := by
  refine in157 rfl ?_
  intro Q hQ
  have hb := h.bnd
  have e0 : (ls.length : Int) - 0 = (ls.length : Int) := by omega
  simp (maxSteps := 1000000) (disch := omega) only [cd157, S, S1, S2, S3, S4, S5, ST, eq_self, reduceIte, reduceCtorEq, Nat.reduceEqDiff, Nat.reduceAdd]
  refine LoopH.by (fun m s H' => s 0 = v ∧ s 1 = .int .i64 0 ∧ s 2 = .int .i64 (ls.length : Int) ∧ s 3 = .int .i64 lim ∧ s 4 = fnCmp ∧ s 10 = .bool true ∧ s 11 = .bool true ∧ H = H') 0 ?_ ?_
  · exact ⟨rfl, rfl, rfl, rfl, rfl, rfl, rfl, rfl⟩
  · rintro m s H' ⟨h0, h1, h2, h3, h4, h10, h11, rfl⟩
    simp (maxSteps := 1000000) (disch := omega) only [h0, h1, h2, h3, h4, h10, h11, wrap64, e0, S, S1, S2, S3, S4, S5, ST, eq_self, reduceIte, reduceCtorEq, Nat.reduceEqDiff, Nat.reduceAdd]
    refine brD.intro (fun g => ?_) (fun g => ?_)
    · simp (maxSteps := 1000000) (disch := omega) only [h0, h1, h2, h3, h4, h10, h11, S, S1, S2, S3, S4, S5, ST, eq_self, reduceIte, reduceCtorEq, Nat.reduceEqDiff, Nat.reduceAdd]
      refine CallH.by (insCmp_c h) ?_
      rintro _ _ rfl
      simp (maxSteps := 1000000) (disch := omega) only [S, S1, S2, S3, S4, S5, ST, eq_self, reduceIte, reduceCtorEq, Nat.reduceEqDiff, Nat.reduceAdd]
      refine hQ _ _ _ ?_
      simp (maxSteps := 1000000) (disch := omega) only [S, S1, S2, S3, S4, S5, ST, eq_self, reduceIte, reduceCtorEq, Nat.reduceEqDiff, Nat.reduceAdd]
      exact List.prefix_refl _
    · have hlim' : lim ≠ 0 := hlim.resolve_right (by omega)
      simp (maxSteps := 1000000) (disch := omega) only [h0, h1, h2, h3, h4, h10, h11, S, S1, S2, S3, S4, S5, ST, eq_self, reduceIte, reduceCtorEq, Nat.reduceEqDiff, Nat.reduceAdd]
      refine brD.intro (fun g2 => absurd g2 hlim') (fun g2 => ?_)
      simp (maxSteps := 1000000) (disch := omega) only [h0, h1, h2, h3, h4, h10, h11, S, S1, S2, S3, S4, S5, ST, eq_self, reduceIte, reduceCtorEq, Nat.reduceEqDiff, Nat.reduceAdd]
      refine CallH.by (choosePivot_c h (by omega)) ?_
      rintro _ A ⟨⟨j, rfl⟩, pA⟩
      simp (maxSteps := 1000000) (disch := omega) only [h0, h1, h2, h3, h4, h10, h11, S, S1, S2, S3, S4, S5, ST, eq_self, reduceIte, reduceCtorEq, Nat.reduceEqDiff, Nat.reduceAdd]
      refine brD.intro (fun g3 => absurd g3 (by decide)) (fun g3 => ?_)
      simp (maxSteps := 1000000) (disch := omega) only [h0, h1, h2, h3, h4, h10, h11, S, S1, S2, S3, S4, S5, ST, eq_self, reduceIte, reduceCtorEq, Nat.reduceEqDiff, Nat.reduceAdd]
      refine CallH.by (partialIns_c (h.pre pA) (by omega)) ?_
      rintro _ _ ⟨rfl, rfl⟩
      simp (maxSteps := 1000000) (disch := omega) only [S, S1, S2, S3, S4, S5, ST, eq_self, reduceIte, reduceCtorEq, Nat.reduceEqDiff, Nat.reduceAdd]
      refine hQ _ _ _ ?_
      simp (maxSteps := 1000000) (disch := omega) only [S, S1, S2, S3, S4, S5, ST, eq_self, reduceIte, reduceCtorEq, Nat.reduceEqDiff, Nat.reduceAdd]
      exact pA
end
end Go.Proofs.Ythhnpchjjbjabaa.Ai
