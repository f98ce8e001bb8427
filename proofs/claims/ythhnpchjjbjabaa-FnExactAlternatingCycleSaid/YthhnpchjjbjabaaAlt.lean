/- AlternatingCycle, both sides. -/
import Derived.Test.YthhnpchjjbjabaaAltP
import Derived.Test.YthhnpchjjbjabaaEqI
import Derived.Test.YthhnpchjjbjabaaProg
import Derived.Test.YthhnpchjjbjabaaAiM2
import Derived.KernelRfl
/- Slim code of this translation. By the kernel. -/
namespace Go.Proofs.Ythhnpchjjbjabaa.Ai
open Go

/- (loop.example/g01128/impl.Graph).mate -/
def ords106 : List (Nat × List (Nat × Bool)) := []
def cd106 : Cd := (.seq (.reg [⟨⟨some 3, Op.box 28 (Operand.tmp 0), none⟩, []⟩,
  ⟨⟨some 6, Op.assign (Operand.const (Value.int IntKind.i64 0)), none⟩, []⟩]) (.seq (.seq (.reg [⟨⟨some 9, Op.move (Operand.tmp 1), none⟩, []⟩,
  ⟨⟨some 10, Op.call { callee := (Callee.builtin Builtin.len), args := #[(Operand.tmp 9)], argTypes := #[32] }, none⟩, []⟩,
  ⟨⟨some 11, Op.move (Operand.const (Value.int IntKind.i64 0)), none⟩, []⟩]) (.block 0 (.loop (.seq (.reg [⟨⟨some 12, Op.binOp BinOp.lss 3 (Operand.tmp 11) (Operand.tmp 10) 3, none⟩, []⟩]) (.seq (.cond (Operand.tmp 12) .skip (.exit 0)) (.seq (.block 1 (.seq (.reg [⟨⟨some 13, Op.indexAddr 32 (Operand.tmp 9) (Operand.tmp 11), none⟩, []⟩,
  ⟨⟨some 14, Op.load 3 (Operand.tmp 13), none⟩, []⟩,
  ⟨⟨some 8, Op.assign (Operand.tmp 14), none⟩, []⟩]) (.seq (.reg [⟨⟨some 15, Op.move (Operand.tmp 2), none⟩, []⟩]) (.block 2 (.seq (.reg [⟨⟨some 17, Op.fieldAddr 28 (Operand.tmp 3) 1, none⟩, []⟩,
  ⟨⟨some 18, Op.load 22 (Operand.tmp 17), none⟩, []⟩,
  ⟨⟨some 19, Op.move (Operand.tmp 8), none⟩, []⟩,
  ⟨⟨some 20, Op.indexAddr 22 (Operand.tmp 18) (Operand.tmp 19), none⟩, []⟩,
  ⟨⟨some 21, Op.indexAddr 76 (Operand.tmp 20) (Operand.const (Value.int IntKind.i64 0)), none⟩, []⟩,
  ⟨⟨some 22, Op.load 3 (Operand.tmp 21), none⟩, []⟩,
  ⟨⟨some 23, Op.binOp BinOp.eql 3 (Operand.tmp 15) (Operand.tmp 22) 3, none⟩, []⟩,
  ⟨⟨some 16, Op.assign (Operand.tmp 23), none⟩, []⟩]) (.cond (Operand.tmp 16) (.seq (.reg [⟨⟨some 24, Op.fieldAddr 28 (Operand.tmp 3) 1, none⟩, []⟩,
  ⟨⟨some 25, Op.load 22 (Operand.tmp 24), none⟩, []⟩,
  ⟨⟨some 26, Op.move (Operand.tmp 8), none⟩, []⟩,
  ⟨⟨some 27, Op.indexAddr 22 (Operand.tmp 25) (Operand.tmp 26), none⟩, []⟩,
  ⟨⟨some 28, Op.indexAddr 76 (Operand.tmp 27) (Operand.const (Value.int IntKind.i64 1)), none⟩, []⟩,
  ⟨⟨some 29, Op.load 3 (Operand.tmp 28), none⟩, []⟩,
  ⟨⟨some 6, Op.assign (Operand.tmp 29), none⟩, []⟩]) .ret) (.seq (.reg [⟨⟨some 31, Op.fieldAddr 28 (Operand.tmp 3) 1, none⟩, []⟩,
  ⟨⟨some 32, Op.load 22 (Operand.tmp 31), none⟩, []⟩,
  ⟨⟨some 33, Op.move (Operand.tmp 8), none⟩, []⟩,
  ⟨⟨some 34, Op.indexAddr 22 (Operand.tmp 32) (Operand.tmp 33), none⟩, []⟩,
  ⟨⟨some 35, Op.indexAddr 76 (Operand.tmp 34) (Operand.const (Value.int IntKind.i64 1)), none⟩, []⟩,
  ⟨⟨some 36, Op.load 3 (Operand.tmp 35), none⟩, []⟩,
  ⟨⟨some 37, Op.binOp BinOp.eql 3 (Operand.tmp 15) (Operand.tmp 36) 3, none⟩, []⟩,
  ⟨⟨some 30, Op.assign (Operand.tmp 37), none⟩, []⟩]) (.cond (Operand.tmp 30) (.seq (.reg [⟨⟨some 38, Op.fieldAddr 28 (Operand.tmp 3) 1, none⟩, []⟩,
  ⟨⟨some 39, Op.load 22 (Operand.tmp 38), none⟩, []⟩,
  ⟨⟨some 40, Op.move (Operand.tmp 8), none⟩, []⟩,
  ⟨⟨some 41, Op.indexAddr 22 (Operand.tmp 39) (Operand.tmp 40), none⟩, []⟩,
  ⟨⟨some 42, Op.indexAddr 76 (Operand.tmp 41) (Operand.const (Value.int IntKind.i64 0)), none⟩, []⟩,
  ⟨⟨some 43, Op.load 3 (Operand.tmp 42), none⟩, []⟩,
  ⟨⟨some 6, Op.assign (Operand.tmp 43), none⟩, []⟩]) .ret) .skip)))))))) (.reg [⟨⟨some 44, Op.binOp BinOp.add 3 (Operand.tmp 11) (Operand.const (Value.int IntKind.i64 1)) 3, none⟩, []⟩,
  ⟨⟨some 11, Op.move (Operand.tmp 44), none⟩, []⟩]))))))) (.seq (.reg [⟨⟨some 45, Op.move (Operand.tmp 2), none⟩, []⟩,
  ⟨⟨some 6, Op.assign (Operand.tmp 45), none⟩, []⟩]) .ret)))
theorem sl106 : slim Try.f106.ntmps ords106 (Try.f106.body.getD .skip) = some cd106 := by kernel_rfl
theorem in106 {args : List Value} {H : AH} {R : Value → AH → Prop} (hl : args.length = 3) (h : ∀ (Q : Exit → Sl → AH → Prop), (∀ e s H, endA Try.prog [ResultVar.tmp 6] R e s H → Q e s H) → wpC Try.prog cd106 Q (enterA args) H) : ACalls Try.prog 106 args H R :=
  ACalls.intro (by kernel_rfl) Try.func106 rfl (by kernel_rfl) sl106 hl (of_decide_eq_true (by kernel_rfl)) (by kernel_rfl) h

/- loop.example/g01128/spec.l8Mate -/
def ords104 : List (Nat × List (Nat × Bool)) := [(4, [(0, false), (1, false), (2, false), (3, false), (4, false), (5, false), (6, false), (7, false), (8, false), (9, true)])]
def cd104 : Cd := (.seq (.reg [⟨⟨some 3, Op.box 28 (Operand.tmp 0), none⟩, []⟩,
  ⟨⟨some 6, Op.assign (Operand.const (Value.int IntKind.i64 0)), none⟩, []⟩]) (.seq (.seq (.reg [⟨⟨some 7, Op.assign (Operand.const (Value.int IntKind.i64 0)), none⟩, []⟩]) (.block 0 (.loop (.seq (.seq (.reg [⟨⟨some 9, Op.move (Operand.tmp 7), none⟩, []⟩,
  ⟨⟨some 10, Op.move (Operand.tmp 1), none⟩, []⟩,
  ⟨⟨some 11, Op.call { callee := (Callee.builtin Builtin.len), args := #[(Operand.tmp 10)], argTypes := #[32] }, none⟩, []⟩,
  ⟨⟨some 12, Op.binOp BinOp.lss 3 (Operand.tmp 9) (Operand.tmp 11) 3, none⟩, []⟩]) (.cond (Operand.tmp 12) .skip (.exit 0))) (.seq (.block 1 (.seq (.reg [⟨⟨some 15, Op.fieldAddr 28 (Operand.tmp 3) 1, none⟩, []⟩,
  ⟨⟨some 16, Op.load 22 (Operand.tmp 15), none⟩, []⟩,
  ⟨⟨some 17, Op.move (Operand.tmp 1), none⟩, []⟩,
  ⟨⟨some 18, Op.move (Operand.tmp 7), none⟩, []⟩,
  ⟨⟨some 19, Op.indexAddr 32 (Operand.tmp 17) (Operand.tmp 18), none⟩, []⟩,
  ⟨⟨some 20, Op.load 3 (Operand.tmp 19), none⟩, []⟩,
  ⟨⟨some 21, Op.indexAddr 22 (Operand.tmp 16) (Operand.tmp 20), none⟩, []⟩,
  ⟨⟨some 22, Op.load 76 (Operand.tmp 21), none⟩, []⟩,
  ⟨⟨some 8, Op.alloc 76, none⟩, []⟩,
  ⟨⟨none, Op.store 76 (Operand.tmp 8) (Operand.tmp 22), none⟩, []⟩]) (.seq (.seq (.reg [⟨⟨some 23, Op.indexAddr 76 (Operand.tmp 8) (Operand.const (Value.int IntKind.i64 0)), none⟩, []⟩,
  ⟨⟨some 24, Op.load 3 (Operand.tmp 23), none⟩, []⟩,
  ⟨⟨some 25, Op.move (Operand.tmp 2), none⟩, []⟩,
  ⟨⟨some 26, Op.binOp BinOp.eql 3 (Operand.tmp 24) (Operand.tmp 25) 3, none⟩, []⟩]) (.cond (Operand.tmp 26) (.seq (.reg [⟨⟨some 27, Op.indexAddr 76 (Operand.tmp 8) (Operand.const (Value.int IntKind.i64 1)), none⟩, []⟩,
  ⟨⟨some 28, Op.load 3 (Operand.tmp 27), none⟩, []⟩,
  ⟨⟨some 6, Op.assign (Operand.tmp 28), none⟩, []⟩]) .ret) .skip)) (.seq (.reg [⟨⟨some 29, Op.indexAddr 76 (Operand.tmp 8) (Operand.const (Value.int IntKind.i64 1)), none⟩, []⟩,
  ⟨⟨some 30, Op.load 3 (Operand.tmp 29), none⟩, []⟩,
  ⟨⟨some 31, Op.move (Operand.tmp 2), none⟩, []⟩,
  ⟨⟨some 32, Op.binOp BinOp.eql 3 (Operand.tmp 30) (Operand.tmp 31) 3, none⟩, []⟩]) (.cond (Operand.tmp 32) (.seq (.reg [⟨⟨some 33, Op.indexAddr 76 (Operand.tmp 8) (Operand.const (Value.int IntKind.i64 0)), none⟩, []⟩,
  ⟨⟨some 34, Op.load 3 (Operand.tmp 33), none⟩, []⟩,
  ⟨⟨some 6, Op.assign (Operand.tmp 34), none⟩, []⟩]) .ret) .skip))))) (.reg [⟨⟨some 13, Op.move (Operand.tmp 7), none⟩, []⟩,
  ⟨⟨some 14, Op.binOp BinOp.add 3 (Operand.tmp 13) (Operand.const (Value.int IntKind.i64 1)) 3, none⟩, []⟩,
  ⟨⟨some 7, Op.assign (Operand.tmp 14), none⟩, []⟩])))))) (.seq (.reg [⟨⟨some 6, Op.assign (Operand.const (Value.int IntKind.i64 (-1))), none⟩, []⟩]) .ret)))
theorem sl104 : slim Try.f104.ntmps ords104 (Try.f104.body.getD .skip) = some cd104 := by kernel_rfl
theorem in104 {args : List Value} {H : AH} {R : Value → AH → Prop} (hl : args.length = 3) (h : ∀ (Q : Exit → Sl → AH → Prop), (∀ e s H, endA Try.prog [ResultVar.tmp 6] R e s H → Q e s H) → wpC Try.prog cd104 Q (enterA args) H) : ACalls Try.prog 104 args H R :=
  ACalls.intro (by kernel_rfl) Try.func104 rfl (by kernel_rfl) sl104 hl (of_decide_eq_true (by kernel_rfl)) (by kernel_rfl) h

/- loop.example/g01128/impl.AlternatingCycle -/
def ords55 : List (Nat × List (Nat × Bool)) := []
def cd55 : Cd := (.seq (.reg [⟨⟨some 3, Op.box 28 (Operand.tmp 0), none⟩, []⟩,
  ⟨⟨some 6, Op.assign (Operand.const (Value.slice none 0 0)), none⟩, []⟩,
  ⟨⟨some 7, Op.assign (Operand.const (Value.bool false)), none⟩, []⟩]) (.seq (.seq (.reg [⟨⟨some 12, Op.load 28 (Operand.tmp 3), none⟩, []⟩,
  ⟨⟨some 13, Op.move (Operand.tmp 1), none⟩, []⟩,
  ⟨⟨some 14, Op.move (Operand.tmp 2), none⟩, []⟩,
  ⟨⟨some 15, Op.call { callee := (Callee.value (Operand.func 91)), args := #[(Operand.tmp 12), (Operand.tmp 13), (Operand.tmp 14)], argTypes := #[28, 32, 32] }, none⟩, []⟩,
  ⟨⟨some 16, Op.unOp UnOp.not 4 (Operand.tmp 15), none⟩, []⟩,
  ⟨⟨some 17, Op.move (Operand.tmp 16), none⟩, []⟩,
  ⟨⟨some 18, Op.move (Operand.tmp 1), some (17, false)⟩, []⟩,
  ⟨⟨some 19, Op.call { callee := (Callee.builtin Builtin.len), args := #[(Operand.tmp 18)], argTypes := #[32] }, some (17, false)⟩, []⟩,
  ⟨⟨some 20, Op.binOp BinOp.mul 3 (Operand.const (Value.int IntKind.i64 2)) (Operand.tmp 19) 3, some (17, false)⟩, []⟩,
  ⟨⟨some 21, Op.fieldAddr 28 (Operand.tmp 3) 0, some (17, false)⟩, []⟩,
  ⟨⟨some 22, Op.load 3 (Operand.tmp 21), some (17, false)⟩, []⟩,
  ⟨⟨some 23, Op.binOp BinOp.neq 3 (Operand.tmp 20) (Operand.tmp 22) 3, some (17, false)⟩, []⟩,
  ⟨⟨some 24, Op.pick (Operand.tmp 17) (Operand.const (Value.bool true)) (Operand.tmp 23), none⟩, []⟩,
  ⟨⟨some 25, Op.move (Operand.tmp 24), none⟩, []⟩,
  ⟨⟨some 26, Op.move (Operand.tmp 2), some (25, false)⟩, []⟩,
  ⟨⟨some 27, Op.call { callee := (Callee.builtin Builtin.len), args := #[(Operand.tmp 26)], argTypes := #[32] }, some (25, false)⟩, []⟩,
  ⟨⟨some 28, Op.binOp BinOp.mul 3 (Operand.const (Value.int IntKind.i64 2)) (Operand.tmp 27) 3, some (25, false)⟩, []⟩,
  ⟨⟨some 29, Op.fieldAddr 28 (Operand.tmp 3) 0, some (25, false)⟩, []⟩,
  ⟨⟨some 30, Op.load 3 (Operand.tmp 29), some (25, false)⟩, []⟩,
  ⟨⟨some 31, Op.binOp BinOp.neq 3 (Operand.tmp 28) (Operand.tmp 30) 3, some (25, false)⟩, []⟩,
  ⟨⟨some 32, Op.pick (Operand.tmp 25) (Operand.const (Value.bool true)) (Operand.tmp 31), none⟩, []⟩,
  ⟨⟨some 33, Op.move (Operand.tmp 32), none⟩, []⟩,
  ⟨⟨some 34, Op.move (Operand.tmp 1), some (33, false)⟩, []⟩,
  ⟨⟨some 35, Op.move (Operand.tmp 2), some (33, false)⟩, []⟩,
  ⟨⟨some 36, Op.call { callee := (Callee.value (Operand.func 105)), args := #[(Operand.tmp 34), (Operand.tmp 35)], argTypes := #[32, 32] }, some (33, false)⟩, []⟩,
  ⟨⟨some 37, Op.pick (Operand.tmp 33) (Operand.const (Value.bool true)) (Operand.tmp 36), none⟩, []⟩]) (.cond (Operand.tmp 37) (.seq (.reg [⟨⟨some 6, Op.assign (Operand.const (Value.slice none 0 0)), none⟩, []⟩,
  ⟨⟨some 7, Op.assign (Operand.const (Value.bool false)), none⟩, []⟩]) .ret) .skip)) (.seq (.reg [⟨⟨some 38, Op.load 28 (Operand.tmp 3), none⟩, []⟩,
  ⟨⟨some 39, Op.move (Operand.tmp 1), none⟩, []⟩,
  ⟨⟨some 40, Op.move (Operand.tmp 2), none⟩, []⟩,
  ⟨⟨some 41, Op.call { callee := (Callee.value (Operand.func 92)), args := #[(Operand.tmp 38), (Operand.tmp 39), (Operand.tmp 40)], argTypes := #[28, 32, 32] }, none⟩, []⟩,
  ⟨⟨some 42, Op.indexAddr 38 (Operand.tmp 41) (Operand.const (Value.int IntKind.i64 0)), none⟩, []⟩,
  ⟨⟨some 43, Op.load 32 (Operand.tmp 42), none⟩, []⟩,
  ⟨⟨some 44, Op.indexAddr 32 (Operand.tmp 43) (Operand.const (Value.int IntKind.i64 0)), none⟩, []⟩,
  ⟨⟨some 45, Op.load 3 (Operand.tmp 44), none⟩, []⟩,
  ⟨⟨some 8, Op.assign (Operand.tmp 45), none⟩, []⟩]) (.seq (.reg [⟨⟨some 46, Op.buildSlice 32 0 #[], none⟩, []⟩,
  ⟨⟨some 9, Op.assign (Operand.tmp 46), none⟩, []⟩]) (.seq (.seq (.reg [⟨⟨some 47, Op.move (Operand.tmp 8), none⟩, []⟩,
  ⟨⟨some 10, Op.assign (Operand.tmp 47), none⟩, []⟩]) (.block 0 (.loop (.seq (.seq (.reg [⟨⟨some 48, Op.move (Operand.tmp 9), none⟩, []⟩,
  ⟨⟨some 49, Op.call { callee := (Callee.builtin Builtin.len), args := #[(Operand.tmp 48)], argTypes := #[32] }, none⟩, []⟩,
  ⟨⟨some 50, Op.binOp BinOp.eql 3 (Operand.tmp 49) (Operand.const (Value.int IntKind.i64 0)) 3, none⟩, []⟩,
  ⟨⟨some 51, Op.move (Operand.tmp 50), none⟩, []⟩,
  ⟨⟨some 52, Op.move (Operand.tmp 10), some (51, false)⟩, []⟩,
  ⟨⟨some 53, Op.move (Operand.tmp 8), some (51, false)⟩, []⟩,
  ⟨⟨some 54, Op.binOp BinOp.neq 3 (Operand.tmp 52) (Operand.tmp 53) 3, some (51, false)⟩, []⟩,
  ⟨⟨some 55, Op.pick (Operand.tmp 51) (Operand.const (Value.bool true)) (Operand.tmp 54), none⟩, []⟩]) (.cond (Operand.tmp 55) .skip (.exit 0))) (.block 1 (.seq (.reg [⟨⟨some 56, Op.load 28 (Operand.tmp 3), none⟩, []⟩,
  ⟨⟨some 57, Op.move (Operand.tmp 1), none⟩, []⟩,
  ⟨⟨some 58, Op.move (Operand.tmp 10), none⟩, []⟩,
  ⟨⟨some 59, Op.call { callee := (Callee.value (Operand.func 106)), args := #[(Operand.tmp 56), (Operand.tmp 57), (Operand.tmp 58)], argTypes := #[28, 32, 3] }, none⟩, []⟩,
  ⟨⟨some 11, Op.assign (Operand.tmp 59), none⟩, []⟩]) (.seq (.reg [⟨⟨some 60, Op.move (Operand.tmp 9), none⟩, []⟩,
  ⟨⟨some 61, Op.move (Operand.tmp 10), none⟩, []⟩,
  ⟨⟨some 62, Op.move (Operand.tmp 11), none⟩, []⟩,
  ⟨⟨some 63, Op.buildSlice 32 2 #[(0, (Operand.tmp 61)), (1, (Operand.tmp 62))], none⟩, []⟩,
  ⟨⟨some 64, Op.call { callee := (Callee.builtin Builtin.append), args := #[(Operand.tmp 60), (Operand.tmp 63)], argTypes := #[32, 32] }, none⟩, []⟩,
  ⟨⟨some 9, Op.assign (Operand.tmp 64), none⟩, []⟩]) (.reg [⟨⟨some 65, Op.load 28 (Operand.tmp 3), none⟩, []⟩,
  ⟨⟨some 66, Op.move (Operand.tmp 2), none⟩, []⟩,
  ⟨⟨some 67, Op.move (Operand.tmp 11), none⟩, []⟩,
  ⟨⟨some 68, Op.call { callee := (Callee.value (Operand.func 106)), args := #[(Operand.tmp 65), (Operand.tmp 66), (Operand.tmp 67)], argTypes := #[28, 32, 3] }, none⟩, []⟩,
  ⟨⟨some 10, Op.assign (Operand.tmp 68), none⟩, []⟩])))))))) (.seq (.reg [⟨⟨some 69, Op.move (Operand.tmp 9), none⟩, []⟩,
  ⟨⟨some 6, Op.assign (Operand.tmp 69), none⟩, []⟩,
  ⟨⟨some 7, Op.assign (Operand.const (Value.bool true)), none⟩, []⟩]) .ret))))))
theorem sl55 : slim Try.f55.ntmps ords55 (Try.f55.body.getD .skip) = some cd55 := by kernel_rfl
theorem in55 {args : List Value} {H : AH} {R : Value → AH → Prop} (hl : args.length = 3) (h : ∀ (Q : Exit → Sl → AH → Prop), (∀ e s H, endA Try.prog [ResultVar.tmp 6, ResultVar.tmp 7] R e s H → Q e s H) → wpC Try.prog cd55 Q (enterA args) H) : ACalls Try.prog 55 args H R :=
  ACalls.intro (by kernel_rfl) Try.func55 rfl (by kernel_rfl) sl55 hl (of_decide_eq_true (by kernel_rfl)) (by kernel_rfl) h

/- loop.example/g01128/spec.AlternatingCycle -/
def ords54 : List (Nat × List (Nat × Bool)) := [(4, [(0, false), (1, false), (2, false), (3, false), (4, false), (5, false)])]
def cd54 : Cd := (.seq (.reg [⟨⟨some 3, Op.box 28 (Operand.tmp 0), none⟩, []⟩,
  ⟨⟨some 6, Op.assign (Operand.const (Value.slice none 0 0)), none⟩, []⟩,
  ⟨⟨some 7, Op.assign (Operand.const (Value.bool false)), none⟩, []⟩]) (.seq (.seq (.reg [⟨⟨some 12, Op.load 28 (Operand.tmp 3), none⟩, []⟩,
  ⟨⟨some 13, Op.move (Operand.tmp 1), none⟩, []⟩,
  ⟨⟨some 14, Op.move (Operand.tmp 2), none⟩, []⟩,
  ⟨⟨some 15, Op.call { callee := (Callee.value (Operand.func 89)), args := #[(Operand.tmp 12), (Operand.tmp 13), (Operand.tmp 14)], argTypes := #[28, 32, 32] }, none⟩, []⟩,
  ⟨⟨some 16, Op.unOp UnOp.not 4 (Operand.tmp 15), none⟩, []⟩,
  ⟨⟨some 17, Op.move (Operand.tmp 16), none⟩, []⟩,
  ⟨⟨some 18, Op.move (Operand.tmp 1), some (17, false)⟩, []⟩,
  ⟨⟨some 19, Op.call { callee := (Callee.builtin Builtin.len), args := #[(Operand.tmp 18)], argTypes := #[32] }, some (17, false)⟩, []⟩,
  ⟨⟨some 20, Op.binOp BinOp.mul 3 (Operand.const (Value.int IntKind.i64 2)) (Operand.tmp 19) 3, some (17, false)⟩, []⟩,
  ⟨⟨some 21, Op.fieldAddr 28 (Operand.tmp 3) 0, some (17, false)⟩, []⟩,
  ⟨⟨some 22, Op.load 3 (Operand.tmp 21), some (17, false)⟩, []⟩,
  ⟨⟨some 23, Op.binOp BinOp.neq 3 (Operand.tmp 20) (Operand.tmp 22) 3, some (17, false)⟩, []⟩,
  ⟨⟨some 24, Op.pick (Operand.tmp 17) (Operand.const (Value.bool true)) (Operand.tmp 23), none⟩, []⟩,
  ⟨⟨some 25, Op.move (Operand.tmp 24), none⟩, []⟩,
  ⟨⟨some 26, Op.move (Operand.tmp 2), some (25, false)⟩, []⟩,
  ⟨⟨some 27, Op.call { callee := (Callee.builtin Builtin.len), args := #[(Operand.tmp 26)], argTypes := #[32] }, some (25, false)⟩, []⟩,
  ⟨⟨some 28, Op.binOp BinOp.mul 3 (Operand.const (Value.int IntKind.i64 2)) (Operand.tmp 27) 3, some (25, false)⟩, []⟩,
  ⟨⟨some 29, Op.fieldAddr 28 (Operand.tmp 3) 0, some (25, false)⟩, []⟩,
  ⟨⟨some 30, Op.load 3 (Operand.tmp 29), some (25, false)⟩, []⟩,
  ⟨⟨some 31, Op.binOp BinOp.neq 3 (Operand.tmp 28) (Operand.tmp 30) 3, some (25, false)⟩, []⟩,
  ⟨⟨some 32, Op.pick (Operand.tmp 25) (Operand.const (Value.bool true)) (Operand.tmp 31), none⟩, []⟩,
  ⟨⟨some 33, Op.move (Operand.tmp 32), none⟩, []⟩,
  ⟨⟨some 34, Op.move (Operand.tmp 1), some (33, false)⟩, []⟩,
  ⟨⟨some 35, Op.move (Operand.tmp 2), some (33, false)⟩, []⟩,
  ⟨⟨some 36, Op.call { callee := (Callee.value (Operand.func 103)), args := #[(Operand.tmp 34), (Operand.tmp 35)], argTypes := #[32, 32] }, some (33, false)⟩, []⟩,
  ⟨⟨some 37, Op.pick (Operand.tmp 33) (Operand.const (Value.bool true)) (Operand.tmp 36), none⟩, []⟩]) (.cond (Operand.tmp 37) (.seq (.reg [⟨⟨some 38, Op.buildSlice 32 0 #[], none⟩, []⟩,
  ⟨⟨some 6, Op.assign (Operand.tmp 38), none⟩, []⟩,
  ⟨⟨some 7, Op.assign (Operand.const (Value.bool false)), none⟩, []⟩]) .ret) .skip)) (.seq (.reg [⟨⟨some 39, Op.load 28 (Operand.tmp 3), none⟩, []⟩,
  ⟨⟨some 40, Op.move (Operand.tmp 1), none⟩, []⟩,
  ⟨⟨some 41, Op.move (Operand.tmp 2), none⟩, []⟩,
  ⟨⟨some 42, Op.call { callee := (Callee.value (Operand.func 90)), args := #[(Operand.tmp 39), (Operand.tmp 40), (Operand.tmp 41)], argTypes := #[28, 32, 32] }, none⟩, []⟩,
  ⟨⟨some 43, Op.indexAddr 38 (Operand.tmp 42) (Operand.const (Value.int IntKind.i64 0)), none⟩, []⟩,
  ⟨⟨some 44, Op.load 32 (Operand.tmp 43), none⟩, []⟩,
  ⟨⟨some 8, Op.assign (Operand.tmp 44), none⟩, []⟩]) (.seq (.reg [⟨⟨some 45, Op.buildSlice 32 0 #[], none⟩, []⟩,
  ⟨⟨some 46, Op.move (Operand.tmp 8), none⟩, []⟩,
  ⟨⟨some 47, Op.indexAddr 32 (Operand.tmp 46) (Operand.const (Value.int IntKind.i64 0)), none⟩, []⟩,
  ⟨⟨some 48, Op.load 3 (Operand.tmp 47), none⟩, []⟩,
  ⟨⟨some 9, Op.assign (Operand.tmp 45), none⟩, []⟩,
  ⟨⟨some 10, Op.assign (Operand.tmp 48), none⟩, []⟩]) (.seq (.block 0 (.loop (.seq (.seq (.reg [⟨⟨some 49, Op.move (Operand.tmp 9), none⟩, []⟩,
  ⟨⟨some 50, Op.call { callee := (Callee.builtin Builtin.len), args := #[(Operand.tmp 49)], argTypes := #[32] }, none⟩, []⟩,
  ⟨⟨some 51, Op.move (Operand.tmp 8), none⟩, []⟩,
  ⟨⟨some 52, Op.call { callee := (Callee.builtin Builtin.len), args := #[(Operand.tmp 51)], argTypes := #[32] }, none⟩, []⟩,
  ⟨⟨some 53, Op.binOp BinOp.lss 3 (Operand.tmp 50) (Operand.tmp 52) 3, none⟩, []⟩]) (.cond (Operand.tmp 53) .skip (.exit 0))) (.block 1 (.seq (.reg [⟨⟨some 54, Op.load 28 (Operand.tmp 3), none⟩, []⟩,
  ⟨⟨some 55, Op.move (Operand.tmp 1), none⟩, []⟩,
  ⟨⟨some 56, Op.move (Operand.tmp 10), none⟩, []⟩,
  ⟨⟨some 57, Op.call { callee := (Callee.value (Operand.func 104)), args := #[(Operand.tmp 54), (Operand.tmp 55), (Operand.tmp 56)], argTypes := #[28, 32, 3] }, none⟩, []⟩,
  ⟨⟨some 11, Op.assign (Operand.tmp 57), none⟩, []⟩]) (.seq (.reg [⟨⟨some 58, Op.move (Operand.tmp 9), none⟩, []⟩,
  ⟨⟨some 59, Op.move (Operand.tmp 10), none⟩, []⟩,
  ⟨⟨some 60, Op.buildSlice 32 1 #[(0, (Operand.tmp 59))], none⟩, []⟩,
  ⟨⟨some 61, Op.call { callee := (Callee.builtin Builtin.append), args := #[(Operand.tmp 58), (Operand.tmp 60)], argTypes := #[32, 32] }, none⟩, []⟩,
  ⟨⟨some 62, Op.move (Operand.tmp 11), none⟩, []⟩,
  ⟨⟨some 63, Op.buildSlice 32 1 #[(0, (Operand.tmp 62))], none⟩, []⟩,
  ⟨⟨some 64, Op.call { callee := (Callee.builtin Builtin.append), args := #[(Operand.tmp 61), (Operand.tmp 63)], argTypes := #[32, 32] }, none⟩, []⟩,
  ⟨⟨some 9, Op.assign (Operand.tmp 64), none⟩, []⟩]) (.reg [⟨⟨some 65, Op.load 28 (Operand.tmp 3), none⟩, []⟩,
  ⟨⟨some 66, Op.move (Operand.tmp 2), none⟩, []⟩,
  ⟨⟨some 67, Op.move (Operand.tmp 11), none⟩, []⟩,
  ⟨⟨some 68, Op.call { callee := (Callee.value (Operand.func 104)), args := #[(Operand.tmp 65), (Operand.tmp 66), (Operand.tmp 67)], argTypes := #[28, 32, 3] }, none⟩, []⟩,
  ⟨⟨some 10, Op.assign (Operand.tmp 68), none⟩, []⟩]))))))) (.seq (.reg [⟨⟨some 69, Op.move (Operand.tmp 9), none⟩, []⟩,
  ⟨⟨some 6, Op.assign (Operand.tmp 69), none⟩, []⟩,
  ⟨⟨some 7, Op.assign (Operand.const (Value.bool true)), none⟩, []⟩]) .ret))))))
theorem sl54 : slim Try.f54.ntmps ords54 (Try.f54.body.getD .skip) = some cd54 := by kernel_rfl
theorem in54 {args : List Value} {H : AH} {R : Value → AH → Prop} (hl : args.length = 3) (h : ∀ (Q : Exit → Sl → AH → Prop), (∀ e s H, endA Try.prog [ResultVar.tmp 6, ResultVar.tmp 7] R e s H → Q e s H) → wpC Try.prog cd54 Q (enterA args) H) : ACalls Try.prog 54 args H R :=
  ACalls.intro (by kernel_rfl) Try.func54 rfl (by kernel_rfl) sl54 hl (of_decide_eq_true (by kernel_rfl)) (by kernel_rfl) h
end Go.Proofs.Ythhnpchjjbjabaa.Ai

namespace Go.Proofs.Ythhnpchjjbjabaa.Ai
open Go Go.RowKit
set_option linter.unusedVariables false
set_option linter.unusedSimpArgs false

theorem mateF_step (es : List (Int × Int)) (xs : List Int) (x : Int) (i : Nat) (hi : i < xs.length) : mateF es (xs.drop i) x = if ed1 es (xs.getD i 0) = x then ed2 es (xs.getD i 0) else if ed2 es (xs.getD i 0) = x then ed1 es (xs.getD i 0) else mateF es (xs.drop (i + 1)) x := by
  rw [List.drop_eq_getElem_cons hi]
  have : xs.getD i 0 = xs[i] := by simp [hi]
  rw [this]; rfl
theorem rise_srt {l : List Int} (h : ∀ i, 0 < i → i < l.length → l.getD (i - 1) 0 < l.getD i 0) : l.Pairwise (· < ·) := by
  rw [List.pairwise_iff_getElem]
  have at_ : ∀ i (h : i < l.length), l.getD i 0 = l[i] := fun i h => by simp [h]
  have key : ∀ (k i : Nat), i + k + 1 < l.length → l.getD i 0 < l.getD (i + k + 1) 0 := by
    intro k
    induction k with
    | zero =>
      intro i hi
      have := h (i + 1) (by omega) (by omega)
      simpa using this
    | succ k ih =>
      intro i hi
      have h1 := ih i (by omega)
      have h2 := h (i + (k + 1) + 1) (by omega) hi
      rw [show i + (k + 1) + 1 - 1 = i + k + 1 by omega] at h2
      omega
  intro i j hi hj hij
  have := key (j - i - 1) i (by omega)
  rw [show i + (j - i - 1) + 1 = j by omega, at_ i hi, at_ j hj] at this
  exact this
theorem dom_pos {n : Nat} {es : List (Int × Int)} (hg : Grd (n : Int) es) {a b : List Int} (hma : Mtc es a) (hmb : Mtc es b) (hne : a ≠ b) : 0 < (domL (dE es a b) n n).length := by
  refine Classical.byContradiction fun hno => hne ?_
  have hd : domL (dE es a b) n n = [] := List.eq_nil_of_length_eq_zero (by omega)
  have srt : ∀ c, Mtc es c → c.Pairwise (· < ·) := fun c hc => rise_srt fun i h1 h2 => (hc i h2).1.2 h1
  refine srt_ext (srt a hma) (srt b hmb) fun i => ?_
  refine Classical.byContradiction fun hio => ?_
  have hx : (decide (i ∈ a) != decide (i ∈ b)) = true := by
    by_cases ia : i ∈ a <;> by_cases ib : i ∈ b
    · exact absurd ⟨fun _ => ib, fun _ => ia⟩ hio
    · rw [decide_eq_true ia, decide_eq_false ib]; rfl
    · rw [decide_eq_false ia, decide_eq_true ib]; rfl
    · exact absurd ⟨fun h => absurd h ia, fun h => absurd h ib⟩ hio
  have hr : 0 ≤ i ∧ i < es.length := by
    by_cases ia : i ∈ a
    · exact mtc_rng hma i ia
    · by_cases ib : i ∈ b
      · exact mtc_rng hmb i ib
      · rw [decide_eq_false ia, decide_eq_false ib] at hx; simp at hx
  have he : es.getD i.toNat (0, 0) ∈ dE es a b := List.mem_map.2 ⟨i, (dix_mem a b i es.length).2 ⟨hr, hx⟩, rfl⟩
  have hq := grd_mem hg (dE_mem he)
  have hmem : (es.getD i.toNat (0, 0)).1 ∈ domL (dE es a b) n n := (domL_mem _ _ _ _).2 ⟨by omega, (nbB_iff _ _ _).2 ⟨(es.getD i.toNat (0, 0)).2, by omega, (nearB_iff _ _ _).2 (.inl he)⟩⟩
  rw [hd] at hmem
  simp at hmem

set_option maxRecDepth 20000 in
set_option maxHeartbeats 2000000 in
theorem mate_c (n : Int) (v w : Value) (es : List (Int × Int)) (xs : List Int) (x : Int) (H : AH) (hr : RowP 76 H v es) (hlen : es.length ≤ 1099511627776) (hs : Row 3 H w xs) (hlx : xs.length ≤ 1048576) (hm : ∀ y ∈ xs, 0 ≤ y ∧ y < es.length) (hx : x ∈ seenL es xs) :
    ACalls Try.prog 106 [.agg (List.toArray [.int .i64 n, v]), w, .int .i64 x] H fun r H' => r = .int .i64 (mateF es xs x) ∧ H <+: H' := by
  refine in106 rfl ?_
  intro Q hQ
  simp (maxSteps := 1000000) (disch := omega) only [cd106, hr.boxG, S, S1, S2, S3, S4, S5, ST, eq_self, reduceIte, reduceCtorEq, Nat.reduceEqDiff, Nat.reduceAdd]
  generalize hA : H ++ [AObj.cells [.int .i64 n, v] 28 false] = A
  have pA : H <+: A := by rw [← hA]; exact List.prefix_append _ _
  have cA : A[H.length]? = some (.cells [.int .i64 n, v] 28 false) := by rw [← hA]; exact at_new ..
  have rA := hr.pre pA
  have sA := hs.pre pA
  simp (maxSteps := 1000000) (disch := omega) only [sA.len Try.underlying32, S, S1, S2, S3, S4, S5, ST, eq_self, reduceIte, reduceCtorEq, Nat.reduceEqDiff, Nat.reduceAdd]
  refine LoopH.by (fun m s H' => ∃ i : Nat, m + i = xs.length ∧ s 2 = .int .i64 x ∧ s 3 = .pointer (some ⟨H.length, 0, none⟩) ∧ s 9 = w ∧ s 10 = .int .i64 (xs.length : Int) ∧ s 11 = .int .i64 ((i : Nat) : Int) ∧ mateF es xs x = mateF es (xs.drop i) x ∧ x ∉ seenL es (xs.take i) ∧ H' = A) xs.length ?_ ?_
  · exact ⟨0, by simp, rfl, rfl, rfl, rfl, rfl, rfl, by simp [seenL], rfl⟩
  rintro m s H' ⟨i, hm', h2, h3, h9, h10, h11, hF, hno, rfl⟩
  simp (maxSteps := 1000000) (disch := omega) only [h2, h3, h9, h10, h11, S, S1, S2, S3, S4, S5, ST, eq_self, reduceIte, reduceCtorEq, Nat.reduceEqDiff, Nat.reduceAdd]
  refine brD.intro (fun g => ?_) (fun g => ?_)
  · have hi : i < xs.length := by omega
    have hxm : xs.getD i 0 ∈ xs := by simp [hi]
    have hxr := hm _ hxm
    have hei : (xs.getD i 0).toNat < es.length := by omega
    have l0 := rA.cell0 hei
    have l1 := rA.cell1 hei
    have hc := sA.cell hi
    rw [mateF_step es xs x i hi] at hF
    have hst := seenL_take es xs i hi
    simp (maxSteps := 1000000) (disch := omega) only [h2, h3, h9, h10, h11, cell_of cA, sA.ix Try.underlying32 cs3, hc, rA.ix Try.underlying22 cs76, Int.toNat_natCast, l0, l1, S, S1, S2, S3, S4, S5, ST, eq_self, reduceIte, reduceCtorEq, Nat.reduceEqDiff, Nat.reduceAdd]
    refine brD.intro (fun q => ?_) (fun q => ?_)
    · rw [if_pos q.symm] at hF
      simp (maxSteps := 1000000) (disch := omega) only [h2, h3, h9, h10, h11, cell_of cA, rA.ix Try.underlying22 cs76, Int.toNat_natCast, l0, l1, S, S1, S2, S3, S4, S5, ST, eq_self, reduceIte, reduceCtorEq, Nat.reduceEqDiff, Nat.reduceAdd]
      refine hQ _ _ _ ?_
      simp (maxSteps := 1000000) (disch := omega) only [S, S1, S2, S3, S4, S5, ST, eq_self, reduceIte, reduceCtorEq, Nat.reduceEqDiff, Nat.reduceAdd]
      rw [hF]
      exact ⟨rfl, pA⟩
    · have q' : ¬ ed1 es (xs.getD i 0) = x := fun e => q e.symm
      rw [if_neg q'] at hF
      simp (maxSteps := 1000000) (disch := omega) only [h2, h3, h9, h10, h11, cell_of cA, rA.ix Try.underlying22 cs76, Int.toNat_natCast, l0, l1, S, S1, S2, S3, S4, S5, ST, eq_self, reduceIte, reduceCtorEq, Nat.reduceEqDiff, Nat.reduceAdd]
      refine brD.intro (fun q2 => ?_) (fun q2 => ?_)
      · rw [if_pos q2.symm] at hF
        simp (maxSteps := 1000000) (disch := omega) only [h2, h3, h9, h10, h11, cell_of cA, rA.ix Try.underlying22 cs76, Int.toNat_natCast, l0, l1, S, S1, S2, S3, S4, S5, ST, eq_self, reduceIte, reduceCtorEq, Nat.reduceEqDiff, Nat.reduceAdd]
        refine hQ _ _ _ ?_
        simp (maxSteps := 1000000) (disch := omega) only [S, S1, S2, S3, S4, S5, ST, eq_self, reduceIte, reduceCtorEq, Nat.reduceEqDiff, Nat.reduceAdd]
        rw [hF]
        exact ⟨rfl, pA⟩
      · have q2' : ¬ ed2 es (xs.getD i 0) = x := fun e => q2 e.symm
        rw [if_neg q2'] at hF
        have f1 : x ∉ seenL es (xs.take (i + 1)) := by
          rw [hst]
          simp only [List.mem_append, List.mem_cons, List.not_mem_nil, or_false, not_or]
          exact ⟨hno, fun e => q' e.symm, fun e => q2' e.symm⟩
        simp (maxSteps := 1000000) (disch := omega) only [h2, h3, h9, h10, h11, wrap64, S, S1, S2, S3, S4, S5, ST, eq_self, reduceIte, reduceCtorEq, Nat.reduceEqDiff, Nat.reduceAdd]
        refine ⟨m - 1, by omega, i + 1, ?_⟩
        (repeat' first | exact hF | exact f1 | apply And.intro) <;> first | (simp only [Value.int.injEq, true_and]; omega) | omega | rfl | assumption | (simp; done) | (simp; omega)
  · rw [List.take_of_length_le (by omega)] at hno
    exact absurd hx hno

set_option maxRecDepth 20000 in
set_option maxHeartbeats 2000000 in
theorem l8Mate_c (n : Int) (v w : Value) (es : List (Int × Int)) (xs : List Int) (x : Int) (H : AH) (hr : RowP 76 H v es) (hlen : es.length ≤ 1099511627776) (hs : Row 3 H w xs) (hlx : xs.length ≤ 1048576) (hm : ∀ y ∈ xs, 0 ≤ y ∧ y < es.length) (hx : x ∈ seenL es xs) :
    ACalls Try.prog 104 [.agg (List.toArray [.int .i64 n, v]), w, .int .i64 x] H fun r H' => r = .int .i64 (mateF es xs x) ∧ H <+: H' := by
  refine in104 rfl ?_
  intro Q hQ
  simp (maxSteps := 1000000) (disch := omega) only [cd104, hr.boxG, S, S1, S2, S3, S4, S5, ST, eq_self, reduceIte, reduceCtorEq, Nat.reduceEqDiff, Nat.reduceAdd]
  generalize hA : H ++ [AObj.cells [.int .i64 n, v] 28 false] = A
  have pA : H <+: A := by rw [← hA]; exact List.prefix_append _ _
  have cA : A[H.length]? = some (.cells [.int .i64 n, v] 28 false) := by rw [← hA]; exact at_new ..
  have rA := hr.pre pA
  refine LoopH.by (fun m s H' => ∃ i : Nat, m + i = xs.length ∧ s 1 = w ∧ s 2 = .int .i64 x ∧ s 3 = .pointer (some ⟨H.length, 0, none⟩) ∧ s 7 = .int .i64 ((i : Nat) : Int) ∧ mateF es xs x = mateF es (xs.drop i) x ∧ x ∉ seenL es (xs.take i) ∧ A <+: H') xs.length ?_ ?_
  · exact ⟨0, by simp, rfl, rfl, rfl, rfl, rfl, by simp [seenL], List.prefix_refl _⟩
  rintro m s H' ⟨i, hm', h1, h2, h3, h7, hF, hno, hp⟩
  have rH := rA.pre hp
  have cH := pre_at hp cA
  have sH := hs.pre (pA.trans hp)
  simp (maxSteps := 1000000) (disch := omega) only [h1, h2, h3, h7, sH.len Try.underlying32, S, S1, S2, S3, S4, S5, ST, eq_self, reduceIte, reduceCtorEq, Nat.reduceEqDiff, Nat.reduceAdd]
  refine brD.intro (fun g => ?_) (fun g => ?_)
  · have hi : i < xs.length := by omega
    have hxm : xs.getD i 0 ∈ xs := by simp [hi]
    have hxr := hm _ hxm
    have hei : (xs.getD i 0).toNat < es.length := by omega
    have hc := sH.cell hi
    rw [mateF_step es xs x i hi] at hF
    have hst := seenL_take es xs i hi
    have hst0 := store_a2 H' [.int .i64 0, .int .i64 0] rfl
    have hld := rH.ld ag76 cs76 hei
    simp (maxSteps := 1000000) (disch := omega) only [h1, h2, h3, h7, cell_of cH, sH.ix Try.underlying32 cs3, hc, rH.ix Try.underlying22 cs76, Int.toNat_natCast, hld, alloc_a2, hst0, cell_new, S, S1, S2, S3, S4, S5, ST, eq_self, reduceIte, reduceCtorEq, Nat.reduceEqDiff, Nat.reduceAdd]
    unfold ed1 ed2 at hF hst
    generalize hy : es.getD (xs.getD i 0).toNat (0, 0) = y at *
    generalize hB : H' ++ [AObj.cells [.int .i64 y.1, .int .i64 y.2] 76 false] = B
    have pB : H' <+: B := by rw [← hB]; exact List.prefix_append _ _
    have b0 : B[H'.length]? = some (.cells [.int .i64 y.1, .int .i64 y.2] 76 false) := by rw [← hB]; exact at_new ..
    have hpB := hp.trans pB
    refine brD.intro (fun q => ?_) (fun q => ?_)
    · rw [if_pos q] at hF
      simp (maxSteps := 1000000) (disch := omega) only [h1, h2, h3, h7, cell_of b0, S, S1, S2, S3, S4, S5, ST, eq_self, reduceIte, reduceCtorEq, Nat.reduceEqDiff, Nat.reduceAdd]
      refine hQ _ _ _ ?_
      simp (maxSteps := 1000000) (disch := omega) only [S, S1, S2, S3, S4, S5, ST, eq_self, reduceIte, reduceCtorEq, Nat.reduceEqDiff, Nat.reduceAdd]
      rw [hF]
      exact ⟨rfl, pA.trans hpB⟩
    · rw [if_neg q] at hF
      simp (maxSteps := 1000000) (disch := omega) only [h1, h2, h3, h7, cell_of b0, S, S1, S2, S3, S4, S5, ST, eq_self, reduceIte, reduceCtorEq, Nat.reduceEqDiff, Nat.reduceAdd]
      refine brD.intro (fun q2 => ?_) (fun q2 => ?_)
      · rw [if_pos q2] at hF
        simp (maxSteps := 1000000) (disch := omega) only [h1, h2, h3, h7, cell_of b0, S, S1, S2, S3, S4, S5, ST, eq_self, reduceIte, reduceCtorEq, Nat.reduceEqDiff, Nat.reduceAdd]
        refine hQ _ _ _ ?_
        simp (maxSteps := 1000000) (disch := omega) only [S, S1, S2, S3, S4, S5, ST, eq_self, reduceIte, reduceCtorEq, Nat.reduceEqDiff, Nat.reduceAdd]
        rw [hF]
        exact ⟨rfl, pA.trans hpB⟩
      · rw [if_neg q2] at hF
        have f1 : x ∉ seenL es (xs.take (i + 1)) := by
          rw [hst]
          simp only [List.mem_append, List.mem_cons, List.not_mem_nil, or_false, not_or]
          exact ⟨hno, fun e => q e.symm, fun e => q2 e.symm⟩
        simp (maxSteps := 1000000) (disch := omega) only [h1, h2, h3, h7, wrap64, S, S1, S2, S3, S4, S5, ST, eq_self, reduceIte, reduceCtorEq, Nat.reduceEqDiff, Nat.reduceAdd]
        refine ⟨m - 1, by omega, i + 1, ?_⟩
        (repeat' first | exact hF | exact f1 | exact hpB | apply And.intro) <;> first | (simp only [Value.int.injEq, true_and]; omega) | omega | rfl | assumption | (simp; done) | (simp; omega)
  · rw [List.take_of_length_le (by omega)] at hno
    exact absurd hx hno

/-- two different perfect matchings -/
abbrev AcOk (n : Int) (es : List (Int × Int)) (a b : List Int) : Prop := DpOk n es a b ∧ 2 * (a.length : Int) = n ∧ 2 * (b.length : Int) = n ∧ a ≠ b
def acP (n : Int) (es : List (Int × Int)) (a b : List Int) : List Int := (piecesL (dE es a b) (domL (dE es a b) n.toNat n.toNat)).getD 0 []
def acL (n : Int) (es : List (Int × Int)) (a b : List Int) : List Int := if AcOk n es a b then alwL (mateF es a) (mateF es b) ((acP n es a b).getD 0 0) (acP n es a b).length else []
theorem alwL_two (mA mB : Int → Int) (s : Int) (k : Nat) : alwL mA mB s (2 * (k + 1)) = alwL mA mB s (2 * k) ++ [alw mA mB s (2 * k), alw mA mB s (2 * k + 1)] := by
  unfold alwL
  rw [show 2 * (k + 1) = 2 * k + 1 + 1 by omega, List.range_succ, List.range_succ]
  simp
theorem alw_A (mA mB : Int → Int) (s : Int) (k : Nat) : alw mA mB s (2 * k + 1) = mA (alw mA mB s (2 * k)) := by
  show trn mA mB (2 * k) _ = _
  unfold trn; rw [if_pos (by omega)]
theorem alw_B (mA mB : Int → Int) (s : Int) (k : Nat) : alw mA mB s (2 * (k + 1)) = mB (alw mA mB s (2 * k + 1)) := by
  rw [show 2 * (k + 1) = 2 * k + 1 + 1 by omega]
  show trn mA mB (2 * k + 1) _ = _
  unfold trn; rw [if_neg (by omega)]

set_option maxRecDepth 20000 in
set_option maxHeartbeats 4000000 in
theorem AcI_c (n : Int) (v w u : Value) (es : List (Int × Int)) (a b : List Int) (H : AH) (hr : RowP 76 H v es) (hlen : es.length ≤ 1048576) (hes : ∀ y ∈ es, I64 y.1 ∧ I64 y.2) (ha : Row 3 H w a) (hla : a.length ≤ 1048576) (hxa : ∀ y ∈ a, I64 y) (hb : Row 3 H u b) (hlb : b.length ≤ 1048576) (hxb : ∀ y ∈ b, I64 y) (hn : I64 n) :
    ACalls Try.prog 55 [.agg (List.toArray [.int .i64 n, v]), w, u] H fun r H' => ∃ g, r = .tuple (List.toArray [g, .bool (decide (AcOk n es a b))]) ∧ Mine 3 H H' g (acL n es a b) ∧ H <+: H' := by
  refine in55 rfl ?_
  intro Q hQ
  simp (maxSteps := 1000000) (disch := omega) only [cd55, hr.boxG, S, S1, S2, S3, S4, S5, ST, eq_self, reduceIte, reduceCtorEq, Nat.reduceEqDiff, Nat.reduceAdd]
  generalize hA : H ++ [AObj.cells [.int .i64 n, v] 28 false] = A
  have pA : H <+: A := by rw [← hA]; exact List.prefix_append _ _
  have cA : A[H.length]? = some (.cells [.int .i64 n, v] 28 false) := by rw [← hA]; exact at_new ..
  have rA := hr.pre pA
  simp (maxSteps := 1000000) (disch := omega) only [ld_agg ag28 cs28 cA, S, S1, S2, S3, S4, S5, ST, eq_self, reduceIte, reduceCtorEq, Nat.reduceEqDiff, Nat.reduceAdd]
  refine CallH.by (areMatchings_c n v w u es a b A rA (by omega) (ha.pre pA) (hb.pre pA) hla hlb) ?_
  rintro _ B ⟨rfl, pB⟩
  have cB := pre_at pB cA
  have pHB := pA.trans pB
  have aB := ha.pre pHB
  have bB := hb.pre pHB
  have no : ¬ AcOk n es a b → ∃ g, (Value.tuple (List.toArray [.slice none 0 0, .bool false])) = .tuple (List.toArray [g, .bool (decide (AcOk n es a b))]) ∧ Mine 3 H B g (acL n es a b) ∧ H <+: B := fun h => by
    have hz : acL n es a b = [] := by unfold acL; rw [if_neg h]
    rw [decide_eq_false h, hz]
    exact ⟨_, rfl, .inl ⟨rfl, rfl⟩, pHB⟩
  by_cases e : DpOk n es a b
  rotate_left
  · simp (maxSteps := 1000000) (disch := omega) only [decide_eq_false e, S, S1, S2, S3, S4, S5, ST, eq_self, reduceIte, reduceCtorEq, Nat.reduceEqDiff, Nat.reduceAdd]
    refine hQ _ _ _ ?_
    simp (maxSteps := 1000000) (disch := omega) only [S, S1, S2, S3, S4, S5, ST, eq_self, reduceIte, reduceCtorEq, Nat.reduceEqDiff, Nat.reduceAdd]
    exact no fun h => e h.1
  by_cases e2 : 2 * (a.length : Int) = n
  rotate_left
  · simp (maxSteps := 1000000) (disch := omega) only [decide_eq_true e, aB.len Try.underlying32, cell_of cB, wrap64, decide_eq_true e2, S, S1, S2, S3, S4, S5, ST, eq_self, reduceIte, reduceCtorEq, Nat.reduceEqDiff, Nat.reduceAdd]
    refine hQ _ _ _ ?_
    simp (maxSteps := 1000000) (disch := omega) only [S, S1, S2, S3, S4, S5, ST, eq_self, reduceIte, reduceCtorEq, Nat.reduceEqDiff, Nat.reduceAdd]
    exact no fun h => e2 h.2.1
  have d2 : decide (¬ 2 * (a.length : Int) = n) = false := decide_eq_false (fun h => h e2)
  by_cases e3 : 2 * (b.length : Int) = n
  rotate_left
  · simp (maxSteps := 1000000) (disch := omega) only [decide_eq_true e, aB.len Try.underlying32, bB.len Try.underlying32, cell_of cB, wrap64, d2, decide_eq_true e3, S, S1, S2, S3, S4, S5, ST, eq_self, reduceIte, reduceCtorEq, Nat.reduceEqDiff, Nat.reduceAdd]
    refine hQ _ _ _ ?_
    simp (maxSteps := 1000000) (disch := omega) only [S, S1, S2, S3, S4, S5, ST, eq_self, reduceIte, reduceCtorEq, Nat.reduceEqDiff, Nat.reduceAdd]
    exact no fun h => e3 h.2.2.1
  have d3 : decide (¬ 2 * (b.length : Int) = n) = false := decide_eq_false (fun h => h e3)
  simp (maxSteps := 1000000) (disch := omega) only [decide_eq_true e, aB.len Try.underlying32, bB.len Try.underlying32, cell_of cB, wrap64, d2, d3, S, S1, S2, S3, S4, S5, ST, eq_self, reduceIte, reduceCtorEq, Nat.reduceEqDiff, Nat.reduceAdd]
  refine CallH.by (Equal_c w u a b B aB bB (by omega)) ?_
  rintro _ _ ⟨rfl, rfl⟩
  by_cases e4 : a = b
  · simp (maxSteps := 1000000) (disch := omega) only [decide_eq_true e4, S, S1, S2, S3, S4, S5, ST, eq_self, reduceIte, reduceCtorEq, Nat.reduceEqDiff, Nat.reduceAdd]
    refine hQ _ _ _ ?_
    simp (maxSteps := 1000000) (disch := omega) only [S, S1, S2, S3, S4, S5, ST, eq_self, reduceIte, reduceCtorEq, Nat.reduceEqDiff, Nat.reduceAdd]
    exact no fun h => h.2.2.2 e4
  have hok : AcOk n es a b := ⟨e, e2, e3, e4⟩
  obtain ⟨k, hk⟩ : ∃ k : Nat, n = k := ⟨n.toNat, by have := e.1.1; omega⟩
  subst hk
  have hk8 : k ≤ 8 := by have := e.1.1; omega
  simp (maxSteps := 1000000) (disch := omega) only [decide_eq_false e4, ld_agg ag28 cs28 cB, S, S1, S2, S3, S4, S5, ST, eq_self, reduceIte, reduceCtorEq, Nat.reduceEqDiff, Nat.reduceAdd]
  refine CallH.by (pieces_c k v w u es a b B (rA.pre pB) (by omega) e.1 aB bB hla hlb e.2.1 e.2.2) ?_
  rintro r C ⟨hL, pC⟩
  have hpos := pieces_pos (dE es a b) _ (dom_pos e.1 e.2.1 e.2.2 e4)
  have hgL : acL (k : Int) es a b = alwL (mateF es a) (mateF es b) ((acP (k : Int) es a b).getD 0 0) (acP (k : Int) es a b).length := by unfold acL; rw [if_pos hok]
  have hgP : acP (k : Int) es a b = (piecesL (dE es a b) (domL (dE es a b) k k)).getD 0 [] := by unfold acP; rw [Int.toNat_natCast]
  have hPm : (piecesL (dE es a b) (domL (dE es a b) k k)).getD 0 [] ∈ piecesL (dE es a b) (domL (dE es a b) k k) := by simp [hpos]
  rw [hgL, hgP, decide_eq_true hok] at hQ
  obtain ⟨us, r1, r2, r3⟩ := hL.parts
  have hPr := (r3 0 hpos).row.1
  have hf := piece_first hPm
  have hfr := ((domL_mem _ _ _ _).1 (piece_sub hPm hf)).1
  have hMA := mate_ok e.1 e.2.1 (by omega)
  have hMB := mate_ok e.1 e.2.2 (by omega)
  obtain ⟨p, hpn, hper⟩ := per_ex hMA hMB hfr
  have hPl := alt_piece e.1 e.2.1 e.2.2 (by omega) (by omega) hPm hper
  rw [hPl] at hQ
  have h0 := hPr.cell (show 0 < ((piecesL (dE es a b) (domL (dE es a b) k k)).getD 0 []).length by have := hper.pos; omega)
  have hu0 := r1.cell (show 0 < us.length by omega)
  rw [Nat.add_zero] at h0 hu0
  have hpp := hper.pos
  generalize hs : ((piecesL (dE es a b) (domL (dE es a b) k k)).getD 0 []).getD 0 0 = s0 at *
  have hwN : ∀ j, 0 ≤ alw (mateF es a) (mateF es b) s0 j ∧ alw (mateF es a) (mateF es b) s0 j < k := fun j => alw_in hMA hMB hfr j
  simp (maxSteps := 1000000) (disch := omega) only [r1.ix Try.underlying38 cs32, Int.toNat_zero, hu0, hPr.ix Try.underlying32 cs3, h0, S, S1, S2, S3, S4, S5, ST, eq_self, reduceIte, reduceCtorEq, Nat.reduceEqDiff, Nat.reduceAdd]
  generalize hG : C ++ [AObj.cells [] 3 false] = G
  have pG : C <+: G := by rw [← hG]; exact List.prefix_append _ _
  have cG : G[C.length]? = some (.cells (ints []) 3 false) := by rw [← hG]; exact at_new ..
  have own0 : Own 3 C G (.slice (some ⟨C.length, 0, none⟩) 0 0) (alwL (mateF es a) (mateF es b) s0 (2 * 0)) := .inr ⟨C.length, rfl, Nat.le_refl _, cG⟩
  refine LoopH.by (fun m s H' => ∃ q : Nat, m + q = p ∧ s 1 = w ∧ s 2 = u ∧ s 3 = .pointer (some ⟨H.length, 0, none⟩) ∧ s 8 = .int .i64 s0 ∧ s 10 = .int .i64 (alw (mateF es a) (mateF es b) s0 (2 * q)) ∧ Own 3 C H' (s 9) (alwL (mateF es a) (mateF es b) s0 (2 * q)) ∧ C <+: H') p ?_ ?_
  · refine ⟨0, ?_⟩
    have f0 : alw (mateF es a) (mateF es b) s0 (2 * 0) = s0 := rfl
    simp (maxSteps := 1000000) (disch := omega) only [S, S1, S2, S3, S4, S5, ST, eq_self, reduceIte, reduceCtorEq, Nat.reduceEqDiff, Nat.reduceAdd]
    (repeat' first | exact own0 | exact pG | exact f0 | apply And.intro) <;> first | (simp only [Value.int.injEq, true_and]; omega) | omega | rfl | assumption | (simp; done) | (simp; omega)
  rintro m s H' ⟨q, hm, h1, h2, h3, h8, h10, ho, hp⟩
  generalize hU : s 9 = U at *
  have hwl : (alwL (mateF es a) (mateF es b) s0 (2 * q)).length = 2 * q := by simp [alwL]
  have pBH := pC.trans hp
  have cH := pre_at pBH cB
  have rH := rA.pre (pB.trans pBH)
  have aH := aB.pre pBH
  have bH := bB.pre pBH
  have stop : m = 0 ∨ ¬ ((2 * q : Nat) : Int) = 0 ∨ q = 0 := by omega
  by_cases hm0 : m = 0
  · have hq : q = p := by omega
    subst hq
    have z1 : ¬ (((alwL (mateF es a) (mateF es b) s0 (2 * q)).length : Int) = 0) := by rw [hwl]; omega
    rw [hper.ret] at h10
    simp (maxSteps := 1000000) (disch := omega) only [h1, h2, h3, h8, h10, hU, ho.row.len Try.underlying32, decide_eq_false z1, S, S1, S2, S3, S4, S5, ST, eq_self, reduceIte, reduceCtorEq, Nat.reduceEqDiff, Nat.reduceAdd]
    refine hQ _ _ _ ?_
    simp (maxSteps := 1000000) (disch := omega) only [hU, ho.row.tup, S, S1, S2, S3, S4, S5, ST, eq_self, reduceIte, reduceCtorEq, Nat.reduceEqDiff, Nat.reduceAdd]
    exact ⟨U, rfl, (ho.base (pHB.trans pC)).mine, pHB.trans pBH⟩
  · have hq : q < p := by omega
    have w2 := hwN (2 * q)
    have w3 := hwN (2 * q + 1)
    have sA := seen_all e.1 e.2.1 (by omega) w2
    have sB := seen_all e.1 e.2.2 (by omega) w3
    have body : ∀ s1 : Sl, s1 1 = w → s1 2 = u → True := fun _ _ _ => trivial
    by_cases hq0 : q = 0
    · have z1 : (((alwL (mateF es a) (mateF es b) s0 (2 * q)).length : Int) = 0) := by rw [hwl]; omega
      simp (maxSteps := 1000000) (disch := omega) only [h1, h2, h3, h8, h10, hU, ho.row.len Try.underlying32, decide_eq_true z1, ld_agg ag28 cs28 cH, S, S1, S2, S3, S4, S5, ST, eq_self, reduceIte, reduceCtorEq, Nat.reduceEqDiff, Nat.reduceAdd]
      refine CallH.by (mate_c (k : Int) v w es a _ H' rH (by omega) aH hla (mtc_rng e.2.1) sA) ?_
      rintro _ D ⟨rfl, pD⟩
      rw [← alw_A (mateF es a) (mateF es b) s0 q]
      have hoD := ho.pre pD
      have hpD := hp.trans pD
      have hx2 : Row 3 (D ++ [AObj.cells [.int .i64 (alw (mateF es a) (mateF es b) s0 (2 * q)), .int .i64 (alw (mateF es a) (mateF es b) s0 (2 * q + 1))] 3 false]) (.slice (some ⟨D.length, 0, none⟩) 2 2) [alw (mateF es a) (mateF es b) s0 (2 * q), alw (mateF es a) (mateF es b) s0 (2 * q + 1)] := .inr ⟨D.length, 0, _, false, rfl, at_new .., by simp, rfl⟩
      obtain ⟨U', K, j1, j2, j3, j4, j5⟩ := (hoD.pre (List.prefix_append D _)).app (P := Try.prog) (t := 32) Try.underlying32 cs3 (by rw [by3]; decide) zk3 hx2 (hpD.trans (List.prefix_append _ _)) (by rw [hwl]; simp; omega)
      rw [← alwL_two] at j2
      have pBK := pC.trans j3
      have cK := pre_at pBK cB
      have sBK := bB.pre pBK
      simp (maxSteps := 1000000) (disch := omega) only [h1, h2, h3, h8, h10, hU, j1, ld_agg ag28 cs28 cK, S, S1, S2, S3, S4, S5, ST, eq_self, reduceIte, reduceCtorEq, Nat.reduceEqDiff, Nat.reduceAdd]
      refine CallH.by (mate_c (k : Int) v u es b _ K (rA.pre (pB.trans pBK)) (by omega) sBK hlb (mtc_rng e.2.2) sB) ?_
      rintro _ L ⟨rfl, pL⟩
      rw [← alw_B (mateF es a) (mateF es b) s0 q]
      have f1 := j2.pre pL
      have f2 := j3.trans pL
      simp (maxSteps := 1000000) (disch := omega) only [h1, h2, h3, h8, hU, S, S1, S2, S3, S4, S5, ST, eq_self, reduceIte, reduceCtorEq, Nat.reduceEqDiff, Nat.reduceAdd]
      refine ⟨m - 1, by omega, q + 1, ?_⟩
      (repeat' first | exact f1 | exact f2 | apply And.intro) <;> first | (simp only [Value.int.injEq, true_and]; omega) | omega | rfl | assumption | (simp; done) | (simp; omega)
    · have z1 : ¬ (((alwL (mateF es a) (mateF es b) s0 (2 * q)).length : Int) = 0) := by rw [hwl]; omega
      have z2 := hper.min q (by omega) hq
      simp (maxSteps := 1000000) (disch := omega) only [h1, h2, h3, h8, h10, hU, ho.row.len Try.underlying32, decide_eq_false z1, decide_eq_true (show ¬ alw (mateF es a) (mateF es b) s0 (2 * q) = s0 from z2), ld_agg ag28 cs28 cH, S, S1, S2, S3, S4, S5, ST, eq_self, reduceIte, reduceCtorEq, Nat.reduceEqDiff, Nat.reduceAdd]
      refine CallH.by (mate_c (k : Int) v w es a _ H' rH (by omega) aH hla (mtc_rng e.2.1) sA) ?_
      rintro _ D ⟨rfl, pD⟩
      rw [← alw_A (mateF es a) (mateF es b) s0 q]
      have hoD := ho.pre pD
      have hpD := hp.trans pD
      have hx2 : Row 3 (D ++ [AObj.cells [.int .i64 (alw (mateF es a) (mateF es b) s0 (2 * q)), .int .i64 (alw (mateF es a) (mateF es b) s0 (2 * q + 1))] 3 false]) (.slice (some ⟨D.length, 0, none⟩) 2 2) [alw (mateF es a) (mateF es b) s0 (2 * q), alw (mateF es a) (mateF es b) s0 (2 * q + 1)] := .inr ⟨D.length, 0, _, false, rfl, at_new .., by simp, rfl⟩
      obtain ⟨U', K, j1, j2, j3, j4, j5⟩ := (hoD.pre (List.prefix_append D _)).app (P := Try.prog) (t := 32) Try.underlying32 cs3 (by rw [by3]; decide) zk3 hx2 (hpD.trans (List.prefix_append _ _)) (by rw [hwl]; simp; omega)
      rw [← alwL_two] at j2
      have pBK := pC.trans j3
      have cK := pre_at pBK cB
      have sBK := bB.pre pBK
      simp (maxSteps := 1000000) (disch := omega) only [h1, h2, h3, h8, h10, hU, j1, ld_agg ag28 cs28 cK, S, S1, S2, S3, S4, S5, ST, eq_self, reduceIte, reduceCtorEq, Nat.reduceEqDiff, Nat.reduceAdd]
      refine CallH.by (mate_c (k : Int) v u es b _ K (rA.pre (pB.trans pBK)) (by omega) sBK hlb (mtc_rng e.2.2) sB) ?_
      rintro _ L ⟨rfl, pL⟩
      rw [← alw_B (mateF es a) (mateF es b) s0 q]
      have f1 := j2.pre pL
      have f2 := j3.trans pL
      simp (maxSteps := 1000000) (disch := omega) only [h1, h2, h3, h8, hU, S, S1, S2, S3, S4, S5, ST, eq_self, reduceIte, reduceCtorEq, Nat.reduceEqDiff, Nat.reduceAdd]
      refine ⟨m - 1, by omega, q + 1, ?_⟩
      (repeat' first | exact f1 | exact f2 | apply And.intro) <;> first | (simp only [Value.int.injEq, true_and]; omega) | omega | rfl | assumption | (simp; done) | (simp; omega)

set_option maxRecDepth 20000 in
set_option maxHeartbeats 4000000 in
theorem AcS_c (n : Int) (v w u : Value) (es : List (Int × Int)) (a b : List Int) (H : AH) (hr : RowP 76 H v es) (hlen : es.length ≤ 1048576) (hes : ∀ y ∈ es, I64 y.1 ∧ I64 y.2) (ha : Row 3 H w a) (hla : a.length ≤ 1048576) (hxa : ∀ y ∈ a, I64 y) (hb : Row 3 H u b) (hlb : b.length ≤ 1048576) (hxb : ∀ y ∈ b, I64 y) (hn : I64 n) :
    ACalls Try.prog 54 [.agg (List.toArray [.int .i64 n, v]), w, u] H fun r H' => ∃ g, r = .tuple (List.toArray [g, .bool (decide (AcOk n es a b))]) ∧ Mine 3 H H' g (acL n es a b) ∧ H <+: H' := by
  refine in54 rfl ?_
  intro Q hQ
  simp (maxSteps := 1000000) (disch := omega) only [cd54, hr.boxG, S, S1, S2, S3, S4, S5, ST, eq_self, reduceIte, reduceCtorEq, Nat.reduceEqDiff, Nat.reduceAdd]
  generalize hA : H ++ [AObj.cells [.int .i64 n, v] 28 false] = A
  have pA : H <+: A := by rw [← hA]; exact List.prefix_append _ _
  have cA : A[H.length]? = some (.cells [.int .i64 n, v] 28 false) := by rw [← hA]; exact at_new ..
  have rA := hr.pre pA
  simp (maxSteps := 1000000) (disch := omega) only [ld_agg ag28 cs28 cA, S, S1, S2, S3, S4, S5, ST, eq_self, reduceIte, reduceCtorEq, Nat.reduceEqDiff, Nat.reduceAdd]
  refine CallH.by (l8Two_c n v w u es a b A rA (by omega) (ha.pre pA) (hb.pre pA) hla hlb) ?_
  rintro _ B ⟨rfl, pB⟩
  have cB := pre_at pB cA
  have pHB := pA.trans pB
  have aB := ha.pre pHB
  have bB := hb.pre pHB
  have no : ¬ AcOk n es a b → ∃ g, (Value.tuple (List.toArray [.slice (some ⟨B.length, 0, none⟩) 0 0, .bool false])) = .tuple (List.toArray [g, .bool (decide (AcOk n es a b))]) ∧ Mine 3 H (B ++ [AObj.cells [] 3 false]) g (acL n es a b) ∧ H <+: B ++ [AObj.cells [] 3 false] := fun h => by
    have hz : acL n es a b = [] := by unfold acL; rw [if_neg h]
    rw [decide_eq_false h, hz]
    have o0 : Own 3 H (B ++ [AObj.cells [] 3 false]) (.slice (some ⟨B.length, 0, none⟩) 0 0) [] := .inr ⟨B.length, rfl, pHB.length_le, at_new ..⟩
    exact ⟨_, rfl, o0.mine, pHB.trans (List.prefix_append _ _)⟩
  by_cases e : DpOk n es a b
  rotate_left
  · simp (maxSteps := 1000000) (disch := omega) only [decide_eq_false e, S, S1, S2, S3, S4, S5, ST, eq_self, reduceIte, reduceCtorEq, Nat.reduceEqDiff, Nat.reduceAdd]
    refine hQ _ _ _ ?_
    simp (maxSteps := 1000000) (disch := omega) only [S, S1, S2, S3, S4, S5, ST, eq_self, reduceIte, reduceCtorEq, Nat.reduceEqDiff, Nat.reduceAdd]
    exact no fun h => e h.1
  by_cases e2 : 2 * (a.length : Int) = n
  rotate_left
  · simp (maxSteps := 1000000) (disch := omega) only [decide_eq_true e, aB.len Try.underlying32, cell_of cB, wrap64, decide_eq_true e2, S, S1, S2, S3, S4, S5, ST, eq_self, reduceIte, reduceCtorEq, Nat.reduceEqDiff, Nat.reduceAdd]
    refine hQ _ _ _ ?_
    simp (maxSteps := 1000000) (disch := omega) only [S, S1, S2, S3, S4, S5, ST, eq_self, reduceIte, reduceCtorEq, Nat.reduceEqDiff, Nat.reduceAdd]
    exact no fun h => e2 h.2.1
  have d2 : decide (¬ 2 * (a.length : Int) = n) = false := decide_eq_false (fun h => h e2)
  by_cases e3 : 2 * (b.length : Int) = n
  rotate_left
  · simp (maxSteps := 1000000) (disch := omega) only [decide_eq_true e, aB.len Try.underlying32, bB.len Try.underlying32, cell_of cB, wrap64, d2, decide_eq_true e3, S, S1, S2, S3, S4, S5, ST, eq_self, reduceIte, reduceCtorEq, Nat.reduceEqDiff, Nat.reduceAdd]
    refine hQ _ _ _ ?_
    simp (maxSteps := 1000000) (disch := omega) only [S, S1, S2, S3, S4, S5, ST, eq_self, reduceIte, reduceCtorEq, Nat.reduceEqDiff, Nat.reduceAdd]
    exact no fun h => e3 h.2.2.1
  have d3 : decide (¬ 2 * (b.length : Int) = n) = false := decide_eq_false (fun h => h e3)
  simp (maxSteps := 1000000) (disch := omega) only [decide_eq_true e, aB.len Try.underlying32, bB.len Try.underlying32, cell_of cB, wrap64, d2, d3, S, S1, S2, S3, S4, S5, ST, eq_self, reduceIte, reduceCtorEq, Nat.reduceEqDiff, Nat.reduceAdd]
  refine CallH.by (l1Same_c w u a b B aB bB (by omega)) ?_
  rintro _ _ ⟨rfl, rfl⟩
  by_cases e4 : a = b
  · simp (maxSteps := 1000000) (disch := omega) only [decide_eq_true e4, S, S1, S2, S3, S4, S5, ST, eq_self, reduceIte, reduceCtorEq, Nat.reduceEqDiff, Nat.reduceAdd]
    refine hQ _ _ _ ?_
    simp (maxSteps := 1000000) (disch := omega) only [S, S1, S2, S3, S4, S5, ST, eq_self, reduceIte, reduceCtorEq, Nat.reduceEqDiff, Nat.reduceAdd]
    exact no fun h => h.2.2.2 e4
  have hok : AcOk n es a b := ⟨e, e2, e3, e4⟩
  obtain ⟨k, hk⟩ : ∃ k : Nat, n = k := ⟨n.toNat, by have := e.1.1; omega⟩
  subst hk
  have hk8 : k ≤ 8 := by have := e.1.1; omega
  simp (maxSteps := 1000000) (disch := omega) only [decide_eq_false e4, ld_agg ag28 cs28 cB, S, S1, S2, S3, S4, S5, ST, eq_self, reduceIte, reduceCtorEq, Nat.reduceEqDiff, Nat.reduceAdd]
  refine CallH.by (l8Pieces_c k v w u es a b B (rA.pre pB) (by omega) e.1 aB bB hla hlb) ?_
  rintro r C ⟨hL, pC⟩
  have hpos := pieces_pos (dE es a b) _ (dom_pos e.1 e.2.1 e.2.2 e4)
  have hgL : acL (k : Int) es a b = alwL (mateF es a) (mateF es b) ((acP (k : Int) es a b).getD 0 0) (acP (k : Int) es a b).length := by unfold acL; rw [if_pos hok]
  have hgP : acP (k : Int) es a b = (piecesL (dE es a b) (domL (dE es a b) k k)).getD 0 [] := by unfold acP; rw [Int.toNat_natCast]
  have hPm : (piecesL (dE es a b) (domL (dE es a b) k k)).getD 0 [] ∈ piecesL (dE es a b) (domL (dE es a b) k k) := by simp [hpos]
  rw [hgL, hgP, decide_eq_true hok] at hQ
  obtain ⟨us, r1, r2, r3⟩ := hL.parts
  have hPr := (r3 0 hpos).row.1
  have hf := piece_first hPm
  have hfr := ((domL_mem _ _ _ _).1 (piece_sub hPm hf)).1
  have hMA := mate_ok e.1 e.2.1 (by omega)
  have hMB := mate_ok e.1 e.2.2 (by omega)
  obtain ⟨p, hpn, hper⟩ := per_ex hMA hMB hfr
  have hPl := alt_piece e.1 e.2.1 e.2.2 (by omega) (by omega) hPm hper
  rw [hPl] at hQ
  have h0 := hPr.cell (show 0 < ((piecesL (dE es a b) (domL (dE es a b) k k)).getD 0 []).length by have := hper.pos; omega)
  have hu0 := r1.cell (show 0 < us.length by omega)
  rw [Nat.add_zero] at h0 hu0
  have hpp := hper.pos
  generalize hPd : (piecesL (dE es a b) (domL (dE es a b) k k)).getD 0 [] = P at *
  generalize hs : P.getD 0 0 = s0 at *
  have hwN : ∀ j, 0 ≤ alw (mateF es a) (mateF es b) s0 j ∧ alw (mateF es a) (mateF es b) s0 j < k := fun j => alw_in hMA hMB hfr j
  simp (maxSteps := 1000000) (disch := omega) only [r1.ix Try.underlying38 cs32, Int.toNat_zero, hu0, hPr.ix Try.underlying32 cs3, h0, S, S1, S2, S3, S4, S5, ST, eq_self, reduceIte, reduceCtorEq, Nat.reduceEqDiff, Nat.reduceAdd]
  generalize hV : us.getD 0 undef = pv at *
  generalize hG : C ++ [AObj.cells [] 3 false] = G
  have pG : C <+: G := by rw [← hG]; exact List.prefix_append _ _
  have cG : G[C.length]? = some (.cells (ints []) 3 false) := by rw [← hG]; exact at_new ..
  have h0G := (hPr.pre pG).cell (show 0 < P.length by omega)
  rw [Nat.add_zero, hs] at h0G
  simp (maxSteps := 1000000) (disch := omega) only [h0G, S, S1, S2, S3, S4, S5, ST, eq_self, reduceIte, reduceCtorEq, Nat.reduceEqDiff, Nat.reduceAdd]
  have own0 : Own 3 C G (.slice (some ⟨C.length, 0, none⟩) 0 0) (alwL (mateF es a) (mateF es b) s0 (2 * 0)) := .inr ⟨C.length, rfl, Nat.le_refl _, cG⟩
  refine LoopH.by (fun m s H' => ∃ q : Nat, m + q = p ∧ s 1 = w ∧ s 2 = u ∧ s 3 = .pointer (some ⟨H.length, 0, none⟩) ∧ s 8 = pv ∧ s 10 = .int .i64 (alw (mateF es a) (mateF es b) s0 (2 * q)) ∧ Own 3 C H' (s 9) (alwL (mateF es a) (mateF es b) s0 (2 * q)) ∧ C <+: H') p ?_ ?_
  · refine ⟨0, ?_⟩
    have f0 : alw (mateF es a) (mateF es b) s0 (2 * 0) = s0 := rfl
    simp (maxSteps := 1000000) (disch := omega) only [S, S1, S2, S3, S4, S5, ST, eq_self, reduceIte, reduceCtorEq, Nat.reduceEqDiff, Nat.reduceAdd]
    (repeat' first | exact own0 | exact pG | exact f0 | apply And.intro) <;> first | (simp only [Value.int.injEq, true_and]; omega) | omega | rfl | assumption | (simp; done) | (simp; omega)
  rintro m s H' ⟨q, hm, h1, h2, h3, h8, h10, ho, hp⟩
  generalize hU : s 9 = U at *
  have hwl : (alwL (mateF es a) (mateF es b) s0 (2 * q)).length = 2 * q := by simp [alwL]
  have pBH := pC.trans hp
  have cH := pre_at pBH cB
  have rH := rA.pre (pB.trans pBH)
  have aH := aB.pre pBH
  have bH := bB.pre pBH
  have PH := hPr.pre hp
  simp (maxSteps := 1000000) (disch := omega) only [h1, h2, h3, h8, h10, hU, ho.row.len Try.underlying32, PH.len Try.underlying32, S, S1, S2, S3, S4, S5, ST, eq_self, reduceIte, reduceCtorEq, Nat.reduceEqDiff, Nat.reduceAdd]
  refine brD.intro (fun gg => ?_) (fun gg => ?_)
  rotate_left
  · have hq : q = p := by omega
    subst hq
    simp (maxSteps := 1000000) (disch := omega) only [h1, h2, h3, h8, h10, hU, S, S1, S2, S3, S4, S5, ST, eq_self, reduceIte, reduceCtorEq, Nat.reduceEqDiff, Nat.reduceAdd]
    refine hQ _ _ _ ?_
    simp (maxSteps := 1000000) (disch := omega) only [hU, ho.row.tup, S, S1, S2, S3, S4, S5, ST, eq_self, reduceIte, reduceCtorEq, Nat.reduceEqDiff, Nat.reduceAdd]
    exact ⟨U, rfl, (ho.base (pHB.trans pC)).mine, pHB.trans pBH⟩
  have hq : q < p := by omega
  have w2 := hwN (2 * q)
  have w3 := hwN (2 * q + 1)
  have sA := seen_all e.1 e.2.1 (by omega) w2
  have sB := seen_all e.1 e.2.2 (by omega) w3
  simp (maxSteps := 1000000) (disch := omega) only [h1, h2, h3, h8, h10, hU, ld_agg ag28 cs28 cH, S, S1, S2, S3, S4, S5, ST, eq_self, reduceIte, reduceCtorEq, Nat.reduceEqDiff, Nat.reduceAdd]
  refine CallH.by (l8Mate_c (k : Int) v w es a _ H' rH (by omega) aH hla (mtc_rng e.2.1) sA) ?_
  rintro _ D ⟨rfl, pD⟩
  rw [← alw_A (mateF es a) (mateF es b) s0 q]
  have hoD := ho.pre pD
  have hpD := hp.trans pD
  obtain ⟨U1, K1, i1, i2, i3, i4, i5, i6⟩ := own1_32 hoD hpD (by omega) (alw (mateF es a) (mateF es b) s0 (2 * q))
  obtain ⟨U', K, j1, j2, j3, j4, j5, j6⟩ := own1_32 i2 i3 (by rw [List.length_append, hwl]; simp; omega) (alw (mateF es a) (mateF es b) s0 (2 * q + 1))
  rw [List.append_assoc, List.singleton_append, ← alwL_two] at j2
  have pBK := pC.trans j3
  have cK := pre_at pBK cB
  have sBK := bB.pre pBK
  simp (maxSteps := 1000000) (disch := omega) only [h1, h2, h3, h8, h10, hU, i1, j1, ld_agg ag28 cs28 cK, S, S1, S2, S3, S4, S5, ST, eq_self, reduceIte, reduceCtorEq, Nat.reduceEqDiff, Nat.reduceAdd]
  refine CallH.by (l8Mate_c (k : Int) v u es b _ K (rA.pre (pB.trans pBK)) (by omega) sBK hlb (mtc_rng e.2.2) sB) ?_
  rintro _ L ⟨rfl, pL⟩
  rw [← alw_B (mateF es a) (mateF es b) s0 q]
  have f1 := j2.pre pL
  have f2 := j3.trans pL
  simp (maxSteps := 1000000) (disch := omega) only [h1, h2, h3, h8, hU, S, S1, S2, S3, S4, S5, ST, eq_self, reduceIte, reduceCtorEq, Nat.reduceEqDiff, Nat.reduceAdd]
  refine ⟨m - 1, by omega, q + 1, ?_⟩
  (repeat' first | exact f1 | exact f2 | apply And.intro) <;> first | (simp only [Value.int.injEq, true_and]; omega) | omega | rfl | assumption | (simp; done) | (simp; omega)

theorem ac_ok (n : Int) (es : List (Int × Int)) (a b : List Int) : (acL n es a b).length ≤ 1099511627776 := by
  unfold acL
  split
  · rename_i h
    have hn := h.1.1.1
    have hl : (alwL (mateF es a) (mateF es b) ((acP n es a b).getD 0 0) (acP n es a b).length).length = (acP n es a b).length := by simp [alwL]
    rw [hl]
    unfold acP
    by_cases hp : 0 < (piecesL (dE es a b) (domL (dE es a b) n.toNat n.toNat)).length
    · have hm : (piecesL (dE es a b) (domL (dE es a b) n.toNat n.toNat)).getD 0 [] ∈ piecesL (dE es a b) (domL (dE es a b) n.toNat n.toNat) := by simp [hp]
      have hd : ∀ x ∈ domL (dE es a b) n.toNat n.toNat, 0 ≤ x ∧ x < (8 : Nat) := fun x hx => by
        have := ((domL_mem _ _ _ x).1 hx).1; omega
      have hN : ((piecesL (dE es a b) (domL (dE es a b) n.toNat n.toNat)).getD 0 []).Nodup := by
        obtain ⟨q, hq, e⟩ := pieces_mem hm
        rw [e]
        exact (reach_srt _ _ _).imp fun h e => by omega
      have := nodupP_le 8 _ hN (fun x hx => hd x (piece_sub hm hx))
      omega
    · have : (piecesL (dE es a b) (domL (dE es a b) n.toNat n.toNat)) = [] := List.eq_nil_of_length_eq_zero (by omega)
      rw [this]; simp
  · simp
end Go.Proofs.Ythhnpchjjbjabaa.Ai
