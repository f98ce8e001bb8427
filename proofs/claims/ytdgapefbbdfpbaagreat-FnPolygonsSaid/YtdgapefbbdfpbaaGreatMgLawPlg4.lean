/- Texts of this claim, joined: SrtL, TrgP, Drt, SrtF, AppL, Spc, MarkS, Ree, FlipP, IdxL. -/
import Derived.Test.YtdgapefbbdfpbaaGreatProg
import Derived.KernelRfl
import Derived.Test.YtdgapefbbdfpbaaGreatMgLawPlg3
namespace Go.Proofs.YtdgapefbbdfpbaaGreat.Ai
open Go
def ords127 : List (Nat × List (Nat × Bool)) := []
def cd127 : Cd := (.seq (.reg [⟨⟨some 4, Op.assign (Operand.const (Value.int IntKind.i64 0)), none⟩, []⟩]) (.seq (.seq (.reg [⟨⟨some 9, Op.move (Operand.tmp 0), none⟩, []⟩,
  ⟨⟨some 10, Op.call { callee := (Callee.builtin Builtin.len), args := #[(Operand.tmp 9)], argTypes := #[34] }, none⟩, []⟩,
  ⟨⟨some 11, Op.move (Operand.const (Value.int IntKind.i64 0)), none⟩, []⟩]) (.block 0 (.loop (.seq (.reg [⟨⟨some 12, Op.binOp BinOp.lss 3 (Operand.tmp 11) (Operand.tmp 10) 3, none⟩, []⟩]) (.seq (.cond (Operand.tmp 12) .skip (.exit 0)) (.seq (.block 1 (.seq (.reg [⟨⟨some 13, Op.move (Operand.tmp 11), none⟩, []⟩,
  ⟨⟨some 14, Op.indexAddr 34 (Operand.tmp 9) (Operand.tmp 11), none⟩, []⟩,
  ⟨⟨some 15, Op.load 3 (Operand.tmp 14), none⟩, []⟩,
  ⟨⟨some 5, Op.assign (Operand.tmp 13), none⟩, []⟩,
  ⟨⟨some 6, Op.assign (Operand.tmp 15), none⟩, []⟩]) (.seq (.seq (.reg [⟨⟨some 16, Op.move (Operand.tmp 5), none⟩, []⟩,
  ⟨⟨some 17, Op.move (Operand.tmp 1), none⟩, []⟩,
  ⟨⟨some 18, Op.call { callee := (Callee.builtin Builtin.len), args := #[(Operand.tmp 17)], argTypes := #[34] }, none⟩, []⟩,
  ⟨⟨some 19, Op.binOp BinOp.geq 3 (Operand.tmp 16) (Operand.tmp 18) 3, none⟩, []⟩]) (.cond (Operand.tmp 19) (.seq (.reg [⟨⟨some 4, Op.assign (Operand.const (Value.int IntKind.i64 1)), none⟩, []⟩]) .ret) .skip)) (.seq (.reg [⟨⟨some 20, Op.move (Operand.tmp 1), none⟩, []⟩,
  ⟨⟨some 21, Op.move (Operand.tmp 5), none⟩, []⟩,
  ⟨⟨some 22, Op.indexAddr 34 (Operand.tmp 20) (Operand.tmp 21), none⟩, []⟩,
  ⟨⟨some 23, Op.load 3 (Operand.tmp 22), none⟩, []⟩,
  ⟨⟨some 7, Op.assign (Operand.tmp 23), none⟩, []⟩]) (.seq (.reg [⟨⟨some 24, Op.move (Operand.tmp 6), none⟩, []⟩,
  ⟨⟨some 25, Op.move (Operand.tmp 7), none⟩, []⟩,
  ⟨⟨some 26, Op.call { callee := (Callee.value (Operand.func 170)), args := #[(Operand.tmp 24), (Operand.tmp 25)], argTypes := #[3, 3] }, none⟩, []⟩,
  ⟨⟨some 8, Op.assign (Operand.tmp 26), none⟩, []⟩]) (.seq (.reg [⟨⟨some 27, Op.move (Operand.tmp 8), none⟩, []⟩,
  ⟨⟨some 28, Op.binOp BinOp.neq 3 (Operand.tmp 27) (Operand.const (Value.int IntKind.i64 0)) 3, none⟩, []⟩]) (.cond (Operand.tmp 28) (.seq (.reg [⟨⟨some 29, Op.move (Operand.tmp 8), none⟩, []⟩,
  ⟨⟨some 4, Op.assign (Operand.tmp 29), none⟩, []⟩]) .ret) .skip))))))) (.reg [⟨⟨some 30, Op.binOp BinOp.add 3 (Operand.tmp 11) (Operand.const (Value.int IntKind.i64 1)) 3, none⟩, []⟩,
  ⟨⟨some 11, Op.move (Operand.tmp 30), none⟩, []⟩]))))))) (.seq (.seq (.reg [⟨⟨some 31, Op.move (Operand.tmp 0), none⟩, []⟩,
  ⟨⟨some 32, Op.call { callee := (Callee.builtin Builtin.len), args := #[(Operand.tmp 31)], argTypes := #[34] }, none⟩, []⟩,
  ⟨⟨some 33, Op.move (Operand.tmp 1), none⟩, []⟩,
  ⟨⟨some 34, Op.call { callee := (Callee.builtin Builtin.len), args := #[(Operand.tmp 33)], argTypes := #[34] }, none⟩, []⟩,
  ⟨⟨some 35, Op.binOp BinOp.lss 3 (Operand.tmp 32) (Operand.tmp 34) 3, none⟩, []⟩]) (.cond (Operand.tmp 35) (.seq (.reg [⟨⟨some 4, Op.assign (Operand.const (Value.int IntKind.i64 (-1))), none⟩, []⟩]) .ret) .skip)) (.seq (.reg [⟨⟨some 4, Op.assign (Operand.const (Value.int IntKind.i64 0)), none⟩, []⟩]) .ret))))
theorem sl127 : slim Tryz.f127.ntmps ords127 (Tryz.f127.body.getD .skip) = some cd127 := by kernel_rfl
theorem in127 {args : List Value} {H : AH} {R : Value → AH → Prop} (hl : args.length = 2) (h : ∀ (Q : Exit → Sl → AH → Prop), (∀ e s H, endA Tryz.prog [ResultVar.tmp 4] R e s H → Q e s H) → wpC Tryz.prog cd127 Q (enterA args) H) : ACalls Tryz.prog 127 args H R :=
  ACalls.intro (by kernel_rfl) Tryz.func127 rfl (by kernel_rfl) sl127 hl (of_decide_eq_true (by kernel_rfl)) (by kernel_rfl) h
def ords218 : List (Nat × List (Nat × Bool)) := [(1, [(0, false), (1, false), (2, false), (3, false), (4, false), (5, false), (6, false), (7, false), (8, false), (9, true), (10, false)])]
def cd218 : Cd := (.seq (.reg [⟨⟨some 10, Op.assign (Operand.const (Value.int IntKind.i64 0)), none⟩, []⟩,
  ⟨⟨some 11, Op.assign (Operand.const (Value.int IntKind.i64 0)), none⟩, []⟩]) (.seq (.seq (.reg [⟨⟨some 12, Op.move (Operand.tmp 4), none⟩, []⟩,
  ⟨⟨some 13, Op.move (Operand.tmp 0), none⟩, []⟩,
  ⟨⟨some 14, Op.move (Operand.tmp 2), none⟩, []⟩,
  ⟨⟨some 15, Op.indexAddr 25 (Operand.tmp 13) (Operand.tmp 14), none⟩, []⟩,
  ⟨⟨some 16, Op.load 34 (Operand.tmp 15), none⟩, []⟩,
  ⟨⟨some 17, Op.move (Operand.tmp 0), none⟩, []⟩,
  ⟨⟨some 18, Op.move (Operand.tmp 1), none⟩, []⟩,
  ⟨⟨some 19, Op.indexAddr 25 (Operand.tmp 17) (Operand.tmp 18), none⟩, []⟩,
  ⟨⟨some 20, Op.load 34 (Operand.tmp 19), none⟩, []⟩,
  ⟨⟨some 21, Op.call { callee := (Callee.value (Operand.tmp 12)), args := #[(Operand.tmp 16), (Operand.tmp 20)], argTypes := #[34, 34] }, none⟩, []⟩,
  ⟨⟨some 22, Op.binOp BinOp.lss 3 (Operand.tmp 21) (Operand.const (Value.int IntKind.i64 0)) 3, none⟩, []⟩]) (.cond (Operand.tmp 22) (.seq (.reg [⟨⟨some 23, Op.move (Operand.tmp 3), none⟩, []⟩,
  ⟨⟨some 24, Op.nilCheck (Operand.tmp 23), none⟩, []⟩,
  ⟨⟨some 25, Op.load 3 (Operand.tmp 24), none⟩, []⟩,
  ⟨⟨some 26, Op.binOp BinOp.add 3 (Operand.tmp 25) (Operand.const (Value.int IntKind.i64 1)) 3, none⟩, []⟩,
  ⟨⟨some 27, Op.nilCheck (Operand.tmp 23), none⟩, []⟩,
  ⟨⟨none, Op.store 3 (Operand.tmp 27) (Operand.tmp 26), none⟩, []⟩]) (.seq (.reg [⟨⟨some 28, Op.move (Operand.tmp 2), none⟩, []⟩,
  ⟨⟨some 29, Op.move (Operand.tmp 1), none⟩, []⟩,
  ⟨⟨some 10, Op.assign (Operand.tmp 28), none⟩, []⟩,
  ⟨⟨some 11, Op.assign (Operand.tmp 29), none⟩, []⟩]) .ret)) .skip)) (.seq (.reg [⟨⟨some 30, Op.move (Operand.tmp 1), none⟩, []⟩,
  ⟨⟨some 31, Op.move (Operand.tmp 2), none⟩, []⟩,
  ⟨⟨some 10, Op.assign (Operand.tmp 30), none⟩, []⟩,
  ⟨⟨some 11, Op.assign (Operand.tmp 31), none⟩, []⟩]) .ret)))
theorem sl218 : slim Tryz.f218.ntmps ords218 (Tryz.f218.body.getD .skip) = some cd218 := by kernel_rfl
theorem in218 {args : List Value} {H : AH} {R : Value → AH → Prop} (hl : args.length = 5) (h : ∀ (Q : Exit → Sl → AH → Prop), (∀ e s H, endA Tryz.prog [ResultVar.tmp 10, ResultVar.tmp 11] R e s H → Q e s H) → wpC Tryz.prog cd218 Q (enterA args) H) : ACalls Tryz.prog 218 args H R :=
  ACalls.intro (by kernel_rfl) Tryz.func218 rfl (by kernel_rfl) sl218 hl (of_decide_eq_true (by kernel_rfl)) (by kernel_rfl) h
def ords213 : List (Nat × List (Nat × Bool)) := []
def cd213 : Cd := (.seq (.reg [⟨⟨some 12, Op.assign (Operand.const (Value.int IntKind.i64 0)), none⟩, []⟩]) (.seq (.reg [⟨⟨some 14, Op.move (Operand.tmp 0), none⟩, []⟩,
  ⟨⟨some 15, Op.move (Operand.tmp 1), none⟩, []⟩,
  ⟨⟨some 16, Op.move (Operand.tmp 2), none⟩, []⟩,
  ⟨⟨some 17, Op.move (Operand.tmp 4), none⟩, []⟩,
  ⟨⟨some 18, Op.move (Operand.tmp 5), none⟩, []⟩,
  ⟨⟨some 19, Op.call { callee := (Callee.value (Operand.func 218)), args := #[(Operand.tmp 14), (Operand.tmp 15), (Operand.tmp 16), (Operand.tmp 17), (Operand.tmp 18)], argTypes := #[25, 3, 3, 169, 125] }, none⟩, []⟩,
  ⟨⟨some 13, Op.move (Operand.tmp 19), none⟩, []⟩,
  ⟨⟨some 20, Op.extract (Operand.tmp 13) 0, none⟩, []⟩,
  ⟨⟨some 21, Op.extract (Operand.tmp 13) 1, none⟩, []⟩,
  ⟨⟨some 1, Op.assign (Operand.tmp 20), none⟩, []⟩,
  ⟨⟨some 2, Op.assign (Operand.tmp 21), none⟩, []⟩]) (.seq (.reg [⟨⟨some 23, Op.move (Operand.tmp 0), none⟩, []⟩,
  ⟨⟨some 24, Op.move (Operand.tmp 2), none⟩, []⟩,
  ⟨⟨some 25, Op.move (Operand.tmp 3), none⟩, []⟩,
  ⟨⟨some 26, Op.move (Operand.tmp 4), none⟩, []⟩,
  ⟨⟨some 27, Op.move (Operand.tmp 5), none⟩, []⟩,
  ⟨⟨some 28, Op.call { callee := (Callee.value (Operand.func 218)), args := #[(Operand.tmp 23), (Operand.tmp 24), (Operand.tmp 25), (Operand.tmp 26), (Operand.tmp 27)], argTypes := #[25, 3, 3, 169, 125] }, none⟩, []⟩,
  ⟨⟨some 22, Op.move (Operand.tmp 28), none⟩, []⟩,
  ⟨⟨some 29, Op.extract (Operand.tmp 22) 0, none⟩, []⟩,
  ⟨⟨some 30, Op.extract (Operand.tmp 22) 1, none⟩, []⟩,
  ⟨⟨some 2, Op.assign (Operand.tmp 29), none⟩, []⟩,
  ⟨⟨some 3, Op.assign (Operand.tmp 30), none⟩, []⟩]) (.seq (.reg [⟨⟨some 32, Op.move (Operand.tmp 0), none⟩, []⟩,
  ⟨⟨some 33, Op.move (Operand.tmp 1), none⟩, []⟩,
  ⟨⟨some 34, Op.move (Operand.tmp 2), none⟩, []⟩,
  ⟨⟨some 35, Op.move (Operand.tmp 4), none⟩, []⟩,
  ⟨⟨some 36, Op.move (Operand.tmp 5), none⟩, []⟩,
  ⟨⟨some 37, Op.call { callee := (Callee.value (Operand.func 218)), args := #[(Operand.tmp 32), (Operand.tmp 33), (Operand.tmp 34), (Operand.tmp 35), (Operand.tmp 36)], argTypes := #[25, 3, 3, 169, 125] }, none⟩, []⟩,
  ⟨⟨some 31, Op.move (Operand.tmp 37), none⟩, []⟩,
  ⟨⟨some 38, Op.extract (Operand.tmp 31) 0, none⟩, []⟩,
  ⟨⟨some 39, Op.extract (Operand.tmp 31) 1, none⟩, []⟩,
  ⟨⟨some 1, Op.assign (Operand.tmp 38), none⟩, []⟩,
  ⟨⟨some 2, Op.assign (Operand.tmp 39), none⟩, []⟩]) (.seq (.reg [⟨⟨some 40, Op.move (Operand.tmp 2), none⟩, []⟩,
  ⟨⟨some 12, Op.assign (Operand.tmp 40), none⟩, []⟩]) .ret)))))
theorem sl213 : slim Tryz.f213.ntmps ords213 (Tryz.f213.body.getD .skip) = some cd213 := by kernel_rfl
theorem in213 {args : List Value} {H : AH} {R : Value → AH → Prop} (hl : args.length = 6) (h : ∀ (Q : Exit → Sl → AH → Prop), (∀ e s H, endA Tryz.prog [ResultVar.tmp 12] R e s H → Q e s H) → wpC Tryz.prog cd213 Q (enterA args) H) : ACalls Tryz.prog 213 args H R :=
  ACalls.intro (by kernel_rfl) Tryz.func213 rfl (by kernel_rfl) sl213 hl (of_decide_eq_true (by kernel_rfl)) (by kernel_rfl) h
def ords212 : List (Nat × List (Nat × Bool)) := []
def cd212 : Cd := (.seq (.reg [⟨⟨some 8, Op.assign (Operand.const (Value.int IntKind.i64 0)), none⟩, []⟩]) (.seq (.reg [⟨⟨some 9, Op.move (Operand.tmp 0), none⟩, []⟩,
  ⟨⟨some 10, Op.move (Operand.tmp 1), none⟩, []⟩,
  ⟨⟨some 11, Op.binOp BinOp.sub 3 (Operand.tmp 10) (Operand.const (Value.int IntKind.i64 1)) 3, none⟩, []⟩,
  ⟨⟨some 12, Op.move (Operand.tmp 1), none⟩, []⟩,
  ⟨⟨some 13, Op.move (Operand.tmp 1), none⟩, []⟩,
  ⟨⟨some 14, Op.binOp BinOp.add 3 (Operand.tmp 13) (Operand.const (Value.int IntKind.i64 1)) 3, none⟩, []⟩,
  ⟨⟨some 15, Op.move (Operand.tmp 2), none⟩, []⟩,
  ⟨⟨some 16, Op.move (Operand.tmp 3), none⟩, []⟩,
  ⟨⟨some 17, Op.call { callee := (Callee.value (Operand.func 213)), args := #[(Operand.tmp 9), (Operand.tmp 11), (Operand.tmp 12), (Operand.tmp 14), (Operand.tmp 15), (Operand.tmp 16)], argTypes := #[25, 3, 3, 3, 169, 125] }, none⟩, []⟩,
  ⟨⟨some 8, Op.assign (Operand.tmp 17), none⟩, []⟩]) .ret))
theorem sl212 : slim Tryz.f212.ntmps ords212 (Tryz.f212.body.getD .skip) = some cd212 := by kernel_rfl
theorem in212 {args : List Value} {H : AH} {R : Value → AH → Prop} (hl : args.length = 4) (h : ∀ (Q : Exit → Sl → AH → Prop), (∀ e s H, endA Tryz.prog [ResultVar.tmp 8] R e s H → Q e s H) → wpC Tryz.prog cd212 Q (enterA args) H) : ACalls Tryz.prog 212 args H R :=
  ACalls.intro (by kernel_rfl) Tryz.func212 rfl (by kernel_rfl) sl212 hl (of_decide_eq_true (by kernel_rfl)) (by kernel_rfl) h
def ords197 : List (Nat × List (Nat × Bool)) := [(5, [(0, false), (1, false), (2, false), (3, false), (4, false), (5, false), (6, false), (7, false), (8, false), (9, false), (10, false), (11, false), (12, false), (13, false), (14, true), (15, false), (16, false), (17, false)]), (11, [(0, false), (1, false), (2, false), (3, false), (4, false), (5, false), (6, false), (7, false), (8, false), (9, false), (10, false), (11, false), (12, false), (13, false), (14, false), (15, true), (16, false), (17, true)]), (16, [(0, false), (1, false), (2, false), (3, false), (4, false), (5, false), (6, false), (7, false), (8, false), (9, false), (10, true), (11, false), (12, false)]), (17, [(0, false), (1, false), (2, false), (3, false), (4, false), (5, false), (6, false), (7, false), (8, false), (9, false), (10, false), (11, false), (12, false), (13, false), (14, false), (15, true), (16, false), (17, true)]), (22, [(0, false), (1, false), (2, false), (3, false), (4, false), (5, false), (6, false), (7, false), (8, false), (9, false), (10, true), (11, false), (12, false)]), (23, [(0, false), (1, false), (2, false), (3, false), (4, false), (5, false), (6, false), (7, false), (8, false), (9, false), (10, false), (11, false), (12, false), (13, false), (14, false), (15, true), (16, false), (17, true)])]
def cd197 : Cd := (.seq (.reg [⟨⟨some 8, Op.assign (Operand.const (Value.bool false)), none⟩, []⟩]) (.seq (.reg [⟨⟨some 13, Op.move (Operand.tmp 1), none⟩, []⟩,
  ⟨⟨some 14, Op.binOp BinOp.add 3 (Operand.tmp 13) (Operand.const (Value.int IntKind.i64 1)) 3, none⟩, []⟩,
  ⟨⟨some 9, Op.assign (Operand.tmp 14), none⟩, []⟩]) (.seq (.seq (.reg [⟨⟨some 10, Op.assign (Operand.const (Value.int IntKind.i64 0)), none⟩, []⟩]) (.block 0 (.loop (.seq (.seq (.reg [⟨⟨some 15, Op.move (Operand.tmp 10), none⟩, []⟩,
  ⟨⟨some 16, Op.binOp BinOp.lss 3 (Operand.tmp 15) (Operand.const (Value.int IntKind.i64 5)) 3, none⟩, []⟩]) (.cond (Operand.tmp 16) .skip (.exit 0))) (.seq (.block 1 (.seq (.block 2 (.loop (.seq (.seq (.reg [⟨⟨some 19, Op.move (Operand.tmp 9), none⟩, []⟩,
  ⟨⟨some 20, Op.move (Operand.tmp 2), none⟩, []⟩,
  ⟨⟨some 21, Op.binOp BinOp.lss 3 (Operand.tmp 19) (Operand.tmp 20) 3, none⟩, []⟩,
  ⟨⟨some 22, Op.move (Operand.tmp 21), none⟩, []⟩,
  ⟨⟨some 23, Op.move (Operand.tmp 3), some (22, true)⟩, []⟩,
  ⟨⟨some 24, Op.move (Operand.tmp 0), some (22, true)⟩, []⟩,
  ⟨⟨some 25, Op.move (Operand.tmp 9), some (22, true)⟩, []⟩,
  ⟨⟨some 26, Op.indexAddr 25 (Operand.tmp 24) (Operand.tmp 25), some (22, true)⟩, []⟩,
  ⟨⟨some 27, Op.load 34 (Operand.tmp 26), some (22, true)⟩, []⟩,
  ⟨⟨some 28, Op.move (Operand.tmp 0), some (22, true)⟩, []⟩,
  ⟨⟨some 29, Op.move (Operand.tmp 9), some (22, true)⟩, []⟩,
  ⟨⟨some 30, Op.binOp BinOp.sub 3 (Operand.tmp 29) (Operand.const (Value.int IntKind.i64 1)) 3, some (22, true)⟩, []⟩,
  ⟨⟨some 31, Op.indexAddr 25 (Operand.tmp 28) (Operand.tmp 30), some (22, true)⟩, []⟩,
  ⟨⟨some 32, Op.load 34 (Operand.tmp 31), some (22, true)⟩, []⟩,
  ⟨⟨some 33, Op.call { callee := (Callee.value (Operand.tmp 23)), args := #[(Operand.tmp 27), (Operand.tmp 32)], argTypes := #[34, 34] }, some (22, true)⟩, []⟩,
  ⟨⟨some 34, Op.binOp BinOp.lss 3 (Operand.tmp 33) (Operand.const (Value.int IntKind.i64 0)) 3, some (22, true)⟩, []⟩,
  ⟨⟨some 35, Op.unOp UnOp.not 4 (Operand.tmp 34), some (22, true)⟩, []⟩,
  ⟨⟨some 36, Op.pick (Operand.tmp 22) (Operand.tmp 35) (Operand.const (Value.bool false)), none⟩, []⟩]) (.cond (Operand.tmp 36) .skip (.exit 2))) (.block 3 (.reg [⟨⟨some 37, Op.move (Operand.tmp 9), none⟩, []⟩,
  ⟨⟨some 38, Op.binOp BinOp.add 3 (Operand.tmp 37) (Operand.const (Value.int IntKind.i64 1)) 3, none⟩, []⟩,
  ⟨⟨some 9, Op.assign (Operand.tmp 38), none⟩, []⟩]))))) (.seq (.seq (.reg [⟨⟨some 39, Op.move (Operand.tmp 9), none⟩, []⟩,
  ⟨⟨some 40, Op.move (Operand.tmp 2), none⟩, []⟩,
  ⟨⟨some 41, Op.binOp BinOp.eql 3 (Operand.tmp 39) (Operand.tmp 40) 3, none⟩, []⟩]) (.cond (Operand.tmp 41) (.seq (.reg [⟨⟨some 8, Op.assign (Operand.const (Value.bool true)), none⟩, []⟩]) .ret) .skip)) (.seq (.seq (.reg [⟨⟨some 42, Op.move (Operand.tmp 2), none⟩, []⟩,
  ⟨⟨some 43, Op.move (Operand.tmp 1), none⟩, []⟩,
  ⟨⟨some 44, Op.binOp BinOp.sub 3 (Operand.tmp 42) (Operand.tmp 43) 3, none⟩, []⟩,
  ⟨⟨some 45, Op.binOp BinOp.lss 3 (Operand.tmp 44) (Operand.const (Value.int IntKind.i64 50)) 3, none⟩, []⟩]) (.cond (Operand.tmp 45) (.seq (.reg [⟨⟨some 8, Op.assign (Operand.const (Value.bool false)), none⟩, []⟩]) .ret) .skip)) (.seq (.reg [⟨⟨some 46, Op.move (Operand.tmp 0), none⟩, []⟩,
  ⟨⟨some 47, Op.move (Operand.tmp 9), none⟩, []⟩,
  ⟨⟨some 48, Op.move (Operand.tmp 0), none⟩, []⟩,
  ⟨⟨some 49, Op.move (Operand.tmp 9), none⟩, []⟩,
  ⟨⟨some 50, Op.binOp BinOp.sub 3 (Operand.tmp 49) (Operand.const (Value.int IntKind.i64 1)) 3, none⟩, []⟩,
  ⟨⟨some 51, Op.move (Operand.tmp 0), none⟩, []⟩,
  ⟨⟨some 52, Op.move (Operand.tmp 9), none⟩, []⟩,
  ⟨⟨some 53, Op.binOp BinOp.sub 3 (Operand.tmp 52) (Operand.const (Value.int IntKind.i64 1)) 3, none⟩, []⟩,
  ⟨⟨some 54, Op.indexAddr 25 (Operand.tmp 51) (Operand.tmp 53), none⟩, []⟩,
  ⟨⟨some 55, Op.load 34 (Operand.tmp 54), none⟩, []⟩,
  ⟨⟨some 56, Op.move (Operand.tmp 0), none⟩, []⟩,
  ⟨⟨some 57, Op.move (Operand.tmp 9), none⟩, []⟩,
  ⟨⟨some 58, Op.indexAddr 25 (Operand.tmp 56) (Operand.tmp 57), none⟩, []⟩,
  ⟨⟨some 59, Op.load 34 (Operand.tmp 58), none⟩, []⟩,
  ⟨⟨some 60, Op.indexAddr 25 (Operand.tmp 46) (Operand.tmp 47), none⟩, []⟩,
  ⟨⟨none, Op.store 34 (Operand.tmp 60) (Operand.tmp 55), none⟩, []⟩,
  ⟨⟨some 61, Op.indexAddr 25 (Operand.tmp 48) (Operand.tmp 50), none⟩, []⟩,
  ⟨⟨none, Op.store 34 (Operand.tmp 61) (Operand.tmp 59), none⟩, []⟩]) (.seq (.seq (.reg [⟨⟨some 62, Op.move (Operand.tmp 9), none⟩, []⟩,
  ⟨⟨some 63, Op.move (Operand.tmp 1), none⟩, []⟩,
  ⟨⟨some 64, Op.binOp BinOp.sub 3 (Operand.tmp 62) (Operand.tmp 63) 3, none⟩, []⟩,
  ⟨⟨some 65, Op.binOp BinOp.geq 3 (Operand.tmp 64) (Operand.const (Value.int IntKind.i64 2)) 3, none⟩, []⟩]) (.cond (Operand.tmp 65) (.seq (.reg [⟨⟨some 66, Op.move (Operand.tmp 9), none⟩, []⟩,
  ⟨⟨some 67, Op.binOp BinOp.sub 3 (Operand.tmp 66) (Operand.const (Value.int IntKind.i64 1)) 3, none⟩, []⟩,
  ⟨⟨some 11, Op.assign (Operand.tmp 67), none⟩, []⟩]) (.block 4 (.loop (.seq (.seq (.reg [⟨⟨some 68, Op.move (Operand.tmp 11), none⟩, []⟩,
  ⟨⟨some 69, Op.binOp BinOp.geq 3 (Operand.tmp 68) (Operand.const (Value.int IntKind.i64 1)) 3, none⟩, []⟩]) (.cond (Operand.tmp 69) .skip (.exit 4))) (.seq (.block 5 (.seq (.seq (.reg [⟨⟨some 72, Op.move (Operand.tmp 3), none⟩, []⟩,
  ⟨⟨some 73, Op.move (Operand.tmp 0), none⟩, []⟩,
  ⟨⟨some 74, Op.move (Operand.tmp 11), none⟩, []⟩,
  ⟨⟨some 75, Op.indexAddr 25 (Operand.tmp 73) (Operand.tmp 74), none⟩, []⟩,
  ⟨⟨some 76, Op.load 34 (Operand.tmp 75), none⟩, []⟩,
  ⟨⟨some 77, Op.move (Operand.tmp 0), none⟩, []⟩,
  ⟨⟨some 78, Op.move (Operand.tmp 11), none⟩, []⟩,
  ⟨⟨some 79, Op.binOp BinOp.sub 3 (Operand.tmp 78) (Operand.const (Value.int IntKind.i64 1)) 3, none⟩, []⟩,
  ⟨⟨some 80, Op.indexAddr 25 (Operand.tmp 77) (Operand.tmp 79), none⟩, []⟩,
  ⟨⟨some 81, Op.load 34 (Operand.tmp 80), none⟩, []⟩,
  ⟨⟨some 82, Op.call { callee := (Callee.value (Operand.tmp 72)), args := #[(Operand.tmp 76), (Operand.tmp 81)], argTypes := #[34, 34] }, none⟩, []⟩,
  ⟨⟨some 83, Op.binOp BinOp.lss 3 (Operand.tmp 82) (Operand.const (Value.int IntKind.i64 0)) 3, none⟩, []⟩,
  ⟨⟨some 84, Op.unOp UnOp.not 4 (Operand.tmp 83), none⟩, []⟩]) (.cond (Operand.tmp 84) (.exit 4) .skip)) (.reg [⟨⟨some 85, Op.move (Operand.tmp 0), none⟩, []⟩,
  ⟨⟨some 86, Op.move (Operand.tmp 11), none⟩, []⟩,
  ⟨⟨some 87, Op.move (Operand.tmp 0), none⟩, []⟩,
  ⟨⟨some 88, Op.move (Operand.tmp 11), none⟩, []⟩,
  ⟨⟨some 89, Op.binOp BinOp.sub 3 (Operand.tmp 88) (Operand.const (Value.int IntKind.i64 1)) 3, none⟩, []⟩,
  ⟨⟨some 90, Op.move (Operand.tmp 0), none⟩, []⟩,
  ⟨⟨some 91, Op.move (Operand.tmp 11), none⟩, []⟩,
  ⟨⟨some 92, Op.binOp BinOp.sub 3 (Operand.tmp 91) (Operand.const (Value.int IntKind.i64 1)) 3, none⟩, []⟩,
  ⟨⟨some 93, Op.indexAddr 25 (Operand.tmp 90) (Operand.tmp 92), none⟩, []⟩,
  ⟨⟨some 94, Op.load 34 (Operand.tmp 93), none⟩, []⟩,
  ⟨⟨some 95, Op.move (Operand.tmp 0), none⟩, []⟩,
  ⟨⟨some 96, Op.move (Operand.tmp 11), none⟩, []⟩,
  ⟨⟨some 97, Op.indexAddr 25 (Operand.tmp 95) (Operand.tmp 96), none⟩, []⟩,
  ⟨⟨some 98, Op.load 34 (Operand.tmp 97), none⟩, []⟩,
  ⟨⟨some 99, Op.indexAddr 25 (Operand.tmp 85) (Operand.tmp 86), none⟩, []⟩,
  ⟨⟨none, Op.store 34 (Operand.tmp 99) (Operand.tmp 94), none⟩, []⟩,
  ⟨⟨some 100, Op.indexAddr 25 (Operand.tmp 87) (Operand.tmp 89), none⟩, []⟩,
  ⟨⟨none, Op.store 34 (Operand.tmp 100) (Operand.tmp 98), none⟩, []⟩]))) (.reg [⟨⟨some 70, Op.move (Operand.tmp 11), none⟩, []⟩,
  ⟨⟨some 71, Op.binOp BinOp.sub 3 (Operand.tmp 70) (Operand.const (Value.int IntKind.i64 1)) 3, none⟩, []⟩,
  ⟨⟨some 11, Op.assign (Operand.tmp 71), none⟩, []⟩])))))) .skip)) (.seq (.reg [⟨⟨some 101, Op.move (Operand.tmp 2), none⟩, []⟩,
  ⟨⟨some 102, Op.move (Operand.tmp 9), none⟩, []⟩,
  ⟨⟨some 103, Op.binOp BinOp.sub 3 (Operand.tmp 101) (Operand.tmp 102) 3, none⟩, []⟩,
  ⟨⟨some 104, Op.binOp BinOp.geq 3 (Operand.tmp 103) (Operand.const (Value.int IntKind.i64 2)) 3, none⟩, []⟩]) (.cond (Operand.tmp 104) (.seq (.reg [⟨⟨some 105, Op.move (Operand.tmp 9), none⟩, []⟩,
  ⟨⟨some 106, Op.binOp BinOp.add 3 (Operand.tmp 105) (Operand.const (Value.int IntKind.i64 1)) 3, none⟩, []⟩,
  ⟨⟨some 12, Op.assign (Operand.tmp 106), none⟩, []⟩]) (.block 6 (.loop (.seq (.seq (.reg [⟨⟨some 107, Op.move (Operand.tmp 12), none⟩, []⟩,
  ⟨⟨some 108, Op.move (Operand.tmp 2), none⟩, []⟩,
  ⟨⟨some 109, Op.binOp BinOp.lss 3 (Operand.tmp 107) (Operand.tmp 108) 3, none⟩, []⟩]) (.cond (Operand.tmp 109) .skip (.exit 6))) (.seq (.block 7 (.seq (.seq (.reg [⟨⟨some 112, Op.move (Operand.tmp 3), none⟩, []⟩,
  ⟨⟨some 113, Op.move (Operand.tmp 0), none⟩, []⟩,
  ⟨⟨some 114, Op.move (Operand.tmp 12), none⟩, []⟩,
  ⟨⟨some 115, Op.indexAddr 25 (Operand.tmp 113) (Operand.tmp 114), none⟩, []⟩,
  ⟨⟨some 116, Op.load 34 (Operand.tmp 115), none⟩, []⟩,
  ⟨⟨some 117, Op.move (Operand.tmp 0), none⟩, []⟩,
  ⟨⟨some 118, Op.move (Operand.tmp 12), none⟩, []⟩,
  ⟨⟨some 119, Op.binOp BinOp.sub 3 (Operand.tmp 118) (Operand.const (Value.int IntKind.i64 1)) 3, none⟩, []⟩,
  ⟨⟨some 120, Op.indexAddr 25 (Operand.tmp 117) (Operand.tmp 119), none⟩, []⟩,
  ⟨⟨some 121, Op.load 34 (Operand.tmp 120), none⟩, []⟩,
  ⟨⟨some 122, Op.call { callee := (Callee.value (Operand.tmp 112)), args := #[(Operand.tmp 116), (Operand.tmp 121)], argTypes := #[34, 34] }, none⟩, []⟩,
  ⟨⟨some 123, Op.binOp BinOp.lss 3 (Operand.tmp 122) (Operand.const (Value.int IntKind.i64 0)) 3, none⟩, []⟩,
  ⟨⟨some 124, Op.unOp UnOp.not 4 (Operand.tmp 123), none⟩, []⟩]) (.cond (Operand.tmp 124) (.exit 6) .skip)) (.reg [⟨⟨some 125, Op.move (Operand.tmp 0), none⟩, []⟩,
  ⟨⟨some 126, Op.move (Operand.tmp 12), none⟩, []⟩,
  ⟨⟨some 127, Op.move (Operand.tmp 0), none⟩, []⟩,
  ⟨⟨some 128, Op.move (Operand.tmp 12), none⟩, []⟩,
  ⟨⟨some 129, Op.binOp BinOp.sub 3 (Operand.tmp 128) (Operand.const (Value.int IntKind.i64 1)) 3, none⟩, []⟩,
  ⟨⟨some 130, Op.move (Operand.tmp 0), none⟩, []⟩,
  ⟨⟨some 131, Op.move (Operand.tmp 12), none⟩, []⟩,
  ⟨⟨some 132, Op.binOp BinOp.sub 3 (Operand.tmp 131) (Operand.const (Value.int IntKind.i64 1)) 3, none⟩, []⟩,
  ⟨⟨some 133, Op.indexAddr 25 (Operand.tmp 130) (Operand.tmp 132), none⟩, []⟩,
  ⟨⟨some 134, Op.load 34 (Operand.tmp 133), none⟩, []⟩,
  ⟨⟨some 135, Op.move (Operand.tmp 0), none⟩, []⟩,
  ⟨⟨some 136, Op.move (Operand.tmp 12), none⟩, []⟩,
  ⟨⟨some 137, Op.indexAddr 25 (Operand.tmp 135) (Operand.tmp 136), none⟩, []⟩,
  ⟨⟨some 138, Op.load 34 (Operand.tmp 137), none⟩, []⟩,
  ⟨⟨some 139, Op.indexAddr 25 (Operand.tmp 125) (Operand.tmp 126), none⟩, []⟩,
  ⟨⟨none, Op.store 34 (Operand.tmp 139) (Operand.tmp 134), none⟩, []⟩,
  ⟨⟨some 140, Op.indexAddr 25 (Operand.tmp 127) (Operand.tmp 129), none⟩, []⟩,
  ⟨⟨none, Op.store 34 (Operand.tmp 140) (Operand.tmp 138), none⟩, []⟩]))) (.reg [⟨⟨some 110, Op.move (Operand.tmp 12), none⟩, []⟩,
  ⟨⟨some 111, Op.binOp BinOp.add 3 (Operand.tmp 110) (Operand.const (Value.int IntKind.i64 1)) 3, none⟩, []⟩,
  ⟨⟨some 12, Op.assign (Operand.tmp 111), none⟩, []⟩])))))) .skip)))))))) (.reg [⟨⟨some 17, Op.move (Operand.tmp 10), none⟩, []⟩,
  ⟨⟨some 18, Op.binOp BinOp.add 3 (Operand.tmp 17) (Operand.const (Value.int IntKind.i64 1)) 3, none⟩, []⟩,
  ⟨⟨some 10, Op.assign (Operand.tmp 18), none⟩, []⟩])))))) (.seq (.reg [⟨⟨some 8, Op.assign (Operand.const (Value.bool false)), none⟩, []⟩]) .ret))))
theorem sl197 : slim Tryz.f197.ntmps ords197 (Tryz.f197.body.getD .skip) = some cd197 := by kernel_rfl
theorem in197 {args : List Value} {H : AH} {R : Value → AH → Prop} (hl : args.length = 4) (h : ∀ (Q : Exit → Sl → AH → Prop), (∀ e s H, endA Tryz.prog [ResultVar.tmp 8] R e s H → Q e s H) → wpC Tryz.prog cd197 Q (enterA args) H) : ACalls Tryz.prog 197 args H R :=
  ACalls.intro (by kernel_rfl) Tryz.func197 rfl (by kernel_rfl) sl197 hl (of_decide_eq_true (by kernel_rfl)) (by kernel_rfl) h
def ords192 : List (Nat × List (Nat × Bool)) := [(4, [(0, false), (1, false), (2, false), (3, false), (4, false), (5, false), (6, false), (7, false), (8, false), (9, false), (10, false), (11, false), (12, false), (13, false), (14, true), (15, false), (16, false)]), (6, [(0, false), (1, false), (2, false), (3, false), (4, false), (5, false), (6, false), (7, false), (8, false), (9, false), (10, false), (11, false), (12, false), (13, false), (14, false), (15, true), (16, false), (17, true)])]
def cd192 : Cd := (.seq (.reg [⟨⟨some 10, Op.move (Operand.tmp 1), none⟩, []⟩,
  ⟨⟨some 11, Op.binOp BinOp.add 3 (Operand.tmp 10) (Operand.const (Value.int IntKind.i64 1)) 3, none⟩, []⟩,
  ⟨⟨some 8, Op.assign (Operand.tmp 11), none⟩, []⟩]) (.block 0 (.loop (.seq (.seq (.reg [⟨⟨some 12, Op.move (Operand.tmp 8), none⟩, []⟩,
  ⟨⟨some 13, Op.move (Operand.tmp 2), none⟩, []⟩,
  ⟨⟨some 14, Op.binOp BinOp.lss 3 (Operand.tmp 12) (Operand.tmp 13) 3, none⟩, []⟩]) (.cond (Operand.tmp 14) .skip (.exit 0))) (.seq (.block 1 (.seq (.reg [⟨⟨some 17, Op.move (Operand.tmp 8), none⟩, []⟩,
  ⟨⟨some 9, Op.assign (Operand.tmp 17), none⟩, []⟩]) (.block 2 (.loop (.seq (.seq (.reg [⟨⟨some 18, Op.move (Operand.tmp 9), none⟩, []⟩,
  ⟨⟨some 19, Op.move (Operand.tmp 1), none⟩, []⟩,
  ⟨⟨some 20, Op.binOp BinOp.gtr 3 (Operand.tmp 18) (Operand.tmp 19) 3, none⟩, []⟩,
  ⟨⟨some 21, Op.move (Operand.tmp 20), none⟩, []⟩,
  ⟨⟨some 22, Op.move (Operand.tmp 3), some (21, true)⟩, []⟩,
  ⟨⟨some 23, Op.move (Operand.tmp 0), some (21, true)⟩, []⟩,
  ⟨⟨some 24, Op.move (Operand.tmp 9), some (21, true)⟩, []⟩,
  ⟨⟨some 25, Op.indexAddr 25 (Operand.tmp 23) (Operand.tmp 24), some (21, true)⟩, []⟩,
  ⟨⟨some 26, Op.load 34 (Operand.tmp 25), some (21, true)⟩, []⟩,
  ⟨⟨some 27, Op.move (Operand.tmp 0), some (21, true)⟩, []⟩,
  ⟨⟨some 28, Op.move (Operand.tmp 9), some (21, true)⟩, []⟩,
  ⟨⟨some 29, Op.binOp BinOp.sub 3 (Operand.tmp 28) (Operand.const (Value.int IntKind.i64 1)) 3, some (21, true)⟩, []⟩,
  ⟨⟨some 30, Op.indexAddr 25 (Operand.tmp 27) (Operand.tmp 29), some (21, true)⟩, []⟩,
  ⟨⟨some 31, Op.load 34 (Operand.tmp 30), some (21, true)⟩, []⟩,
  ⟨⟨some 32, Op.call { callee := (Callee.value (Operand.tmp 22)), args := #[(Operand.tmp 26), (Operand.tmp 31)], argTypes := #[34, 34] }, some (21, true)⟩, []⟩,
  ⟨⟨some 33, Op.binOp BinOp.lss 3 (Operand.tmp 32) (Operand.const (Value.int IntKind.i64 0)) 3, some (21, true)⟩, []⟩,
  ⟨⟨some 34, Op.pick (Operand.tmp 21) (Operand.tmp 33) (Operand.const (Value.bool false)), none⟩, []⟩]) (.cond (Operand.tmp 34) .skip (.exit 2))) (.seq (.block 3 (.reg [⟨⟨some 37, Op.move (Operand.tmp 0), none⟩, []⟩,
  ⟨⟨some 38, Op.move (Operand.tmp 9), none⟩, []⟩,
  ⟨⟨some 39, Op.move (Operand.tmp 0), none⟩, []⟩,
  ⟨⟨some 40, Op.move (Operand.tmp 9), none⟩, []⟩,
  ⟨⟨some 41, Op.binOp BinOp.sub 3 (Operand.tmp 40) (Operand.const (Value.int IntKind.i64 1)) 3, none⟩, []⟩,
  ⟨⟨some 42, Op.move (Operand.tmp 0), none⟩, []⟩,
  ⟨⟨some 43, Op.move (Operand.tmp 9), none⟩, []⟩,
  ⟨⟨some 44, Op.binOp BinOp.sub 3 (Operand.tmp 43) (Operand.const (Value.int IntKind.i64 1)) 3, none⟩, []⟩,
  ⟨⟨some 45, Op.indexAddr 25 (Operand.tmp 42) (Operand.tmp 44), none⟩, []⟩,
  ⟨⟨some 46, Op.load 34 (Operand.tmp 45), none⟩, []⟩,
  ⟨⟨some 47, Op.move (Operand.tmp 0), none⟩, []⟩,
  ⟨⟨some 48, Op.move (Operand.tmp 9), none⟩, []⟩,
  ⟨⟨some 49, Op.indexAddr 25 (Operand.tmp 47) (Operand.tmp 48), none⟩, []⟩,
  ⟨⟨some 50, Op.load 34 (Operand.tmp 49), none⟩, []⟩,
  ⟨⟨some 51, Op.indexAddr 25 (Operand.tmp 37) (Operand.tmp 38), none⟩, []⟩,
  ⟨⟨none, Op.store 34 (Operand.tmp 51) (Operand.tmp 46), none⟩, []⟩,
  ⟨⟨some 52, Op.indexAddr 25 (Operand.tmp 39) (Operand.tmp 41), none⟩, []⟩,
  ⟨⟨none, Op.store 34 (Operand.tmp 52) (Operand.tmp 50), none⟩, []⟩])) (.reg [⟨⟨some 35, Op.move (Operand.tmp 9), none⟩, []⟩,
  ⟨⟨some 36, Op.binOp BinOp.sub 3 (Operand.tmp 35) (Operand.const (Value.int IntKind.i64 1)) 3, none⟩, []⟩,
  ⟨⟨some 9, Op.assign (Operand.tmp 36), none⟩, []⟩]))))))) (.reg [⟨⟨some 15, Op.move (Operand.tmp 8), none⟩, []⟩,
  ⟨⟨some 16, Op.binOp BinOp.add 3 (Operand.tmp 15) (Operand.const (Value.int IntKind.i64 1)) 3, none⟩, []⟩,
  ⟨⟨some 8, Op.assign (Operand.tmp 16), none⟩, []⟩]))))))
theorem sl192 : slim Tryz.f192.ntmps ords192 (Tryz.f192.body.getD .skip) = some cd192 := by kernel_rfl
theorem in192 {args : List Value} {H : AH} {R : Value → AH → Prop} (hl : args.length = 4) (h : ∀ (Q : Exit → Sl → AH → Prop), (∀ e s H, endA Tryz.prog [] R e s H → Q e s H) → wpC Tryz.prog cd192 Q (enterA args) H) : ACalls Tryz.prog 192 args H R :=
  ACalls.intro (by kernel_rfl) Tryz.func192 rfl (by kernel_rfl) sl192 hl (of_decide_eq_true (by kernel_rfl)) (by kernel_rfl) h
def ords195 : List (Nat × List (Nat × Bool)) := []
def cd195 : Cd := (.seq (.reg [⟨⟨some 8, Op.assign (Operand.const (Value.int IntKind.i64 0)), none⟩, []⟩,
  ⟨⟨some 9, Op.assign (Operand.const (Value.int IntKind.i64 0)), none⟩, []⟩]) (.seq (.reg [⟨⟨some 15, Op.move (Operand.tmp 2), none⟩, []⟩,
  ⟨⟨some 16, Op.move (Operand.tmp 1), none⟩, []⟩,
  ⟨⟨some 17, Op.binOp BinOp.sub 3 (Operand.tmp 15) (Operand.tmp 16) 3, none⟩, []⟩,
  ⟨⟨some 10, Op.assign (Operand.tmp 17), none⟩, []⟩]) (.seq (.reg [⟨⟨some 11, Op.alloc 3, none⟩, []⟩]) (.seq (.reg [⟨⟨some 18, Op.move (Operand.tmp 1), none⟩, []⟩,
  ⟨⟨some 19, Op.move (Operand.tmp 10), none⟩, []⟩,
  ⟨⟨some 20, Op.binOp BinOp.quo 3 (Operand.tmp 19) (Operand.const (Value.int IntKind.i64 4)) 3, none⟩, []⟩,
  ⟨⟨some 21, Op.binOp BinOp.mul 3 (Operand.tmp 20) (Operand.const (Value.int IntKind.i64 1)) 3, none⟩, []⟩,
  ⟨⟨some 22, Op.binOp BinOp.add 3 (Operand.tmp 18) (Operand.tmp 21) 3, none⟩, []⟩,
  ⟨⟨some 12, Op.assign (Operand.tmp 22), none⟩, []⟩]) (.seq (.reg [⟨⟨some 23, Op.move (Operand.tmp 1), none⟩, []⟩,
  ⟨⟨some 24, Op.move (Operand.tmp 10), none⟩, []⟩,
  ⟨⟨some 25, Op.binOp BinOp.quo 3 (Operand.tmp 24) (Operand.const (Value.int IntKind.i64 4)) 3, none⟩, []⟩,
  ⟨⟨some 26, Op.binOp BinOp.mul 3 (Operand.tmp 25) (Operand.const (Value.int IntKind.i64 2)) 3, none⟩, []⟩,
  ⟨⟨some 27, Op.binOp BinOp.add 3 (Operand.tmp 23) (Operand.tmp 26) 3, none⟩, []⟩,
  ⟨⟨some 13, Op.assign (Operand.tmp 27), none⟩, []⟩]) (.seq (.reg [⟨⟨some 28, Op.move (Operand.tmp 1), none⟩, []⟩,
  ⟨⟨some 29, Op.move (Operand.tmp 10), none⟩, []⟩,
  ⟨⟨some 30, Op.binOp BinOp.quo 3 (Operand.tmp 29) (Operand.const (Value.int IntKind.i64 4)) 3, none⟩, []⟩,
  ⟨⟨some 31, Op.binOp BinOp.mul 3 (Operand.tmp 30) (Operand.const (Value.int IntKind.i64 3)) 3, none⟩, []⟩,
  ⟨⟨some 32, Op.binOp BinOp.add 3 (Operand.tmp 28) (Operand.tmp 31) 3, none⟩, []⟩,
  ⟨⟨some 14, Op.assign (Operand.tmp 32), none⟩, []⟩]) (.seq (.seq (.reg [⟨⟨some 33, Op.move (Operand.tmp 10), none⟩, []⟩,
  ⟨⟨some 34, Op.binOp BinOp.geq 3 (Operand.tmp 33) (Operand.const (Value.int IntKind.i64 8)) 3, none⟩, []⟩]) (.cond (Operand.tmp 34) (.seq (.seq (.reg [⟨⟨some 35, Op.move (Operand.tmp 10), none⟩, []⟩,
  ⟨⟨some 36, Op.binOp BinOp.geq 3 (Operand.tmp 35) (Operand.const (Value.int IntKind.i64 50)) 3, none⟩, []⟩]) (.cond (Operand.tmp 36) (.seq (.reg [⟨⟨some 37, Op.move (Operand.tmp 0), none⟩, []⟩,
  ⟨⟨some 38, Op.move (Operand.tmp 12), none⟩, []⟩,
  ⟨⟨some 39, Op.move (Operand.tmp 3), none⟩, []⟩,
  ⟨⟨some 40, Op.call { callee := (Callee.value (Operand.func 212)), args := #[(Operand.tmp 37), (Operand.tmp 38), (Operand.tmp 11), (Operand.tmp 39)], argTypes := #[25, 3, 169, 125] }, none⟩, []⟩,
  ⟨⟨some 12, Op.assign (Operand.tmp 40), none⟩, []⟩]) (.seq (.reg [⟨⟨some 41, Op.move (Operand.tmp 0), none⟩, []⟩,
  ⟨⟨some 42, Op.move (Operand.tmp 13), none⟩, []⟩,
  ⟨⟨some 43, Op.move (Operand.tmp 3), none⟩, []⟩,
  ⟨⟨some 44, Op.call { callee := (Callee.value (Operand.func 212)), args := #[(Operand.tmp 41), (Operand.tmp 42), (Operand.tmp 11), (Operand.tmp 43)], argTypes := #[25, 3, 169, 125] }, none⟩, []⟩,
  ⟨⟨some 13, Op.assign (Operand.tmp 44), none⟩, []⟩]) (.reg [⟨⟨some 45, Op.move (Operand.tmp 0), none⟩, []⟩,
  ⟨⟨some 46, Op.move (Operand.tmp 14), none⟩, []⟩,
  ⟨⟨some 47, Op.move (Operand.tmp 3), none⟩, []⟩,
  ⟨⟨some 48, Op.call { callee := (Callee.value (Operand.func 212)), args := #[(Operand.tmp 45), (Operand.tmp 46), (Operand.tmp 11), (Operand.tmp 47)], argTypes := #[25, 3, 169, 125] }, none⟩, []⟩,
  ⟨⟨some 14, Op.assign (Operand.tmp 48), none⟩, []⟩]))) .skip)) (.reg [⟨⟨some 49, Op.move (Operand.tmp 0), none⟩, []⟩,
  ⟨⟨some 50, Op.move (Operand.tmp 12), none⟩, []⟩,
  ⟨⟨some 51, Op.move (Operand.tmp 13), none⟩, []⟩,
  ⟨⟨some 52, Op.move (Operand.tmp 14), none⟩, []⟩,
  ⟨⟨some 53, Op.move (Operand.tmp 3), none⟩, []⟩,
  ⟨⟨some 54, Op.call { callee := (Callee.value (Operand.func 213)), args := #[(Operand.tmp 49), (Operand.tmp 50), (Operand.tmp 51), (Operand.tmp 52), (Operand.tmp 11), (Operand.tmp 53)], argTypes := #[25, 3, 3, 3, 169, 125] }, none⟩, []⟩,
  ⟨⟨some 13, Op.assign (Operand.tmp 54), none⟩, []⟩])) .skip)) (.seq (.reg [⟨⟨some 55, Op.load 3 (Operand.tmp 11), none⟩, []⟩]) (.block 0 (.seq (.reg [⟨⟨some 58, Op.binOp BinOp.eql 3 (Operand.tmp 55) (Operand.const (Value.int IntKind.i64 0)) 3, none⟩, []⟩,
  ⟨⟨some 57, Op.assign (Operand.tmp 58), none⟩, []⟩]) (.cond (Operand.tmp 57) (.seq (.reg [⟨⟨some 59, Op.move (Operand.tmp 13), none⟩, []⟩,
  ⟨⟨some 8, Op.assign (Operand.tmp 59), none⟩, []⟩,
  ⟨⟨some 9, Op.assign (Operand.const (Value.int IntKind.i64 1)), none⟩, []⟩]) .ret) (.seq (.reg [⟨⟨some 61, Op.binOp BinOp.eql 3 (Operand.tmp 55) (Operand.const (Value.int IntKind.i64 12)) 3, none⟩, []⟩,
  ⟨⟨some 60, Op.assign (Operand.tmp 61), none⟩, []⟩]) (.cond (Operand.tmp 60) (.seq (.reg [⟨⟨some 62, Op.move (Operand.tmp 13), none⟩, []⟩,
  ⟨⟨some 8, Op.assign (Operand.tmp 62), none⟩, []⟩,
  ⟨⟨some 9, Op.assign (Operand.const (Value.int IntKind.i64 2)), none⟩, []⟩]) .ret) (.seq (.reg [⟨⟨some 56, Op.move (Operand.tmp 13), none⟩, []⟩,
  ⟨⟨some 8, Op.assign (Operand.tmp 56), none⟩, []⟩,
  ⟨⟨some 9, Op.assign (Operand.const (Value.int IntKind.i64 0)), none⟩, []⟩]) .ret))))))))))))))
theorem sl195 : slim Tryz.f195.ntmps ords195 (Tryz.f195.body.getD .skip) = some cd195 := by kernel_rfl
theorem in195 {args : List Value} {H : AH} {R : Value → AH → Prop} (hl : args.length = 4) (h : ∀ (Q : Exit → Sl → AH → Prop), (∀ e s H, endA Tryz.prog [ResultVar.tmp 8, ResultVar.tmp 9] R e s H → Q e s H) → wpC Tryz.prog cd195 Q (enterA args) H) : ACalls Tryz.prog 195 args H R :=
  ACalls.intro (by kernel_rfl) Tryz.func195 rfl (by kernel_rfl) sl195 hl (of_decide_eq_true (by kernel_rfl)) (by kernel_rfl) h
def ords169 : List (Nat × List (Nat × Bool)) := [(17, [(0, false), (1, false), (2, false), (3, false), (4, false), (5, false), (6, false), (7, false), (8, false), (9, false), (10, false), (11, false), (12, false), (13, true), (14, false), (15, false), (16, false)])]
def cd169 : Cd := (.seq (.reg [⟨⟨some 10, Op.assign (Operand.const (Value.bool true)), none⟩, []⟩]) (.seq (.reg [⟨⟨some 11, Op.assign (Operand.const (Value.bool true)), none⟩, []⟩]) (.block 0 (.loop (.block 1 (.seq (.reg [⟨⟨some 21, Op.move (Operand.tmp 2), none⟩, []⟩,
  ⟨⟨some 22, Op.move (Operand.tmp 1), none⟩, []⟩,
  ⟨⟨some 23, Op.binOp BinOp.sub 3 (Operand.tmp 21) (Operand.tmp 22) 3, none⟩, []⟩,
  ⟨⟨some 12, Op.assign (Operand.tmp 23), none⟩, []⟩]) (.seq (.seq (.reg [⟨⟨some 24, Op.move (Operand.tmp 12), none⟩, []⟩,
  ⟨⟨some 25, Op.binOp BinOp.leq 3 (Operand.tmp 24) (Operand.const (Value.int IntKind.i64 12)) 3, none⟩, []⟩]) (.cond (Operand.tmp 25) (.seq (.reg [⟨⟨some 26, Op.move (Operand.tmp 0), none⟩, []⟩,
  ⟨⟨some 27, Op.move (Operand.tmp 1), none⟩, []⟩,
  ⟨⟨some 28, Op.move (Operand.tmp 2), none⟩, []⟩,
  ⟨⟨some 29, Op.move (Operand.tmp 4), none⟩, []⟩,
  ⟨⟨some 30, Op.call { callee := (Callee.value (Operand.func 192)), args := #[(Operand.tmp 26), (Operand.tmp 27), (Operand.tmp 28), (Operand.tmp 29)], argTypes := #[25, 3, 3, 125] }, none⟩, []⟩]) .ret) .skip)) (.seq (.seq (.reg [⟨⟨some 31, Op.move (Operand.tmp 3), none⟩, []⟩,
  ⟨⟨some 32, Op.binOp BinOp.eql 3 (Operand.tmp 31) (Operand.const (Value.int IntKind.i64 0)) 3, none⟩, []⟩]) (.cond (Operand.tmp 32) (.seq (.reg [⟨⟨some 33, Op.move (Operand.tmp 0), none⟩, []⟩,
  ⟨⟨some 34, Op.move (Operand.tmp 1), none⟩, []⟩,
  ⟨⟨some 35, Op.move (Operand.tmp 2), none⟩, []⟩,
  ⟨⟨some 36, Op.move (Operand.tmp 4), none⟩, []⟩,
  ⟨⟨some 37, Op.call { callee := (Callee.value (Operand.func 193)), args := #[(Operand.tmp 33), (Operand.tmp 34), (Operand.tmp 35), (Operand.tmp 36)], argTypes := #[25, 3, 3, 125] }, none⟩, []⟩]) .ret) .skip)) (.seq (.seq (.reg [⟨⟨some 38, Op.move (Operand.tmp 10), none⟩, []⟩,
  ⟨⟨some 39, Op.unOp UnOp.not 4 (Operand.tmp 38), none⟩, []⟩]) (.cond (Operand.tmp 39) (.seq (.reg [⟨⟨some 40, Op.move (Operand.tmp 0), none⟩, []⟩,
  ⟨⟨some 41, Op.move (Operand.tmp 1), none⟩, []⟩,
  ⟨⟨some 42, Op.move (Operand.tmp 2), none⟩, []⟩,
  ⟨⟨some 43, Op.move (Operand.tmp 4), none⟩, []⟩,
  ⟨⟨some 44, Op.call { callee := (Callee.value (Operand.func 194)), args := #[(Operand.tmp 40), (Operand.tmp 41), (Operand.tmp 42), (Operand.tmp 43)], argTypes := #[25, 3, 3, 125] }, none⟩, []⟩]) (.reg [⟨⟨some 45, Op.move (Operand.tmp 3), none⟩, []⟩,
  ⟨⟨some 46, Op.binOp BinOp.sub 3 (Operand.tmp 45) (Operand.const (Value.int IntKind.i64 1)) 3, none⟩, []⟩,
  ⟨⟨some 3, Op.assign (Operand.tmp 46), none⟩, []⟩])) .skip)) (.seq (.reg [⟨⟨some 48, Op.move (Operand.tmp 0), none⟩, []⟩,
  ⟨⟨some 49, Op.move (Operand.tmp 1), none⟩, []⟩,
  ⟨⟨some 50, Op.move (Operand.tmp 2), none⟩, []⟩,
  ⟨⟨some 51, Op.move (Operand.tmp 4), none⟩, []⟩,
  ⟨⟨some 52, Op.call { callee := (Callee.value (Operand.func 195)), args := #[(Operand.tmp 48), (Operand.tmp 49), (Operand.tmp 50), (Operand.tmp 51)], argTypes := #[25, 3, 3, 125] }, none⟩, []⟩,
  ⟨⟨some 47, Op.move (Operand.tmp 52), none⟩, []⟩,
  ⟨⟨some 53, Op.extract (Operand.tmp 47) 0, none⟩, []⟩,
  ⟨⟨some 54, Op.extract (Operand.tmp 47) 1, none⟩, []⟩,
  ⟨⟨some 13, Op.assign (Operand.tmp 53), none⟩, []⟩,
  ⟨⟨some 14, Op.assign (Operand.tmp 54), none⟩, []⟩]) (.seq (.seq (.reg [⟨⟨some 55, Op.move (Operand.tmp 14), none⟩, []⟩,
  ⟨⟨some 56, Op.binOp BinOp.eql 149 (Operand.tmp 55) (Operand.const (Value.int IntKind.i64 2)) 149, none⟩, []⟩]) (.cond (Operand.tmp 56) (.seq (.reg [⟨⟨some 57, Op.move (Operand.tmp 0), none⟩, []⟩,
  ⟨⟨some 58, Op.move (Operand.tmp 1), none⟩, []⟩,
  ⟨⟨some 59, Op.move (Operand.tmp 2), none⟩, []⟩,
  ⟨⟨some 60, Op.move (Operand.tmp 4), none⟩, []⟩,
  ⟨⟨some 61, Op.call { callee := (Callee.value (Operand.func 196)), args := #[(Operand.tmp 57), (Operand.tmp 58), (Operand.tmp 59), (Operand.tmp 60)], argTypes := #[25, 3, 3, 125] }, none⟩, []⟩]) (.seq (.reg [⟨⟨some 62, Op.move (Operand.tmp 2), none⟩, []⟩,
  ⟨⟨some 63, Op.binOp BinOp.sub 3 (Operand.tmp 62) (Operand.const (Value.int IntKind.i64 1)) 3, none⟩, []⟩,
  ⟨⟨some 64, Op.move (Operand.tmp 13), none⟩, []⟩,
  ⟨⟨some 65, Op.move (Operand.tmp 1), none⟩, []⟩,
  ⟨⟨some 66, Op.binOp BinOp.sub 3 (Operand.tmp 64) (Operand.tmp 65) 3, none⟩, []⟩,
  ⟨⟨some 67, Op.binOp BinOp.sub 3 (Operand.tmp 63) (Operand.tmp 66) 3, none⟩, []⟩,
  ⟨⟨some 13, Op.assign (Operand.tmp 67), none⟩, []⟩]) (.reg [⟨⟨some 14, Op.assign (Operand.const (Value.int IntKind.i64 1)), none⟩, []⟩]))) .skip)) (.seq (.seq (.reg [⟨⟨some 68, Op.move (Operand.tmp 10), none⟩, []⟩,
  ⟨⟨some 69, Op.move (Operand.tmp 68), none⟩, []⟩,
  ⟨⟨some 70, Op.move (Operand.tmp 11), some (69, true)⟩, []⟩,
  ⟨⟨some 71, Op.pick (Operand.tmp 69) (Operand.tmp 70) (Operand.const (Value.bool false)), none⟩, []⟩,
  ⟨⟨some 72, Op.move (Operand.tmp 71), none⟩, []⟩,
  ⟨⟨some 73, Op.move (Operand.tmp 14), some (72, true)⟩, []⟩,
  ⟨⟨some 74, Op.binOp BinOp.eql 149 (Operand.tmp 73) (Operand.const (Value.int IntKind.i64 1)) 149, some (72, true)⟩, []⟩,
  ⟨⟨some 75, Op.pick (Operand.tmp 72) (Operand.tmp 74) (Operand.const (Value.bool false)), none⟩, []⟩]) (.cond (Operand.tmp 75) (.seq (.reg [⟨⟨some 76, Op.move (Operand.tmp 0), none⟩, []⟩,
  ⟨⟨some 77, Op.move (Operand.tmp 1), none⟩, []⟩,
  ⟨⟨some 78, Op.move (Operand.tmp 2), none⟩, []⟩,
  ⟨⟨some 79, Op.move (Operand.tmp 4), none⟩, []⟩,
  ⟨⟨some 80, Op.call { callee := (Callee.value (Operand.func 197)), args := #[(Operand.tmp 76), (Operand.tmp 77), (Operand.tmp 78), (Operand.tmp 79)], argTypes := #[25, 3, 3, 125] }, none⟩, []⟩]) (.cond (Operand.tmp 80) .ret .skip)) .skip)) (.seq (.seq (.reg [⟨⟨some 81, Op.move (Operand.tmp 1), none⟩, []⟩,
  ⟨⟨some 82, Op.binOp BinOp.gtr 3 (Operand.tmp 81) (Operand.const (Value.int IntKind.i64 0)) 3, none⟩, []⟩,
  ⟨⟨some 83, Op.move (Operand.tmp 82), none⟩, []⟩,
  ⟨⟨some 84, Op.move (Operand.tmp 4), some (83, true)⟩, []⟩,
  ⟨⟨some 85, Op.move (Operand.tmp 0), some (83, true)⟩, []⟩,
  ⟨⟨some 86, Op.move (Operand.tmp 1), some (83, true)⟩, []⟩,
  ⟨⟨some 87, Op.binOp BinOp.sub 3 (Operand.tmp 86) (Operand.const (Value.int IntKind.i64 1)) 3, some (83, true)⟩, []⟩,
  ⟨⟨some 88, Op.indexAddr 25 (Operand.tmp 85) (Operand.tmp 87), some (83, true)⟩, []⟩,
  ⟨⟨some 89, Op.load 34 (Operand.tmp 88), some (83, true)⟩, []⟩,
  ⟨⟨some 90, Op.move (Operand.tmp 0), some (83, true)⟩, []⟩,
  ⟨⟨some 91, Op.move (Operand.tmp 13), some (83, true)⟩, []⟩,
  ⟨⟨some 92, Op.indexAddr 25 (Operand.tmp 90) (Operand.tmp 91), some (83, true)⟩, []⟩,
  ⟨⟨some 93, Op.load 34 (Operand.tmp 92), some (83, true)⟩, []⟩,
  ⟨⟨some 94, Op.call { callee := (Callee.value (Operand.tmp 84)), args := #[(Operand.tmp 89), (Operand.tmp 93)], argTypes := #[34, 34] }, some (83, true)⟩, []⟩,
  ⟨⟨some 95, Op.binOp BinOp.lss 3 (Operand.tmp 94) (Operand.const (Value.int IntKind.i64 0)) 3, some (83, true)⟩, []⟩,
  ⟨⟨some 96, Op.unOp UnOp.not 4 (Operand.tmp 95), some (83, true)⟩, []⟩,
  ⟨⟨some 97, Op.pick (Operand.tmp 83) (Operand.tmp 96) (Operand.const (Value.bool false)), none⟩, []⟩]) (.cond (Operand.tmp 97) (.seq (.reg [⟨⟨some 98, Op.move (Operand.tmp 0), none⟩, []⟩,
  ⟨⟨some 99, Op.move (Operand.tmp 1), none⟩, []⟩,
  ⟨⟨some 100, Op.move (Operand.tmp 2), none⟩, []⟩,
  ⟨⟨some 101, Op.move (Operand.tmp 13), none⟩, []⟩,
  ⟨⟨some 102, Op.move (Operand.tmp 4), none⟩, []⟩,
  ⟨⟨some 103, Op.call { callee := (Callee.value (Operand.func 198)), args := #[(Operand.tmp 98), (Operand.tmp 99), (Operand.tmp 100), (Operand.tmp 101), (Operand.tmp 102)], argTypes := #[25, 3, 3, 3, 125] }, none⟩, []⟩,
  ⟨⟨some 15, Op.assign (Operand.tmp 103), none⟩, []⟩]) (.seq (.reg [⟨⟨some 104, Op.move (Operand.tmp 15), none⟩, []⟩,
  ⟨⟨some 1, Op.assign (Operand.tmp 104), none⟩, []⟩]) (.exit 1))) .skip)) (.seq (.reg [⟨⟨some 106, Op.move (Operand.tmp 0), none⟩, []⟩,
  ⟨⟨some 107, Op.move (Operand.tmp 1), none⟩, []⟩,
  ⟨⟨some 108, Op.move (Operand.tmp 2), none⟩, []⟩,
  ⟨⟨some 109, Op.move (Operand.tmp 13), none⟩, []⟩,
  ⟨⟨some 110, Op.move (Operand.tmp 4), none⟩, []⟩,
  ⟨⟨some 111, Op.call { callee := (Callee.value (Operand.func 199)), args := #[(Operand.tmp 106), (Operand.tmp 107), (Operand.tmp 108), (Operand.tmp 109), (Operand.tmp 110)], argTypes := #[25, 3, 3, 3, 125] }, none⟩, []⟩,
  ⟨⟨some 105, Op.move (Operand.tmp 111), none⟩, []⟩,
  ⟨⟨some 112, Op.extract (Operand.tmp 105) 0, none⟩, []⟩,
  ⟨⟨some 113, Op.extract (Operand.tmp 105) 1, none⟩, []⟩,
  ⟨⟨some 16, Op.assign (Operand.tmp 112), none⟩, []⟩,
  ⟨⟨some 17, Op.assign (Operand.tmp 113), none⟩, []⟩]) (.seq (.reg [⟨⟨some 114, Op.move (Operand.tmp 17), none⟩, []⟩,
  ⟨⟨some 11, Op.assign (Operand.tmp 114), none⟩, []⟩]) (.seq (.reg [⟨⟨some 115, Op.move (Operand.tmp 16), none⟩, []⟩,
  ⟨⟨some 116, Op.move (Operand.tmp 1), none⟩, []⟩,
  ⟨⟨some 117, Op.binOp BinOp.sub 3 (Operand.tmp 115) (Operand.tmp 116) 3, none⟩, []⟩,
  ⟨⟨some 118, Op.move (Operand.tmp 2), none⟩, []⟩,
  ⟨⟨some 119, Op.move (Operand.tmp 16), none⟩, []⟩,
  ⟨⟨some 120, Op.binOp BinOp.sub 3 (Operand.tmp 118) (Operand.tmp 119) 3, none⟩, []⟩,
  ⟨⟨some 18, Op.assign (Operand.tmp 117), none⟩, []⟩,
  ⟨⟨some 19, Op.assign (Operand.tmp 120), none⟩, []⟩]) (.seq (.reg [⟨⟨some 121, Op.move (Operand.tmp 12), none⟩, []⟩,
  ⟨⟨some 122, Op.binOp BinOp.quo 3 (Operand.tmp 121) (Operand.const (Value.int IntKind.i64 8)) 3, none⟩, []⟩,
  ⟨⟨some 20, Op.assign (Operand.tmp 122), none⟩, []⟩]) (.seq (.reg [⟨⟨some 123, Op.move (Operand.tmp 18), none⟩, []⟩,
  ⟨⟨some 124, Op.move (Operand.tmp 19), none⟩, []⟩,
  ⟨⟨some 125, Op.binOp BinOp.lss 3 (Operand.tmp 123) (Operand.tmp 124) 3, none⟩, []⟩]) (.cond (Operand.tmp 125) (.seq (.reg [⟨⟨some 126, Op.move (Operand.tmp 18), none⟩, []⟩,
  ⟨⟨some 127, Op.move (Operand.tmp 20), none⟩, []⟩,
  ⟨⟨some 128, Op.binOp BinOp.geq 3 (Operand.tmp 126) (Operand.tmp 127) 3, none⟩, []⟩,
  ⟨⟨some 10, Op.assign (Operand.tmp 128), none⟩, []⟩]) (.seq (.reg [⟨⟨some 129, Op.move (Operand.tmp 0), none⟩, []⟩,
  ⟨⟨some 130, Op.move (Operand.tmp 1), none⟩, []⟩,
  ⟨⟨some 131, Op.move (Operand.tmp 16), none⟩, []⟩,
  ⟨⟨some 132, Op.move (Operand.tmp 3), none⟩, []⟩,
  ⟨⟨some 133, Op.move (Operand.tmp 4), none⟩, []⟩,
  ⟨⟨some 134, Op.call { callee := (Callee.value (Operand.func 169)), args := #[(Operand.tmp 129), (Operand.tmp 130), (Operand.tmp 131), (Operand.tmp 132), (Operand.tmp 133)], argTypes := #[25, 3, 3, 3, 125] }, none⟩, []⟩]) (.reg [⟨⟨some 135, Op.move (Operand.tmp 16), none⟩, []⟩,
  ⟨⟨some 136, Op.binOp BinOp.add 3 (Operand.tmp 135) (Operand.const (Value.int IntKind.i64 1)) 3, none⟩, []⟩,
  ⟨⟨some 1, Op.assign (Operand.tmp 136), none⟩, []⟩]))) (.seq (.reg [⟨⟨some 137, Op.move (Operand.tmp 19), none⟩, []⟩,
  ⟨⟨some 138, Op.move (Operand.tmp 20), none⟩, []⟩,
  ⟨⟨some 139, Op.binOp BinOp.geq 3 (Operand.tmp 137) (Operand.tmp 138) 3, none⟩, []⟩,
  ⟨⟨some 10, Op.assign (Operand.tmp 139), none⟩, []⟩]) (.seq (.reg [⟨⟨some 140, Op.move (Operand.tmp 0), none⟩, []⟩,
  ⟨⟨some 141, Op.move (Operand.tmp 16), none⟩, []⟩,
  ⟨⟨some 142, Op.binOp BinOp.add 3 (Operand.tmp 141) (Operand.const (Value.int IntKind.i64 1)) 3, none⟩, []⟩,
  ⟨⟨some 143, Op.move (Operand.tmp 2), none⟩, []⟩,
  ⟨⟨some 144, Op.move (Operand.tmp 3), none⟩, []⟩,
  ⟨⟨some 145, Op.move (Operand.tmp 4), none⟩, []⟩,
  ⟨⟨some 146, Op.call { callee := (Callee.value (Operand.func 169)), args := #[(Operand.tmp 140), (Operand.tmp 142), (Operand.tmp 143), (Operand.tmp 144), (Operand.tmp 145)], argTypes := #[25, 3, 3, 3, 125] }, none⟩, []⟩]) (.reg [⟨⟨some 147, Op.move (Operand.tmp 16), none⟩, []⟩,
  ⟨⟨some 2, Op.assign (Operand.tmp 147), none⟩, []⟩]))))))))))))))))))))))
theorem sl169 : slim Tryz.f169.ntmps ords169 (Tryz.f169.body.getD .skip) = some cd169 := by kernel_rfl
theorem in169 {args : List Value} {H : AH} {R : Value → AH → Prop} (hl : args.length = 5) (h : ∀ (Q : Exit → Sl → AH → Prop), (∀ e s H, endA Tryz.prog [] R e s H → Q e s H) → wpC Tryz.prog cd169 Q (enterA args) H) : ACalls Tryz.prog 169 args H R :=
  ACalls.intro (by kernel_rfl) Tryz.func169 rfl (by kernel_rfl) sl169 hl (of_decide_eq_true (by kernel_rfl)) (by kernel_rfl) h
end Go.Proofs.YtdgapefbbdfpbaaGreat.Ai
namespace Go.Proofs.YtdgapefbbdfpbaaGreat.Ai
open Go Go.RowKit
set_option linter.unusedVariables false
set_option linter.unusedSimpArgs false
/-- the order of lists -/
def cmpL : List Int → List Int → Int
  | [], [] => 0
  | [], _ :: _ => -1
  | _ :: _, [] => 1
  | a :: xs, b :: ys => if cmpI a b ≠ 0 then cmpI a b else cmpL xs ys
theorem cmpL_nil (ys : List Int) : cmpL [] ys = if 0 < ys.length then -1 else 0 := by
  cases ys with
  | nil => rfl
  | cons b bs => simp [cmpL]
theorem cmpL_step (xs ys : List Int) (i : Nat) (hi : i < xs.length) : cmpL (xs.drop i) (ys.drop i) = if ys.length ≤ i then 1 else if cmpI (xs.getD i 0) (ys.getD i 0) ≠ 0 then cmpI (xs.getD i 0) (ys.getD i 0) else cmpL (xs.drop (i + 1)) (ys.drop (i + 1)) := by
  have hx : xs.getD i 0 = xs[i] := by simp [hi]
  rw [List.drop_eq_getElem_cons hi]
  by_cases hj : ys.length ≤ i
  · rw [if_pos hj, List.drop_of_length_le hj]; rfl
  · have hj' : i < ys.length := by omega
    have hy : ys.getD i 0 = ys[i] := by simp [hj']
    rw [if_neg hj, List.drop_eq_getElem_cons hj', hx, hy]; rfl
abbrev fnCmp : Value := .func (.func 127) #[] (List.toArray [])
set_option maxHeartbeats 1000000 in
theorem CmpL_c (v w : Value) (xs ys : List Int) (H : AH) (hr : Row 3 H v xs) (hr2 : Row 3 H w ys) (hlen : xs.length ≤ 1099511627776) (hlen2 : ys.length ≤ 1099511627776) :
    ACalls Tryz.prog 127 [v, w] H fun r H' => r = .int .i64 (cmpL xs ys) ∧ H = H' := by
  refine in127 rfl ?_
  intro Q hQ
  simp (maxSteps := 1000000) (disch := omega) only [cd127, hr.len Tryz.underlying34, S, S1, S2, S3, S4, S5, ST, eq_self, reduceIte, reduceCtorEq, Nat.reduceEqDiff, Nat.reduceAdd]
  refine LoopH.by (fun m s H' => ∃ i, m + i = xs.length ∧ s 0 = v ∧ s 1 = w ∧ s 9 = v ∧ s 10 = .int .i64 (xs.length : Int) ∧ s 11 = .int .i64 ((i : Nat) : Int) ∧ H = H' ∧ cmpL xs ys = cmpL (xs.drop i) (ys.drop i) ∧ (i ≤ ys.length ∨ i = 0)) xs.length ?_ ?_
  · exact ⟨0, by simp, rfl, rfl, rfl, rfl, rfl, rfl, by simp, .inr rfl⟩
  · rintro m s H' ⟨i, hm, h0, h1, h9, h10, h11, rfl, hc, hy⟩
    simp (maxSteps := 1000000) (disch := omega) only [h0, h1, h9, h10, h11, S, S1, S2, S3, S4, S5, ST, eq_self, reduceIte, reduceCtorEq, Nat.reduceEqDiff, Nat.reduceAdd]
    refine brD.intro (fun g => ?_) (fun g => ?_)
    · have hi : i < xs.length := by omega
      rw [cmpL_step xs ys i hi] at hc
      simp (maxSteps := 1000000) (disch := omega) only [h0, h1, h9, h10, h11, hr.ix Tryz.underlying34 cs3, hr.cell, Int.toNat_natCast, hr2.len Tryz.underlying34, S, S1, S2, S3, S4, S5, ST, eq_self, reduceIte, reduceCtorEq, Nat.reduceEqDiff, Nat.reduceAdd]
      refine brD.intro (fun e => ?_) (fun e => ?_)
      · simp (maxSteps := 1000000) (disch := omega) only [S, S1, S2, S3, S4, S5, ST, eq_self, reduceIte, reduceCtorEq, Nat.reduceEqDiff, Nat.reduceAdd]
        refine hQ _ _ _ ?_
        simp (maxSteps := 1000000) (disch := omega) only [S, S1, S2, S3, S4, S5, ST, eq_self, reduceIte, reduceCtorEq, Nat.reduceEqDiff, Nat.reduceAdd]
        rw [hc, if_pos (by omega)]
      · have hj : i < ys.length := by omega
        rw [if_neg (by omega)] at hc
        simp (maxSteps := 1000000) (disch := omega) only [h0, h1, h9, h10, h11, hr2.ix Tryz.underlying34 cs3, hr2.cell, Int.toNat_natCast, S, S1, S2, S3, S4, S5, ST, eq_self, reduceIte, reduceCtorEq, Nat.reduceEqDiff, Nat.reduceAdd]
        refine CallH.by (Compare_c _ _ H) ?_
        rintro _ _ ⟨rfl, rfl⟩
        simp (maxSteps := 1000000) (disch := omega) only [S, S1, S2, S3, S4, S5, ST, eq_self, reduceIte, reduceCtorEq, Nat.reduceEqDiff, Nat.reduceAdd]
        refine brD.intro (fun e2 => ?_) (fun e2 => ?_) <;> simp (maxSteps := 1000000) (disch := omega) only [h0, h1, h9, h10, h11, wrap64, S, S1, S2, S3, S4, S5, ST, eq_self, reduceIte, reduceCtorEq, Nat.reduceEqDiff, Nat.reduceAdd]
        · refine hQ _ _ _ ?_
          simp (maxSteps := 1000000) (disch := omega) only [S, S1, S2, S3, S4, S5, ST, eq_self, reduceIte, reduceCtorEq, Nat.reduceEqDiff, Nat.reduceAdd]
          rw [hc, if_pos e2]
        · rw [if_neg e2] at hc
          have f1 : i + 1 ≤ ys.length ∨ i + 1 = 0 := .inl hj
          refine ⟨m - 1, by omega, i + 1, ?_⟩
          (repeat' first | exact hc | exact f1 | apply And.intro) <;> first | (simp only [Value.int.injEq, true_and]; omega) | omega | rfl | assumption | (simp; done) | (simp; omega)
    · have hxe : i = xs.length := by omega
      rw [hxe, List.drop_length, cmpL_nil] at hc
      simp (maxSteps := 1000000) (disch := omega) only [h0, h1, hr.len Tryz.underlying34, hr2.len Tryz.underlying34, S, S1, S2, S3, S4, S5, ST, eq_self, reduceIte, reduceCtorEq, Nat.reduceEqDiff, Nat.reduceAdd]
      refine brD.intro (fun e => ?_) (fun e => ?_) <;> simp (maxSteps := 1000000) (disch := omega) only [S, S1, S2, S3, S4, S5, ST, eq_self, reduceIte, reduceCtorEq, Nat.reduceEqDiff, Nat.reduceAdd]
      · refine hQ _ _ _ ?_
        simp (maxSteps := 1000000) (disch := omega) only [S, S1, S2, S3, S4, S5, ST, eq_self, reduceIte, reduceCtorEq, Nat.reduceEqDiff, Nat.reduceAdd]
        rw [hc, if_pos (by simp; omega)]
      · refine hQ _ _ _ ?_
        simp (maxSteps := 1000000) (disch := omega) only [S, S1, S2, S3, S4, S5, ST, eq_self, reduceIte, reduceCtorEq, Nat.reduceEqDiff, Nat.reduceAdd]
        rw [hc, if_neg (by simp; omega)]
/-- in strict order -/
def SrtL (ls : List (List Int)) : Prop := ∀ i j, i < j → j < ls.length → 0 < cmpL (ls.getD j []) (ls.getD i [])
/-- such lists in memory -/
structure Sts (H : AH) (v : Value) (us : List Value) (ls : List (List Int)) : Prop where
  row : RowV 34 H v us
  len : us.length = ls.length
  each : ∀ i, i < ls.length → Row 3 H (us.getD i undef) (ls.getD i [])
  small : ∀ i, i < ls.length → (ls.getD i []).length ≤ 1099511627776
  bnd : ls.length ≤ 60000
  srt : SrtL ls
theorem Sts.pre {H H' : AH} {v : Value} {us : List Value} {ls : List (List Int)} (h : Sts H v us ls) (hp : H <+: H') : Sts H' v us ls := ⟨h.row.pre hp, h.len, fun i hi => (h.each i hi).pre hp, h.small, h.bnd, h.srt⟩
theorem cmpL_self : ∀ xs : List Int, cmpL xs xs = 0
  | [] => rfl
  | a :: xs => by
    have : cmpI a a = 0 := by unfold cmpI; rw [if_neg (by omega), if_neg (by omega)]
    rw [cmpL, if_neg (by rw [this]; decide)]; exact cmpL_self xs
theorem Sts.le {H : AH} {v : Value} {us : List Value} {ls : List (List Int)} (h : Sts H v us ls) {i j : Nat} (hij : i ≤ j) (hj : j < ls.length) : ¬ cmpL (ls.getD j []) (ls.getD i []) < 0 := by
  by_cases e : i = j
  · subst e; rw [cmpL_self]; omega
  · have := h.srt i j (by omega) hj; omega
section
variable {v : Value} {us : List Value} {ls : List (List Int)} {H : AH}
theorem Sts.cell (h : Sts H v us ls) {i : Nat} (hi : i < ls.length) : cellA H (rowO v) (rowK v + i) = some (us.getD i undef) := h.row.cell (by have := h.len; omega)
theorem Sts.cmp (h : Sts H v us ls) {i j : Nat} (hi : i < ls.length) (hj : j < ls.length) :
    ACalls Tryz.prog 127 [us.getD i undef, us.getD j undef] H fun r H' => r = .int .i64 (cmpL (ls.getD i []) (ls.getD j [])) ∧ H = H' := CmpL_c _ _ _ _ H (h.each i hi) (h.each j hj) (h.small i hi) (h.small j hj)
theorem order2_c (h : Sts H v us ls) (a b : Nat) (p : Value) (hab : a ≤ b) (hb : b < ls.length) :
    ACalls Tryz.prog 218 [v, .int .i64 (a : Int), .int .i64 (b : Int), p, fnCmp] H fun r H' => r = .tuple (List.toArray [.int .i64 (a : Int), .int .i64 (b : Int)]) ∧ H = H' := by
  refine in218 rfl ?_
  intro Q hQ
  have hl := h.len
  have hca := h.cell (show a < ls.length by omega)
  have hcb := h.cell hb
  simp (maxSteps := 1000000) (disch := omega) only [cd218, h.row.ix Tryz.underlying25 cs34, Int.toNat_natCast, hca, hcb, S, S1, S2, S3, S4, S5, ST, eq_self, reduceIte, reduceCtorEq, Nat.reduceEqDiff, Nat.reduceAdd]
  refine CallH.by (h.cmp hb (show a < ls.length by omega)) ?_
  rintro _ _ ⟨rfl, rfl⟩
  simp (maxSteps := 1000000) (disch := omega) only [S, S1, S2, S3, S4, S5, ST, eq_self, reduceIte, reduceCtorEq, Nat.reduceEqDiff, Nat.reduceAdd]
  refine brD.intro (fun e => absurd e (h.le hab hb)) (fun e => ?_)
  simp (maxSteps := 1000000) (disch := omega) only [S, S1, S2, S3, S4, S5, ST, eq_self, reduceIte, reduceCtorEq, Nat.reduceEqDiff, Nat.reduceAdd]
  refine hQ _ _ _ ?_
  simp (maxSteps := 1000000) (disch := omega) only [S, S1, S2, S3, S4, S5, ST, eq_self, reduceIte, reduceCtorEq, Nat.reduceEqDiff, Nat.reduceAdd]
theorem median_c (h : Sts H v us ls) (a b c : Nat) (p : Value) (hab : a ≤ b) (hbc : b ≤ c) (hc : c < ls.length) :
    ACalls Tryz.prog 213 [v, .int .i64 (a : Int), .int .i64 (b : Int), .int .i64 (c : Int), p, fnCmp] H fun r H' => r = .int .i64 (b : Int) ∧ H = H' := by
  refine in213 rfl ?_
  intro Q hQ
  simp (maxSteps := 1000000) (disch := omega) only [cd213, S, S1, S2, S3, S4, S5, ST, eq_self, reduceIte, reduceCtorEq, Nat.reduceEqDiff, Nat.reduceAdd]
  refine CallH.by (order2_c h a b p hab (by omega)) ?_
  rintro _ _ ⟨rfl, rfl⟩
  simp (maxSteps := 1000000) (disch := omega) only [S, S1, S2, S3, S4, S5, ST, eq_self, reduceIte, reduceCtorEq, Nat.reduceEqDiff, Nat.reduceAdd]
  refine CallH.by (order2_c h b c p hbc hc) ?_
  rintro _ _ ⟨rfl, rfl⟩
  simp (maxSteps := 1000000) (disch := omega) only [S, S1, S2, S3, S4, S5, ST, eq_self, reduceIte, reduceCtorEq, Nat.reduceEqDiff, Nat.reduceAdd]
  refine CallH.by (order2_c h a b p hab (by omega)) ?_
  rintro _ _ ⟨rfl, rfl⟩
  simp (maxSteps := 1000000) (disch := omega) only [S, S1, S2, S3, S4, S5, ST, eq_self, reduceIte, reduceCtorEq, Nat.reduceEqDiff, Nat.reduceAdd]
  refine hQ _ _ _ ?_
  simp (maxSteps := 1000000) (disch := omega) only [S, S1, S2, S3, S4, S5, ST, eq_self, reduceIte, reduceCtorEq, Nat.reduceEqDiff, Nat.reduceAdd]
theorem medianAdj_c (h : Sts H v us ls) (a : Nat) (p : Value) (ha : 1 ≤ a) (hc : a + 1 < ls.length) :
    ACalls Tryz.prog 212 [v, .int .i64 (a : Int), p, fnCmp] H fun r H' => r = .int .i64 (a : Int) ∧ H = H' := by
  refine in212 rfl ?_
  intro Q hQ
  have hb := h.bnd
  have e1 : (a : Int) - 1 = ((a - 1 : Nat) : Int) := by omega
  have e2 : (a : Int) + 1 = ((a + 1 : Nat) : Int) := by omega
  simp (maxSteps := 1000000) (disch := omega) only [cd212, wrap64, e1, e2, S, S1, S2, S3, S4, S5, ST, eq_self, reduceIte, reduceCtorEq, Nat.reduceEqDiff, Nat.reduceAdd]
  refine CallH.by (median_c h (a - 1) a (a + 1) p (by omega) (by omega) hc) ?_
  rintro _ _ ⟨rfl, rfl⟩
  simp (maxSteps := 1000000) (disch := omega) only [S, S1, S2, S3, S4, S5, ST, eq_self, reduceIte, reduceCtorEq, Nat.reduceEqDiff, Nat.reduceAdd]
  refine hQ _ _ _ ?_
  simp (maxSteps := 1000000) (disch := omega) only [S, S1, S2, S3, S4, S5, ST, eq_self, reduceIte, reduceCtorEq, Nat.reduceEqDiff, Nat.reduceAdd]
set_option maxRecDepth 20000 in
set_option maxHeartbeats 1000000 in
theorem partialIns_c (h : Sts H v us ls) (h1 : 1 ≤ ls.length) :
    ACalls Tryz.prog 197 [v, .int .i64 0, .int .i64 (ls.length : Int), fnCmp] H fun r H' => r = .bool true ∧ H = H' := by
  refine in197 rfl ?_
  intro Q hQ
  have hb := h.bnd
  have hl := h.len
  simp (maxSteps := 1000000) (disch := omega) only [cd197, wrap64, S, S1, S2, S3, S4, S5, ST, eq_self, reduceIte, reduceCtorEq, Nat.reduceEqDiff, Nat.reduceAdd]
  refine LoopH.by (fun m s H' => s 0 = v ∧ s 2 = .int .i64 (ls.length : Int) ∧ s 3 = fnCmp ∧ s 9 = .int .i64 1 ∧ s 10 = .int .i64 0 ∧ H = H') 0 ?_ ?_
  · exact ⟨rfl, rfl, rfl, rfl, rfl, rfl⟩
  · rintro m s H' ⟨h0, h2, h3, h9, h10, rfl⟩
    simp (maxSteps := 1000000) (disch := omega) only [h0, h2, h3, h9, h10, S, S1, S2, S3, S4, S5, ST, eq_self, reduceIte, reduceCtorEq, Nat.reduceEqDiff, Nat.reduceAdd]
    refine brD.intro (fun _ => ?_) (fun g => absurd (by decide) g)
    simp (maxSteps := 1000000) (disch := omega) only [h0, h2, h3, h9, h10, S, S1, S2, S3, S4, S5, ST, eq_self, reduceIte, reduceCtorEq, Nat.reduceEqDiff, Nat.reduceAdd]
    refine LoopH.by (fun m' s' H' => ∃ i, m' + i = ls.length ∧ 1 ≤ i ∧ s' 0 = v ∧ s' 2 = .int .i64 (ls.length : Int) ∧ s' 3 = fnCmp ∧ s' 9 = .int .i64 ((i : Nat) : Int) ∧ H = H') (ls.length - 1) ?_ ?_
    · exact ⟨1, by omega, by omega, by simp [S, S1, S2, S3, S4, S5, ST, eq_self, reduceIte, reduceCtorEq, Nat.reduceEqDiff, Nat.reduceAdd, h0], by simp [S, S1, S2, S3, S4, S5, ST, eq_self, reduceIte, reduceCtorEq, Nat.reduceEqDiff, Nat.reduceAdd, h2], by simp [S, S1, S2, S3, S4, S5, ST, eq_self, reduceIte, reduceCtorEq, Nat.reduceEqDiff, Nat.reduceAdd, h3], by simp [S, S1, S2, S3, S4, S5, ST, eq_self, reduceIte, reduceCtorEq, Nat.reduceEqDiff, Nat.reduceAdd, h9], rfl⟩
    · rintro m' s' H' ⟨i, hm, hi1, g0, g2, g3, g9, rfl⟩
      have e1 : (i : Int) - 1 = ((i - 1 : Nat) : Int) := by omega
      simp (maxSteps := 1000000) (disch := omega) only [g0, g2, g3, g9, S, S1, S2, S3, S4, S5, ST, eq_self, reduceIte, reduceCtorEq, Nat.reduceEqDiff, Nat.reduceAdd]
      refine brD.intro (fun g => ?_) (fun g => ?_)
      · have hi : i < ls.length := by omega
        have hc1 := h.cell hi
        have hc2 := h.cell (show i - 1 < ls.length by omega)
        simp (maxSteps := 1000000) (disch := omega) only [g, g0, g2, g3, g9, wrap64, e1, h.row.ix Tryz.underlying25 cs34, Int.toNat_natCast, hc1, hc2, S, S1, S2, S3, S4, S5, ST, eq_self, reduceIte, reduceCtorEq, Nat.reduceEqDiff, Nat.reduceAdd]
        refine CallH.by (h.cmp hi (show i - 1 < ls.length by omega)) ?_
        rintro _ _ ⟨rfl, rfl⟩
        simp (maxSteps := 1000000) (disch := omega) only [g, S, S1, S2, S3, S4, S5, ST, eq_self, reduceIte, reduceCtorEq, Nat.reduceEqDiff, Nat.reduceAdd]
        refine brD.intro (fun e => absurd e (h.le (by omega) hi)) (fun e => ?_)
        simp (maxSteps := 1000000) (disch := omega) only [g, e, g0, g2, g3, g9, wrap64, S, S1, S2, S3, S4, S5, ST, eq_self, reduceIte, reduceCtorEq, Nat.reduceEqDiff, Nat.reduceAdd]
        refine ⟨m' - 1, by omega, i + 1, ?_⟩
        (repeat' apply And.intro) <;> first | (simp only [Value.int.injEq, true_and]; omega) | omega | rfl | assumption | (simp; done) | (simp; omega)
      · have hi : i = ls.length := by omega
        subst hi
        simp (maxSteps := 1000000) (disch := omega) only [g, g0, g2, g3, g9, S, S1, S2, S3, S4, S5, ST, eq_self, reduceIte, reduceCtorEq, Nat.reduceEqDiff, Nat.reduceAdd]
        refine hQ _ _ _ ?_
        simp (maxSteps := 1000000) (disch := omega) only [S, S1, S2, S3, S4, S5, ST, eq_self, reduceIte, reduceCtorEq, Nat.reduceEqDiff, Nat.reduceAdd]
set_option maxRecDepth 20000 in
set_option maxHeartbeats 1000000 in
theorem insCmp_c (h : Sts H v us ls) :
    ACalls Tryz.prog 192 [v, .int .i64 0, .int .i64 (ls.length : Int), fnCmp] H fun r H' => H = H' := by
  refine in192 rfl ?_
  intro Q hQ
  have hb := h.bnd
  have hl := h.len
  simp (maxSteps := 1000000) (disch := omega) only [cd192, wrap64, S, S1, S2, S3, S4, S5, ST, eq_self, reduceIte, reduceCtorEq, Nat.reduceEqDiff, Nat.reduceAdd]
  refine LoopH.by (fun m s H' => ∃ i, m + i = ls.length + 1 ∧ 1 ≤ i ∧ s 0 = v ∧ s 1 = .int .i64 0 ∧ s 2 = .int .i64 (ls.length : Int) ∧ s 3 = fnCmp ∧ s 8 = .int .i64 ((i : Nat) : Int) ∧ H = H') ls.length ?_ ?_
  · exact ⟨1, by omega, by omega, rfl, rfl, rfl, rfl, rfl, rfl⟩
  · rintro m s H' ⟨i, hm, hi1, h0, h1, h2, h3, h8, rfl⟩
    simp (maxSteps := 1000000) (disch := omega) only [h0, h1, h2, h3, h8, S, S1, S2, S3, S4, S5, ST, eq_self, reduceIte, reduceCtorEq, Nat.reduceEqDiff, Nat.reduceAdd]
    refine brD.intro (fun g => ?_) (fun g => ?_)
    · have hi : i < ls.length := by omega
      have e1 : (i : Int) - 1 = ((i - 1 : Nat) : Int) := by omega
      have hc1 := h.cell hi
      have hc2 := h.cell (show i - 1 < ls.length by omega)
      simp (maxSteps := 1000000) (disch := omega) only [h0, h1, h2, h3, h8, S, S1, S2, S3, S4, S5, ST, eq_self, reduceIte, reduceCtorEq, Nat.reduceEqDiff, Nat.reduceAdd]
      refine LoopH.by (fun m' s' H' => s' 0 = v ∧ s' 1 = .int .i64 0 ∧ s' 2 = .int .i64 (ls.length : Int) ∧ s' 3 = fnCmp ∧ s' 8 = .int .i64 ((i : Nat) : Int) ∧ s' 9 = .int .i64 ((i : Nat) : Int) ∧ H = H') 0 ?_ ?_
      · simp only [S, S1, S2, S3, S4, S5, ST, eq_self, reduceIte, reduceCtorEq, Nat.reduceEqDiff, Nat.reduceAdd, h0, h1, h2, h3, h8]
      · rintro m' s' H' ⟨g0, g1, g2, g3, g8, g9, rfl⟩
        have hgt : (i : Int) > 0 := by omega
        simp (maxSteps := 1000000) (disch := omega) only [g0, g1, g2, g3, g8, g9, S, S1, S2, S3, S4, S5, ST, eq_self, reduceIte, reduceCtorEq, Nat.reduceEqDiff, Nat.reduceAdd]
        refine brD.intro (fun q => ?_) (fun q => absurd hgt q)
        simp (maxSteps := 1000000) (disch := omega) only [q, g0, g1, g2, g3, g8, g9, wrap64, e1, h.row.ix Tryz.underlying25 cs34, Int.toNat_natCast, hc1, hc2, S, S1, S2, S3, S4, S5, ST, eq_self, reduceIte, reduceCtorEq, Nat.reduceEqDiff, Nat.reduceAdd]
        refine CallH.by (h.cmp hi (show i - 1 < ls.length by omega)) ?_
        rintro _ _ ⟨rfl, rfl⟩
        simp (maxSteps := 1000000) (disch := omega) only [q, S, S1, S2, S3, S4, S5, ST, eq_self, reduceIte, reduceCtorEq, Nat.reduceEqDiff, Nat.reduceAdd]
        refine brD.intro (fun e => absurd e (h.le (by omega) hi)) (fun e => ?_)
        simp (maxSteps := 1000000) (disch := omega) only [q, e, g0, g1, g2, g3, g8, g9, wrap64, S, S1, S2, S3, S4, S5, ST, eq_self, reduceIte, reduceCtorEq, Nat.reduceEqDiff, Nat.reduceAdd]
        refine ⟨m - 1, by omega, i + 1, ?_⟩
        (repeat' apply And.intro) <;> first | (simp only [Value.int.injEq, true_and]; omega) | omega | rfl | assumption | (simp; done) | (simp; omega)
    · simp (maxSteps := 1000000) (disch := omega) only [S, S1, S2, S3, S4, S5, ST, eq_self, reduceIte, reduceCtorEq, Nat.reduceEqDiff, Nat.reduceAdd]
      refine hQ _ _ _ ?_
      simp (maxSteps := 1000000) (disch := omega) only [S, S1, S2, S3, S4, S5, ST, eq_self, reduceIte, reduceCtorEq, Nat.reduceEqDiff, Nat.reduceAdd]
set_option maxRecDepth 20000 in
set_option maxHeartbeats 1000000 in
theorem choosePivot_c (h : Sts H v us ls) (h1 : 13 ≤ ls.length) :
    ACalls Tryz.prog 195 [v, .int .i64 0, .int .i64 (ls.length : Int), fnCmp] H fun r H' => (∃ j : Int, r = .tuple (List.toArray [.int .i64 j, .int .i64 1])) ∧ H <+: H' := by
  refine in195 rfl ?_
  intro Q hQ
  have hb := h.bnd
  have hl := h.len
  obtain ⟨q, hqd⟩ : ∃ q, ls.length / 4 = q := ⟨_, rfl⟩
  have hq : IntKind.i64.wrap ((ls.length : Int).tdiv 4) = (q : Int) := by
    rw [Int.tdiv_eq_ediv_of_nonneg (by omega), wrap64 (by omega) (by omega)]
    omega
  have e1 : (0 : Int) + (q : Int) * 1 = (q : Int) := by omega
  have e2 : (0 : Int) + (q : Int) * 2 = ((2 * q : Nat) : Int) := by omega
  have e3 : (0 : Int) + (q : Int) * 3 = ((3 * q : Nat) : Int) := by omega
  have e0 : (ls.length : Int) - 0 = (ls.length : Int) := by omega
  simp (maxSteps := 1000000) (disch := omega) only [cd195, alloc_int, wrap64, e0, hq, e1, e2, e3, S, S1, S2, S3, S4, S5, ST, eq_self, reduceIte, reduceCtorEq, Nat.reduceEqDiff, Nat.reduceAdd]
  generalize hA : H ++ [AObj.cells [.int .i64 0] 3 false] = A
  have pA : H <+: A := by rw [← hA]; exact List.prefix_append _ _
  have cA : A[H.length]? = some (.cells [.int .i64 0] 3 false) := by rw [← hA]; exact at_new ..
  have hA2 := h.pre pA
  refine brD.intro (fun g => ?_) (fun g => absurd (show (ls.length : Int) ≥ 8 by omega) g)
  simp (maxSteps := 1000000) (disch := omega) only [S, S1, S2, S3, S4, S5, ST, eq_self, reduceIte, reduceCtorEq, Nat.reduceEqDiff, Nat.reduceAdd]
  refine brD.intro (fun g2 => ?_) (fun g2 => ?_)
  · simp (maxSteps := 1000000) (disch := omega) only [S, S1, S2, S3, S4, S5, ST, eq_self, reduceIte, reduceCtorEq, Nat.reduceEqDiff, Nat.reduceAdd]
    refine CallH.by (medianAdj_c hA2 q _ (by omega) (by omega)) ?_
    rintro _ _ ⟨rfl, rfl⟩
    simp (maxSteps := 1000000) (disch := omega) only [S, S1, S2, S3, S4, S5, ST, eq_self, reduceIte, reduceCtorEq, Nat.reduceEqDiff, Nat.reduceAdd]
    refine CallH.by (medianAdj_c hA2 (2 * q) _ (by omega) (by omega)) ?_
    rintro _ _ ⟨rfl, rfl⟩
    simp (maxSteps := 1000000) (disch := omega) only [S, S1, S2, S3, S4, S5, ST, eq_self, reduceIte, reduceCtorEq, Nat.reduceEqDiff, Nat.reduceAdd]
    refine CallH.by (medianAdj_c hA2 (3 * q) _ (by omega) (by omega)) ?_
    rintro _ _ ⟨rfl, rfl⟩
    simp (maxSteps := 1000000) (disch := omega) only [S, S1, S2, S3, S4, S5, ST, eq_self, reduceIte, reduceCtorEq, Nat.reduceEqDiff, Nat.reduceAdd]
    refine CallH.by (median_c hA2 q (2 * q) (3 * q) _ (by omega) (by omega) (by omega)) ?_
    rintro _ _ ⟨rfl, rfl⟩
    simp (maxSteps := 1000000) (disch := omega) only [cell_of cA, S, S1, S2, S3, S4, S5, ST, eq_self, reduceIte, reduceCtorEq, Nat.reduceEqDiff, Nat.reduceAdd]
    first
      | (refine brD.intro (fun _ => ?_) (fun g3 => absurd rfl g3)
         simp (maxSteps := 1000000) (disch := omega) only [S, S1, S2, S3, S4, S5, ST, eq_self, reduceIte, reduceCtorEq, Nat.reduceEqDiff, Nat.reduceAdd])
      | skip
    refine hQ _ _ _ ?_
    simp (maxSteps := 1000000) (disch := omega) only [S, S1, S2, S3, S4, S5, ST, eq_self, reduceIte, reduceCtorEq, Nat.reduceEqDiff, Nat.reduceAdd]
    exact ⟨⟨_, rfl⟩, pA⟩
  · simp (maxSteps := 1000000) (disch := omega) only [S, S1, S2, S3, S4, S5, ST, eq_self, reduceIte, reduceCtorEq, Nat.reduceEqDiff, Nat.reduceAdd]
    refine CallH.by (median_c hA2 q (2 * q) (3 * q) _ (by omega) (by omega) (by omega)) ?_
    rintro _ _ ⟨rfl, rfl⟩
    simp (maxSteps := 1000000) (disch := omega) only [cell_of cA, S, S1, S2, S3, S4, S5, ST, eq_self, reduceIte, reduceCtorEq, Nat.reduceEqDiff, Nat.reduceAdd]
    first
      | (refine brD.intro (fun _ => ?_) (fun g3 => absurd rfl g3)
         simp (maxSteps := 1000000) (disch := omega) only [S, S1, S2, S3, S4, S5, ST, eq_self, reduceIte, reduceCtorEq, Nat.reduceEqDiff, Nat.reduceAdd])
      | skip
    refine hQ _ _ _ ?_
    simp (maxSteps := 1000000) (disch := omega) only [S, S1, S2, S3, S4, S5, ST, eq_self, reduceIte, reduceCtorEq, Nat.reduceEqDiff, Nat.reduceAdd]
    exact ⟨⟨_, rfl⟩, pA⟩
set_option maxRecDepth 20000 in
set_option maxHeartbeats 1000000 in
theorem pdqCmp_c (h : Sts H v us ls) (lim : Int) (hlim : lim ≠ 0 ∨ ls.length ≤ 12) :
    ACalls Tryz.prog 169 [v, .int .i64 0, .int .i64 (ls.length : Int), .int .i64 lim, fnCmp] H fun r H' => H <+: H' := by
  refine in169 rfl ?_
  intro Q hQ
  have hb := h.bnd
  have e0 : (ls.length : Int) - 0 = (ls.length : Int) := by omega
  simp (maxSteps := 1000000) (disch := omega) only [cd169, S, S1, S2, S3, S4, S5, ST, eq_self, reduceIte, reduceCtorEq, Nat.reduceEqDiff, Nat.reduceAdd]
  refine LoopH.by (fun m s H' => s 0 = v ∧ s 1 = .int .i64 0 ∧ s 2 = .int .i64 (ls.length : Int) ∧ s 3 = .int .i64 lim ∧ s 4 = fnCmp ∧ s 10 = .bool true ∧ s 11 = .bool true ∧ H = H') 0 ?_ ?_
  · exact ⟨rfl, rfl, rfl, rfl, rfl, rfl, rfl, rfl⟩
  · rintro m s H' ⟨h0, h1, h2, h3, h4, h10, h11, rfl⟩
    simp (maxSteps := 1000000) (disch := omega) only [h0, h1, h2, h3, h4, h10, h11, wrap64, e0, S, S1, S2, S3, S4, S5, ST, eq_self, reduceIte, reduceCtorEq, Nat.reduceEqDiff, Nat.reduceAdd]
    refine brD.intro (fun g => ?_) (fun g => ?_)
    · simp (maxSteps := 1000000) (disch := omega) only [h0, h1, h2, h3, h4, h10, h11, S, S1, S2, S3, S4, S5, ST, eq_self, reduceIte, reduceCtorEq, Nat.reduceEqDiff, Nat.reduceAdd]
      refine CallH.by (insCmp_c h) ?_
      rintro _ _ rfl
      simp (maxSteps := 1000000) (disch := omega) only [S, S1, S2, S3, S4, S5, ST, eq_self, reduceIte, reduceCtorEq, Nat.reduceEqDiff, Nat.reduceAdd]
      refine hQ _ _ _ ?_
      simp (maxSteps := 1000000) (disch := omega) only [S, S1, S2, S3, S4, S5, ST, eq_self, reduceIte, reduceCtorEq, Nat.reduceEqDiff, Nat.reduceAdd]
      exact List.prefix_refl _
    · have hlim' : lim ≠ 0 := hlim.resolve_right (by omega)
      simp (maxSteps := 1000000) (disch := omega) only [h0, h1, h2, h3, h4, h10, h11, S, S1, S2, S3, S4, S5, ST, eq_self, reduceIte, reduceCtorEq, Nat.reduceEqDiff, Nat.reduceAdd]
      refine brD.intro (fun g2 => absurd g2 hlim') (fun g2 => ?_)
      simp (maxSteps := 1000000) (disch := omega) only [h0, h1, h2, h3, h4, h10, h11, S, S1, S2, S3, S4, S5, ST, eq_self, reduceIte, reduceCtorEq, Nat.reduceEqDiff, Nat.reduceAdd]
      refine CallH.by (choosePivot_c h (by omega)) ?_
      rintro _ A ⟨⟨j, rfl⟩, pA⟩
      simp (maxSteps := 1000000) (disch := omega) only [h0, h1, h2, h3, h4, h10, h11, S, S1, S2, S3, S4, S5, ST, eq_self, reduceIte, reduceCtorEq, Nat.reduceEqDiff, Nat.reduceAdd]
      refine brD.intro (fun g3 => absurd g3 (by decide)) (fun g3 => ?_)
      simp (maxSteps := 1000000) (disch := omega) only [h0, h1, h2, h3, h4, h10, h11, S, S1, S2, S3, S4, S5, ST, eq_self, reduceIte, reduceCtorEq, Nat.reduceEqDiff, Nat.reduceAdd]
      refine CallH.by (partialIns_c (h.pre pA) (by omega)) ?_
      rintro _ _ ⟨rfl, rfl⟩
      simp (maxSteps := 1000000) (disch := omega) only [S, S1, S2, S3, S4, S5, ST, eq_self, reduceIte, reduceCtorEq, Nat.reduceEqDiff, Nat.reduceAdd]
      refine hQ _ _ _ ?_
      simp (maxSteps := 1000000) (disch := omega) only [S, S1, S2, S3, S4, S5, ST, eq_self, reduceIte, reduceCtorEq, Nat.reduceEqDiff, Nat.reduceAdd]
      exact pA
end
end Go.Proofs.YtdgapefbbdfpbaaGreat.Ai
namespace Go.Proofs.YtdgapefbbdfpbaaGreat.Ai
open Go
set_option linter.unusedVariables false
theorem Crs_comm (x y : Int) : Crs x y ↔ Crs y x := by
  unfold Crs
  exact ⟨fun h => h.elim .inr .inl, fun h => h.elim .inr .inl⟩
/-- crosses none of a list -/
def apB (ed : List Int) (d : Int) : Bool := !ed.any fun y => decide (Crs y d)
theorem apB_comm (ed : List Int) (d : Int) : (!ed.any fun y => decide (Crs d y)) = apB ed d := by
  unfold apB
  congr 2
  funext y
  rw [decide_eq_decide]
  exact Crs_comm d y
/-- those with h diagonals that go on with one of the last k -/
def tlp (all : List Int) (h : Nat) : Nat → List Int → List (List Int)
  | 0, _ => []
  | k + 1, ed => (if apB ed (all.getD (all.length - (k + 1)) 0) = true then (if (ed ++ [all.getD (all.length - (k + 1)) 0]).length = h then [ed ++ [all.getD (all.length - (k + 1)) 0]] else tlp all h k (ed ++ [all.getD (all.length - (k + 1)) 0])) else []) ++ tlp all h k ed
def tex (all : List Int) (h : Nat) (k : Nat) (ed : List Int) : List (List Int) := if ed.length = h then [ed] else tlp all h k ed
theorem tlp_step (all : List Int) (h k : Nat) (ed : List Int) : tlp all h (k + 1) ed = (if apB ed (all.getD (all.length - (k + 1)) 0) = true then tex all h k (ed ++ [all.getD (all.length - (k + 1)) 0]) else []) ++ tlp all h k ed := rfl
theorem tex_len (all : List Int) (h : Nat) : ∀ (k : Nat) (ed : List Int), (tlp all h k ed).length + 1 ≤ 2 ^ k
  | 0, ed => by simp [tlp]
  | k + 1, ed => by
    rw [tlp_step, List.length_append]
    have h1 := tex_len all h k ed
    have hP : 2 ^ (k + 1) = 2 ^ k + 2 ^ k := by rw [Nat.pow_succ]; omega
    have h2 : (if apB ed (all.getD (all.length - (k + 1)) 0) = true then tex all h k (ed ++ [all.getD (all.length - (k + 1)) 0]) else []).length ≤ 2 ^ k := by
      split
      · unfold tex
        split
        · simp; exact Nat.one_le_two_pow
        · have := tex_len all h k (ed ++ [all.getD (all.length - (k + 1)) 0]); omega
      · simp
    omega
/-- all triangulations of a polygon -/
def triA (n : Int) : List (List Int) := tex (dgs n n.toNat) (n - 3).toNat (dgs n n.toNat).length []
def srtB : List (List Int) → Bool
  | [] => true
  | x :: xs => (xs.all fun y => decide (0 < cmpL y x)) && srtB xs
theorem srtB_ok : ∀ (ls : List (List Int)), srtB ls = true → SrtL ls
  | [], _ => fun i j _ hj => by simp at hj
  | x :: xs, h => by
    unfold srtB at h
    rw [Bool.and_eq_true, List.all_eq_true] at h
    intro i j hij hj
    cases j with
    | zero => omega
    | succ j =>
      have hj' : j < xs.length := by simpa using hj
      cases i with
      | zero =>
        have hm : xs.getD j [] ∈ xs := by simp [hj']
        have := of_decide_eq_true (h.1 _ hm)
        simpa using this
      | succ i =>
        have := srtB_ok xs h.2 i j (by omega) hj'
        simpa using this
def trAok (n : Int) : Bool := srtB (triA n) && decide (1 ≤ (triA n).length ∧ (triA n).length ≤ 132) && (triA n).all (fun l => decide (l.length ≤ 5)) && (decide ((dgs n n.toNat).length ≤ 28)) && (dgs n n.toNat).all (fun d => decide (0 ≤ d ∧ d ≤ 100)) && decide (∀ j : Fin 28, ∀ i : Fin 28, i.1 < j.1 → j.1 < (dgs n n.toNat).length → (dgs n n.toNat).getD i.1 0 < (dgs n n.toNat).getD j.1 0)
set_option maxRecDepth 100000 in
theorem tri3 : trAok 3 = true := by decide +kernel
set_option maxRecDepth 100000 in
theorem tri4 : trAok 4 = true := by decide +kernel
set_option maxRecDepth 100000 in
theorem tri5 : trAok 5 = true := by decide +kernel
set_option maxRecDepth 100000 in
theorem tri6 : trAok 6 = true := by decide +kernel
set_option maxRecDepth 100000 in
theorem tri7 : trAok 7 = true := by decide +kernel
set_option maxRecDepth 100000 in
theorem tri8 : trAok 8 = true := by decide +kernel
theorem triA_ok {n : Int} (hn : 3 ≤ n ∧ n ≤ 8) : SrtL (triA n) ∧ (1 ≤ (triA n).length ∧ (triA n).length ≤ 132) ∧ (∀ l ∈ triA n, l.length ≤ 5) ∧ (dgs n n.toNat).length ≤ 28 ∧ (∀ d ∈ dgs n n.toNat, 0 ≤ d ∧ d ≤ 100) ∧ ∀ i j, i < j → j < (dgs n n.toNat).length → (dgs n n.toNat).getD i 0 < (dgs n n.toNat).getD j 0 := by
  have h : trAok n = true := by
    have : n = 3 ∨ n = 4 ∨ n = 5 ∨ n = 6 ∨ n = 7 ∨ n = 8 := by omega
    rcases this with rfl | rfl | rfl | rfl | rfl | rfl
    · exact tri3
    · exact tri4
    · exact tri5
    · exact tri6
    · exact tri7
    · exact tri8
  unfold trAok at h
  rw [Bool.and_eq_true, Bool.and_eq_true, Bool.and_eq_true, Bool.and_eq_true, Bool.and_eq_true, List.all_eq_true, List.all_eq_true] at h
  obtain ⟨⟨⟨⟨⟨h1, h2⟩, h3⟩, h4⟩, h5⟩, h6⟩ := h
  have h4' := of_decide_eq_true h4
  have h6' := of_decide_eq_true h6
  exact ⟨srtB_ok _ h1, of_decide_eq_true h2, fun l hl => of_decide_eq_true (h3 l hl), h4', fun d hd => of_decide_eq_true (h5 d hd), fun i j hij hj => h6' ⟨j, by omega⟩ ⟨i, by omega⟩ hij hj⟩
end Go.Proofs.YtdgapefbbdfpbaaGreat.Ai
namespace Go.Proofs.YtdgapefbbdfpbaaGreat.Ai
open Go
def ords66 : List (Nat × List (Nat × Bool)) := []
def cd66 : Cd := (.seq (.reg [⟨⟨some 2, Op.assign (Operand.const (Value.int IntKind.i64 0)), none⟩, []⟩]) (.seq (.seq (.reg [⟨⟨some 3, Op.move (Operand.tmp 0), none⟩, []⟩,
  ⟨⟨some 4, Op.call { callee := (Callee.value (Operand.func 68)), args := #[(Operand.tmp 3), (Operand.const (Value.int IntKind.i64 20))], argTypes := #[71, 3] }, none⟩, []⟩]) (.cond (Operand.tmp 4) (.seq (.reg [⟨⟨some 5, Op.move (Operand.tmp 0), none⟩, []⟩,
  ⟨⟨some 6, Op.buildSlice 34 4 #[(0, (Operand.const (Value.int IntKind.i64 2))), (1, (Operand.const (Value.int IntKind.i64 9))), (2, (Operand.const (Value.int IntKind.i64 (-1)))), (3, (Operand.const (Value.int IntKind.i64 8)))], none⟩, []⟩,
  ⟨⟨some 7, Op.call { callee := (Callee.value (Operand.func 57)), args := #[(Operand.tmp 5), (Operand.tmp 6)], argTypes := #[71, 34] }, none⟩, []⟩,
  ⟨⟨some 2, Op.assign (Operand.tmp 7), none⟩, []⟩]) .ret) .skip)) (.seq (.reg [⟨⟨some 8, Op.move (Operand.tmp 0), none⟩, []⟩,
  ⟨⟨some 9, Op.buildSlice 34 7 #[(0, (Operand.const (Value.int IntKind.i64 6))), (1, (Operand.const (Value.int IntKind.i64 5))), (2, (Operand.const (Value.int IntKind.i64 7))), (3, (Operand.const (Value.int IntKind.i64 4))), (4, (Operand.const (Value.int IntKind.i64 3))), (5, (Operand.const (Value.int IntKind.i64 6))), (6, (Operand.const (Value.int IntKind.i64 7)))], none⟩, []⟩,
  ⟨⟨some 10, Op.call { callee := (Callee.value (Operand.func 57)), args := #[(Operand.tmp 8), (Operand.tmp 9)], argTypes := #[71, 34] }, none⟩, []⟩,
  ⟨⟨some 2, Op.assign (Operand.tmp 10), none⟩, []⟩]) .ret)))
theorem sl66 : slim Tryz.f66.ntmps ords66 (Tryz.f66.body.getD .skip) = some cd66 := by kernel_rfl
theorem in66 {args : List Value} {H : AH} {R : Value → AH → Prop} (hl : args.length = 1) (h : ∀ (Q : Exit → Sl → AH → Prop), (∀ e s H, endA Tryz.prog [ResultVar.tmp 2] R e s H → Q e s H) → wpC Tryz.prog cd66 Q (enterA args) H) : ACalls Tryz.prog 66 args H R :=
  ACalls.intro (by kernel_rfl) Tryz.func66 rfl (by kernel_rfl) sl66 hl (of_decide_eq_true (by kernel_rfl)) (by kernel_rfl) h
def ords67 : List (Nat × List (Nat × Bool)) := []
def cd67 : Cd := (.seq (.reg [⟨⟨some 4, Op.assign (Operand.const (Value.slice none 0 0)), none⟩, []⟩]) (.seq (.reg [⟨⟨some 10, Op.buildSlice 34 0 #[], none⟩, []⟩,
  ⟨⟨some 5, Op.assign (Operand.tmp 10), none⟩, []⟩]) (.seq (.seq (.reg [⟨⟨some 11, Op.move (Operand.tmp 1), none⟩, []⟩,
  ⟨⟨some 12, Op.call { callee := (Callee.value (Operand.func 62)), args := #[(Operand.tmp 11)], argTypes := #[3] }, none⟩, []⟩,
  ⟨⟨some 13, Op.unOp UnOp.not 4 (Operand.tmp 12), none⟩, []⟩]) (.cond (Operand.tmp 13) (.seq (.reg [⟨⟨some 14, Op.move (Operand.tmp 5), none⟩, []⟩,
  ⟨⟨some 4, Op.assign (Operand.tmp 14), none⟩, []⟩]) .ret) .skip)) (.seq (.reg [⟨⟨some 15, Op.move (Operand.tmp 1), none⟩, []⟩,
  ⟨⟨some 16, Op.call { callee := (Callee.value (Operand.func 81)), args := #[(Operand.tmp 15)], argTypes := #[3] }, none⟩, []⟩,
  ⟨⟨some 6, Op.assign (Operand.tmp 16), none⟩, []⟩]) (.seq (.seq (.reg [⟨⟨some 7, Op.assign (Operand.const (Value.int IntKind.i64 0)), none⟩, []⟩]) (.block 0 (.loop (.seq (.seq (.reg [⟨⟨some 17, Op.move (Operand.tmp 7), none⟩, []⟩,
  ⟨⟨some 18, Op.binOp BinOp.lss 3 (Operand.tmp 17) (Operand.const (Value.int IntKind.i64 60)) 3, none⟩, []⟩,
  ⟨⟨some 19, Op.move (Operand.tmp 18), none⟩, []⟩,
  ⟨⟨some 20, Op.move (Operand.tmp 5), some (19, true)⟩, []⟩,
  ⟨⟨some 21, Op.call { callee := (Callee.builtin Builtin.len), args := #[(Operand.tmp 20)], argTypes := #[34] }, some (19, true)⟩, []⟩,
  ⟨⟨some 22, Op.move (Operand.tmp 1), some (19, true)⟩, []⟩,
  ⟨⟨some 23, Op.binOp BinOp.sub 3 (Operand.tmp 22) (Operand.const (Value.int IntKind.i64 3)) 3, some (19, true)⟩, []⟩,
  ⟨⟨some 24, Op.binOp BinOp.lss 3 (Operand.tmp 21) (Operand.tmp 23) 3, some (19, true)⟩, []⟩,
  ⟨⟨some 25, Op.pick (Operand.tmp 19) (Operand.tmp 24) (Operand.const (Value.bool false)), none⟩, []⟩]) (.cond (Operand.tmp 25) .skip (.exit 0))) (.seq (.block 1 (.seq (.reg [⟨⟨some 28, Op.move (Operand.tmp 6), none⟩, []⟩,
  ⟨⟨some 29, Op.move (Operand.tmp 0), none⟩, []⟩,
  ⟨⟨some 30, Op.move (Operand.tmp 6), none⟩, []⟩,
  ⟨⟨some 31, Op.call { callee := (Callee.builtin Builtin.len), args := #[(Operand.tmp 30)], argTypes := #[34] }, none⟩, []⟩,
  ⟨⟨some 32, Op.call { callee := (Callee.value (Operand.func 69)), args := #[(Operand.tmp 29), (Operand.tmp 31)], argTypes := #[71, 3] }, none⟩, []⟩,
  ⟨⟨some 33, Op.indexAddr 34 (Operand.tmp 28) (Operand.tmp 32), none⟩, []⟩,
  ⟨⟨some 34, Op.load 3 (Operand.tmp 33), none⟩, []⟩,
  ⟨⟨some 8, Op.assign (Operand.tmp 34), none⟩, []⟩]) (.seq (.reg [⟨⟨some 35, Op.move (Operand.tmp 5), none⟩, []⟩,
  ⟨⟨some 36, Op.move (Operand.tmp 8), none⟩, []⟩,
  ⟨⟨some 37, Op.call { callee := (Callee.value (Operand.func 79)), args := #[(Operand.tmp 35), (Operand.tmp 36)], argTypes := #[34, 3] }, none⟩, []⟩,
  ⟨⟨some 38, Op.unOp UnOp.not 4 (Operand.tmp 37), none⟩, []⟩,
  ⟨⟨some 39, Op.move (Operand.tmp 38), none⟩, []⟩,
  ⟨⟨some 40, Op.move (Operand.tmp 5), some (39, true)⟩, []⟩,
  ⟨⟨some 41, Op.move (Operand.tmp 8), some (39, true)⟩, []⟩,
  ⟨⟨some 42, Op.call { callee := (Callee.value (Operand.func 82)), args := #[(Operand.tmp 40), (Operand.tmp 41)], argTypes := #[34, 3] }, some (39, true)⟩, []⟩,
  ⟨⟨some 43, Op.pick (Operand.tmp 39) (Operand.tmp 42) (Operand.const (Value.bool false)), none⟩, []⟩]) (.cond (Operand.tmp 43) (.reg [⟨⟨some 44, Op.move (Operand.tmp 5), none⟩, []⟩,
  ⟨⟨some 45, Op.move (Operand.tmp 8), none⟩, []⟩,
  ⟨⟨some 46, Op.call { callee := (Callee.value (Operand.func 83)), args := #[(Operand.tmp 44), (Operand.tmp 45)], argTypes := #[34, 3] }, none⟩, []⟩,
  ⟨⟨some 5, Op.assign (Operand.tmp 46), none⟩, []⟩]) .skip)))) (.reg [⟨⟨some 26, Op.move (Operand.tmp 7), none⟩, []⟩,
  ⟨⟨some 27, Op.binOp BinOp.add 3 (Operand.tmp 26) (Operand.const (Value.int IntKind.i64 1)) 3, none⟩, []⟩,
  ⟨⟨some 7, Op.assign (Operand.tmp 27), none⟩, []⟩])))))) (.seq (.seq (.reg [⟨⟨some 9, Op.assign (Operand.const (Value.int IntKind.i64 0)), none⟩, []⟩]) (.block 2 (.loop (.seq (.seq (.reg [⟨⟨some 47, Op.move (Operand.tmp 9), none⟩, []⟩,
  ⟨⟨some 48, Op.move (Operand.tmp 6), none⟩, []⟩,
  ⟨⟨some 49, Op.call { callee := (Callee.builtin Builtin.len), args := #[(Operand.tmp 48)], argTypes := #[34] }, none⟩, []⟩,
  ⟨⟨some 50, Op.binOp BinOp.lss 3 (Operand.tmp 47) (Operand.tmp 49) 3, none⟩, []⟩,
  ⟨⟨some 51, Op.move (Operand.tmp 50), none⟩, []⟩,
  ⟨⟨some 52, Op.move (Operand.tmp 5), some (51, true)⟩, []⟩,
  ⟨⟨some 53, Op.call { callee := (Callee.builtin Builtin.len), args := #[(Operand.tmp 52)], argTypes := #[34] }, some (51, true)⟩, []⟩,
  ⟨⟨some 54, Op.move (Operand.tmp 1), some (51, true)⟩, []⟩,
  ⟨⟨some 55, Op.binOp BinOp.sub 3 (Operand.tmp 54) (Operand.const (Value.int IntKind.i64 3)) 3, some (51, true)⟩, []⟩,
  ⟨⟨some 56, Op.binOp BinOp.lss 3 (Operand.tmp 53) (Operand.tmp 55) 3, some (51, true)⟩, []⟩,
  ⟨⟨some 57, Op.pick (Operand.tmp 51) (Operand.tmp 56) (Operand.const (Value.bool false)), none⟩, []⟩]) (.cond (Operand.tmp 57) .skip (.exit 2))) (.seq (.block 3 (.seq (.reg [⟨⟨some 60, Op.move (Operand.tmp 5), none⟩, []⟩,
  ⟨⟨some 61, Op.move (Operand.tmp 6), none⟩, []⟩,
  ⟨⟨some 62, Op.move (Operand.tmp 9), none⟩, []⟩,
  ⟨⟨some 63, Op.indexAddr 34 (Operand.tmp 61) (Operand.tmp 62), none⟩, []⟩,
  ⟨⟨some 64, Op.load 3 (Operand.tmp 63), none⟩, []⟩,
  ⟨⟨some 65, Op.call { callee := (Callee.value (Operand.func 79)), args := #[(Operand.tmp 60), (Operand.tmp 64)], argTypes := #[34, 3] }, none⟩, []⟩,
  ⟨⟨some 66, Op.unOp UnOp.not 4 (Operand.tmp 65), none⟩, []⟩,
  ⟨⟨some 67, Op.move (Operand.tmp 66), none⟩, []⟩,
  ⟨⟨some 68, Op.move (Operand.tmp 5), some (67, true)⟩, []⟩,
  ⟨⟨some 69, Op.move (Operand.tmp 6), some (67, true)⟩, []⟩,
  ⟨⟨some 70, Op.move (Operand.tmp 9), some (67, true)⟩, []⟩,
  ⟨⟨some 71, Op.indexAddr 34 (Operand.tmp 69) (Operand.tmp 70), some (67, true)⟩, []⟩,
  ⟨⟨some 72, Op.load 3 (Operand.tmp 71), some (67, true)⟩, []⟩,
  ⟨⟨some 73, Op.call { callee := (Callee.value (Operand.func 82)), args := #[(Operand.tmp 68), (Operand.tmp 72)], argTypes := #[34, 3] }, some (67, true)⟩, []⟩,
  ⟨⟨some 74, Op.pick (Operand.tmp 67) (Operand.tmp 73) (Operand.const (Value.bool false)), none⟩, []⟩]) (.cond (Operand.tmp 74) (.reg [⟨⟨some 75, Op.move (Operand.tmp 5), none⟩, []⟩,
  ⟨⟨some 76, Op.move (Operand.tmp 6), none⟩, []⟩,
  ⟨⟨some 77, Op.move (Operand.tmp 9), none⟩, []⟩,
  ⟨⟨some 78, Op.indexAddr 34 (Operand.tmp 76) (Operand.tmp 77), none⟩, []⟩,
  ⟨⟨some 79, Op.load 3 (Operand.tmp 78), none⟩, []⟩,
  ⟨⟨some 80, Op.call { callee := (Callee.value (Operand.func 83)), args := #[(Operand.tmp 75), (Operand.tmp 79)], argTypes := #[34, 3] }, none⟩, []⟩,
  ⟨⟨some 5, Op.assign (Operand.tmp 80), none⟩, []⟩]) .skip))) (.reg [⟨⟨some 58, Op.move (Operand.tmp 9), none⟩, []⟩,
  ⟨⟨some 59, Op.binOp BinOp.add 3 (Operand.tmp 58) (Operand.const (Value.int IntKind.i64 1)) 3, none⟩, []⟩,
  ⟨⟨some 9, Op.assign (Operand.tmp 59), none⟩, []⟩])))))) (.seq (.seq (.reg [⟨⟨some 81, Op.move (Operand.tmp 5), none⟩, []⟩,
  ⟨⟨some 82, Op.call { callee := (Callee.builtin Builtin.len), args := #[(Operand.tmp 81)], argTypes := #[34] }, none⟩, []⟩,
  ⟨⟨some 83, Op.binOp BinOp.gtr 3 (Operand.tmp 82) (Operand.const (Value.int IntKind.i64 0)) 3, none⟩, []⟩,
  ⟨⟨some 84, Op.move (Operand.tmp 83), none⟩, []⟩,
  ⟨⟨some 85, Op.move (Operand.tmp 0), some (84, true)⟩, []⟩,
  ⟨⟨some 86, Op.call { callee := (Callee.value (Operand.func 68)), args := #[(Operand.tmp 85), (Operand.const (Value.int IntKind.i64 16))], argTypes := #[71, 3] }, some (84, true)⟩, []⟩,
  ⟨⟨some 87, Op.pick (Operand.tmp 84) (Operand.tmp 86) (Operand.const (Value.bool false)), none⟩, []⟩]) (.cond (Operand.tmp 87) (.reg [⟨⟨some 88, Op.move (Operand.tmp 5), none⟩, []⟩,
  ⟨⟨some 89, Op.move (Operand.tmp 0), none⟩, []⟩,
  ⟨⟨some 90, Op.move (Operand.tmp 5), none⟩, []⟩,
  ⟨⟨some 91, Op.call { callee := (Callee.builtin Builtin.len), args := #[(Operand.tmp 90)], argTypes := #[34] }, none⟩, []⟩,
  ⟨⟨some 92, Op.call { callee := (Callee.value (Operand.func 69)), args := #[(Operand.tmp 89), (Operand.tmp 91)], argTypes := #[71, 3] }, none⟩, []⟩,
  ⟨⟨some 93, Op.move (Operand.tmp 0), none⟩, []⟩,
  ⟨⟨some 94, Op.buildSlice 34 5 #[(0, (Operand.const (Value.int IntKind.i64 13))), (1, (Operand.const (Value.int IntKind.i64 24))), (2, (Operand.const (Value.int IntKind.i64 9))), (3, (Operand.const (Value.int IntKind.i64 (-1)))), (4, (Operand.const (Value.int IntKind.i64 4611686018427387904)))], none⟩, []⟩,
  ⟨⟨some 95, Op.call { callee := (Callee.value (Operand.func 57)), args := #[(Operand.tmp 93), (Operand.tmp 94)], argTypes := #[71, 34] }, none⟩, []⟩,
  ⟨⟨some 96, Op.indexAddr 34 (Operand.tmp 88) (Operand.tmp 92), none⟩, []⟩,
  ⟨⟨none, Op.store 3 (Operand.tmp 96) (Operand.tmp 95), none⟩, []⟩]) .skip)) (.seq (.reg [⟨⟨some 97, Op.move (Operand.tmp 5), none⟩, []⟩,
  ⟨⟨some 4, Op.assign (Operand.tmp 97), none⟩, []⟩]) .ret))))))))
theorem sl67 : slim Tryz.f67.ntmps ords67 (Tryz.f67.body.getD .skip) = some cd67 := by kernel_rfl
theorem in67 {args : List Value} {H : AH} {R : Value → AH → Prop} (hl : args.length = 2) (h : ∀ (Q : Exit → Sl → AH → Prop), (∀ e s H, endA Tryz.prog [ResultVar.tmp 4] R e s H → Q e s H) → wpC Tryz.prog cd67 Q (enterA args) H) : ACalls Tryz.prog 67 args H R :=
  ACalls.intro (by kernel_rfl) Tryz.func67 rfl (by kernel_rfl) sl67 hl (of_decide_eq_true (by kernel_rfl)) (by kernel_rfl) h
def ords6 : List (Nat × List (Nat × Bool)) := []
def cd6 : Cd := (.seq (.reg [⟨⟨some 2, Op.assign (Operand.const (Value.bool false)), none⟩, []⟩]) (.seq (.reg [⟨⟨some 3, Op.move (Operand.tmp 0), none⟩, []⟩,
  ⟨⟨some 4, Op.call { callee := (Callee.builtin Builtin.len), args := #[(Operand.tmp 3)], argTypes := #[22] }, none⟩, []⟩,
  ⟨⟨some 5, Op.binOp BinOp.gtr 3 (Operand.tmp 4) (Operand.const (Value.int IntKind.i64 65536)) 3, none⟩, []⟩,
  ⟨⟨some 2, Op.assign (Operand.tmp 5), none⟩, []⟩]) .ret))
theorem sl6 : slim Tryz.f6.ntmps ords6 (Tryz.f6.body.getD .skip) = some cd6 := by kernel_rfl
theorem in6 {args : List Value} {H : AH} {R : Value → AH → Prop} (hl : args.length = 1) (h : ∀ (Q : Exit → Sl → AH → Prop), (∀ e s H, endA Tryz.prog [ResultVar.tmp 2] R e s H → Q e s H) → wpC Tryz.prog cd6 Q (enterA args) H) : ACalls Tryz.prog 6 args H R :=
  ACalls.intro (by kernel_rfl) Tryz.func6 rfl (by kernel_rfl) sl6 hl (of_decide_eq_true (by kernel_rfl)) (by kernel_rfl) h
def ords7 : List (Nat × List (Nat × Bool)) := []
def cd7 : Cd := (.seq (.reg [⟨⟨some 2, Op.assign (Operand.const (Value.int IntKind.i64 0)), none⟩, []⟩]) (.seq (.reg [⟨⟨some 4, Op.move (Operand.tmp 0), none⟩, []⟩,
  ⟨⟨some 5, Op.build 74 #[(0, (Operand.tmp 4))], none⟩, []⟩,
  ⟨⟨some 6, Op.box 74 (Operand.tmp 5), none⟩, []⟩,
  ⟨⟨some 3, Op.assign (Operand.tmp 6), none⟩, []⟩]) (.seq (.reg [⟨⟨some 7, Op.move (Operand.tmp 3), none⟩, []⟩,
  ⟨⟨some 8, Op.buildSlice 34 9 #[(0, (Operand.const (Value.int IntKind.i64 3))), (1, (Operand.const (Value.int IntKind.i64 4))), (2, (Operand.const (Value.int IntKind.i64 5))), (3, (Operand.const (Value.int IntKind.i64 6))), (4, (Operand.const (Value.int IntKind.i64 7))), (5, (Operand.const (Value.int IntKind.i64 8))), (6, (Operand.const (Value.int IntKind.i64 2))), (7, (Operand.const (Value.int IntKind.i64 9))), (8, (Operand.const (Value.int IntKind.i64 (-1))))], none⟩, []⟩,
  ⟨⟨some 9, Op.call { callee := (Callee.value (Operand.func 57)), args := #[(Operand.tmp 7), (Operand.tmp 8)], argTypes := #[71, 34] }, none⟩, []⟩,
  ⟨⟨some 2, Op.assign (Operand.tmp 9), none⟩, []⟩]) .ret)))
theorem sl7 : slim Tryz.f7.ntmps ords7 (Tryz.f7.body.getD .skip) = some cd7 := by kernel_rfl
theorem in7 {args : List Value} {H : AH} {R : Value → AH → Prop} (hl : args.length = 1) (h : ∀ (Q : Exit → Sl → AH → Prop), (∀ e s H, endA Tryz.prog [ResultVar.tmp 2] R e s H → Q e s H) → wpC Tryz.prog cd7 Q (enterA args) H) : ACalls Tryz.prog 7 args H R :=
  ACalls.intro (by kernel_rfl) Tryz.func7 rfl (by kernel_rfl) sl7 hl (of_decide_eq_true (by kernel_rfl)) (by kernel_rfl) h
def ords13 : List (Nat × List (Nat × Bool)) := [(5, [(0, false), (1, false), (2, false), (3, false), (4, false), (5, false), (6, true), (7, false), (8, false), (9, false), (10, false), (11, false)])]
def cd13 : Cd := (.seq (.reg [⟨⟨some 2, Op.assign (Operand.const (Value.int IntKind.i64 0)), none⟩, []⟩,
  ⟨⟨some 3, Op.assign (Operand.const (Value.slice none 0 0)), none⟩, []⟩,
  ⟨⟨some 4, Op.assign (Operand.const (Value.int IntKind.i64 0)), none⟩, []⟩]) (.seq (.reg [⟨⟨some 8, Op.move (Operand.tmp 0), none⟩, []⟩,
  ⟨⟨some 9, Op.build 74 #[(0, (Operand.tmp 8))], none⟩, []⟩,
  ⟨⟨some 10, Op.box 74 (Operand.tmp 9), none⟩, []⟩,
  ⟨⟨some 5, Op.assign (Operand.tmp 10), none⟩, []⟩]) (.seq (.reg [⟨⟨some 11, Op.move (Operand.tmp 5), none⟩, []⟩,
  ⟨⟨some 12, Op.call { callee := (Callee.value (Operand.func 66)), args := #[(Operand.tmp 11)], argTypes := #[71] }, none⟩, []⟩,
  ⟨⟨some 6, Op.assign (Operand.tmp 12), none⟩, []⟩]) (.seq (.reg [⟨⟨some 13, Op.move (Operand.tmp 5), none⟩, []⟩,
  ⟨⟨some 14, Op.move (Operand.tmp 6), none⟩, []⟩,
  ⟨⟨some 15, Op.call { callee := (Callee.value (Operand.func 67)), args := #[(Operand.tmp 13), (Operand.tmp 14)], argTypes := #[71, 3] }, none⟩, []⟩,
  ⟨⟨some 7, Op.assign (Operand.tmp 15), none⟩, []⟩]) (.seq (.seq (.reg [⟨⟨some 16, Op.move (Operand.tmp 7), none⟩, []⟩,
  ⟨⟨some 17, Op.call { callee := (Callee.builtin Builtin.len), args := #[(Operand.tmp 16)], argTypes := #[34] }, none⟩, []⟩,
  ⟨⟨some 18, Op.binOp BinOp.gtr 3 (Operand.tmp 17) (Operand.const (Value.int IntKind.i64 0)) 3, none⟩, []⟩,
  ⟨⟨some 19, Op.move (Operand.tmp 18), none⟩, []⟩,
  ⟨⟨some 20, Op.move (Operand.tmp 5), some (19, true)⟩, []⟩,
  ⟨⟨some 21, Op.call { callee := (Callee.value (Operand.func 68)), args := #[(Operand.tmp 20), (Operand.const (Value.int IntKind.i64 8))], argTypes := #[71, 3] }, some (19, true)⟩, []⟩,
  ⟨⟨some 22, Op.unOp UnOp.not 4 (Operand.tmp 21), some (19, true)⟩, []⟩,
  ⟨⟨some 23, Op.pick (Operand.tmp 19) (Operand.tmp 22) (Operand.const (Value.bool false)), none⟩, []⟩]) (.cond (Operand.tmp 23) (.seq (.reg [⟨⟨some 24, Op.move (Operand.tmp 6), none⟩, []⟩,
  ⟨⟨some 25, Op.move (Operand.tmp 7), none⟩, []⟩,
  ⟨⟨some 26, Op.move (Operand.tmp 7), none⟩, []⟩,
  ⟨⟨some 27, Op.move (Operand.tmp 5), none⟩, []⟩,
  ⟨⟨some 28, Op.move (Operand.tmp 7), none⟩, []⟩,
  ⟨⟨some 29, Op.call { callee := (Callee.builtin Builtin.len), args := #[(Operand.tmp 28)], argTypes := #[34] }, none⟩, []⟩,
  ⟨⟨some 30, Op.call { callee := (Callee.value (Operand.func 69)), args := #[(Operand.tmp 27), (Operand.tmp 29)], argTypes := #[71, 3] }, none⟩, []⟩,
  ⟨⟨some 31, Op.indexAddr 34 (Operand.tmp 26) (Operand.tmp 30), none⟩, []⟩,
  ⟨⟨some 32, Op.load 3 (Operand.tmp 31), none⟩, []⟩,
  ⟨⟨some 2, Op.assign (Operand.tmp 24), none⟩, []⟩,
  ⟨⟨some 3, Op.assign (Operand.tmp 25), none⟩, []⟩,
  ⟨⟨some 4, Op.assign (Operand.tmp 32), none⟩, []⟩]) .ret) .skip)) (.seq (.reg [⟨⟨some 33, Op.move (Operand.tmp 6), none⟩, []⟩,
  ⟨⟨some 34, Op.move (Operand.tmp 7), none⟩, []⟩,
  ⟨⟨some 35, Op.move (Operand.tmp 5), none⟩, []⟩,
  ⟨⟨some 36, Op.buildSlice 34 5 #[(0, (Operand.const (Value.int IntKind.i64 13))), (1, (Operand.const (Value.int IntKind.i64 24))), (2, (Operand.const (Value.int IntKind.i64 2))), (3, (Operand.const (Value.int IntKind.i64 0))), (4, (Operand.const (Value.int IntKind.i64 (-1))))], none⟩, []⟩,
  ⟨⟨some 37, Op.call { callee := (Callee.value (Operand.func 57)), args := #[(Operand.tmp 35), (Operand.tmp 36)], argTypes := #[71, 34] }, none⟩, []⟩,
  ⟨⟨some 2, Op.assign (Operand.tmp 33), none⟩, []⟩,
  ⟨⟨some 3, Op.assign (Operand.tmp 34), none⟩, []⟩,
  ⟨⟨some 4, Op.assign (Operand.tmp 37), none⟩, []⟩]) .ret))))))
theorem sl13 : slim Tryz.f13.ntmps ords13 (Tryz.f13.body.getD .skip) = some cd13 := by kernel_rfl
theorem in13 {args : List Value} {H : AH} {R : Value → AH → Prop} (hl : args.length = 1) (h : ∀ (Q : Exit → Sl → AH → Prop), (∀ e s H, endA Tryz.prog [ResultVar.tmp 2, ResultVar.tmp 3, ResultVar.tmp 4] R e s H → Q e s H) → wpC Tryz.prog cd13 Q (enterA args) H) : ACalls Tryz.prog 13 args H R :=
  ACalls.intro (by kernel_rfl) Tryz.func13 rfl (by kernel_rfl) sl13 hl (of_decide_eq_true (by kernel_rfl)) (by kernel_rfl) h
def ords21 : List (Nat × List (Nat × Bool)) := []
def cd21 : Cd := (.seq (.reg [⟨⟨some 2, Op.assign (Operand.const (Value.int IntKind.i64 0)), none⟩, []⟩,
  ⟨⟨some 3, Op.assign (Operand.const (Value.slice none 0 0)), none⟩, []⟩,
  ⟨⟨some 4, Op.assign (Operand.const (Value.int IntKind.i64 0)), none⟩, []⟩,
  ⟨⟨some 5, Op.assign (Operand.const (Value.bool false)), none⟩, []⟩]) (.seq (.reg [⟨⟨some 8, Op.move (Operand.tmp 0), none⟩, []⟩,
  ⟨⟨some 9, Op.build 74 #[(0, (Operand.tmp 8))], none⟩, []⟩,
  ⟨⟨some 10, Op.box 74 (Operand.tmp 9), none⟩, []⟩,
  ⟨⟨some 6, Op.assign (Operand.tmp 10), none⟩, []⟩]) (.seq (.reg [⟨⟨some 11, Op.move (Operand.tmp 6), none⟩, []⟩,
  ⟨⟨some 12, Op.call { callee := (Callee.value (Operand.func 66)), args := #[(Operand.tmp 11)], argTypes := #[71] }, none⟩, []⟩,
  ⟨⟨some 7, Op.assign (Operand.tmp 12), none⟩, []⟩]) (.seq (.reg [⟨⟨some 13, Op.move (Operand.tmp 7), none⟩, []⟩,
  ⟨⟨some 14, Op.move (Operand.tmp 6), none⟩, []⟩,
  ⟨⟨some 15, Op.move (Operand.tmp 7), none⟩, []⟩,
  ⟨⟨some 16, Op.call { callee := (Callee.value (Operand.func 67)), args := #[(Operand.tmp 14), (Operand.tmp 15)], argTypes := #[71, 3] }, none⟩, []⟩,
  ⟨⟨some 17, Op.move (Operand.tmp 6), none⟩, []⟩,
  ⟨⟨some 18, Op.call { callee := (Callee.value (Operand.func 69)), args := #[(Operand.tmp 17), (Operand.const (Value.int IntKind.i64 8))], argTypes := #[71, 3] }, none⟩, []⟩,
  ⟨⟨some 19, Op.move (Operand.tmp 6), none⟩, []⟩,
  ⟨⟨some 20, Op.call { callee := (Callee.value (Operand.func 69)), args := #[(Operand.tmp 19), (Operand.const (Value.int IntKind.i64 2))], argTypes := #[71, 3] }, none⟩, []⟩,
  ⟨⟨some 21, Op.binOp BinOp.sub 3 (Operand.tmp 18) (Operand.tmp 20) 3, none⟩, []⟩,
  ⟨⟨some 22, Op.move (Operand.tmp 6), none⟩, []⟩,
  ⟨⟨some 23, Op.call { callee := (Callee.value (Operand.func 68)), args := #[(Operand.tmp 22), (Operand.const (Value.int IntKind.i64 2))], argTypes := #[71, 3] }, none⟩, []⟩,
  ⟨⟨some 2, Op.assign (Operand.tmp 13), none⟩, []⟩,
  ⟨⟨some 3, Op.assign (Operand.tmp 16), none⟩, []⟩,
  ⟨⟨some 4, Op.assign (Operand.tmp 21), none⟩, []⟩,
  ⟨⟨some 5, Op.assign (Operand.tmp 23), none⟩, []⟩]) .ret))))
theorem sl21 : slim Tryz.f21.ntmps ords21 (Tryz.f21.body.getD .skip) = some cd21 := by kernel_rfl
theorem in21 {args : List Value} {H : AH} {R : Value → AH → Prop} (hl : args.length = 1) (h : ∀ (Q : Exit → Sl → AH → Prop), (∀ e s H, endA Tryz.prog [ResultVar.tmp 2, ResultVar.tmp 3, ResultVar.tmp 4, ResultVar.tmp 5] R e s H → Q e s H) → wpC Tryz.prog cd21 Q (enterA args) H) : ACalls Tryz.prog 21 args H R :=
  ACalls.intro (by kernel_rfl) Tryz.func21 rfl (by kernel_rfl) sl21 hl (of_decide_eq_true (by kernel_rfl)) (by kernel_rfl) h
end Go.Proofs.YtdgapefbbdfpbaaGreat.Ai
namespace Go.Proofs.YtdgapefbbdfpbaaGreat.Ai
open Go Go.RowKit
set_option linter.unusedVariables false
set_option linter.unusedSimpArgs false
set_option maxRecDepth 20000 in
set_option maxHeartbeats 1000000 in
theorem corners_c {H : AH} {o : Nat} {v : Value} {us : List Value} {N : Nat} (h : Cur H o v us N) (hN : N ≤ 100000000) :
    ACalls Tryz.prog 66 [.pointer (some ⟨o, 0, none⟩)] H fun r H' => (∃ x : Int, r = .int .i64 x ∧ -1 ≤ x ∧ x ≤ 9) ∧ Cur H' o v us (N + 2) ∧ Keeps o H H' := by
  have hoH : o < H.length := by
    obtain ⟨_, _, g, _⟩ := h.cur
    exact at_lt g
  refine in66 rfl ?_
  intro Q hQ
  simp (maxSteps := 1000000) (disch := omega) only [cd66, S, S1, S2, S3, S4, S5, ST, eq_self, reduceIte, reduceCtorEq, Nat.reduceEqDiff, Nat.reduceAdd]
  refine CallH.by (one_c h (by omega) 20 (by omega)) ?_
  rintro _ K ⟨⟨b, rfl⟩, hCK, oK⟩
  have hKl := oK.1
  simp (maxSteps := 1000000) (disch := omega) only [S, S1, S2, S3, S4, S5, ST, eq_self, reduceIte, reduceCtorEq, Nat.reduceEqDiff, Nat.reduceAdd]
  cases b with
  | true =>
    refine brH.intro (fun _ => ?_) (fun q => by cases q)
    simp (maxSteps := 1000000) (disch := omega) only [S, S1, S2, S3, S4, S5, ST, eq_self, reduceIte, reduceCtorEq, Nat.reduceEqDiff, Nat.reduceAdd]
    have blK1 : ∀ H0 : AH, buildSliceA Tryz.prog 34 4 [(0, .int .i64 2), (1, .int .i64 9), (2, .int .i64 (-1)), (3, .int .i64 8)] H0 = some (.slice (some ⟨H0.length, 0, none⟩) 4 4, H0 ++ [.cells [.int .i64 2, .int .i64 9, .int .i64 (-1), .int .i64 8] 3 false]) := fun H0 => by kernel_rfl
    simp (maxSteps := 1000000) (disch := omega) only [blK1, S, S1, S2, S3, S4, S5, ST, eq_self, reduceIte, reduceCtorEq, Nat.reduceEqDiff, Nat.reduceAdd]
    generalize hK1 : K ++ [AObj.cells [.int .i64 2, .int .i64 9, .int .i64 (-1), .int .i64 8] 3 false] = K1
    have pK1 : K <+: K1 := by rw [← hK1]; exact List.prefix_append _ _
    have aK1 : K1[K.length]? = some (.cells [.int .i64 2, .int .i64 9, .int .i64 (-1), .int .i64 8] 3 false) := by rw [← hK1]; exact at_new ..
    have wK1 : Row 3 K1 (.slice (some ⟨K.length, 0, none⟩) 4 4) [2, 9, -1, 8] := .inr ⟨K.length, 0, _, false, rfl, aK1, by simp, rfl⟩
    refine CallH.by (among_c (hCK.pre pK1) (by omega) wK1 (by show K.length ≠ o; omega) (by simp)) ?_
    rintro _ L ⟨⟨x, rfl, hx⟩, hCL, oL⟩
    simp (maxSteps := 1000000) (disch := omega) only [S, S1, S2, S3, S4, S5, ST, eq_self, reduceIte, reduceCtorEq, Nat.reduceEqDiff, Nat.reduceAdd]
    refine hQ _ _ _ ?_
    simp (maxSteps := 1000000) (disch := omega) only [S, S1, S2, S3, S4, S5, ST, eq_self, reduceIte, reduceCtorEq, Nat.reduceEqDiff, Nat.reduceAdd]
    refine ⟨⟨x, rfl, ?_⟩, hCL, (oK.keeps.trans (.of_pre pK1)).trans oL.keeps⟩
    simp at hx; omega
  | false =>
    refine brH.intro (fun q => by cases q) (fun _ => ?_)
    simp (maxSteps := 1000000) (disch := omega) only [S, S1, S2, S3, S4, S5, ST, eq_self, reduceIte, reduceCtorEq, Nat.reduceEqDiff, Nat.reduceAdd]
    have blK1 : ∀ H0 : AH, buildSliceA Tryz.prog 34 7 [(0, .int .i64 6), (1, .int .i64 5), (2, .int .i64 7), (3, .int .i64 4), (4, .int .i64 3), (5, .int .i64 6), (6, .int .i64 7)] H0 = some (.slice (some ⟨H0.length, 0, none⟩) 7 7, H0 ++ [.cells [.int .i64 6, .int .i64 5, .int .i64 7, .int .i64 4, .int .i64 3, .int .i64 6, .int .i64 7] 3 false]) := fun H0 => by kernel_rfl
    simp (maxSteps := 1000000) (disch := omega) only [blK1, S, S1, S2, S3, S4, S5, ST, eq_self, reduceIte, reduceCtorEq, Nat.reduceEqDiff, Nat.reduceAdd]
    generalize hK1 : K ++ [AObj.cells [.int .i64 6, .int .i64 5, .int .i64 7, .int .i64 4, .int .i64 3, .int .i64 6, .int .i64 7] 3 false] = K1
    have pK1 : K <+: K1 := by rw [← hK1]; exact List.prefix_append _ _
    have aK1 : K1[K.length]? = some (.cells [.int .i64 6, .int .i64 5, .int .i64 7, .int .i64 4, .int .i64 3, .int .i64 6, .int .i64 7] 3 false) := by rw [← hK1]; exact at_new ..
    have wK1 : Row 3 K1 (.slice (some ⟨K.length, 0, none⟩) 7 7) [6, 5, 7, 4, 3, 6, 7] := .inr ⟨K.length, 0, _, false, rfl, aK1, by simp, rfl⟩
    refine CallH.by (among_c (hCK.pre pK1) (by omega) wK1 (by show K.length ≠ o; omega) (by simp)) ?_
    rintro _ L ⟨⟨x, rfl, hx⟩, hCL, oL⟩
    simp (maxSteps := 1000000) (disch := omega) only [S, S1, S2, S3, S4, S5, ST, eq_self, reduceIte, reduceCtorEq, Nat.reduceEqDiff, Nat.reduceAdd]
    refine hQ _ _ _ ?_
    simp (maxSteps := 1000000) (disch := omega) only [S, S1, S2, S3, S4, S5, ST, eq_self, reduceIte, reduceCtorEq, Nat.reduceEqDiff, Nat.reduceAdd]
    refine ⟨⟨x, rfl, ?_⟩, hCL, (oK.keeps.trans (.of_pre pK1)).trans oL.keeps⟩
    simp at hx; omega
theorem put_in {l : List Int} {x y : Int} (h : y ∈ put l x) : y ∈ l ∨ y = x := by
  induction l with
  | nil => simp [put] at h; exact .inr h
  | cons z l ih =>
    simp only [put] at h
    split at h
    · rcases List.mem_cons.1 h with q | q
      · exact .inl (by simp [q])
      · rcases ih q with q | q
        · exact .inl (by simp [q])
        · exact .inr q
    · split at h
      · exact .inl h
      · rcases List.mem_cons.1 h with q | q
        · exact .inr q
        · exact .inl q
theorem dgs_pos : ∀ n : Fin 9, 4 ≤ n.val → 0 < (dgs (n.val : Int) n.val).length := by decide
set_option maxRecDepth 20000 in
set_option maxHeartbeats 8000000 in
theorem triangles_c {H : AH} {o : Nat} {v : Value} {us : List Value} {N : Nat} (h : Cur H o v us N) (hN : N ≤ 100000000) (n : Int) (hn : -1 ≤ n ∧ n ≤ 9) :
    ACalls Tryz.prog 67 [.pointer (some ⟨o, 0, none⟩), .int .i64 n] H fun r H' => ∃ xs : List Int, Own 3 H H' r xs ∧ xs.length ≤ 5 ∧ (∀ y ∈ xs, I64 y) ∧ Cur H' o v us (N + 70) ∧ Keeps o H H' := by
  have hoH : o < H.length := by
    obtain ⟨_, _, g, _⟩ := h.cur
    exact at_lt g
  refine in67 rfl ?_
  intro Q hQ
  simp (maxSteps := 1000000) (disch := omega) only [cd67, S, S1, S2, S3, S4, S5, ST, eq_self, reduceIte, reduceCtorEq, Nat.reduceEqDiff, Nat.reduceAdd]
  generalize hA : H ++ [AObj.cells [] 3 false] = A
  have pA : H <+: A := by rw [← hA]; exact List.prefix_append _ _
  have cA : A[H.length]? = some (.cells (ints []) 3 false) := by rw [← hA]; exact at_new ..
  have lA : A.length = H.length + 1 := by rw [← hA]; simp
  have own0 : Own 3 H A (.slice (some ⟨H.length, 0, none⟩) 0 0) [] := .inr ⟨H.length, rfl, Nat.le_refl _, cA⟩
  have hoA : o < A.length := by omega
  refine CallH.by (l8Corners_c n A) ?_
  rintro _ _ ⟨rfl, rfl⟩
  simp (maxSteps := 1000000) (disch := omega) only [S, S1, S2, S3, S4, S5, ST, eq_self, reduceIte, reduceCtorEq, Nat.reduceEqDiff, Nat.reduceAdd]
  refine brD.intro (fun hc => ?_) (fun hc => ?_)
  rotate_left
  · simp (maxSteps := 1000000) (disch := omega) only [S, S1, S2, S3, S4, S5, ST, eq_self, reduceIte, reduceCtorEq, Nat.reduceEqDiff, Nat.reduceAdd]
    refine hQ _ _ _ ?_
    simp (maxSteps := 1000000) (disch := omega) only [own0.row.tup, S, S1, S2, S3, S4, S5, ST, eq_self, reduceIte, reduceCtorEq, Nat.reduceEqDiff, Nat.reduceAdd]
    exact ⟨[], own0, by simp, by simp, (h.pre pA).more (by omega), .of_pre pA⟩
  obtain ⟨M, rfl⟩ : ∃ M : Nat, n = M := ⟨n.toNat, by omega⟩
  generalize hnM : (M : Int) = n at *
  have hMn : n.toNat = M := by omega
  have ok := triA_ok hc
  have hdr := ok.2.2.2.2.1
  have hdl := ok.2.2.2.1
  have hdp : 4 ≤ n → 0 < (dgs n n.toNat).length := fun q => by
    have := dgs_pos ⟨M, by omega⟩ (by show 4 ≤ M; omega)
    rw [hMn, ← hnM]; exact this
  simp (maxSteps := 1000000) (disch := omega) only [S, S1, S2, S3, S4, S5, ST, eq_self, reduceIte, reduceCtorEq, Nat.reduceEqDiff, Nat.reduceAdd]
  refine CallH.by (l8Diagonals_c n A (by omega)) ?_
  rintro vA B ⟨hD0, pB⟩
  have own1 : Own 3 H B (.slice (some ⟨H.length, 0, none⟩) 0 0) [] := .inr ⟨H.length, rfl, Nat.le_refl _, pre_at pB cA⟩
  have hC0 := (h.pre (pA.trans pB)).more (show N ≤ N + 0 by omega)
  have hK0 : Keeps o H B := .of_pre (pA.trans pB)
  simp (maxSteps := 1000000) (disch := omega) only [S, S1, S2, S3, S4, S5, ST, eq_self, reduceIte, reduceCtorEq, Nat.reduceEqDiff, Nat.reduceAdd]
  refine LoopH.by (fun m s H' => ∃ (i : Nat) (xs : List Int), m + i = 60 ∧ s 0 = .pointer (some ⟨o, 0, none⟩) ∧ s 1 = .int .i64 n ∧ s 6 = vA ∧ s 7 = .int .i64 ((i : Nat) : Int) ∧ (xs.length : Int) ≤ n - 3 ∧ (∀ y ∈ xs, 0 ≤ y ∧ y ≤ 100) ∧ Own 3 H H' (s 5) xs ∧ Own 3 A H' vA (dgs n n.toNat) ∧ Cur H' o v us (N + i) ∧ Keeps o H H') 60 ?_ ?_
  · refine ⟨0, [], ?_⟩
    simp (maxSteps := 1000000) (disch := omega) only [S, S1, S2, S3, S4, S5, ST, eq_self, reduceIte, reduceCtorEq, Nat.reduceEqDiff, Nat.reduceAdd]
    (repeat' first | exact own1 | exact hD0 | exact hC0 | exact hK0 | apply And.intro) <;> first | (simp only [Value.int.injEq, true_and]; omega) | omega | rfl | assumption | (simp; done) | (simp; omega)
  rintro m s H' ⟨i, xs, hm, h0, h1, h6, h7, hxl, hxr, hO, hD, hC, hK⟩
  generalize hU : s 5 = U at *
  have hCz : Cur H' o v us (N + 60) := hC.more (by omega)
  by_cases g : (i : Int) < 60
  · by_cases g2 : (xs.length : Int) < n - 3
    · have hdp := hdp (by omega)
      simp (maxSteps := 1000000) (disch := omega) only [h0, h1, h6, h7, hU, decide_eq_true g, hO.row.len Tryz.underlying34, hD.row.len Tryz.underlying34, wrap64, decide_eq_true g2, S, S1, S2, S3, S4, S5, ST, eq_self, reduceIte, reduceCtorEq, Nat.reduceEqDiff, Nat.reduceAdd]
      refine CallH.by (pick_c hC (by omega) _ (by omega)) ?_
      rintro _ K ⟨⟨k, rfl, hk⟩, hCK, oK⟩
      have hk2 : k < (dgs n n.toNat).length := by omega
      have hOK := hO.keeps oK.keeps hoH
      have hDK := hD.keeps oK.keeps hoA
      have hKK := hK.trans oK.keeps
      have hCK1 : Cur K o v us (N + (i + 1)) := hCK.more (by omega)
      have cK := hDK.row.cell hk2
      have hxd : 0 ≤ (dgs n n.toNat).getD k 0 ∧ (dgs n n.toNat).getD k 0 ≤ 100 := hdr _ (by simp [hk2])
      simp (maxSteps := 1000000) (disch := omega) only [h0, h6, hU, hDK.row.ix Tryz.underlying34 cs3, Int.toNat_natCast, cK, S, S1, S2, S3, S4, S5, ST, eq_self, reduceIte, reduceCtorEq, Nat.reduceEqDiff, Nat.reduceAdd]
      refine CallH.by (l1Has_c U xs _ K hOK.row (by omega)) ?_
      rintro _ _ ⟨rfl, rfl⟩
      by_cases g3 : (dgs n n.toNat).getD k 0 ∈ xs
      · simp (maxSteps := 1000000) (disch := omega) only [decide_eq_true g3, h7, wrap64, S, S1, S2, S3, S4, S5, ST, eq_self, reduceIte, reduceCtorEq, Nat.reduceEqDiff, Nat.reduceAdd]
        refine ⟨m - 1, by omega, i + 1, xs, ?_⟩
        simp (maxSteps := 1000000) (disch := omega) only [h0, h1, h6, hU, S, S1, S2, S3, S4, S5, ST, eq_self, reduceIte, reduceCtorEq, Nat.reduceEqDiff, Nat.reduceAdd]
        (repeat' first | exact hxl | exact hxr | exact hOK | exact hDK | exact hCK1 | exact hKK | apply And.intro) <;> first | (simp only [Value.int.injEq, true_and]; omega) | omega | rfl | assumption | (simp; done) | (simp; omega)
      · simp (maxSteps := 1000000) (disch := omega) only [decide_eq_false g3, hU, S, S1, S2, S3, S4, S5, ST, eq_self, reduceIte, reduceCtorEq, Nat.reduceEqDiff, Nat.reduceAdd]
        refine CallH.by (l8Apart_c U xs _ K hOK.row (by omega) (fun y hy => by have := hxr y hy; exact ⟨by omega, by omega⟩) ⟨by omega, by omega⟩) ?_
        rintro _ _ ⟨rfl, rfl⟩
        simp (maxSteps := 1000000) (disch := omega) only [S, S1, S2, S3, S4, S5, ST, eq_self, reduceIte, reduceCtorEq, Nat.reduceEqDiff, Nat.reduceAdd]
        refine brH.intro (fun _ => ?_) (fun _ => ?_)
        · simp (maxSteps := 1000000) (disch := omega) only [h7, wrap64, S, S1, S2, S3, S4, S5, ST, eq_self, reduceIte, reduceCtorEq, Nat.reduceEqDiff, Nat.reduceAdd]
          refine ⟨m - 1, by omega, i + 1, xs, ?_⟩
          simp (maxSteps := 1000000) (disch := omega) only [h0, h1, h6, hU, S, S1, S2, S3, S4, S5, ST, eq_self, reduceIte, reduceCtorEq, Nat.reduceEqDiff, Nat.reduceAdd]
          (repeat' first | exact hxl | exact hxr | exact hOK | exact hDK | exact hCK1 | exact hKK | apply And.intro) <;> first | (simp only [Value.int.injEq, true_and]; omega) | omega | rfl | assumption | (simp; done) | (simp; omega)
        · simp (maxSteps := 1000000) (disch := omega) only [hU, S, S1, S2, S3, S4, S5, ST, eq_self, reduceIte, reduceCtorEq, Nat.reduceEqDiff, Nat.reduceAdd]
          refine CallH.by (l1Put_c U xs _ K hOK.row (by omega) g3) ?_
          rintro W K2 ⟨hW, pW⟩
          have f1 : Own 3 H K2 W (put xs ((dgs n n.toNat).getD k 0)) := ownB hW hKK.1
          have f2 : ((put xs ((dgs n n.toNat).getD k 0)).length : Int) ≤ n - 3 := by have := put_len xs ((dgs n n.toNat).getD k 0); omega
          have f3 : ∀ y ∈ put xs ((dgs n n.toNat).getD k 0), 0 ≤ y ∧ y ≤ 100 := fun y hy => by
            rcases put_in hy with q | q
            · exact hxr y q
            · omega
          have f4 := hDK.keeps (.of_pre pW) hoA
          have f5 := hCK1.pre pW
          have f6 := hKK.trans (.of_pre pW)
          simp (maxSteps := 1000000) (disch := omega) only [h7, wrap64, S, S1, S2, S3, S4, S5, ST, eq_self, reduceIte, reduceCtorEq, Nat.reduceEqDiff, Nat.reduceAdd]
          refine ⟨m - 1, by omega, i + 1, put xs ((dgs n n.toNat).getD k 0), ?_⟩
          simp (maxSteps := 1000000) (disch := omega) only [h0, h1, h6, S, S1, S2, S3, S4, S5, ST, eq_self, reduceIte, reduceCtorEq, Nat.reduceEqDiff, Nat.reduceAdd]
          (repeat' first | exact f1 | exact f2 | exact f3 | exact f4 | exact f5 | exact f6 | apply And.intro) <;> first | (simp only [Value.int.injEq, true_and]; omega) | omega | rfl | assumption | (simp; done) | (simp; omega)
    · simp (maxSteps := 1000000) (disch := omega) only [h0, h1, h6, h7, hU, decide_eq_true g, hO.row.len Tryz.underlying34, wrap64, decide_eq_false g2, S, S1, S2, S3, S4, S5, ST, eq_self, reduceIte, reduceCtorEq, Nat.reduceEqDiff, Nat.reduceAdd]
      refine LoopH.by (fun m s H' => ∃ (j : Nat) (xs : List Int), m + j = (dgs n n.toNat).length ∧ s 0 = .pointer (some ⟨o, 0, none⟩) ∧ s 1 = .int .i64 n ∧ s 6 = vA ∧ s 9 = .int .i64 ((j : Nat) : Int) ∧ (xs.length : Int) ≤ n - 3 ∧ (∀ y ∈ xs, 0 ≤ y ∧ y ≤ 100) ∧ Own 3 H H' (s 5) xs ∧ Own 3 A H' vA (dgs n n.toNat) ∧ Cur H' o v us (N + 60) ∧ Keeps o H H') (dgs n n.toNat).length ?_ ?_
      · refine ⟨0, xs, ?_⟩
        simp (maxSteps := 1000000) (disch := omega) only [h0, h1, h6, hU, S, S1, S2, S3, S4, S5, ST, eq_self, reduceIte, reduceCtorEq, Nat.reduceEqDiff, Nat.reduceAdd]
        (repeat' first | exact hxl | exact hxr | exact hO | exact hD | exact hCz | exact hK | apply And.intro) <;> first | (simp only [Value.int.injEq, true_and]; omega) | omega | rfl | assumption | (simp; done) | (simp; omega)
      clear hU hO hxl hxr hD hC hK h0 h1 h6 h7 hm hCz g
      clear g2
      clear xs m i s H' U
      rintro m s H' ⟨j, xs, hm, h0, h1, h6, h9, hxl, hxr, hO, hD, hC, hK⟩
      generalize hU : s 5 = U at *
      by_cases g : (j : Int) < ((dgs n n.toNat).length : Int)
      · by_cases g2 : (xs.length : Int) < n - 3
        · have hj : j < (dgs n n.toNat).length := by omega
          have cK := hD.row.cell hj
          have hxd : 0 ≤ (dgs n n.toNat).getD j 0 ∧ (dgs n n.toNat).getD j 0 ≤ 100 := hdr _ (by simp [hj])
          simp (maxSteps := 1000000) (disch := omega) only [h0, h1, h6, h9, hU, hD.row.len Tryz.underlying34, decide_eq_true g, hO.row.len Tryz.underlying34, wrap64, decide_eq_true g2, hD.row.ix Tryz.underlying34 cs3, Int.toNat_natCast, cK, S, S1, S2, S3, S4, S5, ST, eq_self, reduceIte, reduceCtorEq, Nat.reduceEqDiff, Nat.reduceAdd]
          refine CallH.by (l1Has_c U xs _ H' hO.row (by omega)) ?_
          rintro _ _ ⟨rfl, rfl⟩
          by_cases g3 : (dgs n n.toNat).getD j 0 ∈ xs
          · simp (maxSteps := 1000000) (disch := omega) only [decide_eq_true g3, h9, wrap64, S, S1, S2, S3, S4, S5, ST, eq_self, reduceIte, reduceCtorEq, Nat.reduceEqDiff, Nat.reduceAdd]
            refine ⟨m - 1, by omega, j + 1, xs, ?_⟩
            simp (maxSteps := 1000000) (disch := omega) only [h0, h1, h6, hU, S, S1, S2, S3, S4, S5, ST, eq_self, reduceIte, reduceCtorEq, Nat.reduceEqDiff, Nat.reduceAdd]
            (repeat' first | exact hxl | exact hxr | exact hO | exact hD | exact hC | exact hK | apply And.intro) <;> first | (simp only [Value.int.injEq, true_and]; omega) | omega | rfl | assumption | (simp; done) | (simp; omega)
          · simp (maxSteps := 1000000) (disch := omega) only [decide_eq_false g3, h6, h9, hU, hD.row.ix Tryz.underlying34 cs3, Int.toNat_natCast, cK, S, S1, S2, S3, S4, S5, ST, eq_self, reduceIte, reduceCtorEq, Nat.reduceEqDiff, Nat.reduceAdd]
            refine CallH.by (l8Apart_c U xs _ H' hO.row (by omega) (fun y hy => by have := hxr y hy; exact ⟨by omega, by omega⟩) ⟨by omega, by omega⟩) ?_
            rintro _ _ ⟨rfl, rfl⟩
            simp (maxSteps := 1000000) (disch := omega) only [S, S1, S2, S3, S4, S5, ST, eq_self, reduceIte, reduceCtorEq, Nat.reduceEqDiff, Nat.reduceAdd]
            refine brH.intro (fun _ => ?_) (fun _ => ?_)
            · simp (maxSteps := 1000000) (disch := omega) only [h9, wrap64, S, S1, S2, S3, S4, S5, ST, eq_self, reduceIte, reduceCtorEq, Nat.reduceEqDiff, Nat.reduceAdd]
              refine ⟨m - 1, by omega, j + 1, xs, ?_⟩
              simp (maxSteps := 1000000) (disch := omega) only [h0, h1, h6, hU, S, S1, S2, S3, S4, S5, ST, eq_self, reduceIte, reduceCtorEq, Nat.reduceEqDiff, Nat.reduceAdd]
              (repeat' first | exact hxl | exact hxr | exact hO | exact hD | exact hC | exact hK | apply And.intro) <;> first | (simp only [Value.int.injEq, true_and]; omega) | omega | rfl | assumption | (simp; done) | (simp; omega)
            · simp (maxSteps := 1000000) (disch := omega) only [h6, h9, hU, hD.row.ix Tryz.underlying34 cs3, Int.toNat_natCast, cK, S, S1, S2, S3, S4, S5, ST, eq_self, reduceIte, reduceCtorEq, Nat.reduceEqDiff, Nat.reduceAdd]
              refine CallH.by (l1Put_c U xs _ H' hO.row (by omega) g3) ?_
              rintro W K ⟨hW, pW⟩
              have f1 : Own 3 H K W (put xs ((dgs n n.toNat).getD j 0)) := ownB hW hK.1
              have f2 : ((put xs ((dgs n n.toNat).getD j 0)).length : Int) ≤ n - 3 := by have := put_len xs ((dgs n n.toNat).getD j 0); omega
              have f3 : ∀ y ∈ put xs ((dgs n n.toNat).getD j 0), 0 ≤ y ∧ y ≤ 100 := fun y hy => by
                rcases put_in hy with q | q
                · exact hxr y q
                · omega
              have f4 := hD.keeps (.of_pre pW) hoA
              have f5 := hC.pre pW
              have f6 := hK.trans (.of_pre pW)
              simp (maxSteps := 1000000) (disch := omega) only [h9, wrap64, S, S1, S2, S3, S4, S5, ST, eq_self, reduceIte, reduceCtorEq, Nat.reduceEqDiff, Nat.reduceAdd]
              refine ⟨m - 1, by omega, j + 1, put xs ((dgs n n.toNat).getD j 0), ?_⟩
              simp (maxSteps := 1000000) (disch := omega) only [h0, h1, h6, S, S1, S2, S3, S4, S5, ST, eq_self, reduceIte, reduceCtorEq, Nat.reduceEqDiff, Nat.reduceAdd]
              (repeat' first | exact f1 | exact f2 | exact f3 | exact f4 | exact f5 | exact f6 | apply And.intro) <;> first | (simp only [Value.int.injEq, true_and]; omega) | omega | rfl | assumption | (simp; done) | (simp; omega)
        · simp (maxSteps := 1000000) (disch := omega) only [h0, h1, h6, h9, hU, hD.row.len Tryz.underlying34, decide_eq_true g, hO.row.len Tryz.underlying34, wrap64, decide_eq_false g2, S, S1, S2, S3, S4, S5, ST, eq_self, reduceIte, reduceCtorEq, Nat.reduceEqDiff, Nat.reduceAdd]
          by_cases g5 : (0 : Int) < (xs.length : Int)
          · simp (maxSteps := 1000000) (disch := omega) only [decide_eq_true g5, h0, hU, hO.row.len Tryz.underlying34, S, S1, S2, S3, S4, S5, ST, eq_self, reduceIte, reduceCtorEq, Nat.reduceEqDiff, Nat.reduceAdd]
            refine CallH.by (one_c hC (by omega) 16 (by omega)) ?_
            rintro _ K ⟨⟨b, rfl⟩, hCK, oK⟩
            have hOK := hO.keeps oK.keeps hoH
            simp (maxSteps := 1000000) (disch := omega) only [S, S1, S2, S3, S4, S5, ST, eq_self, reduceIte, reduceCtorEq, Nat.reduceEqDiff, Nat.reduceAdd]
            cases b with
            | false =>
              refine brH.intro (fun q => by cases q) (fun _ => ?_)
              simp (maxSteps := 1000000) (disch := omega) only [hU, S, S1, S2, S3, S4, S5, ST, eq_self, reduceIte, reduceCtorEq, Nat.reduceEqDiff, Nat.reduceAdd]
              refine hQ _ _ _ ?_
              simp (maxSteps := 1000000) (disch := omega) only [hOK.row.tup, S, S1, S2, S3, S4, S5, ST, eq_self, reduceIte, reduceCtorEq, Nat.reduceEqDiff, Nat.reduceAdd]
              exact ⟨xs, hOK, by omega, fun y hy => by have := hxr y hy; exact ⟨by omega, by omega⟩, hCK.more (by omega), hK.trans oK.keeps⟩
            | true =>
              refine brH.intro (fun _ => ?_) (fun q => by cases q)
              simp (maxSteps := 1000000) (disch := omega) only [h0, hU, hOK.row.len Tryz.underlying34, S, S1, S2, S3, S4, S5, ST, eq_self, reduceIte, reduceCtorEq, Nat.reduceEqDiff, Nat.reduceAdd]
              refine CallH.by (pick_c hCK (by omega) _ (by omega)) ?_
              rintro _ K0 ⟨⟨k, rfl, hk⟩, hCK0, oK0⟩
              have hkl : k < xs.length := by omega
              have hOK0 := hOK.keeps oK0.keeps hoH
              have lK0 : K0.length = H'.length := by rw [oK0.1, oK.1]
              simp (maxSteps := 1000000) (disch := omega) only [h0, S, S1, S2, S3, S4, S5, ST, eq_self, reduceIte, reduceCtorEq, Nat.reduceEqDiff, Nat.reduceAdd]
              have blK1 : ∀ H0 : AH, buildSliceA Tryz.prog 34 5 [(0, .int .i64 13), (1, .int .i64 24), (2, .int .i64 9), (3, .int .i64 (-1)), (4, .int .i64 4611686018427387904)] H0 = some (.slice (some ⟨H0.length, 0, none⟩) 5 5, H0 ++ [.cells [.int .i64 13, .int .i64 24, .int .i64 9, .int .i64 (-1), .int .i64 4611686018427387904] 3 false]) := fun H0 => by kernel_rfl
              simp (maxSteps := 1000000) (disch := omega) only [blK1, S, S1, S2, S3, S4, S5, ST, eq_self, reduceIte, reduceCtorEq, Nat.reduceEqDiff, Nat.reduceAdd]
              generalize hK1 : K0 ++ [AObj.cells [.int .i64 13, .int .i64 24, .int .i64 9, .int .i64 (-1), .int .i64 4611686018427387904] 3 false] = K1
              have pK1 : K0 <+: K1 := by rw [← hK1]; exact List.prefix_append _ _
              have aK1 : K1[K0.length]? = some (.cells [.int .i64 13, .int .i64 24, .int .i64 9, .int .i64 (-1), .int .i64 4611686018427387904] 3 false) := by rw [← hK1]; exact at_new ..
              have wK1 : Row 3 K1 (.slice (some ⟨K0.length, 0, none⟩) 5 5) [13, 24, 9, -1, 4611686018427387904] := .inr ⟨K0.length, 0, _, false, rfl, aK1, by simp, rfl⟩
              refine CallH.by (among_c (hCK0.pre pK1) (by omega) wK1 (by show K0.length ≠ o; have := hK.1; omega) (by simp)) ?_
              rintro _ L ⟨⟨x, rfl, hx⟩, hCL, oL⟩
              have hOL : Own 3 H L U xs := by
                have q : Own 3 H K1 U xs := by
                  rcases hOK0 with q | ⟨oo, q1, q2, q3⟩
                  · exact .inl q
                  · exact .inr ⟨oo, q1, q2, pre_at pK1 q3⟩
                exact q.keeps oL.keeps hoH
              have kA : Keeps o H L := ((hK.trans oK.keeps).trans oK0.keeps).trans ((Keeps.of_pre pK1).trans oL.keeps)
              rcases hOL with ⟨q1, q2⟩ | ⟨oo, q1, q2, q3⟩
              · subst q2; simp at g5
              subst q1
              have ix := hOK0.row.ix Tryz.underlying34 cs3 .i64 (i := (k : Int)) (by omega) (by omega)
              have st := st_ints (P := Tryz.prog) (t := 3) (x := x) cs3 q3 hkl
              simp (maxSteps := 1000000) (disch := omega) only [hU, ix, rowO, rowK, Int.toNat_natCast, Nat.zero_add, st, S, S1, S2, S3, S4, S5, ST, eq_self, reduceIte, reduceCtorEq, Nat.reduceEqDiff, Nat.reduceAdd]
              refine hQ _ _ _ ?_
              simp (maxSteps := 1000000) (disch := omega) only [S, S1, S2, S3, S4, S5, ST, eq_self, reduceIte, reduceCtorEq, Nat.reduceEqDiff, Nat.reduceAdd]
              have hoo : oo ≠ o := by omega
              have kB : Keeps oo L (L.set oo (.cells (ints (xs.set k x)) 3 false)) := ⟨by simp, fun j y hj hy => by rw [List.getElem?_set_ne (fun e => hj e.symm)]; exact hy⟩
              obtain ⟨ca, cs, c1, c2, c3⟩ := hCL.cur
              refine ⟨xs.set k x, .inr ⟨oo, by simp, q2, by rw [List.getElem?_set_self (at_lt q3)]⟩, by simp; omega, fun y hy => ?_, ⟨⟨ca, cs, kB.2 _ _ (fun e => hoo e.symm) c1, by omega, c3⟩, ?_, hCL.byt, hCL.ap, hCL.le⟩, ⟨by have := kA.1; simpa using this, fun j y hj hy => ?_⟩⟩
              · rcases List.mem_or_eq_of_mem_set hy with q | q
                · have := hxr y q; exact ⟨by omega, by omega⟩
                · subst q; simp at hx; exact ⟨by omega, by omega⟩
              · have hvl : v = .slice none 0 0 ∨ rowO v < H.length := by
                  rcases h.row with q | ⟨o', k', vs', ro', e1, g2', _⟩
                  · exact .inl q.1
                  · right; rw [e1]; exact at_lt g2'
                rcases hCL.row with q | q
                · exact .inl q
                · refine RowV.mono (.inr q) fun y hy => ?_
                  rcases hvl with g | g
                  · obtain ⟨o', k', _, _, g1, _⟩ := q
                    rw [g] at g1; cases g1
                  · exact kB.2 _ _ (by omega) hy
              · exact kB.2 _ _ (by have := at_lt hy; omega) (kA.2 j y hj hy)
          · simp (maxSteps := 1000000) (disch := omega) only [decide_eq_false g5, hU, hO.row.len Tryz.underlying34, S, S1, S2, S3, S4, S5, ST, eq_self, reduceIte, reduceCtorEq, Nat.reduceEqDiff, Nat.reduceAdd]
            refine hQ _ _ _ ?_
            simp (maxSteps := 1000000) (disch := omega) only [hO.row.tup, S, S1, S2, S3, S4, S5, ST, eq_self, reduceIte, reduceCtorEq, Nat.reduceEqDiff, Nat.reduceAdd]
            exact ⟨xs, hO, by omega, fun y hy => by have := hxr y hy; exact ⟨by omega, by omega⟩, hC.more (by omega), hK⟩
      · simp (maxSteps := 1000000) (disch := omega) only [h0, h1, h6, h9, hU, hD.row.len Tryz.underlying34, decide_eq_false g, S, S1, S2, S3, S4, S5, ST, eq_self, reduceIte, reduceCtorEq, Nat.reduceEqDiff, Nat.reduceAdd]
        by_cases g5 : (0 : Int) < (xs.length : Int)
        · simp (maxSteps := 1000000) (disch := omega) only [decide_eq_true g5, h0, hU, hO.row.len Tryz.underlying34, S, S1, S2, S3, S4, S5, ST, eq_self, reduceIte, reduceCtorEq, Nat.reduceEqDiff, Nat.reduceAdd]
          refine CallH.by (one_c hC (by omega) 16 (by omega)) ?_
          rintro _ K ⟨⟨b, rfl⟩, hCK, oK⟩
          have hOK := hO.keeps oK.keeps hoH
          simp (maxSteps := 1000000) (disch := omega) only [S, S1, S2, S3, S4, S5, ST, eq_self, reduceIte, reduceCtorEq, Nat.reduceEqDiff, Nat.reduceAdd]
          cases b with
          | false =>
            refine brH.intro (fun q => by cases q) (fun _ => ?_)
            simp (maxSteps := 1000000) (disch := omega) only [hU, S, S1, S2, S3, S4, S5, ST, eq_self, reduceIte, reduceCtorEq, Nat.reduceEqDiff, Nat.reduceAdd]
            refine hQ _ _ _ ?_
            simp (maxSteps := 1000000) (disch := omega) only [hOK.row.tup, S, S1, S2, S3, S4, S5, ST, eq_self, reduceIte, reduceCtorEq, Nat.reduceEqDiff, Nat.reduceAdd]
            exact ⟨xs, hOK, by omega, fun y hy => by have := hxr y hy; exact ⟨by omega, by omega⟩, hCK.more (by omega), hK.trans oK.keeps⟩
          | true =>
            refine brH.intro (fun _ => ?_) (fun q => by cases q)
            simp (maxSteps := 1000000) (disch := omega) only [h0, hU, hOK.row.len Tryz.underlying34, S, S1, S2, S3, S4, S5, ST, eq_self, reduceIte, reduceCtorEq, Nat.reduceEqDiff, Nat.reduceAdd]
            refine CallH.by (pick_c hCK (by omega) _ (by omega)) ?_
            rintro _ K0 ⟨⟨k, rfl, hk⟩, hCK0, oK0⟩
            have hkl : k < xs.length := by omega
            have hOK0 := hOK.keeps oK0.keeps hoH
            have lK0 : K0.length = H'.length := by rw [oK0.1, oK.1]
            simp (maxSteps := 1000000) (disch := omega) only [h0, S, S1, S2, S3, S4, S5, ST, eq_self, reduceIte, reduceCtorEq, Nat.reduceEqDiff, Nat.reduceAdd]
            have blK1 : ∀ H0 : AH, buildSliceA Tryz.prog 34 5 [(0, .int .i64 13), (1, .int .i64 24), (2, .int .i64 9), (3, .int .i64 (-1)), (4, .int .i64 4611686018427387904)] H0 = some (.slice (some ⟨H0.length, 0, none⟩) 5 5, H0 ++ [.cells [.int .i64 13, .int .i64 24, .int .i64 9, .int .i64 (-1), .int .i64 4611686018427387904] 3 false]) := fun H0 => by kernel_rfl
            simp (maxSteps := 1000000) (disch := omega) only [blK1, S, S1, S2, S3, S4, S5, ST, eq_self, reduceIte, reduceCtorEq, Nat.reduceEqDiff, Nat.reduceAdd]
            generalize hK1 : K0 ++ [AObj.cells [.int .i64 13, .int .i64 24, .int .i64 9, .int .i64 (-1), .int .i64 4611686018427387904] 3 false] = K1
            have pK1 : K0 <+: K1 := by rw [← hK1]; exact List.prefix_append _ _
            have aK1 : K1[K0.length]? = some (.cells [.int .i64 13, .int .i64 24, .int .i64 9, .int .i64 (-1), .int .i64 4611686018427387904] 3 false) := by rw [← hK1]; exact at_new ..
            have wK1 : Row 3 K1 (.slice (some ⟨K0.length, 0, none⟩) 5 5) [13, 24, 9, -1, 4611686018427387904] := .inr ⟨K0.length, 0, _, false, rfl, aK1, by simp, rfl⟩
            refine CallH.by (among_c (hCK0.pre pK1) (by omega) wK1 (by show K0.length ≠ o; have := hK.1; omega) (by simp)) ?_
            rintro _ L ⟨⟨x, rfl, hx⟩, hCL, oL⟩
            have hOL : Own 3 H L U xs := by
              have q : Own 3 H K1 U xs := by
                rcases hOK0 with q | ⟨oo, q1, q2, q3⟩
                · exact .inl q
                · exact .inr ⟨oo, q1, q2, pre_at pK1 q3⟩
              exact q.keeps oL.keeps hoH
            have kA : Keeps o H L := ((hK.trans oK.keeps).trans oK0.keeps).trans ((Keeps.of_pre pK1).trans oL.keeps)
            rcases hOL with ⟨q1, q2⟩ | ⟨oo, q1, q2, q3⟩
            · subst q2; simp at g5
            subst q1
            have ix := hOK0.row.ix Tryz.underlying34 cs3 .i64 (i := (k : Int)) (by omega) (by omega)
            have st := st_ints (P := Tryz.prog) (t := 3) (x := x) cs3 q3 hkl
            simp (maxSteps := 1000000) (disch := omega) only [hU, ix, rowO, rowK, Int.toNat_natCast, Nat.zero_add, st, S, S1, S2, S3, S4, S5, ST, eq_self, reduceIte, reduceCtorEq, Nat.reduceEqDiff, Nat.reduceAdd]
            refine hQ _ _ _ ?_
            simp (maxSteps := 1000000) (disch := omega) only [S, S1, S2, S3, S4, S5, ST, eq_self, reduceIte, reduceCtorEq, Nat.reduceEqDiff, Nat.reduceAdd]
            have hoo : oo ≠ o := by omega
            have kB : Keeps oo L (L.set oo (.cells (ints (xs.set k x)) 3 false)) := ⟨by simp, fun j y hj hy => by rw [List.getElem?_set_ne (fun e => hj e.symm)]; exact hy⟩
            obtain ⟨ca, cs, c1, c2, c3⟩ := hCL.cur
            refine ⟨xs.set k x, .inr ⟨oo, by simp, q2, by rw [List.getElem?_set_self (at_lt q3)]⟩, by simp; omega, fun y hy => ?_, ⟨⟨ca, cs, kB.2 _ _ (fun e => hoo e.symm) c1, by omega, c3⟩, ?_, hCL.byt, hCL.ap, hCL.le⟩, ⟨by have := kA.1; simpa using this, fun j y hj hy => ?_⟩⟩
            · rcases List.mem_or_eq_of_mem_set hy with q | q
              · have := hxr y q; exact ⟨by omega, by omega⟩
              · subst q; simp at hx; exact ⟨by omega, by omega⟩
            · have hvl : v = .slice none 0 0 ∨ rowO v < H.length := by
                rcases h.row with q | ⟨o', k', vs', ro', e1, g2', _⟩
                · exact .inl q.1
                · right; rw [e1]; exact at_lt g2'
              rcases hCL.row with q | q
              · exact .inl q
              · refine RowV.mono (.inr q) fun y hy => ?_
                rcases hvl with g | g
                · obtain ⟨o', k', _, _, g1, _⟩ := q
                  rw [g] at g1; cases g1
                · exact kB.2 _ _ (by omega) hy
            · exact kB.2 _ _ (by have := at_lt hy; omega) (kA.2 j y hj hy)
        · simp (maxSteps := 1000000) (disch := omega) only [decide_eq_false g5, hU, hO.row.len Tryz.underlying34, S, S1, S2, S3, S4, S5, ST, eq_self, reduceIte, reduceCtorEq, Nat.reduceEqDiff, Nat.reduceAdd]
          refine hQ _ _ _ ?_
          simp (maxSteps := 1000000) (disch := omega) only [hO.row.tup, S, S1, S2, S3, S4, S5, ST, eq_self, reduceIte, reduceCtorEq, Nat.reduceEqDiff, Nat.reduceAdd]
          exact ⟨xs, hO, by omega, fun y hy => by have := hxr y hy; exact ⟨by omega, by omega⟩, hC.more (by omega), hK⟩
  · simp (maxSteps := 1000000) (disch := omega) only [h0, h1, h6, h7, hU, decide_eq_false g, S, S1, S2, S3, S4, S5, ST, eq_self, reduceIte, reduceCtorEq, Nat.reduceEqDiff, Nat.reduceAdd]
    refine LoopH.by (fun m s H' => ∃ (j : Nat) (xs : List Int), m + j = (dgs n n.toNat).length ∧ s 0 = .pointer (some ⟨o, 0, none⟩) ∧ s 1 = .int .i64 n ∧ s 6 = vA ∧ s 9 = .int .i64 ((j : Nat) : Int) ∧ (xs.length : Int) ≤ n - 3 ∧ (∀ y ∈ xs, 0 ≤ y ∧ y ≤ 100) ∧ Own 3 H H' (s 5) xs ∧ Own 3 A H' vA (dgs n n.toNat) ∧ Cur H' o v us (N + 60) ∧ Keeps o H H') (dgs n n.toNat).length ?_ ?_
    · refine ⟨0, xs, ?_⟩
      simp (maxSteps := 1000000) (disch := omega) only [h0, h1, h6, hU, S, S1, S2, S3, S4, S5, ST, eq_self, reduceIte, reduceCtorEq, Nat.reduceEqDiff, Nat.reduceAdd]
      (repeat' first | exact hxl | exact hxr | exact hO | exact hD | exact hCz | exact hK | apply And.intro) <;> first | (simp only [Value.int.injEq, true_and]; omega) | omega | rfl | assumption | (simp; done) | (simp; omega)
    clear hU hO hxl hxr hD hC hK h0 h1 h6 h7 hm hCz g
    clear xs m i s H' U
    rintro m s H' ⟨j, xs, hm, h0, h1, h6, h9, hxl, hxr, hO, hD, hC, hK⟩
    generalize hU : s 5 = U at *
    by_cases g : (j : Int) < ((dgs n n.toNat).length : Int)
    · by_cases g2 : (xs.length : Int) < n - 3
      · have hj : j < (dgs n n.toNat).length := by omega
        have cK := hD.row.cell hj
        have hxd : 0 ≤ (dgs n n.toNat).getD j 0 ∧ (dgs n n.toNat).getD j 0 ≤ 100 := hdr _ (by simp [hj])
        simp (maxSteps := 1000000) (disch := omega) only [h0, h1, h6, h9, hU, hD.row.len Tryz.underlying34, decide_eq_true g, hO.row.len Tryz.underlying34, wrap64, decide_eq_true g2, hD.row.ix Tryz.underlying34 cs3, Int.toNat_natCast, cK, S, S1, S2, S3, S4, S5, ST, eq_self, reduceIte, reduceCtorEq, Nat.reduceEqDiff, Nat.reduceAdd]
        refine CallH.by (l1Has_c U xs _ H' hO.row (by omega)) ?_
        rintro _ _ ⟨rfl, rfl⟩
        by_cases g3 : (dgs n n.toNat).getD j 0 ∈ xs
        · simp (maxSteps := 1000000) (disch := omega) only [decide_eq_true g3, h9, wrap64, S, S1, S2, S3, S4, S5, ST, eq_self, reduceIte, reduceCtorEq, Nat.reduceEqDiff, Nat.reduceAdd]
          refine ⟨m - 1, by omega, j + 1, xs, ?_⟩
          simp (maxSteps := 1000000) (disch := omega) only [h0, h1, h6, hU, S, S1, S2, S3, S4, S5, ST, eq_self, reduceIte, reduceCtorEq, Nat.reduceEqDiff, Nat.reduceAdd]
          (repeat' first | exact hxl | exact hxr | exact hO | exact hD | exact hC | exact hK | apply And.intro) <;> first | (simp only [Value.int.injEq, true_and]; omega) | omega | rfl | assumption | (simp; done) | (simp; omega)
        · simp (maxSteps := 1000000) (disch := omega) only [decide_eq_false g3, h6, h9, hU, hD.row.ix Tryz.underlying34 cs3, Int.toNat_natCast, cK, S, S1, S2, S3, S4, S5, ST, eq_self, reduceIte, reduceCtorEq, Nat.reduceEqDiff, Nat.reduceAdd]
          refine CallH.by (l8Apart_c U xs _ H' hO.row (by omega) (fun y hy => by have := hxr y hy; exact ⟨by omega, by omega⟩) ⟨by omega, by omega⟩) ?_
          rintro _ _ ⟨rfl, rfl⟩
          simp (maxSteps := 1000000) (disch := omega) only [S, S1, S2, S3, S4, S5, ST, eq_self, reduceIte, reduceCtorEq, Nat.reduceEqDiff, Nat.reduceAdd]
          refine brH.intro (fun _ => ?_) (fun _ => ?_)
          · simp (maxSteps := 1000000) (disch := omega) only [h9, wrap64, S, S1, S2, S3, S4, S5, ST, eq_self, reduceIte, reduceCtorEq, Nat.reduceEqDiff, Nat.reduceAdd]
            refine ⟨m - 1, by omega, j + 1, xs, ?_⟩
            simp (maxSteps := 1000000) (disch := omega) only [h0, h1, h6, hU, S, S1, S2, S3, S4, S5, ST, eq_self, reduceIte, reduceCtorEq, Nat.reduceEqDiff, Nat.reduceAdd]
            (repeat' first | exact hxl | exact hxr | exact hO | exact hD | exact hC | exact hK | apply And.intro) <;> first | (simp only [Value.int.injEq, true_and]; omega) | omega | rfl | assumption | (simp; done) | (simp; omega)
          · simp (maxSteps := 1000000) (disch := omega) only [h6, h9, hU, hD.row.ix Tryz.underlying34 cs3, Int.toNat_natCast, cK, S, S1, S2, S3, S4, S5, ST, eq_self, reduceIte, reduceCtorEq, Nat.reduceEqDiff, Nat.reduceAdd]
            refine CallH.by (l1Put_c U xs _ H' hO.row (by omega) g3) ?_
            rintro W K ⟨hW, pW⟩
            have f1 : Own 3 H K W (put xs ((dgs n n.toNat).getD j 0)) := ownB hW hK.1
            have f2 : ((put xs ((dgs n n.toNat).getD j 0)).length : Int) ≤ n - 3 := by have := put_len xs ((dgs n n.toNat).getD j 0); omega
            have f3 : ∀ y ∈ put xs ((dgs n n.toNat).getD j 0), 0 ≤ y ∧ y ≤ 100 := fun y hy => by
              rcases put_in hy with q | q
              · exact hxr y q
              · omega
            have f4 := hD.keeps (.of_pre pW) hoA
            have f5 := hC.pre pW
            have f6 := hK.trans (.of_pre pW)
            simp (maxSteps := 1000000) (disch := omega) only [h9, wrap64, S, S1, S2, S3, S4, S5, ST, eq_self, reduceIte, reduceCtorEq, Nat.reduceEqDiff, Nat.reduceAdd]
            refine ⟨m - 1, by omega, j + 1, put xs ((dgs n n.toNat).getD j 0), ?_⟩
            simp (maxSteps := 1000000) (disch := omega) only [h0, h1, h6, S, S1, S2, S3, S4, S5, ST, eq_self, reduceIte, reduceCtorEq, Nat.reduceEqDiff, Nat.reduceAdd]
            (repeat' first | exact f1 | exact f2 | exact f3 | exact f4 | exact f5 | exact f6 | apply And.intro) <;> first | (simp only [Value.int.injEq, true_and]; omega) | omega | rfl | assumption | (simp; done) | (simp; omega)
      · simp (maxSteps := 1000000) (disch := omega) only [h0, h1, h6, h9, hU, hD.row.len Tryz.underlying34, decide_eq_true g, hO.row.len Tryz.underlying34, wrap64, decide_eq_false g2, S, S1, S2, S3, S4, S5, ST, eq_self, reduceIte, reduceCtorEq, Nat.reduceEqDiff, Nat.reduceAdd]
        by_cases g5 : (0 : Int) < (xs.length : Int)
        · simp (maxSteps := 1000000) (disch := omega) only [decide_eq_true g5, h0, hU, hO.row.len Tryz.underlying34, S, S1, S2, S3, S4, S5, ST, eq_self, reduceIte, reduceCtorEq, Nat.reduceEqDiff, Nat.reduceAdd]
          refine CallH.by (one_c hC (by omega) 16 (by omega)) ?_
          rintro _ K ⟨⟨b, rfl⟩, hCK, oK⟩
          have hOK := hO.keeps oK.keeps hoH
          simp (maxSteps := 1000000) (disch := omega) only [S, S1, S2, S3, S4, S5, ST, eq_self, reduceIte, reduceCtorEq, Nat.reduceEqDiff, Nat.reduceAdd]
          cases b with
          | false =>
            refine brH.intro (fun q => by cases q) (fun _ => ?_)
            simp (maxSteps := 1000000) (disch := omega) only [hU, S, S1, S2, S3, S4, S5, ST, eq_self, reduceIte, reduceCtorEq, Nat.reduceEqDiff, Nat.reduceAdd]
            refine hQ _ _ _ ?_
            simp (maxSteps := 1000000) (disch := omega) only [hOK.row.tup, S, S1, S2, S3, S4, S5, ST, eq_self, reduceIte, reduceCtorEq, Nat.reduceEqDiff, Nat.reduceAdd]
            exact ⟨xs, hOK, by omega, fun y hy => by have := hxr y hy; exact ⟨by omega, by omega⟩, hCK.more (by omega), hK.trans oK.keeps⟩
          | true =>
            refine brH.intro (fun _ => ?_) (fun q => by cases q)
            simp (maxSteps := 1000000) (disch := omega) only [h0, hU, hOK.row.len Tryz.underlying34, S, S1, S2, S3, S4, S5, ST, eq_self, reduceIte, reduceCtorEq, Nat.reduceEqDiff, Nat.reduceAdd]
            refine CallH.by (pick_c hCK (by omega) _ (by omega)) ?_
            rintro _ K0 ⟨⟨k, rfl, hk⟩, hCK0, oK0⟩
            have hkl : k < xs.length := by omega
            have hOK0 := hOK.keeps oK0.keeps hoH
            have lK0 : K0.length = H'.length := by rw [oK0.1, oK.1]
            simp (maxSteps := 1000000) (disch := omega) only [h0, S, S1, S2, S3, S4, S5, ST, eq_self, reduceIte, reduceCtorEq, Nat.reduceEqDiff, Nat.reduceAdd]
            have blK1 : ∀ H0 : AH, buildSliceA Tryz.prog 34 5 [(0, .int .i64 13), (1, .int .i64 24), (2, .int .i64 9), (3, .int .i64 (-1)), (4, .int .i64 4611686018427387904)] H0 = some (.slice (some ⟨H0.length, 0, none⟩) 5 5, H0 ++ [.cells [.int .i64 13, .int .i64 24, .int .i64 9, .int .i64 (-1), .int .i64 4611686018427387904] 3 false]) := fun H0 => by kernel_rfl
            simp (maxSteps := 1000000) (disch := omega) only [blK1, S, S1, S2, S3, S4, S5, ST, eq_self, reduceIte, reduceCtorEq, Nat.reduceEqDiff, Nat.reduceAdd]
            generalize hK1 : K0 ++ [AObj.cells [.int .i64 13, .int .i64 24, .int .i64 9, .int .i64 (-1), .int .i64 4611686018427387904] 3 false] = K1
            have pK1 : K0 <+: K1 := by rw [← hK1]; exact List.prefix_append _ _
            have aK1 : K1[K0.length]? = some (.cells [.int .i64 13, .int .i64 24, .int .i64 9, .int .i64 (-1), .int .i64 4611686018427387904] 3 false) := by rw [← hK1]; exact at_new ..
            have wK1 : Row 3 K1 (.slice (some ⟨K0.length, 0, none⟩) 5 5) [13, 24, 9, -1, 4611686018427387904] := .inr ⟨K0.length, 0, _, false, rfl, aK1, by simp, rfl⟩
            refine CallH.by (among_c (hCK0.pre pK1) (by omega) wK1 (by show K0.length ≠ o; have := hK.1; omega) (by simp)) ?_
            rintro _ L ⟨⟨x, rfl, hx⟩, hCL, oL⟩
            have hOL : Own 3 H L U xs := by
              have q : Own 3 H K1 U xs := by
                rcases hOK0 with q | ⟨oo, q1, q2, q3⟩
                · exact .inl q
                · exact .inr ⟨oo, q1, q2, pre_at pK1 q3⟩
              exact q.keeps oL.keeps hoH
            have kA : Keeps o H L := ((hK.trans oK.keeps).trans oK0.keeps).trans ((Keeps.of_pre pK1).trans oL.keeps)
            rcases hOL with ⟨q1, q2⟩ | ⟨oo, q1, q2, q3⟩
            · subst q2; simp at g5
            subst q1
            have ix := hOK0.row.ix Tryz.underlying34 cs3 .i64 (i := (k : Int)) (by omega) (by omega)
            have st := st_ints (P := Tryz.prog) (t := 3) (x := x) cs3 q3 hkl
            simp (maxSteps := 1000000) (disch := omega) only [hU, ix, rowO, rowK, Int.toNat_natCast, Nat.zero_add, st, S, S1, S2, S3, S4, S5, ST, eq_self, reduceIte, reduceCtorEq, Nat.reduceEqDiff, Nat.reduceAdd]
            refine hQ _ _ _ ?_
            simp (maxSteps := 1000000) (disch := omega) only [S, S1, S2, S3, S4, S5, ST, eq_self, reduceIte, reduceCtorEq, Nat.reduceEqDiff, Nat.reduceAdd]
            have hoo : oo ≠ o := by omega
            have kB : Keeps oo L (L.set oo (.cells (ints (xs.set k x)) 3 false)) := ⟨by simp, fun j y hj hy => by rw [List.getElem?_set_ne (fun e => hj e.symm)]; exact hy⟩
            obtain ⟨ca, cs, c1, c2, c3⟩ := hCL.cur
            refine ⟨xs.set k x, .inr ⟨oo, by simp, q2, by rw [List.getElem?_set_self (at_lt q3)]⟩, by simp; omega, fun y hy => ?_, ⟨⟨ca, cs, kB.2 _ _ (fun e => hoo e.symm) c1, by omega, c3⟩, ?_, hCL.byt, hCL.ap, hCL.le⟩, ⟨by have := kA.1; simpa using this, fun j y hj hy => ?_⟩⟩
            · rcases List.mem_or_eq_of_mem_set hy with q | q
              · have := hxr y q; exact ⟨by omega, by omega⟩
              · subst q; simp at hx; exact ⟨by omega, by omega⟩
            · have hvl : v = .slice none 0 0 ∨ rowO v < H.length := by
                rcases h.row with q | ⟨o', k', vs', ro', e1, g2', _⟩
                · exact .inl q.1
                · right; rw [e1]; exact at_lt g2'
              rcases hCL.row with q | q
              · exact .inl q
              · refine RowV.mono (.inr q) fun y hy => ?_
                rcases hvl with g | g
                · obtain ⟨o', k', _, _, g1, _⟩ := q
                  rw [g] at g1; cases g1
                · exact kB.2 _ _ (by omega) hy
            · exact kB.2 _ _ (by have := at_lt hy; omega) (kA.2 j y hj hy)
        · simp (maxSteps := 1000000) (disch := omega) only [decide_eq_false g5, hU, hO.row.len Tryz.underlying34, S, S1, S2, S3, S4, S5, ST, eq_self, reduceIte, reduceCtorEq, Nat.reduceEqDiff, Nat.reduceAdd]
          refine hQ _ _ _ ?_
          simp (maxSteps := 1000000) (disch := omega) only [hO.row.tup, S, S1, S2, S3, S4, S5, ST, eq_self, reduceIte, reduceCtorEq, Nat.reduceEqDiff, Nat.reduceAdd]
          exact ⟨xs, hO, by omega, fun y hy => by have := hxr y hy; exact ⟨by omega, by omega⟩, hC.more (by omega), hK⟩
    · simp (maxSteps := 1000000) (disch := omega) only [h0, h1, h6, h9, hU, hD.row.len Tryz.underlying34, decide_eq_false g, S, S1, S2, S3, S4, S5, ST, eq_self, reduceIte, reduceCtorEq, Nat.reduceEqDiff, Nat.reduceAdd]
      by_cases g5 : (0 : Int) < (xs.length : Int)
      · simp (maxSteps := 1000000) (disch := omega) only [decide_eq_true g5, h0, hU, hO.row.len Tryz.underlying34, S, S1, S2, S3, S4, S5, ST, eq_self, reduceIte, reduceCtorEq, Nat.reduceEqDiff, Nat.reduceAdd]
        refine CallH.by (one_c hC (by omega) 16 (by omega)) ?_
        rintro _ K ⟨⟨b, rfl⟩, hCK, oK⟩
        have hOK := hO.keeps oK.keeps hoH
        simp (maxSteps := 1000000) (disch := omega) only [S, S1, S2, S3, S4, S5, ST, eq_self, reduceIte, reduceCtorEq, Nat.reduceEqDiff, Nat.reduceAdd]
        cases b with
        | false =>
          refine brH.intro (fun q => by cases q) (fun _ => ?_)
          simp (maxSteps := 1000000) (disch := omega) only [hU, S, S1, S2, S3, S4, S5, ST, eq_self, reduceIte, reduceCtorEq, Nat.reduceEqDiff, Nat.reduceAdd]
          refine hQ _ _ _ ?_
          simp (maxSteps := 1000000) (disch := omega) only [hOK.row.tup, S, S1, S2, S3, S4, S5, ST, eq_self, reduceIte, reduceCtorEq, Nat.reduceEqDiff, Nat.reduceAdd]
          exact ⟨xs, hOK, by omega, fun y hy => by have := hxr y hy; exact ⟨by omega, by omega⟩, hCK.more (by omega), hK.trans oK.keeps⟩
        | true =>
          refine brH.intro (fun _ => ?_) (fun q => by cases q)
          simp (maxSteps := 1000000) (disch := omega) only [h0, hU, hOK.row.len Tryz.underlying34, S, S1, S2, S3, S4, S5, ST, eq_self, reduceIte, reduceCtorEq, Nat.reduceEqDiff, Nat.reduceAdd]
          refine CallH.by (pick_c hCK (by omega) _ (by omega)) ?_
          rintro _ K0 ⟨⟨k, rfl, hk⟩, hCK0, oK0⟩
          have hkl : k < xs.length := by omega
          have hOK0 := hOK.keeps oK0.keeps hoH
          have lK0 : K0.length = H'.length := by rw [oK0.1, oK.1]
          simp (maxSteps := 1000000) (disch := omega) only [h0, S, S1, S2, S3, S4, S5, ST, eq_self, reduceIte, reduceCtorEq, Nat.reduceEqDiff, Nat.reduceAdd]
          have blK1 : ∀ H0 : AH, buildSliceA Tryz.prog 34 5 [(0, .int .i64 13), (1, .int .i64 24), (2, .int .i64 9), (3, .int .i64 (-1)), (4, .int .i64 4611686018427387904)] H0 = some (.slice (some ⟨H0.length, 0, none⟩) 5 5, H0 ++ [.cells [.int .i64 13, .int .i64 24, .int .i64 9, .int .i64 (-1), .int .i64 4611686018427387904] 3 false]) := fun H0 => by kernel_rfl
          simp (maxSteps := 1000000) (disch := omega) only [blK1, S, S1, S2, S3, S4, S5, ST, eq_self, reduceIte, reduceCtorEq, Nat.reduceEqDiff, Nat.reduceAdd]
          generalize hK1 : K0 ++ [AObj.cells [.int .i64 13, .int .i64 24, .int .i64 9, .int .i64 (-1), .int .i64 4611686018427387904] 3 false] = K1
          have pK1 : K0 <+: K1 := by rw [← hK1]; exact List.prefix_append _ _
          have aK1 : K1[K0.length]? = some (.cells [.int .i64 13, .int .i64 24, .int .i64 9, .int .i64 (-1), .int .i64 4611686018427387904] 3 false) := by rw [← hK1]; exact at_new ..
          have wK1 : Row 3 K1 (.slice (some ⟨K0.length, 0, none⟩) 5 5) [13, 24, 9, -1, 4611686018427387904] := .inr ⟨K0.length, 0, _, false, rfl, aK1, by simp, rfl⟩
          refine CallH.by (among_c (hCK0.pre pK1) (by omega) wK1 (by show K0.length ≠ o; have := hK.1; omega) (by simp)) ?_
          rintro _ L ⟨⟨x, rfl, hx⟩, hCL, oL⟩
          have hOL : Own 3 H L U xs := by
            have q : Own 3 H K1 U xs := by
              rcases hOK0 with q | ⟨oo, q1, q2, q3⟩
              · exact .inl q
              · exact .inr ⟨oo, q1, q2, pre_at pK1 q3⟩
            exact q.keeps oL.keeps hoH
          have kA : Keeps o H L := ((hK.trans oK.keeps).trans oK0.keeps).trans ((Keeps.of_pre pK1).trans oL.keeps)
          rcases hOL with ⟨q1, q2⟩ | ⟨oo, q1, q2, q3⟩
          · subst q2; simp at g5
          subst q1
          have ix := hOK0.row.ix Tryz.underlying34 cs3 .i64 (i := (k : Int)) (by omega) (by omega)
          have st := st_ints (P := Tryz.prog) (t := 3) (x := x) cs3 q3 hkl
          simp (maxSteps := 1000000) (disch := omega) only [hU, ix, rowO, rowK, Int.toNat_natCast, Nat.zero_add, st, S, S1, S2, S3, S4, S5, ST, eq_self, reduceIte, reduceCtorEq, Nat.reduceEqDiff, Nat.reduceAdd]
          refine hQ _ _ _ ?_
          simp (maxSteps := 1000000) (disch := omega) only [S, S1, S2, S3, S4, S5, ST, eq_self, reduceIte, reduceCtorEq, Nat.reduceEqDiff, Nat.reduceAdd]
          have hoo : oo ≠ o := by omega
          have kB : Keeps oo L (L.set oo (.cells (ints (xs.set k x)) 3 false)) := ⟨by simp, fun j y hj hy => by rw [List.getElem?_set_ne (fun e => hj e.symm)]; exact hy⟩
          obtain ⟨ca, cs, c1, c2, c3⟩ := hCL.cur
          refine ⟨xs.set k x, .inr ⟨oo, by simp, q2, by rw [List.getElem?_set_self (at_lt q3)]⟩, by simp; omega, fun y hy => ?_, ⟨⟨ca, cs, kB.2 _ _ (fun e => hoo e.symm) c1, by omega, c3⟩, ?_, hCL.byt, hCL.ap, hCL.le⟩, ⟨by have := kA.1; simpa using this, fun j y hj hy => ?_⟩⟩
          · rcases List.mem_or_eq_of_mem_set hy with q | q
            · have := hxr y q; exact ⟨by omega, by omega⟩
            · subst q; simp at hx; exact ⟨by omega, by omega⟩
          · have hvl : v = .slice none 0 0 ∨ rowO v < H.length := by
              rcases h.row with q | ⟨o', k', vs', ro', e1, g2', _⟩
              · exact .inl q.1
              · right; rw [e1]; exact at_lt g2'
            rcases hCL.row with q | q
            · exact .inl q
            · refine RowV.mono (.inr q) fun y hy => ?_
              rcases hvl with g | g
              · obtain ⟨o', k', _, _, g1, _⟩ := q
                rw [g] at g1; cases g1
              · exact kB.2 _ _ (by omega) hy
          · exact kB.2 _ _ (by have := at_lt hy; omega) (kA.2 j y hj hy)
      · simp (maxSteps := 1000000) (disch := omega) only [decide_eq_false g5, hU, hO.row.len Tryz.underlying34, S, S1, S2, S3, S4, S5, ST, eq_self, reduceIte, reduceCtorEq, Nat.reduceEqDiff, Nat.reduceAdd]
        refine hQ _ _ _ ?_
        simp (maxSteps := 1000000) (disch := omega) only [hO.row.tup, S, S1, S2, S3, S4, S5, ST, eq_self, reduceIte, reduceCtorEq, Nat.reduceEqDiff, Nat.reduceAdd]
        exact ⟨xs, hO, by omega, fun y hy => by have := hxr y hy; exact ⟨by omega, by omega⟩, hC.more (by omega), hK⟩
theorem rBig_c {H : AH} {v : Value} {us : List Value} (h : RowV 5 H v us) (hl : (us.length : Int) ≤ 9223372036854775807) : ACalls Tryz.prog 6 [v] H fun r H' => r = .bool (decide ((65536 : Int) < (us.length : Int))) ∧ H = H' := by
  refine in6 rfl ?_
  intro Q hQ
  simp (maxSteps := 1000000) (disch := omega) only [cd6, len_by, h.len Tryz.underlying22, S, S1, S2, S3, S4, S5, ST, eq_self, reduceIte, reduceCtorEq, Nat.reduceEqDiff, Nat.reduceAdd]
  refine hQ _ _ _ ?_
  simp (maxSteps := 1000000) (disch := omega) only [S, S1, S2, S3, S4, S5, ST, eq_self, reduceIte, reduceCtorEq, Nat.reduceEqDiff, Nat.reduceAdd]
set_option maxHeartbeats 1000000 in
set_option maxRecDepth 20000 in
theorem DrawPoly_c {H : AH} {v : Value} {us : List Value} (h : Byt H v us) :
    ACalls Tryz.prog 7 [v] H fun r H' => (∃ x : Int, r = .int .i64 x ∧ -1 ≤ x ∧ x ≤ 9) ∧ H <+: H' := by
  obtain ⟨pv, ev⟩ := h.row.shape
  refine in7 rfl ?_
  intro Q hQ
  have b1 := bld_cur pv us.length us.length
  have b2 := fun H => box_cur pv us.length us.length H
  rw [← ev] at b1 b2
  simp (maxSteps := 1000000) (disch := omega) only [cd7, b1, b2, S, S1, S2, S3, S4, S5, ST, eq_self, reduceIte, reduceCtorEq, Nat.reduceEqDiff, Nat.reduceAdd]
  generalize hA : H ++ [AObj.cells [v, .int .i64 0, .int .u64 0] 74 false] = A
  have pA : H <+: A := by rw [← hA]; exact List.prefix_append _ _
  have lA : A.length = H.length + 1 := by rw [← hA]; simp
  have hC : Cur A H.length v us 0 := by rw [← hA]; exact h.cur
  have blK1 : ∀ H0 : AH, buildSliceA Tryz.prog 34 9 [(0, .int .i64 3), (1, .int .i64 4), (2, .int .i64 5), (3, .int .i64 6), (4, .int .i64 7), (5, .int .i64 8), (6, .int .i64 2), (7, .int .i64 9), (8, .int .i64 (-1))] H0 = some (.slice (some ⟨H0.length, 0, none⟩) 9 9, H0 ++ [.cells [.int .i64 3, .int .i64 4, .int .i64 5, .int .i64 6, .int .i64 7, .int .i64 8, .int .i64 2, .int .i64 9, .int .i64 (-1)] 3 false]) := fun H0 => by kernel_rfl
  simp (maxSteps := 1000000) (disch := omega) only [blK1, S, S1, S2, S3, S4, S5, ST, eq_self, reduceIte, reduceCtorEq, Nat.reduceEqDiff, Nat.reduceAdd]
  generalize hK1 : A ++ [AObj.cells [.int .i64 3, .int .i64 4, .int .i64 5, .int .i64 6, .int .i64 7, .int .i64 8, .int .i64 2, .int .i64 9, .int .i64 (-1)] 3 false] = K1
  have pK1 : A <+: K1 := by rw [← hK1]; exact List.prefix_append _ _
  have aK1 : K1[A.length]? = some (.cells [.int .i64 3, .int .i64 4, .int .i64 5, .int .i64 6, .int .i64 7, .int .i64 8, .int .i64 2, .int .i64 9, .int .i64 (-1)] 3 false) := by rw [← hK1]; exact at_new ..
  have wK1 : Row 3 K1 (.slice (some ⟨A.length, 0, none⟩) 9 9) [3, 4, 5, 6, 7, 8, 2, 9, -1] := .inr ⟨A.length, 0, _, false, rfl, aK1, by simp, rfl⟩
  refine CallH.by (among_c (hC.pre pK1) (by omega) wK1 (by show A.length ≠ H.length; omega) (by simp)) ?_
  rintro _ L ⟨⟨x, rfl, hx⟩, hCL, oL⟩
  simp (maxSteps := 1000000) (disch := omega) only [S, S1, S2, S3, S4, S5, ST, eq_self, reduceIte, reduceCtorEq, Nat.reduceEqDiff, Nat.reduceAdd]
  refine hQ _ _ _ ?_
  simp (maxSteps := 1000000) (disch := omega) only [S, S1, S2, S3, S4, S5, ST, eq_self, reduceIte, reduceCtorEq, Nat.reduceEqDiff, Nat.reduceAdd]
  refine ⟨⟨x, rfl, ?_⟩, keeps_new ((Keeps.of_pre pK1).trans oL.keeps) pA rfl⟩
  simp at hx; omega
set_option maxHeartbeats 2000000 in
set_option maxRecDepth 20000 in
theorem DrawFlip_c {H : AH} {v : Value} {us : List Value} (h : Byt H v us) :
    ACalls Tryz.prog 13 [v] H fun r H' => ∃ (n d : Int) (w : Value) (xs : List Int), r = .tuple (List.toArray [.int .i64 n, w, .int .i64 d]) ∧ (-1 ≤ n ∧ n ≤ 9) ∧ Row 3 H' w xs ∧ xs.length ≤ 5 ∧ (∀ y ∈ xs, I64 y) ∧ I64 d ∧ H <+: H' := by
  obtain ⟨pv, ev⟩ := h.row.shape
  refine in13 rfl ?_
  intro Q hQ
  have b1 := bld_cur pv us.length us.length
  have b2 := fun H => box_cur pv us.length us.length H
  rw [← ev] at b1 b2
  simp (maxSteps := 1000000) (disch := omega) only [cd13, b1, b2, S, S1, S2, S3, S4, S5, ST, eq_self, reduceIte, reduceCtorEq, Nat.reduceEqDiff, Nat.reduceAdd]
  generalize hA : H ++ [AObj.cells [v, .int .i64 0, .int .u64 0] 74 false] = A
  have pA : H <+: A := by rw [← hA]; exact List.prefix_append _ _
  have lA : A.length = H.length + 1 := by rw [← hA]; simp
  have hC : Cur A H.length v us 0 := by rw [← hA]; exact h.cur
  refine CallH.by (corners_c hC (by omega)) ?_
  rintro _ B ⟨⟨n, rfl, hn⟩, hCB, kB⟩
  simp (maxSteps := 1000000) (disch := omega) only [S, S1, S2, S3, S4, S5, ST, eq_self, reduceIte, reduceCtorEq, Nat.reduceEqDiff, Nat.reduceAdd]
  refine CallH.by (triangles_c hCB (by omega) n hn) ?_
  rintro w C ⟨xs, hO, hl, hr, hCC, kC⟩
  have hBl := kB.1
  have hoB : H.length < B.length := by omega
  simp (maxSteps := 1000000) (disch := omega) only [hO.row.len Tryz.underlying34, S, S1, S2, S3, S4, S5, ST, eq_self, reduceIte, reduceCtorEq, Nat.reduceEqDiff, Nat.reduceAdd]
  by_cases g5 : (0 : Int) < (xs.length : Int)
  · simp (maxSteps := 1000000) (disch := omega) only [decide_eq_true g5, S, S1, S2, S3, S4, S5, ST, eq_self, reduceIte, reduceCtorEq, Nat.reduceEqDiff, Nat.reduceAdd]
    refine CallH.by (one_c hCC (by omega) 8 (by omega)) ?_
    rintro _ K ⟨⟨b, rfl⟩, hCK, oK⟩
    have hOK := hO.keeps oK.keeps hoB
    have kK := (kB.trans kC).trans oK.keeps
    simp (maxSteps := 1000000) (disch := omega) only [S, S1, S2, S3, S4, S5, ST, eq_self, reduceIte, reduceCtorEq, Nat.reduceEqDiff, Nat.reduceAdd]
    cases b with
    | false =>
      refine brH.intro (fun q => by cases q) (fun _ => ?_)
      simp (maxSteps := 1000000) (disch := omega) only [hOK.row.len Tryz.underlying34, S, S1, S2, S3, S4, S5, ST, eq_self, reduceIte, reduceCtorEq, Nat.reduceEqDiff, Nat.reduceAdd]
      refine CallH.by (pick_c hCK (by omega) _ (by omega)) ?_
      rintro _ K0 ⟨⟨k, rfl, hk⟩, hCK0, oK0⟩
      have hkl : k < xs.length := by omega
      have hO0 := hOK.keeps oK0.keeps hoB
      have cK := hO0.row.cell hkl
      simp (maxSteps := 1000000) (disch := omega) only [hO0.row.ix Tryz.underlying34 cs3, Int.toNat_natCast, cK, S, S1, S2, S3, S4, S5, ST, eq_self, reduceIte, reduceCtorEq, Nat.reduceEqDiff, Nat.reduceAdd]
      refine hQ _ _ _ ?_
      simp (maxSteps := 1000000) (disch := omega) only [hO0.row.tup, S, S1, S2, S3, S4, S5, ST, eq_self, reduceIte, reduceCtorEq, Nat.reduceEqDiff, Nat.reduceAdd]
      exact ⟨_, _, _, xs, rfl, hn, hO0.row, hl, hr, hr _ (by simp [hkl]), keeps_new (kK.trans oK0.keeps) pA rfl⟩
    | true =>
      refine brH.intro (fun _ => ?_) (fun q => by cases q)
      simp (maxSteps := 1000000) (disch := omega) only [S, S1, S2, S3, S4, S5, ST, eq_self, reduceIte, reduceCtorEq, Nat.reduceEqDiff, Nat.reduceAdd]
      have blK1 : ∀ H0 : AH, buildSliceA Tryz.prog 34 5 [(0, .int .i64 13), (1, .int .i64 24), (2, .int .i64 2), (3, .int .i64 0), (4, .int .i64 (-1))] H0 = some (.slice (some ⟨H0.length, 0, none⟩) 5 5, H0 ++ [.cells [.int .i64 13, .int .i64 24, .int .i64 2, .int .i64 0, .int .i64 (-1)] 3 false]) := fun H0 => by kernel_rfl
      simp (maxSteps := 1000000) (disch := omega) only [blK1, S, S1, S2, S3, S4, S5, ST, eq_self, reduceIte, reduceCtorEq, Nat.reduceEqDiff, Nat.reduceAdd]
      generalize hK1 : K ++ [AObj.cells [.int .i64 13, .int .i64 24, .int .i64 2, .int .i64 0, .int .i64 (-1)] 3 false] = K1
      have pK1 : K <+: K1 := by rw [← hK1]; exact List.prefix_append _ _
      have aK1 : K1[K.length]? = some (.cells [.int .i64 13, .int .i64 24, .int .i64 2, .int .i64 0, .int .i64 (-1)] 3 false) := by rw [← hK1]; exact at_new ..
      have wK1 : Row 3 K1 (.slice (some ⟨K.length, 0, none⟩) 5 5) [13, 24, 2, 0, -1] := .inr ⟨K.length, 0, _, false, rfl, aK1, by simp, rfl⟩
      refine CallH.by (among_c (hCK.pre pK1) (by omega) wK1 (by show K.length ≠ H.length; have := kK.1; omega) (by simp)) ?_
      rintro _ L ⟨⟨x, rfl, hx⟩, hCL, oL⟩
      have hOL := (hOK.keeps (.of_pre pK1) hoB).keeps oL.keeps hoB
      simp (maxSteps := 1000000) (disch := omega) only [S, S1, S2, S3, S4, S5, ST, eq_self, reduceIte, reduceCtorEq, Nat.reduceEqDiff, Nat.reduceAdd]
      refine hQ _ _ _ ?_
      simp (maxSteps := 1000000) (disch := omega) only [hOL.row.tup, S, S1, S2, S3, S4, S5, ST, eq_self, reduceIte, reduceCtorEq, Nat.reduceEqDiff, Nat.reduceAdd]
      refine ⟨_, _, _, xs, rfl, hn, hOL.row, hl, hr, ?_, keeps_new (kK.trans ((Keeps.of_pre pK1).trans oL.keeps)) pA rfl⟩
      simp at hx; exact ⟨by omega, by omega⟩
  · simp (maxSteps := 1000000) (disch := omega) only [decide_eq_false g5, S, S1, S2, S3, S4, S5, ST, eq_self, reduceIte, reduceCtorEq, Nat.reduceEqDiff, Nat.reduceAdd]
    have kK := kB.trans kC
    have blK1 : ∀ H0 : AH, buildSliceA Tryz.prog 34 5 [(0, .int .i64 13), (1, .int .i64 24), (2, .int .i64 2), (3, .int .i64 0), (4, .int .i64 (-1))] H0 = some (.slice (some ⟨H0.length, 0, none⟩) 5 5, H0 ++ [.cells [.int .i64 13, .int .i64 24, .int .i64 2, .int .i64 0, .int .i64 (-1)] 3 false]) := fun H0 => by kernel_rfl
    simp (maxSteps := 1000000) (disch := omega) only [blK1, S, S1, S2, S3, S4, S5, ST, eq_self, reduceIte, reduceCtorEq, Nat.reduceEqDiff, Nat.reduceAdd]
    generalize hK1 : C ++ [AObj.cells [.int .i64 13, .int .i64 24, .int .i64 2, .int .i64 0, .int .i64 (-1)] 3 false] = K1
    have pK1 : C <+: K1 := by rw [← hK1]; exact List.prefix_append _ _
    have aK1 : K1[C.length]? = some (.cells [.int .i64 13, .int .i64 24, .int .i64 2, .int .i64 0, .int .i64 (-1)] 3 false) := by rw [← hK1]; exact at_new ..
    have wK1 : Row 3 K1 (.slice (some ⟨C.length, 0, none⟩) 5 5) [13, 24, 2, 0, -1] := .inr ⟨C.length, 0, _, false, rfl, aK1, by simp, rfl⟩
    refine CallH.by (among_c (hCC.pre pK1) (by omega) wK1 (by show C.length ≠ H.length; have := kK.1; omega) (by simp)) ?_
    rintro _ L ⟨⟨x, rfl, hx⟩, hCL, oL⟩
    have hOL := (hO.keeps (.of_pre pK1) hoB).keeps oL.keeps hoB
    simp (maxSteps := 1000000) (disch := omega) only [S, S1, S2, S3, S4, S5, ST, eq_self, reduceIte, reduceCtorEq, Nat.reduceEqDiff, Nat.reduceAdd]
    refine hQ _ _ _ ?_
    simp (maxSteps := 1000000) (disch := omega) only [hOL.row.tup, S, S1, S2, S3, S4, S5, ST, eq_self, reduceIte, reduceCtorEq, Nat.reduceEqDiff, Nat.reduceAdd]
    refine ⟨_, _, _, xs, rfl, hn, hOL.row, hl, hr, ?_, keeps_new (kK.trans ((Keeps.of_pre pK1).trans oL.keeps)) pA rfl⟩
    simp at hx; exact ⟨by omega, by omega⟩
set_option maxHeartbeats 2000000 in
theorem DrawTurn_c {H : AH} {v : Value} {us : List Value} (h : Byt H v us) :
    ACalls Tryz.prog 21 [v] H fun r H' => ∃ (n b : Int) (m : Bool) (w : Value) (xs : List Int), r = .tuple (List.toArray [.int .i64 n, w, .int .i64 b, .bool m]) ∧ (-1 ≤ n ∧ n ≤ 9) ∧ Row 3 H' w xs ∧ xs.length ≤ 5 ∧ (∀ y ∈ xs, I64 y) ∧ I64 b ∧ H <+: H' := by
  obtain ⟨pv, ev⟩ := h.row.shape
  refine in21 rfl ?_
  intro Q hQ
  have b1 := bld_cur pv us.length us.length
  have b2 := fun H => box_cur pv us.length us.length H
  rw [← ev] at b1 b2
  simp (maxSteps := 1000000) (disch := omega) only [cd21, b1, b2, S, S1, S2, S3, S4, S5, ST, eq_self, reduceIte, reduceCtorEq, Nat.reduceEqDiff, Nat.reduceAdd]
  generalize hA : H ++ [AObj.cells [v, .int .i64 0, .int .u64 0] 74 false] = A
  have pA : H <+: A := by rw [← hA]; exact List.prefix_append _ _
  have lA : A.length = H.length + 1 := by rw [← hA]; simp
  have hC : Cur A H.length v us 0 := by rw [← hA]; exact h.cur
  refine CallH.by (corners_c hC (by omega)) ?_
  rintro _ B ⟨⟨n, rfl, hn⟩, hCB, kB⟩
  simp (maxSteps := 1000000) (disch := omega) only [S, S1, S2, S3, S4, S5, ST, eq_self, reduceIte, reduceCtorEq, Nat.reduceEqDiff, Nat.reduceAdd]
  refine CallH.by (triangles_c hCB (by omega) n hn) ?_
  rintro w C ⟨xs, hO, hl, hr, hCC, kC⟩
  have hBl := kB.1
  have hoB : H.length < B.length := by omega
  simp (maxSteps := 1000000) (disch := omega) only [S, S1, S2, S3, S4, S5, ST, eq_self, reduceIte, reduceCtorEq, Nat.reduceEqDiff, Nat.reduceAdd]
  refine CallH.by (pick_c hCC (by omega) 8 (by omega)) ?_
  rintro _ D ⟨⟨k, rfl, hk⟩, hCD, oD⟩
  simp (maxSteps := 1000000) (disch := omega) only [S, S1, S2, S3, S4, S5, ST, eq_self, reduceIte, reduceCtorEq, Nat.reduceEqDiff, Nat.reduceAdd]
  refine CallH.by (pick_c hCD (by omega) 2 (by omega)) ?_
  rintro _ E ⟨⟨k2, rfl, hk2⟩, hCE, oE⟩
  simp (maxSteps := 1000000) (disch := omega) only [wrap64, S, S1, S2, S3, S4, S5, ST, eq_self, reduceIte, reduceCtorEq, Nat.reduceEqDiff, Nat.reduceAdd]
  refine CallH.by (one_c hCE (by omega) 2 (by omega)) ?_
  rintro _ F ⟨⟨b, rfl⟩, hCF, oF⟩
  have kDF := (oD.keeps.trans oE.keeps).trans oF.keeps
  have hOF := hO.keeps kDF hoB
  simp (maxSteps := 1000000) (disch := omega) only [S, S1, S2, S3, S4, S5, ST, eq_self, reduceIte, reduceCtorEq, Nat.reduceEqDiff, Nat.reduceAdd]
  refine hQ _ _ _ ?_
  simp (maxSteps := 1000000) (disch := omega) only [endA, resA, hOF.row.tup, Option.map_some, Bool.false_eq_true, S, S1, S2, S3, S4, S5, ST, eq_self, reduceIte, reduceCtorEq, Nat.reduceEqDiff, Nat.reduceAdd]
  exact ⟨_, _, _, _, xs, rfl, hn, hOF.row, hl, hr, ⟨by omega, by omega⟩, keeps_new ((kB.trans kC).trans kDF) pA rfl⟩
end Go.Proofs.YtdgapefbbdfpbaaGreat.Ai
namespace Go.Proofs.YtdgapefbbdfpbaaGreat.Ai
open Go
def ords126 : List (Nat × List (Nat × Bool)) := []
def cd126 : Cd := (.seq (.reg [⟨⟨some 5, Op.move (Operand.tmp 0), none⟩, []⟩,
  ⟨⟨some 6, Op.call { callee := (Callee.builtin Builtin.len), args := #[(Operand.tmp 5)], argTypes := #[25] }, none⟩, []⟩,
  ⟨⟨some 4, Op.assign (Operand.tmp 6), none⟩, []⟩]) (.reg [⟨⟨some 7, Op.move (Operand.tmp 0), none⟩, []⟩,
  ⟨⟨some 8, Op.move (Operand.tmp 4), none⟩, []⟩,
  ⟨⟨some 9, Op.move (Operand.tmp 4), none⟩, []⟩,
  ⟨⟨some 10, Op.convert 3 117 (Operand.tmp 9), none⟩, []⟩,
  ⟨⟨some 11, Op.call { callee := (Callee.value (Operand.func 142)), args := #[(Operand.tmp 10)], argTypes := #[117] }, none⟩, []⟩,
  ⟨⟨some 12, Op.move (Operand.tmp 1), none⟩, []⟩,
  ⟨⟨some 13, Op.call { callee := (Callee.value (Operand.func 169)), args := #[(Operand.tmp 7), (Operand.const (Value.int IntKind.i64 0)), (Operand.tmp 8), (Operand.tmp 11), (Operand.tmp 12)], argTypes := #[25, 3, 3, 3, 125] }, none⟩, []⟩]))
theorem sl126 : slim Tryz.f126.ntmps ords126 (Tryz.f126.body.getD .skip) = some cd126 := by kernel_rfl
theorem in126 {args : List Value} {H : AH} {R : Value → AH → Prop} (hl : args.length = 2) (h : ∀ (Q : Exit → Sl → AH → Prop), (∀ e s H, endA Tryz.prog [] R e s H → Q e s H) → wpC Tryz.prog cd126 Q (enterA args) H) : ACalls Tryz.prog 126 args H R :=
  ACalls.intro (by kernel_rfl) Tryz.func126 rfl (by kernel_rfl) sl126 hl (of_decide_eq_true (by kernel_rfl)) (by kernel_rfl) h
end Go.Proofs.YtdgapefbbdfpbaaGreat.Ai
namespace Go.Proofs.YtdgapefbbdfpbaaGreat.Ai
open Go Go.RowKit
set_option linter.unusedVariables false
set_option linter.unusedSimpArgs false
theorem str_at {P : Program} {t : TypeId} (hu : P.underlying t = some .string) (s : ByteArray) (hz : s.size = 256) (hp : ∀ i : Fin 256, 0 < i.1 → 1 ≤ (s.data.getD i.1 0).toNat) (k : IntKind) (n : Nat) (h0 : 0 < n) (h1 : n < 256) : ∃ b : Nat, 1 ≤ b ∧ b < 256 ∧ indexA P t (.string s) (.int k (n : Int)) = some (.int .u8 (b : Int)) := by
  have hl : n < s.data.size := by have : s.data.size = 256 := hz; omega
  have hlt : n < s.size := by omega
  have e1 : s[(n : Int).toNat]? = some s[n] := by rw [Int.toNat_natCast]; simp [hlt]
  have e2 := hp ⟨n, h1⟩ h0
  have e3 : s.data.getD n 0 = s[n] := by
    rw [Array.getD_eq_getD_getElem?, Array.getElem?_eq_getElem hl]; rfl
  refine ⟨s[n].toNat, ?_, UInt8.toNat_lt _, ?_⟩
  · rw [← e3]; exact e2
  · simp only [indexA, hu, if_pos (show (0 : Int) ≤ n by omega), e1]
set_option maxRecDepth 20000 in
theorem Len64b_c (n : Nat) (H : AH) (h0 : 0 < n) (hn : n < 65536) : ACalls Tryz.prog 182 [.int .u64 (n : Int)] H fun r H' => (∃ k : Int, r = .int .i64 k ∧ 1 ≤ k) ∧ H = H' := by
  refine in182 rfl ?_
  intro Q hQ
  have k8 : binA Tryz.prog .shr 72 (.int .u64 (n : Int)) (.int .u64 8) = some (.int .u64 ((n / 256 : Nat) : Int)) := by
    simp only [binA, shiftA]
    rw [if_pos (.inr trivial), if_neg (by decide)]
    congr 2
    have : (2 ^ min (8 : Int).toNat IntKind.u64.bits : Int) = 256 := by decide
    rw [this, Int.fdiv_eq_ediv_of_nonneg _ (by decide)]
    omega
  simp (maxSteps := 1000000) (disch := omega) only [cd182, S, S1, S2, S3, S4, S5, ST, eq_self, reduceIte, reduceCtorEq, Nat.reduceEqDiff, Nat.reduceAdd]
  refine brD.intro (fun h => absurd h (by omega)) (fun _ => ?_)
  simp (maxSteps := 1000000) (disch := omega) only [S, S1, S2, S3, S4, S5, ST, eq_self, reduceIte, reduceCtorEq, Nat.reduceEqDiff, Nat.reduceAdd]
  refine brD.intro (fun h => absurd h (by omega)) (fun _ => ?_)
  simp (maxSteps := 1000000) (disch := omega) only [S, S1, S2, S3, S4, S5, ST, eq_self, reduceIte, reduceCtorEq, Nat.reduceEqDiff, Nat.reduceAdd]
  refine brD.intro (fun h => ?_) (fun h => ?_)
  · have hw : IntKind.u8.wrap ((n / 256 : Nat) : Int) = ((n / 256 : Nat) : Int) := wrapU8 (by omega) (by omega)
    simp (maxSteps := 1000000) (disch := omega) only [k8, hw, wrap64, S, S1, S2, S3, S4, S5, ST, eq_self, reduceIte, reduceCtorEq, Nat.reduceEqDiff, Nat.reduceAdd]
    generalize hs : (ByteArray.mk _) = s
    have hz : s.size = 256 := by rw [← hs]; rfl
    have hp : ∀ i : Fin 256, 0 < i.1 → 1 ≤ (s.data.getD i.1 0).toNat := by rw [← hs]; decide +kernel
    obtain ⟨b, hb1, hb2, hb⟩ := str_at (P := Tryz.prog) Tryz.underlying9 s hz hp .u8 (n / 256) (by omega) (by omega)
    simp (maxSteps := 1000000) (disch := omega) only [hb, wrap64, S, S1, S2, S3, S4, S5, ST, eq_self, reduceIte, reduceCtorEq, Nat.reduceEqDiff, Nat.reduceAdd]
    refine hQ _ _ _ ?_
    simp (maxSteps := 1000000) (disch := omega) only [S, S1, S2, S3, S4, S5, ST, eq_self, reduceIte, reduceCtorEq, Nat.reduceEqDiff, Nat.reduceAdd]
    exact ⟨_, rfl, by omega⟩
  · have hw : IntKind.u8.wrap (n : Int) = (n : Int) := wrapU8 (by omega) (by omega)
    simp (maxSteps := 1000000) (disch := omega) only [hw, wrap64, S, S1, S2, S3, S4, S5, ST, eq_self, reduceIte, reduceCtorEq, Nat.reduceEqDiff, Nat.reduceAdd]
    generalize hs : (ByteArray.mk _) = s
    have hz : s.size = 256 := by rw [← hs]; rfl
    have hp : ∀ i : Fin 256, 0 < i.1 → 1 ≤ (s.data.getD i.1 0).toNat := by rw [← hs]; decide +kernel
    obtain ⟨b, hb1, hb2, hb⟩ := str_at (P := Tryz.prog) Tryz.underlying9 s hz hp .u8 n (by omega) (by omega)
    simp (maxSteps := 1000000) (disch := omega) only [hb, wrap64, S, S1, S2, S3, S4, S5, ST, eq_self, reduceIte, reduceCtorEq, Nat.reduceEqDiff, Nat.reduceAdd]
    refine hQ _ _ _ ?_
    simp (maxSteps := 1000000) (disch := omega) only [S, S1, S2, S3, S4, S5, ST, eq_self, reduceIte, reduceCtorEq, Nat.reduceEqDiff, Nat.reduceAdd]
    exact ⟨_, rfl, by omega⟩
theorem Lenb_c (n : Nat) (H : AH) (h0 : 0 < n) (hn : n < 65536) : ACalls Tryz.prog 142 [.int .u64 (n : Int)] H fun r H' => (∃ k : Int, r = .int .i64 k ∧ 1 ≤ k) ∧ H = H' := by
  refine in142 rfl ?_
  intro Q hQ
  simp (maxSteps := 1000000) (disch := omega) only [cd142, S, S1, S2, S3, S4, S5, ST, eq_self, reduceIte, reduceCtorEq, Nat.reduceEqDiff, Nat.reduceAdd]
  refine CallH.by (Len64b_c n H h0 hn) ?_
  rintro _ _ ⟨⟨k, rfl, hk⟩, rfl⟩
  simp (maxSteps := 1000000) (disch := omega) only [S, S1, S2, S3, S4, S5, ST, eq_self, reduceIte, reduceCtorEq, Nat.reduceEqDiff, Nat.reduceAdd]
  refine hQ _ _ _ ?_
  simp (maxSteps := 1000000) (disch := omega) only [S, S1, S2, S3, S4, S5, ST, eq_self, reduceIte, reduceCtorEq, Nat.reduceEqDiff, Nat.reduceAdd]
  exact ⟨_, rfl, hk⟩
theorem str_z {P : Program} {t : TypeId} (hu : P.underlying t = some .string) (s : ByteArray) (hz : s.size = 256) (k : IntKind) (n : Nat) (h1 : n < 256) : ∃ b : Nat, b < 256 ∧ indexA P t (.string s) (.int k (n : Int)) = some (.int .u8 (b : Int)) := by
  have hlt : n < s.size := by omega
  have e1 : s[(n : Int).toNat]? = some s[n] := by rw [Int.toNat_natCast]; simp [hlt]
  refine ⟨s[n].toNat, UInt8.toNat_lt _, ?_⟩
  simp only [indexA, hu, if_pos (show (0 : Int) ≤ n by omega), e1]
set_option maxRecDepth 20000 in
theorem Len64z_c (n : Nat) (H : AH) (h0 : n = 0) : ACalls Tryz.prog 182 [.int .u64 (n : Int)] H fun r H' => (∃ k : Int, r = .int .i64 k) ∧ H = H' := by
  refine in182 rfl ?_
  intro Q hQ
  simp (maxSteps := 1000000) (disch := omega) only [cd182, S, S1, S2, S3, S4, S5, ST, eq_self, reduceIte, reduceCtorEq, Nat.reduceEqDiff, Nat.reduceAdd]
  refine brD.intro (fun h => absurd h (by omega)) (fun _ => ?_)
  simp (maxSteps := 1000000) (disch := omega) only [S, S1, S2, S3, S4, S5, ST, eq_self, reduceIte, reduceCtorEq, Nat.reduceEqDiff, Nat.reduceAdd]
  refine brD.intro (fun h => absurd h (by omega)) (fun _ => ?_)
  simp (maxSteps := 1000000) (disch := omega) only [S, S1, S2, S3, S4, S5, ST, eq_self, reduceIte, reduceCtorEq, Nat.reduceEqDiff, Nat.reduceAdd]
  refine brD.intro (fun h => absurd h (by omega)) (fun _ => ?_)
  have hw : IntKind.u8.wrap (n : Int) = (n : Int) := wrapU8 (by omega) (by omega)
  simp (maxSteps := 1000000) (disch := omega) only [hw, wrap64, S, S1, S2, S3, S4, S5, ST, eq_self, reduceIte, reduceCtorEq, Nat.reduceEqDiff, Nat.reduceAdd]
  generalize hs : (ByteArray.mk _) = s
  have hz : s.size = 256 := by rw [← hs]; rfl
  obtain ⟨b, hb2, hb⟩ := str_z (P := Tryz.prog) Tryz.underlying9 s hz .u8 n (by omega)
  simp (maxSteps := 1000000) (disch := omega) only [hb, wrap64, S, S1, S2, S3, S4, S5, ST, eq_self, reduceIte, reduceCtorEq, Nat.reduceEqDiff, Nat.reduceAdd]
  refine hQ _ _ _ ?_
  simp (maxSteps := 1000000) (disch := omega) only [S, S1, S2, S3, S4, S5, ST, eq_self, reduceIte, reduceCtorEq, Nat.reduceEqDiff, Nat.reduceAdd]
  exact ⟨_, rfl⟩
theorem Lenz_c (n : Nat) (H : AH) (h0 : n = 0) : ACalls Tryz.prog 142 [.int .u64 (n : Int)] H fun r H' => (∃ k : Int, r = .int .i64 k) ∧ H = H' := by
  refine in142 rfl ?_
  intro Q hQ
  simp (maxSteps := 1000000) (disch := omega) only [cd142, S, S1, S2, S3, S4, S5, ST, eq_self, reduceIte, reduceCtorEq, Nat.reduceEqDiff, Nat.reduceAdd]
  refine CallH.by (Len64z_c n H h0) ?_
  rintro _ _ ⟨⟨k, rfl⟩, rfl⟩
  simp (maxSteps := 1000000) (disch := omega) only [S, S1, S2, S3, S4, S5, ST, eq_self, reduceIte, reduceCtorEq, Nat.reduceEqDiff, Nat.reduceAdd]
  refine hQ _ _ _ ?_
  simp (maxSteps := 1000000) (disch := omega) only [S, S1, S2, S3, S4, S5, ST, eq_self, reduceIte, reduceCtorEq, Nat.reduceEqDiff, Nat.reduceAdd]
  exact ⟨_, rfl⟩
theorem SortFunc_c {H : AH} {v : Value} {us : List Value} {ls : List (List Int)} (h : Sts H v us ls) :
    ACalls Tryz.prog 126 [v, fnCmp] H fun r H' => H <+: H' := by
  refine in126 rfl ?_
  intro Q hQ
  have hb := h.bnd
  have hl := h.len
  have hU : IntKind.u64.wrap (ls.length : Int) = (ls.length : Int) := by rw [IntKind.wrap_u64]; omega
  simp (maxSteps := 1000000) (disch := omega) only [cd126, h.row.len Tryz.underlying25, hl, hU, S, S1, S2, S3, S4, S5, ST, eq_self, reduceIte, reduceCtorEq, Nat.reduceEqDiff, Nat.reduceAdd]
  by_cases h1 : 1 ≤ ls.length
  rotate_left
  · refine CallH.by (Lenz_c ls.length H (by omega)) ?_
    rintro _ _ ⟨⟨k, rfl⟩, rfl⟩
    simp (maxSteps := 1000000) (disch := omega) only [S, S1, S2, S3, S4, S5, ST, eq_self, reduceIte, reduceCtorEq, Nat.reduceEqDiff, Nat.reduceAdd]
    refine CallH.by (pdqCmp_c h k (.inr (by omega))) ?_
    rintro _ B hB
    simp (maxSteps := 1000000) (disch := omega) only [S, S1, S2, S3, S4, S5, ST, eq_self, reduceIte, reduceCtorEq, Nat.reduceEqDiff, Nat.reduceAdd]
    refine hQ _ _ _ ?_
    simp (maxSteps := 1000000) (disch := omega) only [S, S1, S2, S3, S4, S5, ST, eq_self, reduceIte, reduceCtorEq, Nat.reduceEqDiff, Nat.reduceAdd]
    exact hB
  refine CallH.by (Lenb_c ls.length H (by omega) (by omega)) ?_
  rintro _ _ ⟨⟨k, rfl, hk⟩, rfl⟩
  simp (maxSteps := 1000000) (disch := omega) only [S, S1, S2, S3, S4, S5, ST, eq_self, reduceIte, reduceCtorEq, Nat.reduceEqDiff, Nat.reduceAdd]
  refine CallH.by (pdqCmp_c h k (.inl (by omega))) ?_
  rintro _ B hB
  simp (maxSteps := 1000000) (disch := omega) only [S, S1, S2, S3, S4, S5, ST, eq_self, reduceIte, reduceCtorEq, Nat.reduceEqDiff, Nat.reduceAdd]
  refine hQ _ _ _ ?_
  simp (maxSteps := 1000000) (disch := omega) only [S, S1, S2, S3, S4, S5, ST, eq_self, reduceIte, reduceCtorEq, Nat.reduceEqDiff, Nat.reduceAdd]
  exact hB
end Go.Proofs.YtdgapefbbdfpbaaGreat.Ai
namespace Go.Proofs.YtdgapefbbdfpbaaGreat.Ai
open Go Go.RowKit
set_option linter.unusedVariables false
theorem InU.appL {P : Program} {t2 e2 e : TypeId} (hu : P.underlying t2 = some (.slice e2)) (hc : P.cellsOf e2 = 1) (hby : P.bytesOf e2 ≤ 64) (hz : zeroOk P e2 = true) {lo hi hi2 : Nat} {H : AH} {o : Nat} {us : List Value} {w : Value} {ls ms : List (List Int)}
    (h : InU lo hi e2 e H o us ls) (hw : InL hi hi2 e2 e H w ms) (hl1 : lo ≤ hi) (hl2 : hi ≤ hi2) (hl3 : hi2 ≤ H.length) (hb : ls.length + ms.length ≤ 1099511627775) :
    ∃ v' H' o' us', appendA P t2 t2 (.slice (some ⟨o, 0, none⟩) ls.length ls.length) w H = some (v', H') ∧ v' = .slice (some ⟨o', 0, none⟩) (ls ++ ms).length (ls ++ ms).length ∧
      InU lo H'.length e2 e H' o' us' (ls ++ ms) ∧ H.length ≤ H'.length ∧ (∀ (j : Nat) (y : AObj), j ≠ o → H[j]? = some y → H'[j]? = some y) ∧ (o' = o ∨ H.length ≤ o') := by
  have bb : ∀ n : Nat, n ≤ 1099511627776 → n * P.bytesOf e2 ≤ 140737488355328 := fun n hn => by
    refine Nat.le_trans (Nat.mul_le_mul_left _ hby) ?_
    omega
  by_cases hm : ms.length = 0
  · have hms : ms = [] := List.eq_nil_of_length_eq_zero hm
    subst hms
    have hsc : ∃ us2, sliceCells P e2 w H = some (0, us2) := by
      rcases hw with ⟨rfl, _⟩ | ⟨o2, us2, rfl, g1, g2, g3, _⟩
      · exact ⟨[], rfl⟩
      · refine ⟨(us2.drop 0).take (0 * P.cellsOf e2), ?_⟩
        simp only [sliceCells, g3, List.length_nil]
        rw [if_pos ⟨by omega, trivial⟩]
    obtain ⟨us2, hsc⟩ := hsc
    refine ⟨_, H, o, us, ?_, by rw [List.append_nil], ?_, Nat.le_refl _, fun j y _ hy => hy, .inl rfl⟩
    · simp only [appendA, hu, hc, hsc, isSl]
      rw [if_pos (by simp), if_pos (by simp), if_pos trivial]
    · rw [List.append_nil]
      obtain ⟨h1, h2, h3, h4, h5, h6⟩ := h
      exact ⟨h1, by omega, h3, h4, fun i hi' => ⟨(h5 i hi').1.wide (Nat.le_refl _) (by omega), (h5 i hi').2⟩, h6⟩
  rcases hw with ⟨_, e0⟩ | ⟨o2, us2, rfl, g1, g2, g3, g4, g5, g6⟩
  · rw [e0] at hm; simp at hm
  have hsc : sliceCells P e2 (.slice (some ⟨o2, 0, none⟩) ms.length ms.length) H = some (ms.length, us2.take ms.length) := by
    simp only [sliceCells, g3, hc, Nat.mul_one, List.drop_zero]
    rw [if_pos ⟨by omega, trivial⟩]
  obtain ⟨h2, h3, h4, h5, h6, h7⟩ := h
  have ho := at_lt h4
  have keep : ∀ (j : Nat) (y : AObj), j ≠ o → H[j]? = some y → (H.set o AObj.dead ++ [AObj.cells (us.take ls.length ++ us2.take ms.length) e2 false])[j]? = some y := by
    intro j y hj hy
    exact at_old hy (fun e => hj e.symm) _
  refine ⟨.slice (some ⟨H.length, 0, none⟩) (ls.length + ms.length) (ls.length + ms.length), H.set o AObj.dead ++ [AObj.cells (us.take ls.length ++ us2.take ms.length) e2 false], H.length, us.take ls.length ++ us2.take ms.length, ?_, by rw [List.length_append], ?_, by simp, keep, .inr (Nat.le_refl _)⟩
  · simp only [appendA, hu, hc, hsc, hz, h4]
    rw [if_pos (by simp), if_neg hm, if_pos ⟨trivial, by omega, bb _ (by omega), by omega, trivial⟩]
    simp
  · have hul : (us.take ls.length).length = ls.length := by simp; omega
    have hul2 : (us2.take ms.length).length = ms.length := by simp; omega
    have uat : ∀ i, i < ls.length → (us.take ls.length ++ us2.take ms.length).getD i undef = us.getD i undef := by
      intro i hi'
      rw [List.getD_eq_getElem?_getD, List.getD_eq_getElem?_getD, List.getElem?_append_left (by omega), List.getElem?_take, if_pos hi']
    have uat2 : ∀ i, i < ms.length → (us.take ls.length ++ us2.take ms.length).getD (ls.length + i) undef = us2.getD i undef := by
      intro i hi'
      rw [List.getD_eq_getElem?_getD, List.getD_eq_getElem?_getD, List.getElem?_append_right (by omega), hul, Nat.add_sub_cancel_left, List.getElem?_take, if_pos hi']
    have lat : ∀ i, i < ls.length → (ls ++ ms).getD i [] = ls.getD i [] := by
      intro i hi'
      rw [List.getD_eq_getElem?_getD, List.getD_eq_getElem?_getD, List.getElem?_append_left hi']
    have lat2 : ∀ i, i < ms.length → (ls ++ ms).getD (ls.length + i) [] = ms.getD i [] := by
      intro i hi'
      rw [List.getD_eq_getElem?_getD, List.getD_eq_getElem?_getD, List.getElem?_append_right (by omega), Nat.add_sub_cancel_left]
    have cross : ∀ i j, i < ls.length → j < ms.length → Apart (us.getD i undef) (us2.getD j undef) := by
      intro i j hi' hj'
      rcases (h6 i hi').1.at_ with g | g
      · exact .inr (.inl g)
      · rcases (g5 j hj').1.at_ with g' | g'
        · exact .inl g'
        · exact .inr (.inr (by omega))
    refine ⟨by omega, by simp, ?_, by simp; omega, ?_, ?_⟩
    · rw [List.getElem?_append_right (by simp)]; simp
    · intro i hi'
      rw [List.length_append] at hi'
      by_cases hc' : i < ls.length
      · rw [uat i hc', lat i hc']
        obtain ⟨k1, k2⟩ := h6 i hc'
        refine ⟨(k1.move fun y hn hy => ?_).wide (Nat.le_refl _) (by simp; omega), ?_⟩
        · rcases k2 with g | g
          · exact absurd g hn
          · exact keep _ _ g hy
        · rcases k1.at_ with g | g
          · exact .inl g
          · exact .inr (by omega)
      · obtain ⟨j, rfl⟩ : ∃ j, i = ls.length + j := ⟨i - ls.length, by omega⟩
        have hj : j < ms.length := by omega
        rw [uat2 j hj, lat2 j hj]
        obtain ⟨k1, k2⟩ := g5 j hj
        refine ⟨(k1.move fun y hn hy => ?_).wide hl1 (by simp; omega), ?_⟩
        · rcases k1.at_ with g | g
          · exact absurd g hn
          · exact keep _ _ (by omega) hy
        · rcases k1.at_ with g | g
          · exact .inl g
          · exact .inr (by omega)
    · intro i j hij hi' hj'
      rw [List.length_append] at hi' hj'
      by_cases ci : i < ls.length <;> by_cases cj : j < ls.length
      · rw [uat i ci, uat j cj]; exact h7 i j hij ci cj
      · obtain ⟨j', rfl⟩ : ∃ j', j = ls.length + j' := ⟨j - ls.length, by omega⟩
        rw [uat i ci, uat2 j' (by omega)]; exact cross i j' ci (by omega)
      · obtain ⟨i', rfl⟩ : ∃ i', i = ls.length + i' := ⟨i - ls.length, by omega⟩
        rw [uat j cj, uat2 i' (by omega)]
        rcases cross j i' cj (by omega) with g | g | g
        · exact .inr (.inl g)
        · exact .inl g
        · exact .inr (.inr fun e => g e.symm)
      · obtain ⟨i', rfl⟩ : ∃ i', i = ls.length + i' := ⟨i - ls.length, by omega⟩
        obtain ⟨j', rfl⟩ : ∃ j', j = ls.length + j' := ⟨j - ls.length, by omega⟩
        rw [uat2 i' (by omega), uat2 j' (by omega)]
        exact g6 i' j' (by omega) (by omega) (by omega)
/-- the lists of a list of lists -/
theorem InL.parts {lo hi : Nat} {e2 e : TypeId} {H : AH} {v : Value} {ls : List (List Int)} (h : InL lo hi e2 e H v ls) : ∃ us : List Value, RowV e2 H v us ∧ us.length = ls.length ∧ ∀ i, i < ls.length → InI lo hi e H (us.getD i undef) (ls.getD i []) := by
  rcases h with ⟨h1, h2⟩ | ⟨o, us, h0, h1, h2, h3, h4, h5, h6⟩
  · subst h1; subst h2; exact ⟨[], .inl ⟨rfl, rfl⟩, rfl, fun i hi => absurd hi (by simp)⟩
  · refine ⟨us.take ls.length, .inr ⟨o, 0, us, false, by simp [h0, Nat.min_eq_left h4], h3, by simp; omega, by simp [Nat.min_eq_left h4]⟩, by simp; omega, fun i hi => ?_⟩
    have : (us.take ls.length).getD i undef = us.getD i undef := by
      rw [List.getD_eq_getElem?_getD, List.getD_eq_getElem?_getD, List.getElem?_take, if_pos hi]
    rw [this]
    exact (h5 i hi).1
end Go.Proofs.YtdgapefbbdfpbaaGreat.Ai
namespace Go.Proofs.YtdgapefbbdfpbaaGreat.Ai
open Go
def ords59 : List (Nat × List (Nat × Bool)) := []
def cd59 : Cd := (.seq (.reg [⟨⟨some 4, Op.alloc 28, none⟩, []⟩]) (.seq (.reg [⟨⟨some 10, Op.move (Operand.tmp 0), none⟩, []⟩,
  ⟨⟨some 11, Op.build 28 #[(0, (Operand.tmp 10))], none⟩, []⟩,
  ⟨⟨some 5, Op.alloc 28, none⟩, []⟩,
  ⟨⟨none, Op.store 28 (Operand.tmp 5) (Operand.tmp 11), none⟩, []⟩]) (.seq (.reg [⟨⟨some 12, Op.fieldAddr 28 (Operand.tmp 5) 0, none⟩, []⟩,
  ⟨⟨some 13, Op.load 25 (Operand.tmp 12), none⟩, []⟩,
  ⟨⟨some 14, Op.call { callee := (Callee.value (Operand.func 126)), args := #[(Operand.tmp 13), (Operand.func 127)], argTypes := #[25, 125] }, none⟩, []⟩]) (.seq (.seq (.reg [⟨⟨some 15, Op.fieldAddr 28 (Operand.tmp 5) 0, none⟩, []⟩,
  ⟨⟨some 16, Op.load 25 (Operand.tmp 15), none⟩, []⟩,
  ⟨⟨some 17, Op.call { callee := (Callee.builtin Builtin.len), args := #[(Operand.tmp 16)], argTypes := #[25] }, none⟩, []⟩,
  ⟨⟨some 18, Op.move (Operand.const (Value.int IntKind.i64 0)), none⟩, []⟩]) (.block 0 (.loop (.seq (.reg [⟨⟨some 19, Op.binOp BinOp.lss 3 (Operand.tmp 18) (Operand.tmp 17) 3, none⟩, []⟩]) (.seq (.cond (Operand.tmp 19) .skip (.exit 0)) (.seq (.block 1 (.seq (.reg [⟨⟨some 20, Op.move (Operand.tmp 18), none⟩, []⟩,
  ⟨⟨some 21, Op.indexAddr 25 (Operand.tmp 16) (Operand.tmp 18), none⟩, []⟩,
  ⟨⟨some 22, Op.load 34 (Operand.tmp 21), none⟩, []⟩,
  ⟨⟨some 6, Op.assign (Operand.tmp 20), none⟩, []⟩,
  ⟨⟨some 7, Op.assign (Operand.tmp 22), none⟩, []⟩]) (.seq (.reg [⟨⟨some 23, Op.fieldAddr 28 (Operand.tmp 5) 0, none⟩, []⟩,
  ⟨⟨some 24, Op.load 25 (Operand.tmp 23), none⟩, []⟩,
  ⟨⟨some 25, Op.move (Operand.tmp 6), none⟩, []⟩,
  ⟨⟨some 26, Op.binOp BinOp.add 3 (Operand.tmp 25) (Operand.const (Value.int IntKind.i64 1)) 3, none⟩, []⟩,
  ⟨⟨some 27, Op.slice 25 (Operand.tmp 24) (some (Operand.tmp 26)) none none, none⟩, []⟩,
  ⟨⟨some 28, Op.call { callee := (Callee.builtin Builtin.len), args := #[(Operand.tmp 27)], argTypes := #[25] }, none⟩, []⟩,
  ⟨⟨some 29, Op.move (Operand.const (Value.int IntKind.i64 0)), none⟩, []⟩]) (.block 2 (.loop (.seq (.reg [⟨⟨some 30, Op.binOp BinOp.lss 3 (Operand.tmp 29) (Operand.tmp 28) 3, none⟩, []⟩]) (.seq (.cond (Operand.tmp 30) .skip (.exit 2)) (.seq (.block 3 (.seq (.reg [⟨⟨some 31, Op.move (Operand.tmp 29), none⟩, []⟩,
  ⟨⟨some 32, Op.indexAddr 25 (Operand.tmp 27) (Operand.tmp 29), none⟩, []⟩,
  ⟨⟨some 33, Op.load 34 (Operand.tmp 32), none⟩, []⟩,
  ⟨⟨some 8, Op.assign (Operand.tmp 31), none⟩, []⟩,
  ⟨⟨some 9, Op.assign (Operand.tmp 33), none⟩, []⟩]) (.seq (.reg [⟨⟨some 34, Op.move (Operand.tmp 1), none⟩, []⟩,
  ⟨⟨some 35, Op.move (Operand.tmp 7), none⟩, []⟩,
  ⟨⟨some 36, Op.move (Operand.tmp 9), none⟩, []⟩,
  ⟨⟨some 37, Op.call { callee := (Callee.value (Operand.tmp 34)), args := #[(Operand.tmp 35), (Operand.tmp 36)], argTypes := #[34, 34] }, none⟩, []⟩]) (.cond (Operand.tmp 37) (.reg [⟨⟨some 38, Op.fieldAddr 28 (Operand.tmp 5) 1, none⟩, []⟩,
  ⟨⟨some 39, Op.load 26 (Operand.tmp 38), none⟩, []⟩,
  ⟨⟨some 40, Op.move (Operand.tmp 6), none⟩, []⟩,
  ⟨⟨some 41, Op.move (Operand.tmp 6), none⟩, []⟩,
  ⟨⟨some 42, Op.binOp BinOp.add 3 (Operand.tmp 41) (Operand.const (Value.int IntKind.i64 1)) 3, none⟩, []⟩,
  ⟨⟨some 43, Op.move (Operand.tmp 8), none⟩, []⟩,
  ⟨⟨some 44, Op.binOp BinOp.add 3 (Operand.tmp 42) (Operand.tmp 43) 3, none⟩, []⟩,
  ⟨⟨some 45, Op.build 96 #[(0, (Operand.tmp 40)), (1, (Operand.tmp 44))], none⟩, []⟩,
  ⟨⟨some 46, Op.buildSlice 26 1 #[(0, (Operand.tmp 45))], none⟩, []⟩,
  ⟨⟨some 47, Op.call { callee := (Callee.builtin Builtin.append), args := #[(Operand.tmp 39), (Operand.tmp 46)], argTypes := #[26, 26] }, none⟩, []⟩,
  ⟨⟨some 48, Op.fieldAddr 28 (Operand.tmp 5) 1, none⟩, []⟩,
  ⟨⟨none, Op.store 26 (Operand.tmp 48) (Operand.tmp 47), none⟩, []⟩]) .skip)))) (.reg [⟨⟨some 49, Op.binOp BinOp.add 3 (Operand.tmp 29) (Operand.const (Value.int IntKind.i64 1)) 3, none⟩, []⟩,
  ⟨⟨some 29, Op.move (Operand.tmp 49), none⟩, []⟩]))))))))) (.reg [⟨⟨some 50, Op.binOp BinOp.add 3 (Operand.tmp 18) (Operand.const (Value.int IntKind.i64 1)) 3, none⟩, []⟩,
  ⟨⟨some 18, Op.move (Operand.tmp 50), none⟩, []⟩]))))))) (.seq (.reg [⟨⟨some 51, Op.load 28 (Operand.tmp 5), none⟩, []⟩,
  ⟨⟨none, Op.store 28 (Operand.tmp 4) (Operand.tmp 51), none⟩, []⟩]) .ret)))))
theorem sl59 : slim Tryz.f59.ntmps ords59 (Tryz.f59.body.getD .skip) = some cd59 := by kernel_rfl
set_option maxRecDepth 20000 in
theorem in59 {args : List Value} {H : AH} {R : Value → AH → Prop} (hl : args.length = 2) (h : ∀ (Q : Exit → Sl → AH → Prop), (∀ e s H, endA Tryz.prog [ResultVar.cell 4 28] R e s H → Q e s H) → wpC Tryz.prog cd59 Q (enterA args) H) : ACalls Tryz.prog 59 args H R :=
  ACalls.intro (by kernel_rfl) Tryz.func59 rfl (by kernel_rfl) sl59 hl (of_decide_eq_true (by kernel_rfl)) (by kernel_rfl) h
end Go.Proofs.YtdgapefbbdfpbaaGreat.Ai
namespace Go.Proofs.YtdgapefbbdfpbaaGreat.Ai
open Go Go.RowKit
set_option linter.unusedVariables false
set_option linter.unusedSimpArgs false
theorem alloc_sp (H : AH) : allocA Tryz.prog 28 H = some (.pointer (some ⟨H.length, 0, none⟩), H ++ [.cells [.slice none 0 0, .slice none 0 0] 28 false]) := by kernel_rfl
theorem bld_sp1 (p : Option Addr) (n c : Nat) : buildA Tryz.prog 28 [(0, .slice p n c)] = some (.agg (List.toArray [.slice p n c, .slice none 0 0])) := by kernel_rfl
theorem bld_sp2 (p q : Option Addr) (n c m d : Nat) : buildA Tryz.prog 28 [(0, .slice p n c), (1, .slice q m d)] = some (.agg (List.toArray [.slice p n c, .slice q m d])) := by kernel_rfl
theorem bld_sp0 : buildA Tryz.prog 28 [] = some (.agg (List.toArray [.slice none 0 0, .slice none 0 0])) := by kernel_rfl
theorem st_ss {e : TypeId} {H : AH} {o : Nat} {vs : List Value} (ho : H[o]? = some (.cells vs e false)) (hv : vs.length = 2) (p q : Option Addr) (n c m d : Nat) :
    storeA Tryz.prog 28 (.pointer (some ⟨o, 0, none⟩)) (.agg (List.toArray [.slice p n c, .slice q m d])) H = some (H.set o (.cells [.slice p n c, .slice q m d] e false)) := by
  simp only [storeA, ho, cs28]
  have hcl : (Value.agg (List.toArray [.slice p n c, .slice q m d])).cells.toList = [.slice p n c, .slice q m d] := rfl
  rw [hcl, if_pos ⟨rfl, rfl, by decide, by rw [hv]; exact Nat.le_refl 2⟩]
  have : putAt vs 0 [.slice p n c, .slice q m d] = [.slice p n c, .slice q m d] := by
    unfold putAt
    rw [List.take_zero, List.nil_append, List.drop_of_length_le (by simp; omega), List.append_nil]
  rw [this]
/-- the end of a function with a variable and a value as results -/
theorem end_cell2 (P : Program) (a b : Nat) (t : TypeId) (R : Value → AH → Prop) (s : Sl) (H : AH) (v w : Value) (h : loadA P t (s a) H = some v) (ht : isTup v = false) (hb : s b = w) (hw : isTup w = false) (hr : R (.tuple (List.toArray [v, w])) H) : endA P [.cell a t, .tmp b] R .ret s H := by
  subst hb
  simp only [endA, resA, h, ht]
  simp [hw, outA]
  exact hr
/-- the steps between lists of which something is so -/
def stpI (p : List Int → List Int → Bool) (ls : List (List Int)) (i : Nat) : Nat → List (Int × Int)
  | 0 => []
  | k + 1 => stpI p ls i k ++ if p (ls.getD i []) (ls.getD (i + 1 + k) []) = true then [((i : Int), ((i + 1 + k : Nat) : Int))] else []
def stpO (p : List Int → List Int → Bool) (ls : List (List Int)) : Nat → List (Int × Int)
  | 0 => []
  | i + 1 => stpO p ls i ++ stpI p ls i (ls.length - (i + 1))
theorem stpI_len (p : List Int → List Int → Bool) (ls : List (List Int)) (i k : Nat) : (stpI p ls i k).length ≤ k := by
  induction k with
  | zero => simp [stpI]
  | succ k ih => simp only [stpI, List.length_append]; split <;> simp <;> omega
theorem stpO_len (p : List Int → List Int → Bool) (ls : List (List Int)) (i : Nat) : (stpO p ls i).length ≤ i * ls.length := by
  induction i with
  | zero => simp [stpO]
  | succ i ih =>
    have := stpI_len p ls i (ls.length - (i + 1))
    simp only [stpO, List.length_append, Nat.add_mul, Nat.one_mul]
    omega
abbrev steps (p : List Int → List Int → Bool) (ls : List (List Int)) : List (Int × Int) := stpO p ls ls.length
/-- is a step between two lists: a function of the program's -/
def StepFn (HB : AH) (fS : FuncId) (caps : List Value) (ls : List (List Int)) (p : List Int → List Int → Bool) : Prop :=
  ∀ (a b : Value) (x y : List Int) (H : AH), HB <+: H → Row 3 H a x → Row 3 H b y → x ∈ ls → y ∈ ls → ACalls Tryz.prog fS (a :: b :: caps) H fun r H' => r = .bool (p x y) ∧ H <+: H'
set_option maxRecDepth 20000 in
set_option maxHeartbeats 4000000 in
theorem spaceOf_c {HB H : AH} {v : Value} {us : List Value} {ls : List (List Int)} (h : Sts H v us ls) (hls : ls.length ≤ 1000) (fS : FuncId) (caps : List Value) (p : List Int → List Int → Bool) (hS : StepFn HB fS caps ls p) (hp : HB <+: H) :
    ACalls Tryz.prog 59 [v, .func (.func fS) #[] (List.toArray caps)] H fun r H' => ∃ st, r = .agg (List.toArray [v, st]) ∧ MineP 96 H H' st (steps p ls) ∧ H <+: H' := by
  refine in59 rfl ?_
  intro Q hQ
  have hul := h.len
  obtain ⟨pv, hpv⟩ := h.row.shape
  have hb1 := bld_sp1 pv us.length us.length
  rw [← hpv] at hb1
  simp (maxSteps := 1000000) (disch := omega) only [cd59, alloc_sp, hb1, S, S1, S2, S3, S4, S5, ST, eq_self, reduceIte, reduceCtorEq, Nat.reduceEqDiff, Nat.reduceAdd]
  generalize hA : H ++ [AObj.cells [.slice none 0 0, .slice none 0 0] 28 false] = A
  have pA : H <+: A := by rw [← hA]; exact List.prefix_append _ _
  have cA : A[H.length]? = some (.cells [.slice none 0 0, .slice none 0 0] 28 false) := by rw [← hA]; exact at_new ..
  have lA : A.length = H.length + 1 := by rw [← hA]; simp
  have st1 := st_ss (at_new A (.cells [.slice none 0 0, .slice none 0 0] 28 false)) rfl pv none us.length us.length 0 0
  rw [set_new, ← hpv] at st1
  simp (maxSteps := 1000000) (disch := omega) only [st1, cell_new, S, S1, S2, S3, S4, S5, ST, eq_self, reduceIte, reduceCtorEq, Nat.reduceEqDiff, Nat.reduceAdd]
  generalize hB : A ++ [AObj.cells [v, .slice none 0 0] 28 false] = B
  have pB : A <+: B := by rw [← hB]; exact List.prefix_append _ _
  have cB : B[A.length]? = some (.cells [v, .slice none 0 0] 28 false) := by rw [← hB]; exact at_new ..
  have lB : B.length = A.length + 1 := by rw [← hB]; simp
  have pHB := pA.trans pB
  refine CallH.by (SortFunc_c (h.pre pHB)) ?_
  rintro _ C pC
  have pHC := pHB.trans pC
  have lC := pC.length_le
  have cC := pre_at pC cB
  have cC0 := pre_at (pB.trans pC) cA
  simp (maxSteps := 1000000) (disch := omega) only [cell_of cC, h.row.len Tryz.underlying25, hul, S, S1, S2, S3, S4, S5, ST, eq_self, reduceIte, reduceCtorEq, Nat.reduceEqDiff, Nat.reduceAdd]
  refine LoopH.by (fun m s H' => ∃ i st, m + i = ls.length ∧ s 1 = .func (.func fS) #[] (List.toArray caps) ∧ s 4 = .pointer (some ⟨H.length, 0, none⟩) ∧ s 5 = .pointer (some ⟨A.length, 0, none⟩) ∧ s 16 = v ∧ s 17 = .int .i64 (ls.length : Int) ∧ s 18 = .int .i64 ((i : Nat) : Int) ∧ H'[A.length]? = some (.cells [v, st] 28 false) ∧ H'[H.length]? = some (.cells [.slice none 0 0, .slice none 0 0] 28 false) ∧ (st = .slice none 0 0 ∨ B.length ≤ rowO st) ∧ MineP 96 H H' st (stpO p ls i) ∧ H <+: H') ls.length ?_ ?_
  · exact ⟨0, .slice none 0 0, by simp, rfl, rfl, rfl, rfl, rfl, rfl, cC, cC0, .inl rfl, .inl ⟨rfl, rfl⟩, pHC⟩
  rintro m s H' ⟨i, st, hm, s1, s4, s5, s16, s17, s18, hc5, hc4, hst, hmn, hpp⟩
  simp (maxSteps := 1000000) (disch := omega) only [s1, s4, s5, s16, s17, s18, S, S1, S2, S3, S4, S5, ST, eq_self, reduceIte, reduceCtorEq, Nat.reduceEqDiff, Nat.reduceAdd]
  refine brD.intro (fun g => ?_) (fun g => ?_)
  rotate_left
  · have hi : i = ls.length := by omega
    subst hi
    have hst2 : isTup st = false := hmn.row.tup
    obtain ⟨q, hq⟩ := hmn.row.shape
    have hstA := st_ss hc4 rfl pv q us.length us.length (stpO p ls ls.length).length (stpO p ls ls.length).length
    rw [← hpv, ← hq] at hstA
    simp (maxSteps := 1000000) (disch := omega) only [s4, s5, ld_agg ag28 cs28 hc5, hstA, S, S1, S2, S3, S4, S5, ST, eq_self, reduceIte, reduceCtorEq, Nat.reduceEqDiff, Nat.reduceAdd]
    have d4 := at_set (d := .cells [v, st] 28 false) hc4
    refine hQ _ _ _ (end_cell _ _ _ _ _ _ (.agg (List.toArray [v, st])) ?_ rfl ⟨st, rfl, ?_, ?_⟩)
    · simp (maxSteps := 1000000) (disch := omega) only [s4, ld_agg ag28 cs28 d4, S, S1, S2, S3, S4, S5, ST, eq_self, reduceIte, reduceCtorEq, Nat.reduceEqDiff, Nat.reduceAdd]
    · rcases hst with e | e
      · rcases hmn with hm0 | ⟨o, zs, q1, _⟩
        · exact .inl hm0
        · rw [e] at q1; cases q1
      · refine hmn.keepL ?_
        intro hl y hy
        rw [List.getElem?_set_ne (by omega)]
        exact hy
    · exact pre_set hpp (Nat.le_refl _) _
  have hi : i < ls.length := by omega
  have hH' := h.pre hpp
  have hci := hH'.cell hi
  have hri := hH'.each i hi
  have hmi : ls.getD i [] ∈ ls := by simp [hi]
  have hsl := hH'.row.slice (P := Tryz.prog) (t := 25) Tryz.underlying25 cs34 (bound_some (k := .i64) (i := (i : Int) + 1) (by omega) 0) (hi_none us.length) (show ((i : Int) + 1).toNat ≤ us.length by omega) (Nat.le_refl _)
  have hi1 : ((i : Int) + 1).toNat = i + 1 := by omega
  rw [hi1] at hsl
  obtain ⟨hsl1, hsl2, hsl3⟩ := hsl
  have hdl : (us.drop (i + 1)).take (us.length - (i + 1)) = us.drop (i + 1) := by rw [List.take_of_length_le (by simp)]
  rw [hdl] at hsl2
  have hdn : ((us.drop (i + 1)).length : Int) = ((ls.length - (i + 1) : Nat) : Int) := by simp; omega
  simp (maxSteps := 1000000) (disch := omega) only [s1, s4, s5, s16, s17, s18, hH'.row.ix Tryz.underlying25 cs34, Int.toNat_natCast, hci, cell_of hc5, wrap64, hsl1, hsl2.len Tryz.underlying25, hdn, S, S1, S2, S3, S4, S5, ST, eq_self, reduceIte, reduceCtorEq, Nat.reduceEqDiff, Nat.reduceAdd]
  refine LoopH.by (fun m' s' H'' => ∃ j st', m' + j = ls.length - (i + 1) ∧ s' 1 = .func (.func fS) #[] (List.toArray caps) ∧ s' 4 = .pointer (some ⟨H.length, 0, none⟩) ∧ s' 5 = .pointer (some ⟨A.length, 0, none⟩) ∧ s' 6 = .int .i64 ((i : Nat) : Int) ∧ s' 7 = us.getD i undef ∧ s' 16 = v ∧ s' 17 = .int .i64 (ls.length : Int) ∧ s' 18 = .int .i64 ((i : Nat) : Int) ∧ s' 27 = subV v (i + 1) us.length ∧ s' 28 = .int .i64 ((ls.length - (i + 1) : Nat) : Int) ∧ s' 29 = .int .i64 ((j : Nat) : Int) ∧ H''[A.length]? = some (.cells [v, st'] 28 false) ∧ H''[H.length]? = some (.cells [.slice none 0 0, .slice none 0 0] 28 false) ∧ (st' = .slice none 0 0 ∨ B.length ≤ rowO st') ∧ MineP 96 H H'' st' (stpO p ls i ++ stpI p ls i j) ∧ H <+: H'') (ls.length - (i + 1)) ?_ ?_
  · refine ⟨0, st, by simp, ?_⟩
    simp only [S, S1, S2, S3, S4, S5, ST, eq_self, reduceIte, reduceCtorEq, Nat.reduceEqDiff, Nat.reduceAdd, s1, s4, s5, s16, s17, s18]
    have f0 : MineP 96 H H' st (stpO p ls i ++ stpI p ls i 0) := by rw [stpI, List.append_nil]; exact hmn
    (repeat' first | exact hc5 | exact hc4 | exact hst | exact f0 | exact hpp | apply And.intro) <;> first | (simp only [Value.int.injEq, true_and]; omega) | omega | rfl | assumption | (simp; done) | (simp; omega)
  · rintro m' s' H'' ⟨j, st', hm', g1, g4, g5, g6, g7, g16, g17, g18, g27, g28, g29, hc5', hc4', hst', hmn', hpp'⟩
    simp (maxSteps := 1000000) (disch := omega) only [g1, g4, g5, g6, g7, g16, g17, g18, g27, g28, g29, S, S1, S2, S3, S4, S5, ST, eq_self, reduceIte, reduceCtorEq, Nat.reduceEqDiff, Nat.reduceAdd]
    refine brD.intro (fun q => ?_) (fun q => ?_)
    · have hj : i + 1 + j < ls.length := by omega
      have hH2 := h.pre hpp'
      have hsl' := hH2.row.slice (P := Tryz.prog) (t := 25) Tryz.underlying25 cs34 (bound_some (k := .i64) (i := (i : Int) + 1) (by omega) 0) (hi_none us.length) (show ((i : Int) + 1).toNat ≤ us.length by omega) (Nat.le_refl _)
      rw [hi1, hdl] at hsl'
      obtain ⟨_, hsr, _⟩ := hsl'
      have hjd : j < (us.drop (i + 1)).length := by simp; omega
      have hcj := hsr.cell hjd
      have hdd : (us.drop (i + 1)).getD j undef = us.getD (i + 1 + j) undef := by
        rw [List.getD_eq_getElem?_getD, List.getD_eq_getElem?_getD, List.getElem?_drop]
      rw [hdd] at hcj
      have hmj : ls.getD (i + 1 + j) [] ∈ ls := by simp [hj]
      simp (maxSteps := 1000000) (disch := omega) only [g1, g4, g5, g6, g7, g16, g17, g18, g27, g28, g29, hsr.ix Tryz.underlying25 cs34, Int.toNat_natCast, hcj, S, S1, S2, S3, S4, S5, ST, eq_self, reduceIte, reduceCtorEq, Nat.reduceEqDiff, Nat.reduceAdd]
      refine CallH.by (hS _ _ _ _ H'' (hp.trans hpp') (hH2.each i hi) (hH2.each (i + 1 + j) hj) hmi hmj) ?_
      rintro _ D ⟨rfl, pD⟩
      have hcD5 := pre_at pD hc5'
      have hcD4 := pre_at pD hc4'
      have hpD := hpp'.trans pD
      have hmD := hmn'.pre pD
      have hsl1 := stpO_len p ls i
      have hsl2 := stpI_len p ls i j
      have hmul : i * ls.length ≤ 1000 * 1000 := Nat.mul_le_mul (by omega) hls
      have lD := hpD.length_le
      have l5 := at_lt hc5'
      simp (maxSteps := 1000000) (disch := omega) only [S, S1, S2, S3, S4, S5, ST, eq_self, reduceIte, reduceCtorEq, Nat.reduceEqDiff, Nat.reduceAdd]
      refine brH.intro (fun e => ?_) (fun e => ?_)
      · have hstep : stpI p ls i (j + 1) = stpI p ls i j ++ [((i : Int), ((i + 1 + j : Nat) : Int))] := by rw [stpI, if_pos e]
        obtain ⟨st2, H3, k1, k2, k3, k4, k5, k6⟩ := own1_26 hmD hpD (by rw [List.length_append]; omega) (i : Int) ((i + 1 + j : Nat) : Int)
        have hne : st' = .slice none 0 0 ∨ ∀ o, o < B.length → o ≠ rowO st' := hst'.imp id fun q o ho => by omega
        have d5 : H3[A.length]? = some (.cells [v, st'] 28 false) := k4 _ _ (hne.imp id fun q => q _ (by omega)) hcD5
        have d4 : H3[H.length]? = some (.cells [.slice none 0 0, .slice none 0 0] 28 false) := k4 _ _ (hne.imp id fun q => q _ (by omega)) hcD4
        obtain ⟨q2, hq2⟩ := k2.row.shape
        have t1 : isTup st2 = false := k6
        have t2 : st2.cells.toList = [st2] := by rw [hq2]; rfl
        have hst3 := st_at (P := Tryz.prog) (t := 26) (i := 1) (y := st2) cs26 d5 (by show 1 < 2; decide) t1 t2
        have hidx : (i : Int) + 1 + (j : Int) = ((i + 1 + j : Nat) : Int) := by omega
        have lDB : B.length ≤ D.length := by have := hpp'.length_le; have := pD.length_le; omega
        simp (maxSteps := 1000000) (disch := omega) only [e, g1, g4, g5, g6, g7, g16, g17, g18, g27, g28, g29, cell_of hcD5, build_a2, wrap64, hidx, k1, hst3, S, S1, S2, S3, S4, S5, ST, eq_self, reduceIte, reduceCtorEq, Nat.reduceEqDiff, Nat.reduceAdd]
        have f5 : (H3.set A.length (.cells ([v, st'].set 1 st2) 28 false))[A.length]? = some (.cells [v, st2] 28 false) := by
          rw [List.getElem?_set_self (at_lt d5)]; rfl
        have f4 : (H3.set A.length (.cells ([v, st'].set 1 st2) 28 false))[H.length]? = some (.cells [.slice none 0 0, .slice none 0 0] 28 false) := by
          rw [List.getElem?_set_ne (by omega)]; exact d4
        have fs' : st2 = .slice none 0 0 ∨ B.length ≤ rowO st2 := .inr (by omega)
        have fm : MineP 96 H (H3.set A.length (.cells ([v, st'].set 1 st2) 28 false)) st2 (stpO p ls i ++ stpI p ls i (j + 1)) := by
          rw [hstep, ← List.append_assoc]
          exact k2.keepL fun hl y hy => by rw [List.getElem?_set_ne (by omega)]; exact hy
        have fp : H <+: H3.set A.length (.cells ([v, st'].set 1 st2) 28 false) := pre_set k3 (by omega) _
        refine ⟨m' - 1, by omega, j + 1, st2, ?_⟩
        (repeat' first | exact f5 | exact f4 | exact fs' | exact fm | exact fp | apply And.intro) <;> first | (simp only [Value.int.injEq, true_and]; omega) | omega | rfl | assumption | (simp; done) | (simp; omega)
      · have hstep : stpI p ls i (j + 1) = stpI p ls i j := by rw [stpI, if_neg (by rw [e]; decide), List.append_nil]
        rw [← hstep] at hmD
        simp (maxSteps := 1000000) (disch := omega) only [e, g1, g4, g5, g6, g7, g16, g17, g18, g27, g28, g29, wrap64, S, S1, S2, S3, S4, S5, ST, eq_self, reduceIte, reduceCtorEq, Nat.reduceEqDiff, Nat.reduceAdd]
        refine ⟨m' - 1, by omega, j + 1, st', ?_⟩
        (repeat' first | exact hcD5 | exact hcD4 | exact hst' | exact hmD | exact hpD | apply And.intro) <;> first | (simp only [Value.int.injEq, true_and]; omega) | omega | rfl | assumption | (simp; done) | (simp; omega)
    · have hjj : j = ls.length - (i + 1) := by omega
      subst hjj
      have hstO : stpO p ls (i + 1) = stpO p ls i ++ stpI p ls i (ls.length - (i + 1)) := rfl
      rw [← hstO] at hmn'
      simp (maxSteps := 1000000) (disch := omega) only [g1, g4, g5, g6, g7, g16, g17, g18, g27, g28, g29, wrap64, S, S1, S2, S3, S4, S5, ST, eq_self, reduceIte, reduceCtorEq, Nat.reduceEqDiff, Nat.reduceAdd]
      refine ⟨m - 1, by omega, i + 1, st', ?_⟩
      (repeat' first | exact hc5' | exact hc4' | exact hst' | exact hmn' | exact hpp' | apply And.intro) <;> first | (simp only [Value.int.injEq, true_and]; omega) | omega | rfl | assumption | (simp; done) | (simp; omega)
end Go.Proofs.YtdgapefbbdfpbaaGreat.Ai
namespace Go.Proofs.YtdgapefbbdfpbaaGreat.Ai
open Go Go.RowKit
set_option linter.unusedVariables false
set_option linter.unusedSimpArgs false
/-- a space's two lists in memory -/
def SpRow (H : AH) (a b : Value) (ls : List (List Int)) (ps : List (Int × Int)) : Prop := (∃ bd, RowLB bd 34 3 H a ls) ∧ RowP 96 H b ps
/-- .. of one's own: the states below mid, the steps from mid on -/
def SpIn (lo hi : Nat) (H : AH) (a b : Value) (ls : List (List Int)) (ps : List (Int × Int)) : Prop := ∃ mid, lo ≤ mid ∧ mid ≤ hi ∧ InL lo mid 34 3 H a ls ∧ InP mid hi 96 H b ps
theorem SpIn.row {lo hi : Nat} {H : AH} {a b : Value} {ls : List (List Int)} {ps : List (Int × Int)} (h : SpIn lo hi H a b ls ps) : SpRow H a b ls ps := by
  obtain ⟨mid, h1, h2, h3, h4⟩ := h
  exact ⟨⟨_, h3.row⟩, h4.row.1⟩
theorem SpIn.pre {lo hi : Nat} {H H' : AH} {a b : Value} {ls : List (List Int)} {ps : List (Int × Int)} (h : SpIn lo hi H a b ls ps) (hp : H <+: H') : SpIn lo hi H' a b ls ps := by
  obtain ⟨mid, h1, h2, h3, h4⟩ := h
  exact ⟨mid, h1, h2, h3.pre hp, h4.pre hp⟩
theorem SpIn.keep {lo hi lo' hi' : Nat} {H H' : AH} {a b : Value} {ls : List (List Int)} {ps : List (Int × Int)} (h : SpIn lo hi H a b ls ps) (he : ElseR lo' hi' H H') (hl : hi ≤ lo' ∨ hi' ≤ lo) : SpIn lo hi H' a b ls ps := by
  obtain ⟨mid, h1, h2, h3, h4⟩ := h
  exact ⟨mid, h1, h2, h3.keep he (by omega), h4.keep he (by omega)⟩
theorem SpRow.pre {H H' : AH} {a b : Value} {ls : List (List Int)} {ps : List (Int × Int)} (h : SpRow H a b ls ps) (hp : H <+: H') : SpRow H' a b ls ps := ⟨h.1.imp fun _ q => q.pre hp, h.2.pre hp⟩
theorem SpRow.shape {H : AH} {a b : Value} {ls : List (List Int)} {ps : List (Int × Int)} (h : SpRow H a b ls ps) : (∃ p n c, a = .slice p n c) ∧ ∃ p n c, b = .slice p n c := by
  obtain ⟨⟨bd, us, h1, _⟩, h2⟩ := h
  obtain ⟨p, e⟩ := h1.shape
  obtain ⟨q, e2⟩ := h2.shape
  exact ⟨⟨_, _, _, e⟩, ⟨_, _, _, e2⟩⟩
theorem SpRow.box {H G : AH} {a b : Value} {ls : List (List Int)} {ps : List (Int × Int)} (h : SpRow G a b ls ps) : boxA Tryz.prog 28 (.agg (List.toArray [a, b])) H = some (.pointer (some ⟨H.length, 0, none⟩), H ++ [.cells [a, b] 28 false]) := by
  obtain ⟨⟨p, n, c, rfl⟩, ⟨q, m, d, rfl⟩⟩ := h.shape
  kernel_rfl
theorem SpRow.store {e : TypeId} {H G : AH} {o : Nat} {vs : List Value} {a b : Value} {ls : List (List Int)} {ps : List (Int × Int)} (h : SpRow G a b ls ps) (ho : H[o]? = some (.cells vs e false)) (hv : vs.length = 2) :
    storeA Tryz.prog 28 (.pointer (some ⟨o, 0, none⟩)) (.agg (List.toArray [a, b])) H = some (H.set o (.cells [a, b] e false)) := by
  obtain ⟨⟨p, n, c, rfl⟩, ⟨q, m, d, rfl⟩⟩ := h.shape
  exact st_ss ho hv p q n c m d
end Go.Proofs.YtdgapefbbdfpbaaGreat.Ai
namespace Go.Proofs.YtdgapefbbdfpbaaGreat.Ai
open Go
def ords16 : List (Nat × List (Nat × Bool)) := [(6, [(0, false), (1, false), (2, false), (3, false), (4, false), (5, false), (6, false), (7, false), (8, false)])]
def cd16 : Cd := (.seq (.reg [⟨⟨some 4, Op.assign (Operand.const (Value.bool false)), none⟩, []⟩]) (.seq (.seq (.reg [⟨⟨some 6, Op.move (Operand.tmp 0), none⟩, []⟩,
  ⟨⟨some 7, Op.call { callee := (Callee.builtin Builtin.len), args := #[(Operand.tmp 6)], argTypes := #[34] }, none⟩, []⟩,
  ⟨⟨some 8, Op.move (Operand.tmp 1), none⟩, []⟩,
  ⟨⟨some 9, Op.call { callee := (Callee.builtin Builtin.len), args := #[(Operand.tmp 8)], argTypes := #[34] }, none⟩, []⟩,
  ⟨⟨some 10, Op.binOp BinOp.neq 3 (Operand.tmp 7) (Operand.tmp 9) 3, none⟩, []⟩]) (.cond (Operand.tmp 10) (.seq (.reg [⟨⟨some 4, Op.assign (Operand.const (Value.bool false)), none⟩, []⟩]) .ret) .skip)) (.seq (.seq (.reg [⟨⟨some 5, Op.assign (Operand.const (Value.int IntKind.i64 0)), none⟩, []⟩]) (.block 0 (.loop (.seq (.seq (.reg [⟨⟨some 11, Op.move (Operand.tmp 5), none⟩, []⟩,
  ⟨⟨some 12, Op.move (Operand.tmp 0), none⟩, []⟩,
  ⟨⟨some 13, Op.call { callee := (Callee.builtin Builtin.len), args := #[(Operand.tmp 12)], argTypes := #[34] }, none⟩, []⟩,
  ⟨⟨some 14, Op.binOp BinOp.lss 3 (Operand.tmp 11) (Operand.tmp 13) 3, none⟩, []⟩]) (.cond (Operand.tmp 14) .skip (.exit 0))) (.seq (.block 1 (.seq (.reg [⟨⟨some 17, Op.move (Operand.tmp 0), none⟩, []⟩,
  ⟨⟨some 18, Op.move (Operand.tmp 5), none⟩, []⟩,
  ⟨⟨some 19, Op.indexAddr 34 (Operand.tmp 17) (Operand.tmp 18), none⟩, []⟩,
  ⟨⟨some 20, Op.load 3 (Operand.tmp 19), none⟩, []⟩,
  ⟨⟨some 21, Op.move (Operand.tmp 1), none⟩, []⟩,
  ⟨⟨some 22, Op.move (Operand.tmp 5), none⟩, []⟩,
  ⟨⟨some 23, Op.indexAddr 34 (Operand.tmp 21) (Operand.tmp 22), none⟩, []⟩,
  ⟨⟨some 24, Op.load 3 (Operand.tmp 23), none⟩, []⟩,
  ⟨⟨some 25, Op.binOp BinOp.neq 3 (Operand.tmp 20) (Operand.tmp 24) 3, none⟩, []⟩]) (.cond (Operand.tmp 25) (.seq (.reg [⟨⟨some 4, Op.assign (Operand.const (Value.bool false)), none⟩, []⟩]) .ret) .skip))) (.reg [⟨⟨some 15, Op.move (Operand.tmp 5), none⟩, []⟩,
  ⟨⟨some 16, Op.binOp BinOp.add 3 (Operand.tmp 15) (Operand.const (Value.int IntKind.i64 1)) 3, none⟩, []⟩,
  ⟨⟨some 5, Op.assign (Operand.tmp 16), none⟩, []⟩])))))) (.seq (.reg [⟨⟨some 4, Op.assign (Operand.const (Value.bool true)), none⟩, []⟩]) .ret))))
theorem sl16 : slim Tryz.f16.ntmps ords16 (Tryz.f16.body.getD .skip) = some cd16 := by kernel_rfl
theorem in16 {args : List Value} {H : AH} {R : Value → AH → Prop} (hl : args.length = 2) (h : ∀ (Q : Exit → Sl → AH → Prop), (∀ e s H, endA Tryz.prog [ResultVar.tmp 4] R e s H → Q e s H) → wpC Tryz.prog cd16 Q (enterA args) H) : ACalls Tryz.prog 16 args H R :=
  ACalls.intro (by kernel_rfl) Tryz.func16 rfl (by kernel_rfl) sl16 hl (of_decide_eq_true (by kernel_rfl)) (by kernel_rfl) h
def ords64 : List (Nat × List (Nat × Bool)) := [(6, [(0, false), (1, false), (2, false), (3, false), (4, false), (5, false), (6, false), (7, false), (8, true), (9, false)])]
def cd64 : Cd := (.seq (.reg [⟨⟨some 4, Op.assign (Operand.const (Value.bool false)), none⟩, []⟩]) (.seq (.seq (.reg [⟨⟨some 6, Op.move (Operand.tmp 0), none⟩, []⟩,
  ⟨⟨some 7, Op.call { callee := (Callee.builtin Builtin.len), args := #[(Operand.tmp 6)], argTypes := #[25] }, none⟩, []⟩,
  ⟨⟨some 8, Op.move (Operand.tmp 1), none⟩, []⟩,
  ⟨⟨some 9, Op.call { callee := (Callee.builtin Builtin.len), args := #[(Operand.tmp 8)], argTypes := #[25] }, none⟩, []⟩,
  ⟨⟨some 10, Op.binOp BinOp.neq 3 (Operand.tmp 7) (Operand.tmp 9) 3, none⟩, []⟩]) (.cond (Operand.tmp 10) (.seq (.reg [⟨⟨some 4, Op.assign (Operand.const (Value.bool false)), none⟩, []⟩]) .ret) .skip)) (.seq (.seq (.reg [⟨⟨some 5, Op.assign (Operand.const (Value.int IntKind.i64 0)), none⟩, []⟩]) (.block 0 (.loop (.seq (.seq (.reg [⟨⟨some 11, Op.move (Operand.tmp 5), none⟩, []⟩,
  ⟨⟨some 12, Op.move (Operand.tmp 0), none⟩, []⟩,
  ⟨⟨some 13, Op.call { callee := (Callee.builtin Builtin.len), args := #[(Operand.tmp 12)], argTypes := #[25] }, none⟩, []⟩,
  ⟨⟨some 14, Op.binOp BinOp.lss 3 (Operand.tmp 11) (Operand.tmp 13) 3, none⟩, []⟩]) (.cond (Operand.tmp 14) .skip (.exit 0))) (.seq (.block 1 (.seq (.reg [⟨⟨some 17, Op.move (Operand.tmp 0), none⟩, []⟩,
  ⟨⟨some 18, Op.move (Operand.tmp 5), none⟩, []⟩,
  ⟨⟨some 19, Op.indexAddr 25 (Operand.tmp 17) (Operand.tmp 18), none⟩, []⟩,
  ⟨⟨some 20, Op.load 34 (Operand.tmp 19), none⟩, []⟩,
  ⟨⟨some 21, Op.move (Operand.tmp 1), none⟩, []⟩,
  ⟨⟨some 22, Op.move (Operand.tmp 5), none⟩, []⟩,
  ⟨⟨some 23, Op.indexAddr 25 (Operand.tmp 21) (Operand.tmp 22), none⟩, []⟩,
  ⟨⟨some 24, Op.load 34 (Operand.tmp 23), none⟩, []⟩,
  ⟨⟨some 25, Op.call { callee := (Callee.value (Operand.func 16)), args := #[(Operand.tmp 20), (Operand.tmp 24)], argTypes := #[34, 34] }, none⟩, []⟩,
  ⟨⟨some 26, Op.unOp UnOp.not 4 (Operand.tmp 25), none⟩, []⟩]) (.cond (Operand.tmp 26) (.seq (.reg [⟨⟨some 4, Op.assign (Operand.const (Value.bool false)), none⟩, []⟩]) .ret) .skip))) (.reg [⟨⟨some 15, Op.move (Operand.tmp 5), none⟩, []⟩,
  ⟨⟨some 16, Op.binOp BinOp.add 3 (Operand.tmp 15) (Operand.const (Value.int IntKind.i64 1)) 3, none⟩, []⟩,
  ⟨⟨some 5, Op.assign (Operand.tmp 16), none⟩, []⟩])))))) (.seq (.reg [⟨⟨some 4, Op.assign (Operand.const (Value.bool true)), none⟩, []⟩]) .ret))))
theorem sl64 : slim Tryz.f64.ntmps ords64 (Tryz.f64.body.getD .skip) = some cd64 := by kernel_rfl
theorem in64 {args : List Value} {H : AH} {R : Value → AH → Prop} (hl : args.length = 2) (h : ∀ (Q : Exit → Sl → AH → Prop), (∀ e s H, endA Tryz.prog [ResultVar.tmp 4] R e s H → Q e s H) → wpC Tryz.prog cd64 Q (enterA args) H) : ACalls Tryz.prog 64 args H R :=
  ACalls.intro (by kernel_rfl) Tryz.func64 rfl (by kernel_rfl) sl64 hl (of_decide_eq_true (by kernel_rfl)) (by kernel_rfl) h
def ords65 : List (Nat × List (Nat × Bool)) := [(6, [(0, false), (1, false), (2, false), (3, false), (4, false), (5, false), (6, false), (7, false), (8, false)])]
def cd65 : Cd := (.seq (.reg [⟨⟨some 4, Op.assign (Operand.const (Value.bool false)), none⟩, []⟩]) (.seq (.seq (.reg [⟨⟨some 6, Op.move (Operand.tmp 0), none⟩, []⟩,
  ⟨⟨some 7, Op.call { callee := (Callee.builtin Builtin.len), args := #[(Operand.tmp 6)], argTypes := #[26] }, none⟩, []⟩,
  ⟨⟨some 8, Op.move (Operand.tmp 1), none⟩, []⟩,
  ⟨⟨some 9, Op.call { callee := (Callee.builtin Builtin.len), args := #[(Operand.tmp 8)], argTypes := #[26] }, none⟩, []⟩,
  ⟨⟨some 10, Op.binOp BinOp.neq 3 (Operand.tmp 7) (Operand.tmp 9) 3, none⟩, []⟩]) (.cond (Operand.tmp 10) (.seq (.reg [⟨⟨some 4, Op.assign (Operand.const (Value.bool false)), none⟩, []⟩]) .ret) .skip)) (.seq (.seq (.reg [⟨⟨some 5, Op.assign (Operand.const (Value.int IntKind.i64 0)), none⟩, []⟩]) (.block 0 (.loop (.seq (.seq (.reg [⟨⟨some 11, Op.move (Operand.tmp 5), none⟩, []⟩,
  ⟨⟨some 12, Op.move (Operand.tmp 0), none⟩, []⟩,
  ⟨⟨some 13, Op.call { callee := (Callee.builtin Builtin.len), args := #[(Operand.tmp 12)], argTypes := #[26] }, none⟩, []⟩,
  ⟨⟨some 14, Op.binOp BinOp.lss 3 (Operand.tmp 11) (Operand.tmp 13) 3, none⟩, []⟩]) (.cond (Operand.tmp 14) .skip (.exit 0))) (.seq (.block 1 (.seq (.reg [⟨⟨some 17, Op.move (Operand.tmp 0), none⟩, []⟩,
  ⟨⟨some 18, Op.move (Operand.tmp 5), none⟩, []⟩,
  ⟨⟨some 19, Op.indexAddr 26 (Operand.tmp 17) (Operand.tmp 18), none⟩, []⟩,
  ⟨⟨some 20, Op.load 96 (Operand.tmp 19), none⟩, []⟩,
  ⟨⟨some 21, Op.move (Operand.tmp 1), none⟩, []⟩,
  ⟨⟨some 22, Op.move (Operand.tmp 5), none⟩, []⟩,
  ⟨⟨some 23, Op.indexAddr 26 (Operand.tmp 21) (Operand.tmp 22), none⟩, []⟩,
  ⟨⟨some 24, Op.load 96 (Operand.tmp 23), none⟩, []⟩,
  ⟨⟨some 25, Op.binOp BinOp.neq 96 (Operand.tmp 20) (Operand.tmp 24) 96, none⟩, []⟩]) (.cond (Operand.tmp 25) (.seq (.reg [⟨⟨some 4, Op.assign (Operand.const (Value.bool false)), none⟩, []⟩]) .ret) .skip))) (.reg [⟨⟨some 15, Op.move (Operand.tmp 5), none⟩, []⟩,
  ⟨⟨some 16, Op.binOp BinOp.add 3 (Operand.tmp 15) (Operand.const (Value.int IntKind.i64 1)) 3, none⟩, []⟩,
  ⟨⟨some 5, Op.assign (Operand.tmp 16), none⟩, []⟩])))))) (.seq (.reg [⟨⟨some 4, Op.assign (Operand.const (Value.bool true)), none⟩, []⟩]) .ret))))
theorem sl65 : slim Tryz.f65.ntmps ords65 (Tryz.f65.body.getD .skip) = some cd65 := by kernel_rfl
theorem in65 {args : List Value} {H : AH} {R : Value → AH → Prop} (hl : args.length = 2) (h : ∀ (Q : Exit → Sl → AH → Prop), (∀ e s H, endA Tryz.prog [ResultVar.tmp 4] R e s H → Q e s H) → wpC Tryz.prog cd65 Q (enterA args) H) : ACalls Tryz.prog 65 args H R :=
  ACalls.intro (by kernel_rfl) Tryz.func65 rfl (by kernel_rfl) sl65 hl (of_decide_eq_true (by kernel_rfl)) (by kernel_rfl) h
def ords10 : List (Nat × List (Nat × Bool)) := []
def cd10 : Cd := (.seq (.reg [⟨⟨some 2, Op.box 28 (Operand.tmp 0), none⟩, []⟩,
  ⟨⟨some 3, Op.box 28 (Operand.tmp 1), none⟩, []⟩,
  ⟨⟨some 4, Op.assign (Operand.const (Value.bool false)), none⟩, []⟩]) (.seq (.reg [⟨⟨some 5, Op.fieldAddr 28 (Operand.tmp 2) 0, none⟩, []⟩,
  ⟨⟨some 6, Op.load 25 (Operand.tmp 5), none⟩, []⟩,
  ⟨⟨some 7, Op.fieldAddr 28 (Operand.tmp 3) 0, none⟩, []⟩,
  ⟨⟨some 8, Op.load 25 (Operand.tmp 7), none⟩, []⟩,
  ⟨⟨some 9, Op.call { callee := (Callee.value (Operand.func 64)), args := #[(Operand.tmp 6), (Operand.tmp 8)], argTypes := #[25, 25] }, none⟩, []⟩,
  ⟨⟨some 10, Op.move (Operand.tmp 9), none⟩, []⟩,
  ⟨⟨some 11, Op.fieldAddr 28 (Operand.tmp 2) 1, some (10, true)⟩, []⟩,
  ⟨⟨some 12, Op.load 26 (Operand.tmp 11), some (10, true)⟩, []⟩,
  ⟨⟨some 13, Op.fieldAddr 28 (Operand.tmp 3) 1, some (10, true)⟩, []⟩,
  ⟨⟨some 14, Op.load 26 (Operand.tmp 13), some (10, true)⟩, []⟩,
  ⟨⟨some 15, Op.call { callee := (Callee.value (Operand.func 65)), args := #[(Operand.tmp 12), (Operand.tmp 14)], argTypes := #[26, 26] }, some (10, true)⟩, []⟩,
  ⟨⟨some 16, Op.pick (Operand.tmp 10) (Operand.tmp 15) (Operand.const (Value.bool false)), none⟩, []⟩,
  ⟨⟨some 4, Op.assign (Operand.tmp 16), none⟩, []⟩]) .ret))
theorem sl10 : slim Tryz.f10.ntmps ords10 (Tryz.f10.body.getD .skip) = some cd10 := by kernel_rfl
theorem in10 {args : List Value} {H : AH} {R : Value → AH → Prop} (hl : args.length = 2) (h : ∀ (Q : Exit → Sl → AH → Prop), (∀ e s H, endA Tryz.prog [ResultVar.tmp 4] R e s H → Q e s H) → wpC Tryz.prog cd10 Q (enterA args) H) : ACalls Tryz.prog 10 args H R :=
  ACalls.intro (by kernel_rfl) Tryz.func10 rfl (by kernel_rfl) sl10 hl (of_decide_eq_true (by kernel_rfl)) (by kernel_rfl) h
end Go.Proofs.YtdgapefbbdfpbaaGreat.Ai
namespace Go.Proofs.YtdgapefbbdfpbaaGreat.Ai
open Go Go.RowKit
set_option linter.unusedVariables false
set_option linter.unusedSimpArgs false
theorem rInts_c (v w : Value) (xs : List Int) (H : AH) (hr : Row 3 H v xs) (hs : Row 3 H w xs) (hl : xs.length ≤ 1000000) : ACalls Tryz.prog 16 [v, w] H fun r H' => r = .bool true ∧ H = H' := by
  refine in16 rfl ?_
  intro Q hQ
  have e0 : ¬ ¬ ((xs.length : Nat) : Int) = ((xs.length : Nat) : Int) := fun h => h rfl
  simp (maxSteps := 1000000) (disch := omega) only [cd16, hr.len Tryz.underlying34, hs.len Tryz.underlying34, decide_eq_false e0, S, S1, S2, S3, S4, S5, ST, eq_self, reduceIte, reduceCtorEq, Nat.reduceEqDiff, Nat.reduceAdd]
  refine LoopH.by (fun m s H' => ∃ (i : Nat), m + i = xs.length ∧ s 0 = v ∧ s 1 = w ∧ s 5 = .int .i64 ((i : Nat) : Int) ∧ H = H') xs.length ?_ ?_
  · exact ⟨0, by simp, rfl, rfl, rfl, rfl⟩
  rintro m s H' ⟨i, hm, h0, h1, h5, rfl⟩
  simp (maxSteps := 1000000) (disch := omega) only [h0, h1, h5, hr.len Tryz.underlying34, S, S1, S2, S3, S4, S5, ST, eq_self, reduceIte, reduceCtorEq, Nat.reduceEqDiff, Nat.reduceAdd]
  refine brD.intro (fun g => ?_) (fun g => ?_)
  · have hi : i < xs.length := by omega
    have c1 := hr.cell hi
    have c2 := hs.cell hi
    have e1 : ¬ ¬ xs.getD i 0 = xs.getD i 0 := fun h => h rfl
    simp (maxSteps := 1000000) (disch := omega) only [h0, h1, h5, hr.ix Tryz.underlying34 cs3, hs.ix Tryz.underlying34 cs3, Int.toNat_natCast, c1, c2, decide_eq_false e1, wrap64, S, S1, S2, S3, S4, S5, ST, eq_self, reduceIte, reduceCtorEq, Nat.reduceEqDiff, Nat.reduceAdd]
    refine ⟨m - 1, by omega, i + 1, ?_⟩
    (repeat' first | exact rfl | apply And.intro) <;> first | (simp only [Value.int.injEq, true_and]; omega) | omega | rfl | assumption | (simp; done) | (simp; omega)
  · simp (maxSteps := 1000000) (disch := omega) only [S, S1, S2, S3, S4, S5, ST, eq_self, reduceIte, reduceCtorEq, Nat.reduceEqDiff, Nat.reduceAdd]
    refine hQ _ _ _ ?_
    simp (maxSteps := 1000000) (disch := omega) only [S, S1, S2, S3, S4, S5, ST, eq_self, reduceIte, reduceCtorEq, Nat.reduceEqDiff, Nat.reduceAdd]
theorem rTable_c {b1 b2 : Nat} (v w : Value) (ls : List (List Int)) (H : AH) (hr : RowLB b1 34 3 H v ls) (hs : RowLB b2 34 3 H w ls) (hl : ls.length ≤ 1000000) (hll : ∀ l ∈ ls, l.length ≤ 1000000) : ACalls Tryz.prog 64 [v, w] H fun r H' => r = .bool true ∧ H = H' := by
  obtain ⟨us, r1, _, r2, r3⟩ := hr
  obtain ⟨ws, s1, _, s2, s3⟩ := hs
  refine in64 rfl ?_
  intro Q hQ
  have e0 : ¬ ¬ ((us.length : Nat) : Int) = ((ws.length : Nat) : Int) := fun h => h (by omega)
  simp (maxSteps := 1000000) (disch := omega) only [cd64, r1.len Tryz.underlying25, s1.len Tryz.underlying25, decide_eq_false e0, S, S1, S2, S3, S4, S5, ST, eq_self, reduceIte, reduceCtorEq, Nat.reduceEqDiff, Nat.reduceAdd]
  refine LoopH.by (fun m s H' => ∃ (i : Nat), m + i = ls.length ∧ s 0 = v ∧ s 1 = w ∧ s 5 = .int .i64 ((i : Nat) : Int) ∧ H = H') ls.length ?_ ?_
  · exact ⟨0, by simp, rfl, rfl, rfl, rfl⟩
  rintro m s H' ⟨i, hm, h0, h1, h5, rfl⟩
  simp (maxSteps := 1000000) (disch := omega) only [h0, h1, h5, r1.len Tryz.underlying25, S, S1, S2, S3, S4, S5, ST, eq_self, reduceIte, reduceCtorEq, Nat.reduceEqDiff, Nat.reduceAdd]
  refine brD.intro (fun g => ?_) (fun g => ?_)
  · have hi : i < ls.length := by omega
    have c1 := r1.cell (show i < us.length by omega)
    have c2 := s1.cell (show i < ws.length by omega)
    simp (maxSteps := 1000000) (disch := omega) only [h0, h1, h5, r1.ix Tryz.underlying25 cs34, s1.ix Tryz.underlying25 cs34, Int.toNat_natCast, c1, c2, S, S1, S2, S3, S4, S5, ST, eq_self, reduceIte, reduceCtorEq, Nat.reduceEqDiff, Nat.reduceAdd]
    refine CallH.by (rInts_c _ _ (ls.getD i []) H (r3 i hi).1 (s3 i hi).1 (hll _ (by simp [hi]))) ?_
    rintro _ _ ⟨rfl, rfl⟩
    simp (maxSteps := 1000000) (disch := omega) only [h0, h1, h5, wrap64, S, S1, S2, S3, S4, S5, ST, eq_self, reduceIte, reduceCtorEq, Nat.reduceEqDiff, Nat.reduceAdd]
    refine ⟨m - 1, by omega, i + 1, ?_⟩
    (repeat' first | exact rfl | apply And.intro) <;> first | (simp only [Value.int.injEq, true_and]; omega) | omega | rfl | assumption | (simp; done) | (simp; omega)
  · simp (maxSteps := 1000000) (disch := omega) only [S, S1, S2, S3, S4, S5, ST, eq_self, reduceIte, reduceCtorEq, Nat.reduceEqDiff, Nat.reduceAdd]
    refine hQ _ _ _ ?_
    simp (maxSteps := 1000000) (disch := omega) only [S, S1, S2, S3, S4, S5, ST, eq_self, reduceIte, reduceCtorEq, Nat.reduceEqDiff, Nat.reduceAdd]
theorem rPairs_c (v w : Value) (ps : List (Int × Int)) (H : AH) (hr : RowP 96 H v ps) (hs : RowP 96 H w ps) (hl : ps.length ≤ 1000000) : ACalls Tryz.prog 65 [v, w] H fun r H' => r = .bool true ∧ H = H' := by
  refine in65 rfl ?_
  intro Q hQ
  have e0 : ¬ ¬ ((ps.length : Nat) : Int) = ((ps.length : Nat) : Int) := fun h => h rfl
  simp (maxSteps := 1000000) (disch := omega) only [cd65, hr.len Tryz.underlying26, hs.len Tryz.underlying26, decide_eq_false e0, S, S1, S2, S3, S4, S5, ST, eq_self, reduceIte, reduceCtorEq, Nat.reduceEqDiff, Nat.reduceAdd]
  refine LoopH.by (fun m s H' => ∃ (i : Nat), m + i = ps.length ∧ s 0 = v ∧ s 1 = w ∧ s 5 = .int .i64 ((i : Nat) : Int) ∧ H = H') ps.length ?_ ?_
  · exact ⟨0, by simp, rfl, rfl, rfl, rfl⟩
  rintro m s H' ⟨i, hm, h0, h1, h5, rfl⟩
  simp (maxSteps := 1000000) (disch := omega) only [h0, h1, h5, hr.len Tryz.underlying26, S, S1, S2, S3, S4, S5, ST, eq_self, reduceIte, reduceCtorEq, Nat.reduceEqDiff, Nat.reduceAdd]
  refine brD.intro (fun g => ?_) (fun g => ?_)
  · have hi : i < ps.length := by omega
    have c1 := hr.ld ag96 cs96 hi
    have c2 := hs.ld ag96 cs96 hi
    have e1 : ∀ a b : Int, binA Tryz.prog .neq 96 (.agg (List.toArray [.int .i64 a, .int .i64 b])) (.agg (List.toArray [.int .i64 a, .int .i64 b])) = some (.bool false) := by
      intro a b
      have h : binA Tryz.prog .neq 96 (.agg (List.toArray [.int .i64 a, .int .i64 b])) (.agg (List.toArray [.int .i64 a, .int .i64 b])) = some (.bool (!(a == a && b == b))) := by kernel_rfl
      rw [h]; simp
    simp (maxSteps := 1000000) (disch := omega) only [h0, h1, h5, hr.ix Tryz.underlying26 cs96, hs.ix Tryz.underlying26 cs96, Int.toNat_natCast, c1, c2, e1, wrap64, S, S1, S2, S3, S4, S5, ST, eq_self, reduceIte, reduceCtorEq, Nat.reduceEqDiff, Nat.reduceAdd]
    refine ⟨m - 1, by omega, i + 1, ?_⟩
    (repeat' first | exact rfl | apply And.intro) <;> first | (simp only [Value.int.injEq, true_and]; omega) | omega | rfl | assumption | (simp; done) | (simp; omega)
  · simp (maxSteps := 1000000) (disch := omega) only [S, S1, S2, S3, S4, S5, ST, eq_self, reduceIte, reduceCtorEq, Nat.reduceEqDiff, Nat.reduceAdd]
    refine hQ _ _ _ ?_
    simp (maxSteps := 1000000) (disch := omega) only [S, S1, S2, S3, S4, S5, ST, eq_self, reduceIte, reduceCtorEq, Nat.reduceEqDiff, Nat.reduceAdd]
theorem rSpace_c (a b c d : Value) (ls : List (List Int)) (ps : List (Int × Int)) (H : AH) (hr : SpRow H a b ls ps) (hr2 : SpRow H c d ls ps) (hl : ls.length ≤ 1000000) (hll : ∀ l ∈ ls, l.length ≤ 1000000) (hp : ps.length ≤ 1000000) :
    ACalls Tryz.prog 10 [.agg (List.toArray [a, b]), .agg (List.toArray [c, d])] H fun r H' => r = .bool true ∧ H <+: H' := by
  refine in10 rfl ?_
  intro Q hQ
  simp (maxSteps := 1000000) (disch := omega) only [cd10, hr.box, hr2.box, S, S1, S2, S3, S4, S5, ST, eq_self, reduceIte, reduceCtorEq, Nat.reduceEqDiff, Nat.reduceAdd]
  generalize hA : H ++ [AObj.cells [a, b] 28 false] = A
  have pA : H <+: A := by rw [← hA]; exact List.prefix_append _ _
  have a0 : A[H.length]? = some (.cells [a, b] 28 false) := by rw [← hA]; exact at_new ..
  generalize hB : A ++ [AObj.cells [c, d] 28 false] = B
  have pB : A <+: B := by rw [← hB]; exact List.prefix_append _ _
  have b0 := pre_at pB a0
  have b1 : B[A.length]? = some (.cells [c, d] 28 false) := by rw [← hB]; exact at_new ..
  have pHB := pA.trans pB
  obtain ⟨⟨bd, r1⟩, r2⟩ := hr.pre pHB
  obtain ⟨⟨bd2, r3⟩, r4⟩ := hr2.pre pHB
  simp (maxSteps := 1000000) (disch := omega) only [cell_of b0, cell_of b1, S, S1, S2, S3, S4, S5, ST, eq_self, reduceIte, reduceCtorEq, Nat.reduceEqDiff, Nat.reduceAdd]
  refine CallH.by (rTable_c a c ls B r1 r3 hl hll) ?_
  rintro _ _ ⟨rfl, rfl⟩
  simp (maxSteps := 1000000) (disch := omega) only [cell_of b0, cell_of b1, S, S1, S2, S3, S4, S5, ST, eq_self, reduceIte, reduceCtorEq, Nat.reduceEqDiff, Nat.reduceAdd]
  refine CallH.by (rPairs_c b d ps B r2 r4 hp) ?_
  rintro _ _ ⟨rfl, rfl⟩
  simp (maxSteps := 1000000) (disch := omega) only [S, S1, S2, S3, S4, S5, ST, eq_self, reduceIte, reduceCtorEq, Nat.reduceEqDiff, Nat.reduceAdd]
  refine hQ _ _ _ ?_
  simp (maxSteps := 1000000) (disch := omega) only [S, S1, S2, S3, S4, S5, ST, eq_self, reduceIte, reduceCtorEq, Nat.reduceEqDiff, Nat.reduceAdd]
  exact pHB
end Go.Proofs.YtdgapefbbdfpbaaGreat.Ai
namespace Go.Proofs.YtdgapefbbdfpbaaGreat.Ai
open Go
set_option linter.unusedVariables false
/-- a triangulation, as a set -/
structure TriSet (n : Int) (xs : List Int) : Prop where
  len : (xs.length : Int) = n - 3
  up : xs.Pairwise (· < ·)
  mem : ∀ x ∈ xs, x ∈ dgs n n.toNat
  free : ∀ x ∈ xs, ∀ y ∈ xs, ¬ Crs x y
theorem crs_self (x : Int) : ¬ Crs x x := by unfold Crs; omega
theorem getD_eq {xs : List Int} {i : Nat} (h : i < xs.length) : xs.getD i 0 = xs[i] := by simp [h]
theorem triSet_iff (n : Int) (xs : List Int) : triS n xs = true ↔ TriSet n xs := by
  unfold triS triOkS
  simp only [Bool.and_eq_true, List.all_eq_true, decide_eq_true_eq, Bool.or_eq_true, List.mem_range, Bool.not_eq_true', List.any_eq_false]
  constructor
  · rintro ⟨h, hl⟩
    have step : ∀ i, 0 < i → i < xs.length → xs.getD (i - 1) 0 < xs.getD i 0 := by
      intro i h0 hi
      rcases (h i hi).1.2 with e | e
      · omega
      · exact e
    have lt : ∀ d i, i + d + 1 < xs.length → xs.getD i 0 < xs.getD (i + d + 1) 0 := by
      intro d
      induction d with
      | zero => intro i hi; have := step (i + 1) (by omega) hi; simpa using this
      | succ d ih =>
        intro i hi
        have h1 := ih i (by omega)
        have h2 := step (i + (d + 1) + 1) (by omega) hi
        rw [show i + (d + 1) + 1 - 1 = i + d + 1 from by omega] at h2
        omega
    have nc : ∀ i j, i < j → j < xs.length → ¬ Crs (xs.getD i 0) (xs.getD j 0) := by
      intro i j hij hj
      refine (h j hj).2 _ ?_
      rw [getD_eq (by omega), List.mem_take_iff_getElem]
      exact ⟨i, by omega, rfl⟩
    refine ⟨hl, ?_, ?_, ?_⟩
    · rw [List.pairwise_iff_getElem]
      intro i j hi hj hij
      have := lt (j - i - 1) i (by omega)
      rw [show i + (j - i - 1) + 1 = j from by omega, getD_eq hi, getD_eq hj] at this
      exact this
    · intro x hx
      obtain ⟨i, hi, e⟩ := List.getElem_of_mem hx
      have := (h i hi).1.1
      rw [getD_eq hi, e] at this; exact this
    · intro x hx y hy
      obtain ⟨i, hi, e⟩ := List.getElem_of_mem hx
      obtain ⟨j, hj, e2⟩ := List.getElem_of_mem hy
      rcases Nat.lt_trichotomy i j with c | c | c
      · have := nc i j c hj
        rw [getD_eq hi, getD_eq hj, e, e2] at this; exact this
      · subst c; rw [← e, ← e2]; exact crs_self _
      · have := nc j i c hi
        rw [getD_eq hi, getD_eq hj, e, e2] at this
        exact fun h => this ((crs_symm _ _).1 h)
  · rintro ⟨hl, hu, hm, hf⟩
    refine ⟨fun i hi => ⟨⟨?_, ?_⟩, ?_⟩, hl⟩
    · rw [getD_eq hi]; exact hm _ (List.getElem_mem hi)
    · by_cases h0 : i = 0
      · exact .inl h0
      · right
        rw [getD_eq hi, getD_eq (by omega)]
        exact (List.pairwise_iff_getElem.1 hu) (i - 1) i (by omega) hi (by omega)
    · intro y hy
      rw [getD_eq hi]
      exact hf _ (List.mem_of_mem_take hy) _ (List.getElem_mem hi)
/-- what is left without one -/
def rst (xs : List Int) (x : Int) : List Int := xs.filter fun y => decide (y ≠ x)
def flipOk (rest : List Int) (x d : Int) : Bool := decide (d ≠ x) && (!decide (d ∈ rest) && !rest.any fun e => decide (Crs e d))
/-- all sets of a list without crossings -/
def ncs : List Int → List (List Int)
  | [] => [[]]
  | d :: ds => ncs ds ++ ((ncs ds).filter fun l => l.all fun e => !decide (Crs e d)).map (d :: ·)
theorem ncs_mem : ∀ (L xs : List Int), xs.Sublist L → (∀ x ∈ xs, ∀ y ∈ xs, ¬ Crs x y) → xs ∈ ncs L
  | [], xs, h, _ => by
    have := List.sublist_nil.1 h
    subst this; simp [ncs]
  | d :: ds, xs, h, hf => by
    rw [ncs, List.mem_append]
    cases h with
    | cons _ h => exact .inl (ncs_mem ds xs h hf)
    | cons_cons _ h =>
      rename_i l
      right
      rw [List.mem_map]
      refine ⟨l, List.mem_filter.2 ⟨ncs_mem ds l h fun x hx y hy => hf x (by simp [hx]) y (by simp [hy]), ?_⟩, rfl⟩
      rw [List.all_eq_true]
      intro e he
      have := hf e (by simp [he]) d (by simp)
      simp [this]
theorem sub_of_sorted : ∀ (L xs : List Int), L.Pairwise (· < ·) → xs.Pairwise (· < ·) → (∀ x ∈ xs, x ∈ L) → xs.Sublist L
  | L, [], _, _, _ => List.nil_sublist _
  | [], x :: xs, _, _, h => absurd (h x (by simp)) (by simp)
  | d :: ds, x :: xs, hL, hx, h => by
    rw [List.pairwise_cons] at hL hx
    by_cases e : x = d
    · subst e
      refine List.Sublist.cons_cons _ (sub_of_sorted ds xs hL.2 hx.2 fun y hy => ?_)
      have h1 := hx.1 y hy
      rcases List.mem_cons.1 (h y (by simp [hy])) with h2 | h2
      · omega
      · exact h2
    · refine List.Sublist.cons _ (sub_of_sorted ds (x :: xs) hL.2 (List.pairwise_cons.2 hx) fun y hy => ?_)
      have hxd : x ∈ ds := (List.mem_cons.1 (h x (by simp))).resolve_left e
      have h0 := hL.1 x hxd
      rcases List.mem_cons.1 (h y hy) with h2 | h2
      · rcases List.mem_cons.1 hy with h3 | h3
        · omega
        · have := hx.1 y h3; omega
      · exact h2
theorem dgs_sorted : ∀ n : Fin 9, (dgs (n.val : Int) n.val).Pairwise (· < ·) := by decide +kernel
theorem flips_all : ∀ n : Fin 9, 3 ≤ n.val → ((ncs (dgs (n.val : Int) n.val)).all fun l => !decide (l.length + 3 = n.val) || l.all fun x => (dgs (n.val : Int) n.val).any fun d => flipOk (rst l x) x d) = true := by decide +kernel
theorem flip_ex {n x : Int} {xs : List Int} (hn : 3 ≤ n ∧ n ≤ 8) (h : TriSet n xs) (hx : x ∈ xs) : (dgs n n.toNat).any (fun d => flipOk (rst xs x) x d) = true := by
  obtain ⟨N, rfl⟩ : ∃ N : Nat, n = N := ⟨n.toNat, by omega⟩
  have hm := h.mem
  simp only [Int.toNat_natCast] at hm ⊢
  have h1 := ncs_mem _ xs (sub_of_sorted _ xs (dgs_sorted ⟨N, by omega⟩) h.up hm) h.free
  have h2 := flips_all ⟨N, by omega⟩ (by show 3 ≤ N; omega)
  rw [List.all_eq_true] at h2
  have h3 := h2 xs h1
  have hl := h.len
  rw [show decide (xs.length + 3 = N) = true from by simp; omega, Bool.not_true, Bool.false_or, List.all_eq_true] at h3
  exact h3 x hx
theorem TriSet.nodup {n : Int} {xs : List Int} (h : TriSet n xs) : xs.Nodup := h.up.imp (fun h => by omega)
theorem rst_len {xs : List Int} {x : Int} (hn : xs.Nodup) (hx : x ∈ xs) : (rst xs x).length + 1 = xs.length := by
  have h1 := hn.erase_eq_filter x
  have h2 := List.length_erase_of_mem hx
  have h3 : rst xs x = xs.filter (· != x) := by
    unfold rst
    congr 1
    funext y
    by_cases e : y = x <;> simp [e]
  have := List.length_pos_of_mem hx
  rw [h3, ← h1, h2]; omega
theorem rst_up {xs : List Int} {x : Int} (h : xs.Pairwise (· < ·)) : (rst xs x).Pairwise (· < ·) := h.sublist List.filter_sublist
theorem rst_mem {xs : List Int} {x y : Int} : y ∈ rst xs x ↔ y ∈ xs ∧ y ≠ x := by simp [rst]
theorem asc_up {xs : List Int} (h : xs.Pairwise (· < ·)) : Asc xs := by
  intro i j hij hj
  rw [getD_eq (by omega), getD_eq hj]
  have := (List.pairwise_iff_getElem.1 h) i j (by omega) hj hij
  omega
theorem puts_up {xs : List Int} (h : xs.Pairwise (· < ·)) : puts xs = xs :=
  (puts_sorted (h.imp (fun h => by omega)) (List.Perm.refl _) (asc_up h)).symm
/-- the flip's test, both sides -/
theorem flip_test {n x d : Int} {xs ys : List Int} (hn : 3 ≤ n ∧ n ≤ 8) (h : TriSet n xs) (hx : x ∈ xs) (hd : d ∈ dgs n n.toNat) (hdx : d ≠ x) (hp : ys.Perm (rst xs x ++ [d])) (ha : Asc ys) :
    triI n ys = flipOk (rst xs x) x d ∧ (flipOk (rst xs x) x d = true → ys = put (rst xs x) d) := by
  have hru := rst_up (x := x) h.up
  have hrn : (rst xs x).Nodup := hru.imp (fun h => by omega)
  have hlen := rst_len h.nodup hx
  have hyl := hp.length_eq
  simp only [List.length_append, List.length_cons, List.length_nil] at hyl
  have key : flipOk (rst xs x) x d = true → ys = put (rst xs x) d := by
    intro hk
    simp only [flipOk, Bool.and_eq_true, Bool.not_eq_true', decide_eq_false_iff_not] at hk
    have nd : (rst xs x ++ [d]).Nodup := by
      rw [List.nodup_append]
      refine ⟨hrn, by simp, fun a ha b hb e => ?_⟩
      simp only [List.mem_singleton] at hb
      subst hb; subst e
      exact hk.2.1 ha
    rw [puts_sorted nd hp ha, puts_step, puts_up hru]
  refine ⟨?_, key⟩
  rw [tri_same n ys hn, Bool.eq_iff_iff, triSet_iff]
  constructor
  · intro ht
    have nd := ht.nodup
    rw [hp.nodup_iff, List.nodup_append] at nd
    simp only [flipOk, Bool.and_eq_true, Bool.not_eq_true', decide_eq_false_iff_not, decide_eq_true_eq, List.any_eq_false]
    refine ⟨hdx, fun hm => nd.2.2 d hm d (by simp) rfl, fun e he => ?_⟩
    exact ht.free e (hp.mem_iff.2 (by simp [he])) d (hp.mem_iff.2 (by simp))
  · intro hk
    have he := key hk
    simp only [flipOk, Bool.and_eq_true, Bool.not_eq_true', decide_eq_false_iff_not, decide_eq_true_eq, List.any_eq_false] at hk
    have hl := h.len
    refine ⟨by omega, by rw [he]; exact put_sorted _ _ hru, fun z hz => ?_, fun y hy z hz => ?_⟩
    · have := hp.mem_iff.1 hz
      simp only [List.mem_append, List.mem_singleton] at this
      rcases this with g | g
      · exact h.mem _ (rst_mem.1 g).1
      · rw [g]; exact hd
    · have h1 := hp.mem_iff.1 hy
      have h2 := hp.mem_iff.1 hz
      simp only [List.mem_append, List.mem_singleton] at h1 h2
      rcases h1 with g | g <;> rcases h2 with g' | g'
      · exact h.free _ (rst_mem.1 g).1 _ (rst_mem.1 g').1
      · rw [g']; exact hk.2.2 y g
      · rw [g]; exact fun c => hk.2.2 z g' ((crs_symm _ _).1 c)
      · rw [g, g']; exact crs_self _
/-- the flip -/
def flipK (n : Int) (xs : List Int) (x : Int) : Int := idxP (fun d => flipOk (rst xs x) x d) (dgs n n.toNat) 0
def flipD (n : Int) (xs : List Int) (x : Int) : Int := (dgs n n.toNat).getD (flipK n xs x).toNat 0
end Go.Proofs.YtdgapefbbdfpbaaGreat.Ai
namespace Go.Proofs.YtdgapefbbdfpbaaGreat.Ai
open Go
def ords171 : List (Nat × List (Nat × Bool)) := []
def cd171 : Cd := (.seq (.reg [⟨⟨some 4, Op.assign (Operand.const (Value.int IntKind.i64 0)), none⟩, []⟩]) (.seq (.seq (.reg [⟨⟨some 6, Op.move (Operand.tmp 0), none⟩, []⟩,
  ⟨⟨some 7, Op.call { callee := (Callee.builtin Builtin.len), args := #[(Operand.tmp 6)], argTypes := #[25] }, none⟩, []⟩,
  ⟨⟨some 8, Op.move (Operand.const (Value.int IntKind.i64 0)), none⟩, []⟩]) (.block 0 (.loop (.seq (.reg [⟨⟨some 9, Op.binOp BinOp.lss 3 (Operand.tmp 8) (Operand.tmp 7) 3, none⟩, []⟩]) (.seq (.cond (Operand.tmp 9) .skip (.exit 0)) (.seq (.block 1 (.seq (.reg [⟨⟨some 10, Op.move (Operand.tmp 8), none⟩, []⟩,
  ⟨⟨some 5, Op.assign (Operand.tmp 10), none⟩, []⟩]) (.seq (.reg [⟨⟨some 11, Op.move (Operand.tmp 1), none⟩, []⟩,
  ⟨⟨some 12, Op.move (Operand.tmp 0), none⟩, []⟩,
  ⟨⟨some 13, Op.move (Operand.tmp 5), none⟩, []⟩,
  ⟨⟨some 14, Op.indexAddr 25 (Operand.tmp 12) (Operand.tmp 13), none⟩, []⟩,
  ⟨⟨some 15, Op.load 34 (Operand.tmp 14), none⟩, []⟩,
  ⟨⟨some 16, Op.call { callee := (Callee.value (Operand.tmp 11)), args := #[(Operand.tmp 15)], argTypes := #[34] }, none⟩, []⟩]) (.cond (Operand.tmp 16) (.seq (.reg [⟨⟨some 17, Op.move (Operand.tmp 5), none⟩, []⟩,
  ⟨⟨some 4, Op.assign (Operand.tmp 17), none⟩, []⟩]) .ret) .skip)))) (.reg [⟨⟨some 18, Op.binOp BinOp.add 3 (Operand.tmp 8) (Operand.const (Value.int IntKind.i64 1)) 3, none⟩, []⟩,
  ⟨⟨some 8, Op.move (Operand.tmp 18), none⟩, []⟩]))))))) (.seq (.reg [⟨⟨some 4, Op.assign (Operand.const (Value.int IntKind.i64 (-1))), none⟩, []⟩]) .ret)))
theorem sl171 : slim Tryz.f171.ntmps ords171 (Tryz.f171.body.getD .skip) = some cd171 := by kernel_rfl
theorem in171 {args : List Value} {H : AH} {R : Value → AH → Prop} (hl : args.length = 2) (h : ∀ (Q : Exit → Sl → AH → Prop), (∀ e s H, endA Tryz.prog [ResultVar.tmp 4] R e s H → Q e s H) → wpC Tryz.prog cd171 Q (enterA args) H) : ACalls Tryz.prog 171 args H R :=
  ACalls.intro (by kernel_rfl) Tryz.func171 rfl (by kernel_rfl) sl171 hl (of_decide_eq_true (by kernel_rfl)) (by kernel_rfl) h
def ords134 : List (Nat × List (Nat × Bool)) := []
def cd134 : Cd := (.seq (.reg [⟨⟨some 4, Op.assign (Operand.const (Value.bool false)), none⟩, []⟩]) (.seq (.reg [⟨⟨some 5, Op.move (Operand.tmp 0), none⟩, []⟩,
  ⟨⟨some 6, Op.move (Operand.tmp 1), none⟩, []⟩,
  ⟨⟨some 7, Op.call { callee := (Callee.value (Operand.func 171)), args := #[(Operand.tmp 5), (Operand.tmp 6)], argTypes := #[25, 130] }, none⟩, []⟩,
  ⟨⟨some 8, Op.binOp BinOp.geq 3 (Operand.tmp 7) (Operand.const (Value.int IntKind.i64 0)) 3, none⟩, []⟩,
  ⟨⟨some 4, Op.assign (Operand.tmp 8), none⟩, []⟩]) .ret))
theorem sl134 : slim Tryz.f134.ntmps ords134 (Tryz.f134.body.getD .skip) = some cd134 := by kernel_rfl
theorem in134 {args : List Value} {H : AH} {R : Value → AH → Prop} (hl : args.length = 2) (h : ∀ (Q : Exit → Sl → AH → Prop), (∀ e s H, endA Tryz.prog [ResultVar.tmp 4] R e s H → Q e s H) → wpC Tryz.prog cd134 Q (enterA args) H) : ACalls Tryz.prog 134 args H R :=
  ACalls.intro (by kernel_rfl) Tryz.func134 rfl (by kernel_rfl) sl134 hl (of_decide_eq_true (by kernel_rfl)) (by kernel_rfl) h
end Go.Proofs.YtdgapefbbdfpbaaGreat.Ai
namespace Go.Proofs.YtdgapefbbdfpbaaGreat.Ai
open Go Go.RowKit
set_option linter.unusedVariables false
set_option linter.unusedSimpArgs false
/-- the place of the first that is true, or -1 -/
def idxB : List Bool → Nat → Int
  | [], _ => -1
  | b :: bs, k => if b = true then (k : Int) else idxB bs (k + 1)
theorem idxB_step (bs : List Bool) (i : Nat) (hi : i < bs.length) : idxB (bs.drop i) i = if bs.getD i false = true then (i : Int) else idxB (bs.drop (i + 1)) (i + 1) := by
  rw [List.drop_eq_getElem_cons hi]
  simp [idxB, hi]
theorem idxB_any : ∀ (bs : List Bool) (k : Nat), (0 ≤ idxB bs k) ↔ bs.any id = true
  | [], k => by simp [idxB]
  | b :: bs, k => by
    simp only [idxB, List.any_cons, id]
    cases b with
    | true => simp
    | false => simp only [Bool.false_eq_true, if_false, Bool.false_or]; exact idxB_any bs (k + 1)
theorem IndexFuncL_c (v : Value) (us : List Value) (bs : List Bool) (g : FuncId) (caps : List Value) (H : AH) (hr : RowV 34 H v us) (hlen : us.length ≤ 1099511627776) (hb : bs.length = us.length)
    (hp : ∀ i, i < us.length → ∀ H1, H <+: H1 → ACalls Tryz.prog g (us.getD i undef :: caps) H1 fun r H' => r = .bool (bs.getD i false) ∧ H1 <+: H') :
    ACalls Tryz.prog 171 [v, .func (.func g) #[] (List.toArray caps)] H fun r H' => r = .int .i64 (idxB bs 0) ∧ H <+: H' := by
  refine in171 rfl ?_
  intro Q hQ
  simp (maxSteps := 1000000) (disch := omega) only [cd171, hr.len Tryz.underlying25, S, S1, S2, S3, S4, S5, ST, eq_self, reduceIte, reduceCtorEq, Nat.reduceEqDiff, Nat.reduceAdd]
  refine LoopH.by (fun m s H' => ∃ i, m + i = us.length ∧ s 0 = v ∧ s 1 = .func (.func g) #[] (List.toArray caps) ∧ s 8 = .int .i64 ((i : Nat) : Int) ∧ s 7 = .int .i64 (us.length : Int) ∧ H <+: H' ∧ idxB bs 0 = idxB (bs.drop i) i) us.length ?_ ?_
  · exact ⟨0, by simp, rfl, rfl, rfl, rfl, List.prefix_refl _, by simp⟩
  · rintro m s H' ⟨i, hm, h0, h1, h8, h7, hpp, hn⟩
    have hr' := hr.pre hpp
    simp (maxSteps := 1000000) (disch := omega) only [h0, h1, h8, h7, S, S1, S2, S3, S4, S5, ST, eq_self, reduceIte, reduceCtorEq, Nat.reduceEqDiff, Nat.reduceAdd]
    refine brD.intro (fun g => ?_) (fun g => ?_) <;> simp (maxSteps := 1000000) (disch := omega) only [h0, h1, h8, h7, hr'.ix Tryz.underlying25 cs34, hr'.cell, Int.toNat_natCast, S, S1, S2, S3, S4, S5, ST, eq_self, reduceIte, reduceCtorEq, Nat.reduceEqDiff, Nat.reduceAdd]
    · have hi : i < us.length := by omega
      rw [idxB_step bs i (by omega)] at hn
      refine CallH.by (hp i hi H' hpp) ?_
      rintro _ H2 ⟨rfl, hp2⟩
      simp (maxSteps := 1000000) (disch := omega) only [S, S1, S2, S3, S4, S5, ST, eq_self, reduceIte, reduceCtorEq, Nat.reduceEqDiff, Nat.reduceAdd]
      refine brH.intro (fun e => ?_) (fun e => ?_) <;> simp (maxSteps := 1000000) (disch := omega) only [h0, h1, h8, h7, wrap64, S, S1, S2, S3, S4, S5, ST, eq_self, reduceIte, reduceCtorEq, Nat.reduceEqDiff, Nat.reduceAdd]
      · refine hQ _ _ _ ?_
        simp (maxSteps := 1000000) (disch := omega) only [S, S1, S2, S3, S4, S5, ST, eq_self, reduceIte, reduceCtorEq, Nat.reduceEqDiff, Nat.reduceAdd]
        rw [hn, if_pos e]
        exact ⟨rfl, hpp.trans hp2⟩
      · rw [if_neg (by rw [e]; decide)] at hn
        exact ⟨m - 1, by omega, i + 1, by omega, by simp, hpp.trans hp2, hn⟩
    · refine hQ _ _ _ ?_
      simp (maxSteps := 1000000) (disch := omega) only [S, S1, S2, S3, S4, S5, ST, eq_self, reduceIte, reduceCtorEq, Nat.reduceEqDiff, Nat.reduceAdd]
      rw [hn, List.drop_of_length_le (by omega)]
      exact ⟨rfl, hpp⟩
theorem ContainsFuncL_c (v : Value) (us : List Value) (bs : List Bool) (g : FuncId) (caps : List Value) (H : AH) (hr : RowV 34 H v us) (hlen : us.length ≤ 1099511627776) (hb : bs.length = us.length)
    (hp : ∀ i, i < us.length → ∀ H1, H <+: H1 → ACalls Tryz.prog g (us.getD i undef :: caps) H1 fun r H' => r = .bool (bs.getD i false) ∧ H1 <+: H') :
    ACalls Tryz.prog 134 [v, .func (.func g) #[] (List.toArray caps)] H fun r H' => r = .bool (bs.any id) ∧ H <+: H' := by
  refine in134 rfl ?_
  intro Q hQ
  simp (maxSteps := 1000000) (disch := omega) only [cd134, S, S1, S2, S3, S4, S5, ST, eq_self, reduceIte, reduceCtorEq, Nat.reduceEqDiff, Nat.reduceAdd]
  refine CallH.by (IndexFuncL_c v us bs g caps H hr hlen hb hp) ?_
  rintro _ H1 ⟨rfl, hp1⟩
  simp (maxSteps := 1000000) (disch := omega) only [S, S1, S2, S3, S4, S5, ST, eq_self, reduceIte, reduceCtorEq, Nat.reduceEqDiff, Nat.reduceAdd]
  refine hQ _ _ _ ?_
  simp (maxSteps := 1000000) (disch := omega) only [S, S1, S2, S3, S4, S5, ST, eq_self, reduceIte, reduceCtorEq, Nat.reduceEqDiff, Nat.reduceAdd]
  refine ⟨?_, hp1⟩
  have := idxB_any bs 0
  by_cases h : 0 ≤ idxB bs 0
  · simp [h, this.1 h]
  · have h2 : bs.any id = false := by cases e : bs.any id <;> first | rfl | exact absurd (this.2 e) h
    simp [h, h2]
end Go.Proofs.YtdgapefbbdfpbaaGreat.Ai
