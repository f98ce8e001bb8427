/- Texts of this claim, joined: SrtL, SrtF, JmpS, SqP, Spc, MarkL, MarkS, OrN, SqI, SqS, LCyS. -/
import Derived.Test.YtlfongfhbkefmaaGreatProg
import Derived.KernelRfl
import Derived.Test.YtlfongfhbkefmaaGreatMgLawCyS5
namespace Go.Proofs.YtlfongfhbkefmaaGreat.Ai
open Go
def ords91 : List (Nat × List (Nat × Bool)) := []
def cd91 : Cd := (.seq (.reg [⟨⟨some 4, Op.assign (Operand.const (Value.int IntKind.i64 0)), none⟩, []⟩]) (.seq (.seq (.reg [⟨⟨some 9, Op.move (Operand.tmp 0), none⟩, []⟩,
  ⟨⟨some 10, Op.call { callee := (Callee.builtin Builtin.len), args := #[(Operand.tmp 9)], argTypes := #[38] }, none⟩, []⟩,
  ⟨⟨some 11, Op.move (Operand.const (Value.int IntKind.i64 0)), none⟩, []⟩]) (.block 0 (.loop (.seq (.reg [⟨⟨some 12, Op.binOp BinOp.lss 3 (Operand.tmp 11) (Operand.tmp 10) 3, none⟩, []⟩]) (.seq (.cond (Operand.tmp 12) .skip (.exit 0)) (.seq (.block 1 (.seq (.reg [⟨⟨some 13, Op.move (Operand.tmp 11), none⟩, []⟩,
  ⟨⟨some 14, Op.indexAddr 38 (Operand.tmp 9) (Operand.tmp 11), none⟩, []⟩,
  ⟨⟨some 15, Op.load 3 (Operand.tmp 14), none⟩, []⟩,
  ⟨⟨some 5, Op.assign (Operand.tmp 13), none⟩, []⟩,
  ⟨⟨some 6, Op.assign (Operand.tmp 15), none⟩, []⟩]) (.seq (.seq (.reg [⟨⟨some 16, Op.move (Operand.tmp 5), none⟩, []⟩,
  ⟨⟨some 17, Op.move (Operand.tmp 1), none⟩, []⟩,
  ⟨⟨some 18, Op.call { callee := (Callee.builtin Builtin.len), args := #[(Operand.tmp 17)], argTypes := #[38] }, none⟩, []⟩,
  ⟨⟨some 19, Op.binOp BinOp.geq 3 (Operand.tmp 16) (Operand.tmp 18) 3, none⟩, []⟩]) (.cond (Operand.tmp 19) (.seq (.reg [⟨⟨some 4, Op.assign (Operand.const (Value.int IntKind.i64 1)), none⟩, []⟩]) .ret) .skip)) (.seq (.reg [⟨⟨some 20, Op.move (Operand.tmp 1), none⟩, []⟩,
  ⟨⟨some 21, Op.move (Operand.tmp 5), none⟩, []⟩,
  ⟨⟨some 22, Op.indexAddr 38 (Operand.tmp 20) (Operand.tmp 21), none⟩, []⟩,
  ⟨⟨some 23, Op.load 3 (Operand.tmp 22), none⟩, []⟩,
  ⟨⟨some 7, Op.assign (Operand.tmp 23), none⟩, []⟩]) (.seq (.reg [⟨⟨some 24, Op.move (Operand.tmp 6), none⟩, []⟩,
  ⟨⟨some 25, Op.move (Operand.tmp 7), none⟩, []⟩,
  ⟨⟨some 26, Op.call { callee := (Callee.value (Operand.func 130)), args := #[(Operand.tmp 24), (Operand.tmp 25)], argTypes := #[3, 3] }, none⟩, []⟩,
  ⟨⟨some 8, Op.assign (Operand.tmp 26), none⟩, []⟩]) (.seq (.reg [⟨⟨some 27, Op.move (Operand.tmp 8), none⟩, []⟩,
  ⟨⟨some 28, Op.binOp BinOp.neq 3 (Operand.tmp 27) (Operand.const (Value.int IntKind.i64 0)) 3, none⟩, []⟩]) (.cond (Operand.tmp 28) (.seq (.reg [⟨⟨some 29, Op.move (Operand.tmp 8), none⟩, []⟩,
  ⟨⟨some 4, Op.assign (Operand.tmp 29), none⟩, []⟩]) .ret) .skip))))))) (.reg [⟨⟨some 30, Op.binOp BinOp.add 3 (Operand.tmp 11) (Operand.const (Value.int IntKind.i64 1)) 3, none⟩, []⟩,
  ⟨⟨some 11, Op.move (Operand.tmp 30), none⟩, []⟩]))))))) (.seq (.seq (.reg [⟨⟨some 31, Op.move (Operand.tmp 0), none⟩, []⟩,
  ⟨⟨some 32, Op.call { callee := (Callee.builtin Builtin.len), args := #[(Operand.tmp 31)], argTypes := #[38] }, none⟩, []⟩,
  ⟨⟨some 33, Op.move (Operand.tmp 1), none⟩, []⟩,
  ⟨⟨some 34, Op.call { callee := (Callee.builtin Builtin.len), args := #[(Operand.tmp 33)], argTypes := #[38] }, none⟩, []⟩,
  ⟨⟨some 35, Op.binOp BinOp.lss 3 (Operand.tmp 32) (Operand.tmp 34) 3, none⟩, []⟩]) (.cond (Operand.tmp 35) (.seq (.reg [⟨⟨some 4, Op.assign (Operand.const (Value.int IntKind.i64 (-1))), none⟩, []⟩]) .ret) .skip)) (.seq (.reg [⟨⟨some 4, Op.assign (Operand.const (Value.int IntKind.i64 0)), none⟩, []⟩]) .ret))))
theorem sl91 : slim Tryz.f91.ntmps ords91 (Tryz.f91.body.getD .skip) = some cd91 := by kernel_rfl
theorem in91 {args : List Value} {H : AH} {R : Value → AH → Prop} (hl : args.length = 2) (h : ∀ (Q : Exit → Sl → AH → Prop), (∀ e s H, endA Tryz.prog [ResultVar.tmp 4] R e s H → Q e s H) → wpC Tryz.prog cd91 Q (enterA args) H) : ACalls Tryz.prog 91 args H R :=
  ACalls.intro (by kernel_rfl) Tryz.func91 rfl (by kernel_rfl) sl91 hl (of_decide_eq_true (by kernel_rfl)) (by kernel_rfl) h
def ords197 : List (Nat × List (Nat × Bool)) := [(1, [(0, false), (1, false), (2, false), (3, false), (4, false), (5, false), (6, false), (7, false), (8, false), (9, true), (10, false)])]
def cd197 : Cd := (.seq (.reg [⟨⟨some 10, Op.assign (Operand.const (Value.int IntKind.i64 0)), none⟩, []⟩,
  ⟨⟨some 11, Op.assign (Operand.const (Value.int IntKind.i64 0)), none⟩, []⟩]) (.seq (.seq (.reg [⟨⟨some 12, Op.move (Operand.tmp 4), none⟩, []⟩,
  ⟨⟨some 13, Op.move (Operand.tmp 0), none⟩, []⟩,
  ⟨⟨some 14, Op.move (Operand.tmp 2), none⟩, []⟩,
  ⟨⟨some 15, Op.indexAddr 26 (Operand.tmp 13) (Operand.tmp 14), none⟩, []⟩,
  ⟨⟨some 16, Op.load 38 (Operand.tmp 15), none⟩, []⟩,
  ⟨⟨some 17, Op.move (Operand.tmp 0), none⟩, []⟩,
  ⟨⟨some 18, Op.move (Operand.tmp 1), none⟩, []⟩,
  ⟨⟨some 19, Op.indexAddr 26 (Operand.tmp 17) (Operand.tmp 18), none⟩, []⟩,
  ⟨⟨some 20, Op.load 38 (Operand.tmp 19), none⟩, []⟩,
  ⟨⟨some 21, Op.call { callee := (Callee.value (Operand.tmp 12)), args := #[(Operand.tmp 16), (Operand.tmp 20)], argTypes := #[38, 38] }, none⟩, []⟩,
  ⟨⟨some 22, Op.binOp BinOp.lss 3 (Operand.tmp 21) (Operand.const (Value.int IntKind.i64 0)) 3, none⟩, []⟩]) (.cond (Operand.tmp 22) (.seq (.reg [⟨⟨some 23, Op.move (Operand.tmp 3), none⟩, []⟩,
  ⟨⟨some 24, Op.nilCheck (Operand.tmp 23), none⟩, []⟩,
  ⟨⟨some 25, Op.load 3 (Operand.tmp 24), none⟩, []⟩,
  ⟨⟨some 26, Op.binOp BinOp.add 3 (Operand.tmp 25) (Operand.const (Value.int IntKind.i64 1)) 3, none⟩, []⟩,
  ⟨⟨some 27, Op.nilCheck (Operand.tmp 23), none⟩, []⟩,
  ⟨⟨none, Op.store 3 (Operand.tmp 27) (Operand.tmp 26), none⟩, []⟩]) (.seq (.reg [⟨⟨some 28, Op.move (Operand.tmp 2), none⟩, []⟩,
  ⟨⟨some 29, Op.move (Operand.tmp 1), none⟩, []⟩,
  ⟨⟨some 10, Op.assign (Operand.tmp 28), none⟩, []⟩,
  ⟨⟨some 11, Op.assign (Operand.tmp 29), none⟩, []⟩]) .ret)) .skip)) (.seq (.reg [⟨⟨some 30, Op.move (Operand.tmp 1), none⟩, []⟩,
  ⟨⟨some 31, Op.move (Operand.tmp 2), none⟩, []⟩,
  ⟨⟨some 10, Op.assign (Operand.tmp 30), none⟩, []⟩,
  ⟨⟨some 11, Op.assign (Operand.tmp 31), none⟩, []⟩]) .ret)))
theorem sl197 : slim Tryz.f197.ntmps ords197 (Tryz.f197.body.getD .skip) = some cd197 := by kernel_rfl
theorem in197 {args : List Value} {H : AH} {R : Value → AH → Prop} (hl : args.length = 5) (h : ∀ (Q : Exit → Sl → AH → Prop), (∀ e s H, endA Tryz.prog [ResultVar.tmp 10, ResultVar.tmp 11] R e s H → Q e s H) → wpC Tryz.prog cd197 Q (enterA args) H) : ACalls Tryz.prog 197 args H R :=
  ACalls.intro (by kernel_rfl) Tryz.func197 rfl (by kernel_rfl) sl197 hl (of_decide_eq_true (by kernel_rfl)) (by kernel_rfl) h
def ords182 : List (Nat × List (Nat × Bool)) := []
def cd182 : Cd := (.seq (.reg [⟨⟨some 12, Op.assign (Operand.const (Value.int IntKind.i64 0)), none⟩, []⟩]) (.seq (.reg [⟨⟨some 14, Op.move (Operand.tmp 0), none⟩, []⟩,
  ⟨⟨some 15, Op.move (Operand.tmp 1), none⟩, []⟩,
  ⟨⟨some 16, Op.move (Operand.tmp 2), none⟩, []⟩,
  ⟨⟨some 17, Op.move (Operand.tmp 4), none⟩, []⟩,
  ⟨⟨some 18, Op.move (Operand.tmp 5), none⟩, []⟩,
  ⟨⟨some 19, Op.call { callee := (Callee.value (Operand.func 197)), args := #[(Operand.tmp 14), (Operand.tmp 15), (Operand.tmp 16), (Operand.tmp 17), (Operand.tmp 18)], argTypes := #[26, 3, 3, 172, 105] }, none⟩, []⟩,
  ⟨⟨some 13, Op.move (Operand.tmp 19), none⟩, []⟩,
  ⟨⟨some 20, Op.extract (Operand.tmp 13) 0, none⟩, []⟩,
  ⟨⟨some 21, Op.extract (Operand.tmp 13) 1, none⟩, []⟩,
  ⟨⟨some 1, Op.assign (Operand.tmp 20), none⟩, []⟩,
  ⟨⟨some 2, Op.assign (Operand.tmp 21), none⟩, []⟩]) (.seq (.reg [⟨⟨some 23, Op.move (Operand.tmp 0), none⟩, []⟩,
  ⟨⟨some 24, Op.move (Operand.tmp 2), none⟩, []⟩,
  ⟨⟨some 25, Op.move (Operand.tmp 3), none⟩, []⟩,
  ⟨⟨some 26, Op.move (Operand.tmp 4), none⟩, []⟩,
  ⟨⟨some 27, Op.move (Operand.tmp 5), none⟩, []⟩,
  ⟨⟨some 28, Op.call { callee := (Callee.value (Operand.func 197)), args := #[(Operand.tmp 23), (Operand.tmp 24), (Operand.tmp 25), (Operand.tmp 26), (Operand.tmp 27)], argTypes := #[26, 3, 3, 172, 105] }, none⟩, []⟩,
  ⟨⟨some 22, Op.move (Operand.tmp 28), none⟩, []⟩,
  ⟨⟨some 29, Op.extract (Operand.tmp 22) 0, none⟩, []⟩,
  ⟨⟨some 30, Op.extract (Operand.tmp 22) 1, none⟩, []⟩,
  ⟨⟨some 2, Op.assign (Operand.tmp 29), none⟩, []⟩,
  ⟨⟨some 3, Op.assign (Operand.tmp 30), none⟩, []⟩]) (.seq (.reg [⟨⟨some 32, Op.move (Operand.tmp 0), none⟩, []⟩,
  ⟨⟨some 33, Op.move (Operand.tmp 1), none⟩, []⟩,
  ⟨⟨some 34, Op.move (Operand.tmp 2), none⟩, []⟩,
  ⟨⟨some 35, Op.move (Operand.tmp 4), none⟩, []⟩,
  ⟨⟨some 36, Op.move (Operand.tmp 5), none⟩, []⟩,
  ⟨⟨some 37, Op.call { callee := (Callee.value (Operand.func 197)), args := #[(Operand.tmp 32), (Operand.tmp 33), (Operand.tmp 34), (Operand.tmp 35), (Operand.tmp 36)], argTypes := #[26, 3, 3, 172, 105] }, none⟩, []⟩,
  ⟨⟨some 31, Op.move (Operand.tmp 37), none⟩, []⟩,
  ⟨⟨some 38, Op.extract (Operand.tmp 31) 0, none⟩, []⟩,
  ⟨⟨some 39, Op.extract (Operand.tmp 31) 1, none⟩, []⟩,
  ⟨⟨some 1, Op.assign (Operand.tmp 38), none⟩, []⟩,
  ⟨⟨some 2, Op.assign (Operand.tmp 39), none⟩, []⟩]) (.seq (.reg [⟨⟨some 40, Op.move (Operand.tmp 2), none⟩, []⟩,
  ⟨⟨some 12, Op.assign (Operand.tmp 40), none⟩, []⟩]) .ret)))))
theorem sl182 : slim Tryz.f182.ntmps ords182 (Tryz.f182.body.getD .skip) = some cd182 := by kernel_rfl
theorem in182 {args : List Value} {H : AH} {R : Value → AH → Prop} (hl : args.length = 6) (h : ∀ (Q : Exit → Sl → AH → Prop), (∀ e s H, endA Tryz.prog [ResultVar.tmp 12] R e s H → Q e s H) → wpC Tryz.prog cd182 Q (enterA args) H) : ACalls Tryz.prog 182 args H R :=
  ACalls.intro (by kernel_rfl) Tryz.func182 rfl (by kernel_rfl) sl182 hl (of_decide_eq_true (by kernel_rfl)) (by kernel_rfl) h
def ords181 : List (Nat × List (Nat × Bool)) := []
def cd181 : Cd := (.seq (.reg [⟨⟨some 8, Op.assign (Operand.const (Value.int IntKind.i64 0)), none⟩, []⟩]) (.seq (.reg [⟨⟨some 9, Op.move (Operand.tmp 0), none⟩, []⟩,
  ⟨⟨some 10, Op.move (Operand.tmp 1), none⟩, []⟩,
  ⟨⟨some 11, Op.binOp BinOp.sub 3 (Operand.tmp 10) (Operand.const (Value.int IntKind.i64 1)) 3, none⟩, []⟩,
  ⟨⟨some 12, Op.move (Operand.tmp 1), none⟩, []⟩,
  ⟨⟨some 13, Op.move (Operand.tmp 1), none⟩, []⟩,
  ⟨⟨some 14, Op.binOp BinOp.add 3 (Operand.tmp 13) (Operand.const (Value.int IntKind.i64 1)) 3, none⟩, []⟩,
  ⟨⟨some 15, Op.move (Operand.tmp 2), none⟩, []⟩,
  ⟨⟨some 16, Op.move (Operand.tmp 3), none⟩, []⟩,
  ⟨⟨some 17, Op.call { callee := (Callee.value (Operand.func 182)), args := #[(Operand.tmp 9), (Operand.tmp 11), (Operand.tmp 12), (Operand.tmp 14), (Operand.tmp 15), (Operand.tmp 16)], argTypes := #[26, 3, 3, 3, 172, 105] }, none⟩, []⟩,
  ⟨⟨some 8, Op.assign (Operand.tmp 17), none⟩, []⟩]) .ret))
theorem sl181 : slim Tryz.f181.ntmps ords181 (Tryz.f181.body.getD .skip) = some cd181 := by kernel_rfl
theorem in181 {args : List Value} {H : AH} {R : Value → AH → Prop} (hl : args.length = 4) (h : ∀ (Q : Exit → Sl → AH → Prop), (∀ e s H, endA Tryz.prog [ResultVar.tmp 8] R e s H → Q e s H) → wpC Tryz.prog cd181 Q (enterA args) H) : ACalls Tryz.prog 181 args H R :=
  ACalls.intro (by kernel_rfl) Tryz.func181 rfl (by kernel_rfl) sl181 hl (of_decide_eq_true (by kernel_rfl)) (by kernel_rfl) h
def ords162 : List (Nat × List (Nat × Bool)) := [(5, [(0, false), (1, false), (2, false), (3, false), (4, false), (5, false), (6, false), (7, false), (8, false), (9, false), (10, false), (11, false), (12, false), (13, false), (14, true), (15, false), (16, false), (17, false)]), (11, [(0, false), (1, false), (2, false), (3, false), (4, false), (5, false), (6, false), (7, false), (8, false), (9, false), (10, false), (11, false), (12, false), (13, false), (14, false), (15, true), (16, false), (17, true)]), (16, [(0, false), (1, false), (2, false), (3, false), (4, false), (5, false), (6, false), (7, false), (8, false), (9, false), (10, true), (11, false), (12, false)]), (17, [(0, false), (1, false), (2, false), (3, false), (4, false), (5, false), (6, false), (7, false), (8, false), (9, false), (10, false), (11, false), (12, false), (13, false), (14, false), (15, true), (16, false), (17, true)]), (22, [(0, false), (1, false), (2, false), (3, false), (4, false), (5, false), (6, false), (7, false), (8, false), (9, false), (10, true), (11, false), (12, false)]), (23, [(0, false), (1, false), (2, false), (3, false), (4, false), (5, false), (6, false), (7, false), (8, false), (9, false), (10, false), (11, false), (12, false), (13, false), (14, false), (15, true), (16, false), (17, true)])]
def cd162 : Cd := (.seq (.reg [⟨⟨some 8, Op.assign (Operand.const (Value.bool false)), none⟩, []⟩]) (.seq (.reg [⟨⟨some 13, Op.move (Operand.tmp 1), none⟩, []⟩,
  ⟨⟨some 14, Op.binOp BinOp.add 3 (Operand.tmp 13) (Operand.const (Value.int IntKind.i64 1)) 3, none⟩, []⟩,
  ⟨⟨some 9, Op.assign (Operand.tmp 14), none⟩, []⟩]) (.seq (.seq (.reg [⟨⟨some 10, Op.assign (Operand.const (Value.int IntKind.i64 0)), none⟩, []⟩]) (.block 0 (.loop (.seq (.seq (.reg [⟨⟨some 15, Op.move (Operand.tmp 10), none⟩, []⟩,
  ⟨⟨some 16, Op.binOp BinOp.lss 3 (Operand.tmp 15) (Operand.const (Value.int IntKind.i64 5)) 3, none⟩, []⟩]) (.cond (Operand.tmp 16) .skip (.exit 0))) (.seq (.block 1 (.seq (.block 2 (.loop (.seq (.seq (.reg [⟨⟨some 19, Op.move (Operand.tmp 9), none⟩, []⟩,
  ⟨⟨some 20, Op.move (Operand.tmp 2), none⟩, []⟩,
  ⟨⟨some 21, Op.binOp BinOp.lss 3 (Operand.tmp 19) (Operand.tmp 20) 3, none⟩, []⟩,
  ⟨⟨some 22, Op.move (Operand.tmp 21), none⟩, []⟩,
  ⟨⟨some 23, Op.move (Operand.tmp 3), some (22, true)⟩, []⟩,
  ⟨⟨some 24, Op.move (Operand.tmp 0), some (22, true)⟩, []⟩,
  ⟨⟨some 25, Op.move (Operand.tmp 9), some (22, true)⟩, []⟩,
  ⟨⟨some 26, Op.indexAddr 26 (Operand.tmp 24) (Operand.tmp 25), some (22, true)⟩, []⟩,
  ⟨⟨some 27, Op.load 38 (Operand.tmp 26), some (22, true)⟩, []⟩,
  ⟨⟨some 28, Op.move (Operand.tmp 0), some (22, true)⟩, []⟩,
  ⟨⟨some 29, Op.move (Operand.tmp 9), some (22, true)⟩, []⟩,
  ⟨⟨some 30, Op.binOp BinOp.sub 3 (Operand.tmp 29) (Operand.const (Value.int IntKind.i64 1)) 3, some (22, true)⟩, []⟩,
  ⟨⟨some 31, Op.indexAddr 26 (Operand.tmp 28) (Operand.tmp 30), some (22, true)⟩, []⟩,
  ⟨⟨some 32, Op.load 38 (Operand.tmp 31), some (22, true)⟩, []⟩,
  ⟨⟨some 33, Op.call { callee := (Callee.value (Operand.tmp 23)), args := #[(Operand.tmp 27), (Operand.tmp 32)], argTypes := #[38, 38] }, some (22, true)⟩, []⟩,
  ⟨⟨some 34, Op.binOp BinOp.lss 3 (Operand.tmp 33) (Operand.const (Value.int IntKind.i64 0)) 3, some (22, true)⟩, []⟩,
  ⟨⟨some 35, Op.unOp UnOp.not 4 (Operand.tmp 34), some (22, true)⟩, []⟩,
  ⟨⟨some 36, Op.pick (Operand.tmp 22) (Operand.tmp 35) (Operand.const (Value.bool false)), none⟩, []⟩]) (.cond (Operand.tmp 36) .skip (.exit 2))) (.block 3 (.reg [⟨⟨some 37, Op.move (Operand.tmp 9), none⟩, []⟩,
  ⟨⟨some 38, Op.binOp BinOp.add 3 (Operand.tmp 37) (Operand.const (Value.int IntKind.i64 1)) 3, none⟩, []⟩,
  ⟨⟨some 9, Op.assign (Operand.tmp 38), none⟩, []⟩]))))) (.seq (.seq (.reg [⟨⟨some 39, Op.move (Operand.tmp 9), none⟩, []⟩,
  ⟨⟨some 40, Op.move (Operand.tmp 2), none⟩, []⟩,
  ⟨⟨some 41, Op.binOp BinOp.eql 3 (Operand.tmp 39) (Operand.tmp 40) 3, none⟩, []⟩]) (.cond (Operand.tmp 41) (.seq (.reg [⟨⟨some 8, Op.assign (Operand.const (Value.bool true)), none⟩, []⟩]) .ret) .skip)) (.seq (.seq (.reg [⟨⟨some 42, Op.move (Operand.tmp 2), none⟩, []⟩,
  ⟨⟨some 43, Op.move (Operand.tmp 1), none⟩, []⟩,
  ⟨⟨some 44, Op.binOp BinOp.sub 3 (Operand.tmp 42) (Operand.tmp 43) 3, none⟩, []⟩,
  ⟨⟨some 45, Op.binOp BinOp.lss 3 (Operand.tmp 44) (Operand.const (Value.int IntKind.i64 50)) 3, none⟩, []⟩]) (.cond (Operand.tmp 45) (.seq (.reg [⟨⟨some 8, Op.assign (Operand.const (Value.bool false)), none⟩, []⟩]) .ret) .skip)) (.seq (.reg [⟨⟨some 46, Op.move (Operand.tmp 0), none⟩, []⟩,
  ⟨⟨some 47, Op.move (Operand.tmp 9), none⟩, []⟩,
  ⟨⟨some 48, Op.move (Operand.tmp 0), none⟩, []⟩,
  ⟨⟨some 49, Op.move (Operand.tmp 9), none⟩, []⟩,
  ⟨⟨some 50, Op.binOp BinOp.sub 3 (Operand.tmp 49) (Operand.const (Value.int IntKind.i64 1)) 3, none⟩, []⟩,
  ⟨⟨some 51, Op.move (Operand.tmp 0), none⟩, []⟩,
  ⟨⟨some 52, Op.move (Operand.tmp 9), none⟩, []⟩,
  ⟨⟨some 53, Op.binOp BinOp.sub 3 (Operand.tmp 52) (Operand.const (Value.int IntKind.i64 1)) 3, none⟩, []⟩,
  ⟨⟨some 54, Op.indexAddr 26 (Operand.tmp 51) (Operand.tmp 53), none⟩, []⟩,
  ⟨⟨some 55, Op.load 38 (Operand.tmp 54), none⟩, []⟩,
  ⟨⟨some 56, Op.move (Operand.tmp 0), none⟩, []⟩,
  ⟨⟨some 57, Op.move (Operand.tmp 9), none⟩, []⟩,
  ⟨⟨some 58, Op.indexAddr 26 (Operand.tmp 56) (Operand.tmp 57), none⟩, []⟩,
  ⟨⟨some 59, Op.load 38 (Operand.tmp 58), none⟩, []⟩,
  ⟨⟨some 60, Op.indexAddr 26 (Operand.tmp 46) (Operand.tmp 47), none⟩, []⟩,
  ⟨⟨none, Op.store 38 (Operand.tmp 60) (Operand.tmp 55), none⟩, []⟩,
  ⟨⟨some 61, Op.indexAddr 26 (Operand.tmp 48) (Operand.tmp 50), none⟩, []⟩,
  ⟨⟨none, Op.store 38 (Operand.tmp 61) (Operand.tmp 59), none⟩, []⟩]) (.seq (.seq (.reg [⟨⟨some 62, Op.move (Operand.tmp 9), none⟩, []⟩,
  ⟨⟨some 63, Op.move (Operand.tmp 1), none⟩, []⟩,
  ⟨⟨some 64, Op.binOp BinOp.sub 3 (Operand.tmp 62) (Operand.tmp 63) 3, none⟩, []⟩,
  ⟨⟨some 65, Op.binOp BinOp.geq 3 (Operand.tmp 64) (Operand.const (Value.int IntKind.i64 2)) 3, none⟩, []⟩]) (.cond (Operand.tmp 65) (.seq (.reg [⟨⟨some 66, Op.move (Operand.tmp 9), none⟩, []⟩,
  ⟨⟨some 67, Op.binOp BinOp.sub 3 (Operand.tmp 66) (Operand.const (Value.int IntKind.i64 1)) 3, none⟩, []⟩,
  ⟨⟨some 11, Op.assign (Operand.tmp 67), none⟩, []⟩]) (.block 4 (.loop (.seq (.seq (.reg [⟨⟨some 68, Op.move (Operand.tmp 11), none⟩, []⟩,
  ⟨⟨some 69, Op.binOp BinOp.geq 3 (Operand.tmp 68) (Operand.const (Value.int IntKind.i64 1)) 3, none⟩, []⟩]) (.cond (Operand.tmp 69) .skip (.exit 4))) (.seq (.block 5 (.seq (.seq (.reg [⟨⟨some 72, Op.move (Operand.tmp 3), none⟩, []⟩,
  ⟨⟨some 73, Op.move (Operand.tmp 0), none⟩, []⟩,
  ⟨⟨some 74, Op.move (Operand.tmp 11), none⟩, []⟩,
  ⟨⟨some 75, Op.indexAddr 26 (Operand.tmp 73) (Operand.tmp 74), none⟩, []⟩,
  ⟨⟨some 76, Op.load 38 (Operand.tmp 75), none⟩, []⟩,
  ⟨⟨some 77, Op.move (Operand.tmp 0), none⟩, []⟩,
  ⟨⟨some 78, Op.move (Operand.tmp 11), none⟩, []⟩,
  ⟨⟨some 79, Op.binOp BinOp.sub 3 (Operand.tmp 78) (Operand.const (Value.int IntKind.i64 1)) 3, none⟩, []⟩,
  ⟨⟨some 80, Op.indexAddr 26 (Operand.tmp 77) (Operand.tmp 79), none⟩, []⟩,
  ⟨⟨some 81, Op.load 38 (Operand.tmp 80), none⟩, []⟩,
  ⟨⟨some 82, Op.call { callee := (Callee.value (Operand.tmp 72)), args := #[(Operand.tmp 76), (Operand.tmp 81)], argTypes := #[38, 38] }, none⟩, []⟩,
  ⟨⟨some 83, Op.binOp BinOp.lss 3 (Operand.tmp 82) (Operand.const (Value.int IntKind.i64 0)) 3, none⟩, []⟩,
  ⟨⟨some 84, Op.unOp UnOp.not 4 (Operand.tmp 83), none⟩, []⟩]) (.cond (Operand.tmp 84) (.exit 4) .skip)) (.reg [⟨⟨some 85, Op.move (Operand.tmp 0), none⟩, []⟩,
  ⟨⟨some 86, Op.move (Operand.tmp 11), none⟩, []⟩,
  ⟨⟨some 87, Op.move (Operand.tmp 0), none⟩, []⟩,
  ⟨⟨some 88, Op.move (Operand.tmp 11), none⟩, []⟩,
  ⟨⟨some 89, Op.binOp BinOp.sub 3 (Operand.tmp 88) (Operand.const (Value.int IntKind.i64 1)) 3, none⟩, []⟩,
  ⟨⟨some 90, Op.move (Operand.tmp 0), none⟩, []⟩,
  ⟨⟨some 91, Op.move (Operand.tmp 11), none⟩, []⟩,
  ⟨⟨some 92, Op.binOp BinOp.sub 3 (Operand.tmp 91) (Operand.const (Value.int IntKind.i64 1)) 3, none⟩, []⟩,
  ⟨⟨some 93, Op.indexAddr 26 (Operand.tmp 90) (Operand.tmp 92), none⟩, []⟩,
  ⟨⟨some 94, Op.load 38 (Operand.tmp 93), none⟩, []⟩,
  ⟨⟨some 95, Op.move (Operand.tmp 0), none⟩, []⟩,
  ⟨⟨some 96, Op.move (Operand.tmp 11), none⟩, []⟩,
  ⟨⟨some 97, Op.indexAddr 26 (Operand.tmp 95) (Operand.tmp 96), none⟩, []⟩,
  ⟨⟨some 98, Op.load 38 (Operand.tmp 97), none⟩, []⟩,
  ⟨⟨some 99, Op.indexAddr 26 (Operand.tmp 85) (Operand.tmp 86), none⟩, []⟩,
  ⟨⟨none, Op.store 38 (Operand.tmp 99) (Operand.tmp 94), none⟩, []⟩,
  ⟨⟨some 100, Op.indexAddr 26 (Operand.tmp 87) (Operand.tmp 89), none⟩, []⟩,
  ⟨⟨none, Op.store 38 (Operand.tmp 100) (Operand.tmp 98), none⟩, []⟩]))) (.reg [⟨⟨some 70, Op.move (Operand.tmp 11), none⟩, []⟩,
  ⟨⟨some 71, Op.binOp BinOp.sub 3 (Operand.tmp 70) (Operand.const (Value.int IntKind.i64 1)) 3, none⟩, []⟩,
  ⟨⟨some 11, Op.assign (Operand.tmp 71), none⟩, []⟩])))))) .skip)) (.seq (.reg [⟨⟨some 101, Op.move (Operand.tmp 2), none⟩, []⟩,
  ⟨⟨some 102, Op.move (Operand.tmp 9), none⟩, []⟩,
  ⟨⟨some 103, Op.binOp BinOp.sub 3 (Operand.tmp 101) (Operand.tmp 102) 3, none⟩, []⟩,
  ⟨⟨some 104, Op.binOp BinOp.geq 3 (Operand.tmp 103) (Operand.const (Value.int IntKind.i64 2)) 3, none⟩, []⟩]) (.cond (Operand.tmp 104) (.seq (.reg [⟨⟨some 105, Op.move (Operand.tmp 9), none⟩, []⟩,
  ⟨⟨some 106, Op.binOp BinOp.add 3 (Operand.tmp 105) (Operand.const (Value.int IntKind.i64 1)) 3, none⟩, []⟩,
  ⟨⟨some 12, Op.assign (Operand.tmp 106), none⟩, []⟩]) (.block 6 (.loop (.seq (.seq (.reg [⟨⟨some 107, Op.move (Operand.tmp 12), none⟩, []⟩,
  ⟨⟨some 108, Op.move (Operand.tmp 2), none⟩, []⟩,
  ⟨⟨some 109, Op.binOp BinOp.lss 3 (Operand.tmp 107) (Operand.tmp 108) 3, none⟩, []⟩]) (.cond (Operand.tmp 109) .skip (.exit 6))) (.seq (.block 7 (.seq (.seq (.reg [⟨⟨some 112, Op.move (Operand.tmp 3), none⟩, []⟩,
  ⟨⟨some 113, Op.move (Operand.tmp 0), none⟩, []⟩,
  ⟨⟨some 114, Op.move (Operand.tmp 12), none⟩, []⟩,
  ⟨⟨some 115, Op.indexAddr 26 (Operand.tmp 113) (Operand.tmp 114), none⟩, []⟩,
  ⟨⟨some 116, Op.load 38 (Operand.tmp 115), none⟩, []⟩,
  ⟨⟨some 117, Op.move (Operand.tmp 0), none⟩, []⟩,
  ⟨⟨some 118, Op.move (Operand.tmp 12), none⟩, []⟩,
  ⟨⟨some 119, Op.binOp BinOp.sub 3 (Operand.tmp 118) (Operand.const (Value.int IntKind.i64 1)) 3, none⟩, []⟩,
  ⟨⟨some 120, Op.indexAddr 26 (Operand.tmp 117) (Operand.tmp 119), none⟩, []⟩,
  ⟨⟨some 121, Op.load 38 (Operand.tmp 120), none⟩, []⟩,
  ⟨⟨some 122, Op.call { callee := (Callee.value (Operand.tmp 112)), args := #[(Operand.tmp 116), (Operand.tmp 121)], argTypes := #[38, 38] }, none⟩, []⟩,
  ⟨⟨some 123, Op.binOp BinOp.lss 3 (Operand.tmp 122) (Operand.const (Value.int IntKind.i64 0)) 3, none⟩, []⟩,
  ⟨⟨some 124, Op.unOp UnOp.not 4 (Operand.tmp 123), none⟩, []⟩]) (.cond (Operand.tmp 124) (.exit 6) .skip)) (.reg [⟨⟨some 125, Op.move (Operand.tmp 0), none⟩, []⟩,
  ⟨⟨some 126, Op.move (Operand.tmp 12), none⟩, []⟩,
  ⟨⟨some 127, Op.move (Operand.tmp 0), none⟩, []⟩,
  ⟨⟨some 128, Op.move (Operand.tmp 12), none⟩, []⟩,
  ⟨⟨some 129, Op.binOp BinOp.sub 3 (Operand.tmp 128) (Operand.const (Value.int IntKind.i64 1)) 3, none⟩, []⟩,
  ⟨⟨some 130, Op.move (Operand.tmp 0), none⟩, []⟩,
  ⟨⟨some 131, Op.move (Operand.tmp 12), none⟩, []⟩,
  ⟨⟨some 132, Op.binOp BinOp.sub 3 (Operand.tmp 131) (Operand.const (Value.int IntKind.i64 1)) 3, none⟩, []⟩,
  ⟨⟨some 133, Op.indexAddr 26 (Operand.tmp 130) (Operand.tmp 132), none⟩, []⟩,
  ⟨⟨some 134, Op.load 38 (Operand.tmp 133), none⟩, []⟩,
  ⟨⟨some 135, Op.move (Operand.tmp 0), none⟩, []⟩,
  ⟨⟨some 136, Op.move (Operand.tmp 12), none⟩, []⟩,
  ⟨⟨some 137, Op.indexAddr 26 (Operand.tmp 135) (Operand.tmp 136), none⟩, []⟩,
  ⟨⟨some 138, Op.load 38 (Operand.tmp 137), none⟩, []⟩,
  ⟨⟨some 139, Op.indexAddr 26 (Operand.tmp 125) (Operand.tmp 126), none⟩, []⟩,
  ⟨⟨none, Op.store 38 (Operand.tmp 139) (Operand.tmp 134), none⟩, []⟩,
  ⟨⟨some 140, Op.indexAddr 26 (Operand.tmp 127) (Operand.tmp 129), none⟩, []⟩,
  ⟨⟨none, Op.store 38 (Operand.tmp 140) (Operand.tmp 138), none⟩, []⟩]))) (.reg [⟨⟨some 110, Op.move (Operand.tmp 12), none⟩, []⟩,
  ⟨⟨some 111, Op.binOp BinOp.add 3 (Operand.tmp 110) (Operand.const (Value.int IntKind.i64 1)) 3, none⟩, []⟩,
  ⟨⟨some 12, Op.assign (Operand.tmp 111), none⟩, []⟩])))))) .skip)))))))) (.reg [⟨⟨some 17, Op.move (Operand.tmp 10), none⟩, []⟩,
  ⟨⟨some 18, Op.binOp BinOp.add 3 (Operand.tmp 17) (Operand.const (Value.int IntKind.i64 1)) 3, none⟩, []⟩,
  ⟨⟨some 10, Op.assign (Operand.tmp 18), none⟩, []⟩])))))) (.seq (.reg [⟨⟨some 8, Op.assign (Operand.const (Value.bool false)), none⟩, []⟩]) .ret))))
theorem sl162 : slim Tryz.f162.ntmps ords162 (Tryz.f162.body.getD .skip) = some cd162 := by kernel_rfl
theorem in162 {args : List Value} {H : AH} {R : Value → AH → Prop} (hl : args.length = 4) (h : ∀ (Q : Exit → Sl → AH → Prop), (∀ e s H, endA Tryz.prog [ResultVar.tmp 8] R e s H → Q e s H) → wpC Tryz.prog cd162 Q (enterA args) H) : ACalls Tryz.prog 162 args H R :=
  ACalls.intro (by kernel_rfl) Tryz.func162 rfl (by kernel_rfl) sl162 hl (of_decide_eq_true (by kernel_rfl)) (by kernel_rfl) h
def ords157 : List (Nat × List (Nat × Bool)) := [(4, [(0, false), (1, false), (2, false), (3, false), (4, false), (5, false), (6, false), (7, false), (8, false), (9, false), (10, false), (11, false), (12, false), (13, false), (14, true), (15, false), (16, false)]), (6, [(0, false), (1, false), (2, false), (3, false), (4, false), (5, false), (6, false), (7, false), (8, false), (9, false), (10, false), (11, false), (12, false), (13, false), (14, false), (15, true), (16, false), (17, true)])]
def cd157 : Cd := (.seq (.reg [⟨⟨some 10, Op.move (Operand.tmp 1), none⟩, []⟩,
  ⟨⟨some 11, Op.binOp BinOp.add 3 (Operand.tmp 10) (Operand.const (Value.int IntKind.i64 1)) 3, none⟩, []⟩,
  ⟨⟨some 8, Op.assign (Operand.tmp 11), none⟩, []⟩]) (.block 0 (.loop (.seq (.seq (.reg [⟨⟨some 12, Op.move (Operand.tmp 8), none⟩, []⟩,
  ⟨⟨some 13, Op.move (Operand.tmp 2), none⟩, []⟩,
  ⟨⟨some 14, Op.binOp BinOp.lss 3 (Operand.tmp 12) (Operand.tmp 13) 3, none⟩, []⟩]) (.cond (Operand.tmp 14) .skip (.exit 0))) (.seq (.block 1 (.seq (.reg [⟨⟨some 17, Op.move (Operand.tmp 8), none⟩, []⟩,
  ⟨⟨some 9, Op.assign (Operand.tmp 17), none⟩, []⟩]) (.block 2 (.loop (.seq (.seq (.reg [⟨⟨some 18, Op.move (Operand.tmp 9), none⟩, []⟩,
  ⟨⟨some 19, Op.move (Operand.tmp 1), none⟩, []⟩,
  ⟨⟨some 20, Op.binOp BinOp.gtr 3 (Operand.tmp 18) (Operand.tmp 19) 3, none⟩, []⟩,
  ⟨⟨some 21, Op.move (Operand.tmp 20), none⟩, []⟩,
  ⟨⟨some 22, Op.move (Operand.tmp 3), some (21, true)⟩, []⟩,
  ⟨⟨some 23, Op.move (Operand.tmp 0), some (21, true)⟩, []⟩,
  ⟨⟨some 24, Op.move (Operand.tmp 9), some (21, true)⟩, []⟩,
  ⟨⟨some 25, Op.indexAddr 26 (Operand.tmp 23) (Operand.tmp 24), some (21, true)⟩, []⟩,
  ⟨⟨some 26, Op.load 38 (Operand.tmp 25), some (21, true)⟩, []⟩,
  ⟨⟨some 27, Op.move (Operand.tmp 0), some (21, true)⟩, []⟩,
  ⟨⟨some 28, Op.move (Operand.tmp 9), some (21, true)⟩, []⟩,
  ⟨⟨some 29, Op.binOp BinOp.sub 3 (Operand.tmp 28) (Operand.const (Value.int IntKind.i64 1)) 3, some (21, true)⟩, []⟩,
  ⟨⟨some 30, Op.indexAddr 26 (Operand.tmp 27) (Operand.tmp 29), some (21, true)⟩, []⟩,
  ⟨⟨some 31, Op.load 38 (Operand.tmp 30), some (21, true)⟩, []⟩,
  ⟨⟨some 32, Op.call { callee := (Callee.value (Operand.tmp 22)), args := #[(Operand.tmp 26), (Operand.tmp 31)], argTypes := #[38, 38] }, some (21, true)⟩, []⟩,
  ⟨⟨some 33, Op.binOp BinOp.lss 3 (Operand.tmp 32) (Operand.const (Value.int IntKind.i64 0)) 3, some (21, true)⟩, []⟩,
  ⟨⟨some 34, Op.pick (Operand.tmp 21) (Operand.tmp 33) (Operand.const (Value.bool false)), none⟩, []⟩]) (.cond (Operand.tmp 34) .skip (.exit 2))) (.seq (.block 3 (.reg [⟨⟨some 37, Op.move (Operand.tmp 0), none⟩, []⟩,
  ⟨⟨some 38, Op.move (Operand.tmp 9), none⟩, []⟩,
  ⟨⟨some 39, Op.move (Operand.tmp 0), none⟩, []⟩,
  ⟨⟨some 40, Op.move (Operand.tmp 9), none⟩, []⟩,
  ⟨⟨some 41, Op.binOp BinOp.sub 3 (Operand.tmp 40) (Operand.const (Value.int IntKind.i64 1)) 3, none⟩, []⟩,
  ⟨⟨some 42, Op.move (Operand.tmp 0), none⟩, []⟩,
  ⟨⟨some 43, Op.move (Operand.tmp 9), none⟩, []⟩,
  ⟨⟨some 44, Op.binOp BinOp.sub 3 (Operand.tmp 43) (Operand.const (Value.int IntKind.i64 1)) 3, none⟩, []⟩,
  ⟨⟨some 45, Op.indexAddr 26 (Operand.tmp 42) (Operand.tmp 44), none⟩, []⟩,
  ⟨⟨some 46, Op.load 38 (Operand.tmp 45), none⟩, []⟩,
  ⟨⟨some 47, Op.move (Operand.tmp 0), none⟩, []⟩,
  ⟨⟨some 48, Op.move (Operand.tmp 9), none⟩, []⟩,
  ⟨⟨some 49, Op.indexAddr 26 (Operand.tmp 47) (Operand.tmp 48), none⟩, []⟩,
  ⟨⟨some 50, Op.load 38 (Operand.tmp 49), none⟩, []⟩,
  ⟨⟨some 51, Op.indexAddr 26 (Operand.tmp 37) (Operand.tmp 38), none⟩, []⟩,
  ⟨⟨none, Op.store 38 (Operand.tmp 51) (Operand.tmp 46), none⟩, []⟩,
  ⟨⟨some 52, Op.indexAddr 26 (Operand.tmp 39) (Operand.tmp 41), none⟩, []⟩,
  ⟨⟨none, Op.store 38 (Operand.tmp 52) (Operand.tmp 50), none⟩, []⟩])) (.reg [⟨⟨some 35, Op.move (Operand.tmp 9), none⟩, []⟩,
  ⟨⟨some 36, Op.binOp BinOp.sub 3 (Operand.tmp 35) (Operand.const (Value.int IntKind.i64 1)) 3, none⟩, []⟩,
  ⟨⟨some 9, Op.assign (Operand.tmp 36), none⟩, []⟩]))))))) (.reg [⟨⟨some 15, Op.move (Operand.tmp 8), none⟩, []⟩,
  ⟨⟨some 16, Op.binOp BinOp.add 3 (Operand.tmp 15) (Operand.const (Value.int IntKind.i64 1)) 3, none⟩, []⟩,
  ⟨⟨some 8, Op.assign (Operand.tmp 16), none⟩, []⟩]))))))
theorem sl157 : slim Tryz.f157.ntmps ords157 (Tryz.f157.body.getD .skip) = some cd157 := by kernel_rfl
theorem in157 {args : List Value} {H : AH} {R : Value → AH → Prop} (hl : args.length = 4) (h : ∀ (Q : Exit → Sl → AH → Prop), (∀ e s H, endA Tryz.prog [] R e s H → Q e s H) → wpC Tryz.prog cd157 Q (enterA args) H) : ACalls Tryz.prog 157 args H R :=
  ACalls.intro (by kernel_rfl) Tryz.func157 rfl (by kernel_rfl) sl157 hl (of_decide_eq_true (by kernel_rfl)) (by kernel_rfl) h
def ords160 : List (Nat × List (Nat × Bool)) := []
def cd160 : Cd := (.seq (.reg [⟨⟨some 8, Op.assign (Operand.const (Value.int IntKind.i64 0)), none⟩, []⟩,
  ⟨⟨some 9, Op.assign (Operand.const (Value.int IntKind.i64 0)), none⟩, []⟩]) (.seq (.reg [⟨⟨some 15, Op.move (Operand.tmp 2), none⟩, []⟩,
  ⟨⟨some 16, Op.move (Operand.tmp 1), none⟩, []⟩,
  ⟨⟨some 17, Op.binOp BinOp.sub 3 (Operand.tmp 15) (Operand.tmp 16) 3, none⟩, []⟩,
  ⟨⟨some 10, Op.assign (Operand.tmp 17), none⟩, []⟩]) (.seq (.reg [⟨⟨some 11, Op.alloc 3, none⟩, []⟩]) (.seq (.reg [⟨⟨some 18, Op.move (Operand.tmp 1), none⟩, []⟩,
  ⟨⟨some 19, Op.move (Operand.tmp 10), none⟩, []⟩,
  ⟨⟨some 20, Op.binOp BinOp.quo 3 (Operand.tmp 19) (Operand.const (Value.int IntKind.i64 4)) 3, none⟩, []⟩,
  ⟨⟨some 21, Op.binOp BinOp.mul 3 (Operand.tmp 20) (Operand.const (Value.int IntKind.i64 1)) 3, none⟩, []⟩,
  ⟨⟨some 22, Op.binOp BinOp.add 3 (Operand.tmp 18) (Operand.tmp 21) 3, none⟩, []⟩,
  ⟨⟨some 12, Op.assign (Operand.tmp 22), none⟩, []⟩]) (.seq (.reg [⟨⟨some 23, Op.move (Operand.tmp 1), none⟩, []⟩,
  ⟨⟨some 24, Op.move (Operand.tmp 10), none⟩, []⟩,
  ⟨⟨some 25, Op.binOp BinOp.quo 3 (Operand.tmp 24) (Operand.const (Value.int IntKind.i64 4)) 3, none⟩, []⟩,
  ⟨⟨some 26, Op.binOp BinOp.mul 3 (Operand.tmp 25) (Operand.const (Value.int IntKind.i64 2)) 3, none⟩, []⟩,
  ⟨⟨some 27, Op.binOp BinOp.add 3 (Operand.tmp 23) (Operand.tmp 26) 3, none⟩, []⟩,
  ⟨⟨some 13, Op.assign (Operand.tmp 27), none⟩, []⟩]) (.seq (.reg [⟨⟨some 28, Op.move (Operand.tmp 1), none⟩, []⟩,
  ⟨⟨some 29, Op.move (Operand.tmp 10), none⟩, []⟩,
  ⟨⟨some 30, Op.binOp BinOp.quo 3 (Operand.tmp 29) (Operand.const (Value.int IntKind.i64 4)) 3, none⟩, []⟩,
  ⟨⟨some 31, Op.binOp BinOp.mul 3 (Operand.tmp 30) (Operand.const (Value.int IntKind.i64 3)) 3, none⟩, []⟩,
  ⟨⟨some 32, Op.binOp BinOp.add 3 (Operand.tmp 28) (Operand.tmp 31) 3, none⟩, []⟩,
  ⟨⟨some 14, Op.assign (Operand.tmp 32), none⟩, []⟩]) (.seq (.seq (.reg [⟨⟨some 33, Op.move (Operand.tmp 10), none⟩, []⟩,
  ⟨⟨some 34, Op.binOp BinOp.geq 3 (Operand.tmp 33) (Operand.const (Value.int IntKind.i64 8)) 3, none⟩, []⟩]) (.cond (Operand.tmp 34) (.seq (.seq (.reg [⟨⟨some 35, Op.move (Operand.tmp 10), none⟩, []⟩,
  ⟨⟨some 36, Op.binOp BinOp.geq 3 (Operand.tmp 35) (Operand.const (Value.int IntKind.i64 50)) 3, none⟩, []⟩]) (.cond (Operand.tmp 36) (.seq (.reg [⟨⟨some 37, Op.move (Operand.tmp 0), none⟩, []⟩,
  ⟨⟨some 38, Op.move (Operand.tmp 12), none⟩, []⟩,
  ⟨⟨some 39, Op.move (Operand.tmp 3), none⟩, []⟩,
  ⟨⟨some 40, Op.call { callee := (Callee.value (Operand.func 181)), args := #[(Operand.tmp 37), (Operand.tmp 38), (Operand.tmp 11), (Operand.tmp 39)], argTypes := #[26, 3, 172, 105] }, none⟩, []⟩,
  ⟨⟨some 12, Op.assign (Operand.tmp 40), none⟩, []⟩]) (.seq (.reg [⟨⟨some 41, Op.move (Operand.tmp 0), none⟩, []⟩,
  ⟨⟨some 42, Op.move (Operand.tmp 13), none⟩, []⟩,
  ⟨⟨some 43, Op.move (Operand.tmp 3), none⟩, []⟩,
  ⟨⟨some 44, Op.call { callee := (Callee.value (Operand.func 181)), args := #[(Operand.tmp 41), (Operand.tmp 42), (Operand.tmp 11), (Operand.tmp 43)], argTypes := #[26, 3, 172, 105] }, none⟩, []⟩,
  ⟨⟨some 13, Op.assign (Operand.tmp 44), none⟩, []⟩]) (.reg [⟨⟨some 45, Op.move (Operand.tmp 0), none⟩, []⟩,
  ⟨⟨some 46, Op.move (Operand.tmp 14), none⟩, []⟩,
  ⟨⟨some 47, Op.move (Operand.tmp 3), none⟩, []⟩,
  ⟨⟨some 48, Op.call { callee := (Callee.value (Operand.func 181)), args := #[(Operand.tmp 45), (Operand.tmp 46), (Operand.tmp 11), (Operand.tmp 47)], argTypes := #[26, 3, 172, 105] }, none⟩, []⟩,
  ⟨⟨some 14, Op.assign (Operand.tmp 48), none⟩, []⟩]))) .skip)) (.reg [⟨⟨some 49, Op.move (Operand.tmp 0), none⟩, []⟩,
  ⟨⟨some 50, Op.move (Operand.tmp 12), none⟩, []⟩,
  ⟨⟨some 51, Op.move (Operand.tmp 13), none⟩, []⟩,
  ⟨⟨some 52, Op.move (Operand.tmp 14), none⟩, []⟩,
  ⟨⟨some 53, Op.move (Operand.tmp 3), none⟩, []⟩,
  ⟨⟨some 54, Op.call { callee := (Callee.value (Operand.func 182)), args := #[(Operand.tmp 49), (Operand.tmp 50), (Operand.tmp 51), (Operand.tmp 52), (Operand.tmp 11), (Operand.tmp 53)], argTypes := #[26, 3, 3, 3, 172, 105] }, none⟩, []⟩,
  ⟨⟨some 13, Op.assign (Operand.tmp 54), none⟩, []⟩])) .skip)) (.seq (.reg [⟨⟨some 55, Op.load 3 (Operand.tmp 11), none⟩, []⟩]) (.block 0 (.seq (.reg [⟨⟨some 58, Op.binOp BinOp.eql 3 (Operand.tmp 55) (Operand.const (Value.int IntKind.i64 0)) 3, none⟩, []⟩,
  ⟨⟨some 57, Op.assign (Operand.tmp 58), none⟩, []⟩]) (.cond (Operand.tmp 57) (.seq (.reg [⟨⟨some 59, Op.move (Operand.tmp 13), none⟩, []⟩,
  ⟨⟨some 8, Op.assign (Operand.tmp 59), none⟩, []⟩,
  ⟨⟨some 9, Op.assign (Operand.const (Value.int IntKind.i64 1)), none⟩, []⟩]) .ret) (.seq (.reg [⟨⟨some 61, Op.binOp BinOp.eql 3 (Operand.tmp 55) (Operand.const (Value.int IntKind.i64 12)) 3, none⟩, []⟩,
  ⟨⟨some 60, Op.assign (Operand.tmp 61), none⟩, []⟩]) (.cond (Operand.tmp 60) (.seq (.reg [⟨⟨some 62, Op.move (Operand.tmp 13), none⟩, []⟩,
  ⟨⟨some 8, Op.assign (Operand.tmp 62), none⟩, []⟩,
  ⟨⟨some 9, Op.assign (Operand.const (Value.int IntKind.i64 2)), none⟩, []⟩]) .ret) (.seq (.reg [⟨⟨some 56, Op.move (Operand.tmp 13), none⟩, []⟩,
  ⟨⟨some 8, Op.assign (Operand.tmp 56), none⟩, []⟩,
  ⟨⟨some 9, Op.assign (Operand.const (Value.int IntKind.i64 0)), none⟩, []⟩]) .ret))))))))))))))
theorem sl160 : slim Tryz.f160.ntmps ords160 (Tryz.f160.body.getD .skip) = some cd160 := by kernel_rfl
theorem in160 {args : List Value} {H : AH} {R : Value → AH → Prop} (hl : args.length = 4) (h : ∀ (Q : Exit → Sl → AH → Prop), (∀ e s H, endA Tryz.prog [ResultVar.tmp 8, ResultVar.tmp 9] R e s H → Q e s H) → wpC Tryz.prog cd160 Q (enterA args) H) : ACalls Tryz.prog 160 args H R :=
  ACalls.intro (by kernel_rfl) Tryz.func160 rfl (by kernel_rfl) sl160 hl (of_decide_eq_true (by kernel_rfl)) (by kernel_rfl) h
def ords128 : List (Nat × List (Nat × Bool)) := [(17, [(0, false), (1, false), (2, false), (3, false), (4, false), (5, false), (6, false), (7, false), (8, false), (9, false), (10, false), (11, false), (12, false), (13, true), (14, false), (15, false), (16, false)])]
def cd128 : Cd := (.seq (.reg [⟨⟨some 10, Op.assign (Operand.const (Value.bool true)), none⟩, []⟩]) (.seq (.reg [⟨⟨some 11, Op.assign (Operand.const (Value.bool true)), none⟩, []⟩]) (.block 0 (.loop (.block 1 (.seq (.reg [⟨⟨some 21, Op.move (Operand.tmp 2), none⟩, []⟩,
  ⟨⟨some 22, Op.move (Operand.tmp 1), none⟩, []⟩,
  ⟨⟨some 23, Op.binOp BinOp.sub 3 (Operand.tmp 21) (Operand.tmp 22) 3, none⟩, []⟩,
  ⟨⟨some 12, Op.assign (Operand.tmp 23), none⟩, []⟩]) (.seq (.seq (.reg [⟨⟨some 24, Op.move (Operand.tmp 12), none⟩, []⟩,
  ⟨⟨some 25, Op.binOp BinOp.leq 3 (Operand.tmp 24) (Operand.const (Value.int IntKind.i64 12)) 3, none⟩, []⟩]) (.cond (Operand.tmp 25) (.seq (.reg [⟨⟨some 26, Op.move (Operand.tmp 0), none⟩, []⟩,
  ⟨⟨some 27, Op.move (Operand.tmp 1), none⟩, []⟩,
  ⟨⟨some 28, Op.move (Operand.tmp 2), none⟩, []⟩,
  ⟨⟨some 29, Op.move (Operand.tmp 4), none⟩, []⟩,
  ⟨⟨some 30, Op.call { callee := (Callee.value (Operand.func 157)), args := #[(Operand.tmp 26), (Operand.tmp 27), (Operand.tmp 28), (Operand.tmp 29)], argTypes := #[26, 3, 3, 105] }, none⟩, []⟩]) .ret) .skip)) (.seq (.seq (.reg [⟨⟨some 31, Op.move (Operand.tmp 3), none⟩, []⟩,
  ⟨⟨some 32, Op.binOp BinOp.eql 3 (Operand.tmp 31) (Operand.const (Value.int IntKind.i64 0)) 3, none⟩, []⟩]) (.cond (Operand.tmp 32) (.seq (.reg [⟨⟨some 33, Op.move (Operand.tmp 0), none⟩, []⟩,
  ⟨⟨some 34, Op.move (Operand.tmp 1), none⟩, []⟩,
  ⟨⟨some 35, Op.move (Operand.tmp 2), none⟩, []⟩,
  ⟨⟨some 36, Op.move (Operand.tmp 4), none⟩, []⟩,
  ⟨⟨some 37, Op.call { callee := (Callee.value (Operand.func 158)), args := #[(Operand.tmp 33), (Operand.tmp 34), (Operand.tmp 35), (Operand.tmp 36)], argTypes := #[26, 3, 3, 105] }, none⟩, []⟩]) .ret) .skip)) (.seq (.seq (.reg [⟨⟨some 38, Op.move (Operand.tmp 10), none⟩, []⟩,
  ⟨⟨some 39, Op.unOp UnOp.not 4 (Operand.tmp 38), none⟩, []⟩]) (.cond (Operand.tmp 39) (.seq (.reg [⟨⟨some 40, Op.move (Operand.tmp 0), none⟩, []⟩,
  ⟨⟨some 41, Op.move (Operand.tmp 1), none⟩, []⟩,
  ⟨⟨some 42, Op.move (Operand.tmp 2), none⟩, []⟩,
  ⟨⟨some 43, Op.move (Operand.tmp 4), none⟩, []⟩,
  ⟨⟨some 44, Op.call { callee := (Callee.value (Operand.func 159)), args := #[(Operand.tmp 40), (Operand.tmp 41), (Operand.tmp 42), (Operand.tmp 43)], argTypes := #[26, 3, 3, 105] }, none⟩, []⟩]) (.reg [⟨⟨some 45, Op.move (Operand.tmp 3), none⟩, []⟩,
  ⟨⟨some 46, Op.binOp BinOp.sub 3 (Operand.tmp 45) (Operand.const (Value.int IntKind.i64 1)) 3, none⟩, []⟩,
  ⟨⟨some 3, Op.assign (Operand.tmp 46), none⟩, []⟩])) .skip)) (.seq (.reg [⟨⟨some 48, Op.move (Operand.tmp 0), none⟩, []⟩,
  ⟨⟨some 49, Op.move (Operand.tmp 1), none⟩, []⟩,
  ⟨⟨some 50, Op.move (Operand.tmp 2), none⟩, []⟩,
  ⟨⟨some 51, Op.move (Operand.tmp 4), none⟩, []⟩,
  ⟨⟨some 52, Op.call { callee := (Callee.value (Operand.func 160)), args := #[(Operand.tmp 48), (Operand.tmp 49), (Operand.tmp 50), (Operand.tmp 51)], argTypes := #[26, 3, 3, 105] }, none⟩, []⟩,
  ⟨⟨some 47, Op.move (Operand.tmp 52), none⟩, []⟩,
  ⟨⟨some 53, Op.extract (Operand.tmp 47) 0, none⟩, []⟩,
  ⟨⟨some 54, Op.extract (Operand.tmp 47) 1, none⟩, []⟩,
  ⟨⟨some 13, Op.assign (Operand.tmp 53), none⟩, []⟩,
  ⟨⟨some 14, Op.assign (Operand.tmp 54), none⟩, []⟩]) (.seq (.seq (.reg [⟨⟨some 55, Op.move (Operand.tmp 14), none⟩, []⟩,
  ⟨⟨some 56, Op.binOp BinOp.eql 152 (Operand.tmp 55) (Operand.const (Value.int IntKind.i64 2)) 152, none⟩, []⟩]) (.cond (Operand.tmp 56) (.seq (.reg [⟨⟨some 57, Op.move (Operand.tmp 0), none⟩, []⟩,
  ⟨⟨some 58, Op.move (Operand.tmp 1), none⟩, []⟩,
  ⟨⟨some 59, Op.move (Operand.tmp 2), none⟩, []⟩,
  ⟨⟨some 60, Op.move (Operand.tmp 4), none⟩, []⟩,
  ⟨⟨some 61, Op.call { callee := (Callee.value (Operand.func 161)), args := #[(Operand.tmp 57), (Operand.tmp 58), (Operand.tmp 59), (Operand.tmp 60)], argTypes := #[26, 3, 3, 105] }, none⟩, []⟩]) (.seq (.reg [⟨⟨some 62, Op.move (Operand.tmp 2), none⟩, []⟩,
  ⟨⟨some 63, Op.binOp BinOp.sub 3 (Operand.tmp 62) (Operand.const (Value.int IntKind.i64 1)) 3, none⟩, []⟩,
  ⟨⟨some 64, Op.move (Operand.tmp 13), none⟩, []⟩,
  ⟨⟨some 65, Op.move (Operand.tmp 1), none⟩, []⟩,
  ⟨⟨some 66, Op.binOp BinOp.sub 3 (Operand.tmp 64) (Operand.tmp 65) 3, none⟩, []⟩,
  ⟨⟨some 67, Op.binOp BinOp.sub 3 (Operand.tmp 63) (Operand.tmp 66) 3, none⟩, []⟩,
  ⟨⟨some 13, Op.assign (Operand.tmp 67), none⟩, []⟩]) (.reg [⟨⟨some 14, Op.assign (Operand.const (Value.int IntKind.i64 1)), none⟩, []⟩]))) .skip)) (.seq (.seq (.reg [⟨⟨some 68, Op.move (Operand.tmp 10), none⟩, []⟩,
  ⟨⟨some 69, Op.move (Operand.tmp 68), none⟩, []⟩,
  ⟨⟨some 70, Op.move (Operand.tmp 11), some (69, true)⟩, []⟩,
  ⟨⟨some 71, Op.pick (Operand.tmp 69) (Operand.tmp 70) (Operand.const (Value.bool false)), none⟩, []⟩,
  ⟨⟨some 72, Op.move (Operand.tmp 71), none⟩, []⟩,
  ⟨⟨some 73, Op.move (Operand.tmp 14), some (72, true)⟩, []⟩,
  ⟨⟨some 74, Op.binOp BinOp.eql 152 (Operand.tmp 73) (Operand.const (Value.int IntKind.i64 1)) 152, some (72, true)⟩, []⟩,
  ⟨⟨some 75, Op.pick (Operand.tmp 72) (Operand.tmp 74) (Operand.const (Value.bool false)), none⟩, []⟩]) (.cond (Operand.tmp 75) (.seq (.reg [⟨⟨some 76, Op.move (Operand.tmp 0), none⟩, []⟩,
  ⟨⟨some 77, Op.move (Operand.tmp 1), none⟩, []⟩,
  ⟨⟨some 78, Op.move (Operand.tmp 2), none⟩, []⟩,
  ⟨⟨some 79, Op.move (Operand.tmp 4), none⟩, []⟩,
  ⟨⟨some 80, Op.call { callee := (Callee.value (Operand.func 162)), args := #[(Operand.tmp 76), (Operand.tmp 77), (Operand.tmp 78), (Operand.tmp 79)], argTypes := #[26, 3, 3, 105] }, none⟩, []⟩]) (.cond (Operand.tmp 80) .ret .skip)) .skip)) (.seq (.seq (.reg [⟨⟨some 81, Op.move (Operand.tmp 1), none⟩, []⟩,
  ⟨⟨some 82, Op.binOp BinOp.gtr 3 (Operand.tmp 81) (Operand.const (Value.int IntKind.i64 0)) 3, none⟩, []⟩,
  ⟨⟨some 83, Op.move (Operand.tmp 82), none⟩, []⟩,
  ⟨⟨some 84, Op.move (Operand.tmp 4), some (83, true)⟩, []⟩,
  ⟨⟨some 85, Op.move (Operand.tmp 0), some (83, true)⟩, []⟩,
  ⟨⟨some 86, Op.move (Operand.tmp 1), some (83, true)⟩, []⟩,
  ⟨⟨some 87, Op.binOp BinOp.sub 3 (Operand.tmp 86) (Operand.const (Value.int IntKind.i64 1)) 3, some (83, true)⟩, []⟩,
  ⟨⟨some 88, Op.indexAddr 26 (Operand.tmp 85) (Operand.tmp 87), some (83, true)⟩, []⟩,
  ⟨⟨some 89, Op.load 38 (Operand.tmp 88), some (83, true)⟩, []⟩,
  ⟨⟨some 90, Op.move (Operand.tmp 0), some (83, true)⟩, []⟩,
  ⟨⟨some 91, Op.move (Operand.tmp 13), some (83, true)⟩, []⟩,
  ⟨⟨some 92, Op.indexAddr 26 (Operand.tmp 90) (Operand.tmp 91), some (83, true)⟩, []⟩,
  ⟨⟨some 93, Op.load 38 (Operand.tmp 92), some (83, true)⟩, []⟩,
  ⟨⟨some 94, Op.call { callee := (Callee.value (Operand.tmp 84)), args := #[(Operand.tmp 89), (Operand.tmp 93)], argTypes := #[38, 38] }, some (83, true)⟩, []⟩,
  ⟨⟨some 95, Op.binOp BinOp.lss 3 (Operand.tmp 94) (Operand.const (Value.int IntKind.i64 0)) 3, some (83, true)⟩, []⟩,
  ⟨⟨some 96, Op.unOp UnOp.not 4 (Operand.tmp 95), some (83, true)⟩, []⟩,
  ⟨⟨some 97, Op.pick (Operand.tmp 83) (Operand.tmp 96) (Operand.const (Value.bool false)), none⟩, []⟩]) (.cond (Operand.tmp 97) (.seq (.reg [⟨⟨some 98, Op.move (Operand.tmp 0), none⟩, []⟩,
  ⟨⟨some 99, Op.move (Operand.tmp 1), none⟩, []⟩,
  ⟨⟨some 100, Op.move (Operand.tmp 2), none⟩, []⟩,
  ⟨⟨some 101, Op.move (Operand.tmp 13), none⟩, []⟩,
  ⟨⟨some 102, Op.move (Operand.tmp 4), none⟩, []⟩,
  ⟨⟨some 103, Op.call { callee := (Callee.value (Operand.func 163)), args := #[(Operand.tmp 98), (Operand.tmp 99), (Operand.tmp 100), (Operand.tmp 101), (Operand.tmp 102)], argTypes := #[26, 3, 3, 3, 105] }, none⟩, []⟩,
  ⟨⟨some 15, Op.assign (Operand.tmp 103), none⟩, []⟩]) (.seq (.reg [⟨⟨some 104, Op.move (Operand.tmp 15), none⟩, []⟩,
  ⟨⟨some 1, Op.assign (Operand.tmp 104), none⟩, []⟩]) (.exit 1))) .skip)) (.seq (.reg [⟨⟨some 106, Op.move (Operand.tmp 0), none⟩, []⟩,
  ⟨⟨some 107, Op.move (Operand.tmp 1), none⟩, []⟩,
  ⟨⟨some 108, Op.move (Operand.tmp 2), none⟩, []⟩,
  ⟨⟨some 109, Op.move (Operand.tmp 13), none⟩, []⟩,
  ⟨⟨some 110, Op.move (Operand.tmp 4), none⟩, []⟩,
  ⟨⟨some 111, Op.call { callee := (Callee.value (Operand.func 164)), args := #[(Operand.tmp 106), (Operand.tmp 107), (Operand.tmp 108), (Operand.tmp 109), (Operand.tmp 110)], argTypes := #[26, 3, 3, 3, 105] }, none⟩, []⟩,
  ⟨⟨some 105, Op.move (Operand.tmp 111), none⟩, []⟩,
  ⟨⟨some 112, Op.extract (Operand.tmp 105) 0, none⟩, []⟩,
  ⟨⟨some 113, Op.extract (Operand.tmp 105) 1, none⟩, []⟩,
  ⟨⟨some 16, Op.assign (Operand.tmp 112), none⟩, []⟩,
  ⟨⟨some 17, Op.assign (Operand.tmp 113), none⟩, []⟩]) (.seq (.reg [⟨⟨some 114, Op.move (Operand.tmp 17), none⟩, []⟩,
  ⟨⟨some 11, Op.assign (Operand.tmp 114), none⟩, []⟩]) (.seq (.reg [⟨⟨some 115, Op.move (Operand.tmp 16), none⟩, []⟩,
  ⟨⟨some 116, Op.move (Operand.tmp 1), none⟩, []⟩,
  ⟨⟨some 117, Op.binOp BinOp.sub 3 (Operand.tmp 115) (Operand.tmp 116) 3, none⟩, []⟩,
  ⟨⟨some 118, Op.move (Operand.tmp 2), none⟩, []⟩,
  ⟨⟨some 119, Op.move (Operand.tmp 16), none⟩, []⟩,
  ⟨⟨some 120, Op.binOp BinOp.sub 3 (Operand.tmp 118) (Operand.tmp 119) 3, none⟩, []⟩,
  ⟨⟨some 18, Op.assign (Operand.tmp 117), none⟩, []⟩,
  ⟨⟨some 19, Op.assign (Operand.tmp 120), none⟩, []⟩]) (.seq (.reg [⟨⟨some 121, Op.move (Operand.tmp 12), none⟩, []⟩,
  ⟨⟨some 122, Op.binOp BinOp.quo 3 (Operand.tmp 121) (Operand.const (Value.int IntKind.i64 8)) 3, none⟩, []⟩,
  ⟨⟨some 20, Op.assign (Operand.tmp 122), none⟩, []⟩]) (.seq (.reg [⟨⟨some 123, Op.move (Operand.tmp 18), none⟩, []⟩,
  ⟨⟨some 124, Op.move (Operand.tmp 19), none⟩, []⟩,
  ⟨⟨some 125, Op.binOp BinOp.lss 3 (Operand.tmp 123) (Operand.tmp 124) 3, none⟩, []⟩]) (.cond (Operand.tmp 125) (.seq (.reg [⟨⟨some 126, Op.move (Operand.tmp 18), none⟩, []⟩,
  ⟨⟨some 127, Op.move (Operand.tmp 20), none⟩, []⟩,
  ⟨⟨some 128, Op.binOp BinOp.geq 3 (Operand.tmp 126) (Operand.tmp 127) 3, none⟩, []⟩,
  ⟨⟨some 10, Op.assign (Operand.tmp 128), none⟩, []⟩]) (.seq (.reg [⟨⟨some 129, Op.move (Operand.tmp 0), none⟩, []⟩,
  ⟨⟨some 130, Op.move (Operand.tmp 1), none⟩, []⟩,
  ⟨⟨some 131, Op.move (Operand.tmp 16), none⟩, []⟩,
  ⟨⟨some 132, Op.move (Operand.tmp 3), none⟩, []⟩,
  ⟨⟨some 133, Op.move (Operand.tmp 4), none⟩, []⟩,
  ⟨⟨some 134, Op.call { callee := (Callee.value (Operand.func 128)), args := #[(Operand.tmp 129), (Operand.tmp 130), (Operand.tmp 131), (Operand.tmp 132), (Operand.tmp 133)], argTypes := #[26, 3, 3, 3, 105] }, none⟩, []⟩]) (.reg [⟨⟨some 135, Op.move (Operand.tmp 16), none⟩, []⟩,
  ⟨⟨some 136, Op.binOp BinOp.add 3 (Operand.tmp 135) (Operand.const (Value.int IntKind.i64 1)) 3, none⟩, []⟩,
  ⟨⟨some 1, Op.assign (Operand.tmp 136), none⟩, []⟩]))) (.seq (.reg [⟨⟨some 137, Op.move (Operand.tmp 19), none⟩, []⟩,
  ⟨⟨some 138, Op.move (Operand.tmp 20), none⟩, []⟩,
  ⟨⟨some 139, Op.binOp BinOp.geq 3 (Operand.tmp 137) (Operand.tmp 138) 3, none⟩, []⟩,
  ⟨⟨some 10, Op.assign (Operand.tmp 139), none⟩, []⟩]) (.seq (.reg [⟨⟨some 140, Op.move (Operand.tmp 0), none⟩, []⟩,
  ⟨⟨some 141, Op.move (Operand.tmp 16), none⟩, []⟩,
  ⟨⟨some 142, Op.binOp BinOp.add 3 (Operand.tmp 141) (Operand.const (Value.int IntKind.i64 1)) 3, none⟩, []⟩,
  ⟨⟨some 143, Op.move (Operand.tmp 2), none⟩, []⟩,
  ⟨⟨some 144, Op.move (Operand.tmp 3), none⟩, []⟩,
  ⟨⟨some 145, Op.move (Operand.tmp 4), none⟩, []⟩,
  ⟨⟨some 146, Op.call { callee := (Callee.value (Operand.func 128)), args := #[(Operand.tmp 140), (Operand.tmp 142), (Operand.tmp 143), (Operand.tmp 144), (Operand.tmp 145)], argTypes := #[26, 3, 3, 3, 105] }, none⟩, []⟩]) (.reg [⟨⟨some 147, Op.move (Operand.tmp 16), none⟩, []⟩,
  ⟨⟨some 2, Op.assign (Operand.tmp 147), none⟩, []⟩]))))))))))))))))))))))
theorem sl128 : slim Tryz.f128.ntmps ords128 (Tryz.f128.body.getD .skip) = some cd128 := by kernel_rfl
theorem in128 {args : List Value} {H : AH} {R : Value → AH → Prop} (hl : args.length = 5) (h : ∀ (Q : Exit → Sl → AH → Prop), (∀ e s H, endA Tryz.prog [] R e s H → Q e s H) → wpC Tryz.prog cd128 Q (enterA args) H) : ACalls Tryz.prog 128 args H R :=
  ACalls.intro (by kernel_rfl) Tryz.func128 rfl (by kernel_rfl) sl128 hl (of_decide_eq_true (by kernel_rfl)) (by kernel_rfl) h
end Go.Proofs.YtlfongfhbkefmaaGreat.Ai
namespace Go.Proofs.YtlfongfhbkefmaaGreat.Ai
open Go Go.RowKit
set_option linter.unusedVariables false
set_option linter.unusedSimpArgs false
/-- the order of lists -/
def cmpL : List Int → List Int → Int
  | [], [] => 0
  | [], _ :: _ => -1
  | _ :: _, [] => 1
  | a :: xs, b :: ys => if cmpI a b ≠ 0 then cmpI a b else cmpL xs ys
theorem cmpL_nil (ys : List Int) : cmpL [] ys = if 0 < ys.length then -1 else 0 := by
  cases ys with
  | nil => rfl
  | cons b bs => simp [cmpL]
theorem cmpL_step (xs ys : List Int) (i : Nat) (hi : i < xs.length) : cmpL (xs.drop i) (ys.drop i) = if ys.length ≤ i then 1 else if cmpI (xs.getD i 0) (ys.getD i 0) ≠ 0 then cmpI (xs.getD i 0) (ys.getD i 0) else cmpL (xs.drop (i + 1)) (ys.drop (i + 1)) := by
  have hx : xs.getD i 0 = xs[i] := by simp [hi]
  rw [List.drop_eq_getElem_cons hi]
  by_cases hj : ys.length ≤ i
  · rw [if_pos hj, List.drop_of_length_le hj]; rfl
  · have hj' : i < ys.length := by omega
    have hy : ys.getD i 0 = ys[i] := by simp [hj']
    rw [if_neg hj, List.drop_eq_getElem_cons hj', hx, hy]; rfl
abbrev fnCmp : Value := .func (.func 91) #[] (List.toArray [])
set_option maxHeartbeats 1000000 in
theorem CmpL_c (v w : Value) (xs ys : List Int) (H : AH) (hr : Row 3 H v xs) (hr2 : Row 3 H w ys) (hlen : xs.length ≤ 1099511627776) (hlen2 : ys.length ≤ 1099511627776) :
    ACalls Tryz.prog 91 [v, w] H fun r H' => r = .int .i64 (cmpL xs ys) ∧ H = H' := by
  refine in91 rfl ?_
  intro Q hQ
  simp (maxSteps := 1000000) (disch := omega) only [cd91, hr.len Tryz.underlying38, S, S1, S2, S3, S4, S5, ST, eq_self, reduceIte, reduceCtorEq, Nat.reduceEqDiff, Nat.reduceAdd]
  refine LoopH.by (fun m s H' => ∃ i, m + i = xs.length ∧ s 0 = v ∧ s 1 = w ∧ s 9 = v ∧ s 10 = .int .i64 (xs.length : Int) ∧ s 11 = .int .i64 ((i : Nat) : Int) ∧ H = H' ∧ cmpL xs ys = cmpL (xs.drop i) (ys.drop i) ∧ (i ≤ ys.length ∨ i = 0)) xs.length ?_ ?_
  · exact ⟨0, by simp, rfl, rfl, rfl, rfl, rfl, rfl, by simp, .inr rfl⟩
  · rintro m s H' ⟨i, hm, h0, h1, h9, h10, h11, rfl, hc, hy⟩
    simp (maxSteps := 1000000) (disch := omega) only [h0, h1, h9, h10, h11, S, S1, S2, S3, S4, S5, ST, eq_self, reduceIte, reduceCtorEq, Nat.reduceEqDiff, Nat.reduceAdd]
    refine brD.intro (fun g => ?_) (fun g => ?_)
    · have hi : i < xs.length := by omega
      rw [cmpL_step xs ys i hi] at hc
      simp (maxSteps := 1000000) (disch := omega) only [h0, h1, h9, h10, h11, hr.ix Tryz.underlying38 cs3, hr.cell, Int.toNat_natCast, hr2.len Tryz.underlying38, S, S1, S2, S3, S4, S5, ST, eq_self, reduceIte, reduceCtorEq, Nat.reduceEqDiff, Nat.reduceAdd]
      refine brD.intro (fun e => ?_) (fun e => ?_)
      · simp (maxSteps := 1000000) (disch := omega) only [S, S1, S2, S3, S4, S5, ST, eq_self, reduceIte, reduceCtorEq, Nat.reduceEqDiff, Nat.reduceAdd]
        refine hQ _ _ _ ?_
        simp (maxSteps := 1000000) (disch := omega) only [S, S1, S2, S3, S4, S5, ST, eq_self, reduceIte, reduceCtorEq, Nat.reduceEqDiff, Nat.reduceAdd]
        rw [hc, if_pos (by omega)]
      · have hj : i < ys.length := by omega
        rw [if_neg (by omega)] at hc
        simp (maxSteps := 1000000) (disch := omega) only [h0, h1, h9, h10, h11, hr2.ix Tryz.underlying38 cs3, hr2.cell, Int.toNat_natCast, S, S1, S2, S3, S4, S5, ST, eq_self, reduceIte, reduceCtorEq, Nat.reduceEqDiff, Nat.reduceAdd]
        refine CallH.by (Compare_c _ _ H) ?_
        rintro _ _ ⟨rfl, rfl⟩
        simp (maxSteps := 1000000) (disch := omega) only [S, S1, S2, S3, S4, S5, ST, eq_self, reduceIte, reduceCtorEq, Nat.reduceEqDiff, Nat.reduceAdd]
        refine brD.intro (fun e2 => ?_) (fun e2 => ?_) <;> simp (maxSteps := 1000000) (disch := omega) only [h0, h1, h9, h10, h11, wrap64, S, S1, S2, S3, S4, S5, ST, eq_self, reduceIte, reduceCtorEq, Nat.reduceEqDiff, Nat.reduceAdd]
        · refine hQ _ _ _ ?_
          simp (maxSteps := 1000000) (disch := omega) only [S, S1, S2, S3, S4, S5, ST, eq_self, reduceIte, reduceCtorEq, Nat.reduceEqDiff, Nat.reduceAdd]
          rw [hc, if_pos e2]
        · rw [if_neg e2] at hc
          have f1 : i + 1 ≤ ys.length ∨ i + 1 = 0 := .inl hj
          refine ⟨m - 1, by omega, i + 1, ?_⟩
          (repeat' first | exact hc | exact f1 | apply And.intro) <;> first | (simp only [Value.int.injEq, true_and]; omega) | omega | rfl | assumption | (simp; done) | (simp; omega)
    · have hxe : i = xs.length := by omega
      rw [hxe, List.drop_length, cmpL_nil] at hc
      simp (maxSteps := 1000000) (disch := omega) only [h0, h1, hr.len Tryz.underlying38, hr2.len Tryz.underlying38, S, S1, S2, S3, S4, S5, ST, eq_self, reduceIte, reduceCtorEq, Nat.reduceEqDiff, Nat.reduceAdd]
      refine brD.intro (fun e => ?_) (fun e => ?_) <;> simp (maxSteps := 1000000) (disch := omega) only [S, S1, S2, S3, S4, S5, ST, eq_self, reduceIte, reduceCtorEq, Nat.reduceEqDiff, Nat.reduceAdd]
      · refine hQ _ _ _ ?_
        simp (maxSteps := 1000000) (disch := omega) only [S, S1, S2, S3, S4, S5, ST, eq_self, reduceIte, reduceCtorEq, Nat.reduceEqDiff, Nat.reduceAdd]
        rw [hc, if_pos (by simp; omega)]
      · refine hQ _ _ _ ?_
        simp (maxSteps := 1000000) (disch := omega) only [S, S1, S2, S3, S4, S5, ST, eq_self, reduceIte, reduceCtorEq, Nat.reduceEqDiff, Nat.reduceAdd]
        rw [hc, if_neg (by simp; omega)]
/-- in strict order -/
def SrtL (ls : List (List Int)) : Prop := ∀ i j, i < j → j < ls.length → 0 < cmpL (ls.getD j []) (ls.getD i [])
/-- such lists in memory -/
structure Sts (H : AH) (v : Value) (us : List Value) (ls : List (List Int)) : Prop where
  row : RowV 38 H v us
  len : us.length = ls.length
  each : ∀ i, i < ls.length → Row 3 H (us.getD i undef) (ls.getD i [])
  small : ∀ i, i < ls.length → (ls.getD i []).length ≤ 1099511627776
  bnd : ls.length ≤ 60000
  srt : SrtL ls
theorem Sts.pre {H H' : AH} {v : Value} {us : List Value} {ls : List (List Int)} (h : Sts H v us ls) (hp : H <+: H') : Sts H' v us ls := ⟨h.row.pre hp, h.len, fun i hi => (h.each i hi).pre hp, h.small, h.bnd, h.srt⟩
theorem cmpL_self : ∀ xs : List Int, cmpL xs xs = 0
  | [] => rfl
  | a :: xs => by
    have : cmpI a a = 0 := by unfold cmpI; rw [if_neg (by omega), if_neg (by omega)]
    rw [cmpL, if_neg (by rw [this]; decide)]; exact cmpL_self xs
theorem Sts.le {H : AH} {v : Value} {us : List Value} {ls : List (List Int)} (h : Sts H v us ls) {i j : Nat} (hij : i ≤ j) (hj : j < ls.length) : ¬ cmpL (ls.getD j []) (ls.getD i []) < 0 := by
  by_cases e : i = j
  · subst e; rw [cmpL_self]; omega
  · have := h.srt i j (by omega) hj; omega
section
variable {v : Value} {us : List Value} {ls : List (List Int)} {H : AH}
theorem Sts.cell (h : Sts H v us ls) {i : Nat} (hi : i < ls.length) : cellA H (rowO v) (rowK v + i) = some (us.getD i undef) := h.row.cell (by have := h.len; omega)
theorem Sts.cmp (h : Sts H v us ls) {i j : Nat} (hi : i < ls.length) (hj : j < ls.length) :
    ACalls Tryz.prog 91 [us.getD i undef, us.getD j undef] H fun r H' => r = .int .i64 (cmpL (ls.getD i []) (ls.getD j [])) ∧ H = H' := CmpL_c _ _ _ _ H (h.each i hi) (h.each j hj) (h.small i hi) (h.small j hj)
theorem order2_c (h : Sts H v us ls) (a b : Nat) (p : Value) (hab : a ≤ b) (hb : b < ls.length) :
    ACalls Tryz.prog 197 [v, .int .i64 (a : Int), .int .i64 (b : Int), p, fnCmp] H fun r H' => r = .tuple (List.toArray [.int .i64 (a : Int), .int .i64 (b : Int)]) ∧ H = H' := by
  refine in197 rfl ?_
  intro Q hQ
  have hl := h.len
  have hca := h.cell (show a < ls.length by omega)
  have hcb := h.cell hb
  simp (maxSteps := 1000000) (disch := omega) only [cd197, h.row.ix Tryz.underlying26 cs38, Int.toNat_natCast, hca, hcb, S, S1, S2, S3, S4, S5, ST, eq_self, reduceIte, reduceCtorEq, Nat.reduceEqDiff, Nat.reduceAdd]
  refine CallH.by (h.cmp hb (show a < ls.length by omega)) ?_
  rintro _ _ ⟨rfl, rfl⟩
  simp (maxSteps := 1000000) (disch := omega) only [S, S1, S2, S3, S4, S5, ST, eq_self, reduceIte, reduceCtorEq, Nat.reduceEqDiff, Nat.reduceAdd]
  refine brD.intro (fun e => absurd e (h.le hab hb)) (fun e => ?_)
  simp (maxSteps := 1000000) (disch := omega) only [S, S1, S2, S3, S4, S5, ST, eq_self, reduceIte, reduceCtorEq, Nat.reduceEqDiff, Nat.reduceAdd]
  refine hQ _ _ _ ?_
  simp (maxSteps := 1000000) (disch := omega) only [S, S1, S2, S3, S4, S5, ST, eq_self, reduceIte, reduceCtorEq, Nat.reduceEqDiff, Nat.reduceAdd]
theorem median_c (h : Sts H v us ls) (a b c : Nat) (p : Value) (hab : a ≤ b) (hbc : b ≤ c) (hc : c < ls.length) :
    ACalls Tryz.prog 182 [v, .int .i64 (a : Int), .int .i64 (b : Int), .int .i64 (c : Int), p, fnCmp] H fun r H' => r = .int .i64 (b : Int) ∧ H = H' := by
  refine in182 rfl ?_
  intro Q hQ
  simp (maxSteps := 1000000) (disch := omega) only [cd182, S, S1, S2, S3, S4, S5, ST, eq_self, reduceIte, reduceCtorEq, Nat.reduceEqDiff, Nat.reduceAdd]
  refine CallH.by (order2_c h a b p hab (by omega)) ?_
  rintro _ _ ⟨rfl, rfl⟩
  simp (maxSteps := 1000000) (disch := omega) only [S, S1, S2, S3, S4, S5, ST, eq_self, reduceIte, reduceCtorEq, Nat.reduceEqDiff, Nat.reduceAdd]
  refine CallH.by (order2_c h b c p hbc hc) ?_
  rintro _ _ ⟨rfl, rfl⟩
  simp (maxSteps := 1000000) (disch := omega) only [S, S1, S2, S3, S4, S5, ST, eq_self, reduceIte, reduceCtorEq, Nat.reduceEqDiff, Nat.reduceAdd]
  refine CallH.by (order2_c h a b p hab (by omega)) ?_
  rintro _ _ ⟨rfl, rfl⟩
  simp (maxSteps := 1000000) (disch := omega) only [S, S1, S2, S3, S4, S5, ST, eq_self, reduceIte, reduceCtorEq, Nat.reduceEqDiff, Nat.reduceAdd]
  refine hQ _ _ _ ?_
  simp (maxSteps := 1000000) (disch := omega) only [S, S1, S2, S3, S4, S5, ST, eq_self, reduceIte, reduceCtorEq, Nat.reduceEqDiff, Nat.reduceAdd]
theorem medianAdj_c (h : Sts H v us ls) (a : Nat) (p : Value) (ha : 1 ≤ a) (hc : a + 1 < ls.length) :
    ACalls Tryz.prog 181 [v, .int .i64 (a : Int), p, fnCmp] H fun r H' => r = .int .i64 (a : Int) ∧ H = H' := by
  refine in181 rfl ?_
  intro Q hQ
  have hb := h.bnd
  have e1 : (a : Int) - 1 = ((a - 1 : Nat) : Int) := by omega
  have e2 : (a : Int) + 1 = ((a + 1 : Nat) : Int) := by omega
  simp (maxSteps := 1000000) (disch := omega) only [cd181, wrap64, e1, e2, S, S1, S2, S3, S4, S5, ST, eq_self, reduceIte, reduceCtorEq, Nat.reduceEqDiff, Nat.reduceAdd]
  refine CallH.by (median_c h (a - 1) a (a + 1) p (by omega) (by omega) hc) ?_
  rintro _ _ ⟨rfl, rfl⟩
  simp (maxSteps := 1000000) (disch := omega) only [S, S1, S2, S3, S4, S5, ST, eq_self, reduceIte, reduceCtorEq, Nat.reduceEqDiff, Nat.reduceAdd]
  refine hQ _ _ _ ?_
  simp (maxSteps := 1000000) (disch := omega) only [S, S1, S2, S3, S4, S5, ST, eq_self, reduceIte, reduceCtorEq, Nat.reduceEqDiff, Nat.reduceAdd]
set_option maxRecDepth 20000 in
set_option maxHeartbeats 1000000 in
theorem partialIns_c (h : Sts H v us ls) (h1 : 1 ≤ ls.length) :
    ACalls Tryz.prog 162 [v, .int .i64 0, .int .i64 (ls.length : Int), fnCmp] H fun r H' => r = .bool true ∧ H = H' := by
  refine in162 rfl ?_
  intro Q hQ
  have hb := h.bnd
  have hl := h.len
  simp (maxSteps := 1000000) (disch := omega) only [cd162, wrap64, S, S1, S2, S3, S4, S5, ST, eq_self, reduceIte, reduceCtorEq, Nat.reduceEqDiff, Nat.reduceAdd]
  refine LoopH.by (fun m s H' => s 0 = v ∧ s 2 = .int .i64 (ls.length : Int) ∧ s 3 = fnCmp ∧ s 9 = .int .i64 1 ∧ s 10 = .int .i64 0 ∧ H = H') 0 ?_ ?_
  · exact ⟨rfl, rfl, rfl, rfl, rfl, rfl⟩
  · rintro m s H' ⟨h0, h2, h3, h9, h10, rfl⟩
    simp (maxSteps := 1000000) (disch := omega) only [h0, h2, h3, h9, h10, S, S1, S2, S3, S4, S5, ST, eq_self, reduceIte, reduceCtorEq, Nat.reduceEqDiff, Nat.reduceAdd]
    refine brD.intro (fun _ => ?_) (fun g => absurd (by decide) g)
    simp (maxSteps := 1000000) (disch := omega) only [h0, h2, h3, h9, h10, S, S1, S2, S3, S4, S5, ST, eq_self, reduceIte, reduceCtorEq, Nat.reduceEqDiff, Nat.reduceAdd]
    refine LoopH.by (fun m' s' H' => ∃ i, m' + i = ls.length ∧ 1 ≤ i ∧ s' 0 = v ∧ s' 2 = .int .i64 (ls.length : Int) ∧ s' 3 = fnCmp ∧ s' 9 = .int .i64 ((i : Nat) : Int) ∧ H = H') (ls.length - 1) ?_ ?_
    · exact ⟨1, by omega, by omega, by simp [S, S1, S2, S3, S4, S5, ST, eq_self, reduceIte, reduceCtorEq, Nat.reduceEqDiff, Nat.reduceAdd, h0], by simp [S, S1, S2, S3, S4, S5, ST, eq_self, reduceIte, reduceCtorEq, Nat.reduceEqDiff, Nat.reduceAdd, h2], by simp [S, S1, S2, S3, S4, S5, ST, eq_self, reduceIte, reduceCtorEq, Nat.reduceEqDiff, Nat.reduceAdd, h3], by simp [S, S1, S2, S3, S4, S5, ST, eq_self, reduceIte, reduceCtorEq, Nat.reduceEqDiff, Nat.reduceAdd, h9], rfl⟩
    · rintro m' s' H' ⟨i, hm, hi1, g0, g2, g3, g9, rfl⟩
      have e1 : (i : Int) - 1 = ((i - 1 : Nat) : Int) := by omega
      simp (maxSteps := 1000000) (disch := omega) only [g0, g2, g3, g9, S, S1, S2, S3, S4, S5, ST, eq_self, reduceIte, reduceCtorEq, Nat.reduceEqDiff, Nat.reduceAdd]
      refine brD.intro (fun g => ?_) (fun g => ?_)
      · have hi : i < ls.length := by omega
        have hc1 := h.cell hi
        have hc2 := h.cell (show i - 1 < ls.length by omega)
        simp (maxSteps := 1000000) (disch := omega) only [g, g0, g2, g3, g9, wrap64, e1, h.row.ix Tryz.underlying26 cs38, Int.toNat_natCast, hc1, hc2, S, S1, S2, S3, S4, S5, ST, eq_self, reduceIte, reduceCtorEq, Nat.reduceEqDiff, Nat.reduceAdd]
        refine CallH.by (h.cmp hi (show i - 1 < ls.length by omega)) ?_
        rintro _ _ ⟨rfl, rfl⟩
        simp (maxSteps := 1000000) (disch := omega) only [g, S, S1, S2, S3, S4, S5, ST, eq_self, reduceIte, reduceCtorEq, Nat.reduceEqDiff, Nat.reduceAdd]
        refine brD.intro (fun e => absurd e (h.le (by omega) hi)) (fun e => ?_)
        simp (maxSteps := 1000000) (disch := omega) only [g, e, g0, g2, g3, g9, wrap64, S, S1, S2, S3, S4, S5, ST, eq_self, reduceIte, reduceCtorEq, Nat.reduceEqDiff, Nat.reduceAdd]
        refine ⟨m' - 1, by omega, i + 1, ?_⟩
        (repeat' apply And.intro) <;> first | (simp only [Value.int.injEq, true_and]; omega) | omega | rfl | assumption | (simp; done) | (simp; omega)
      · have hi : i = ls.length := by omega
        subst hi
        simp (maxSteps := 1000000) (disch := omega) only [g, g0, g2, g3, g9, S, S1, S2, S3, S4, S5, ST, eq_self, reduceIte, reduceCtorEq, Nat.reduceEqDiff, Nat.reduceAdd]
        refine hQ _ _ _ ?_
        simp (maxSteps := 1000000) (disch := omega) only [S, S1, S2, S3, S4, S5, ST, eq_self, reduceIte, reduceCtorEq, Nat.reduceEqDiff, Nat.reduceAdd]
set_option maxRecDepth 20000 in
set_option maxHeartbeats 1000000 in
theorem insCmp_c (h : Sts H v us ls) :
    ACalls Tryz.prog 157 [v, .int .i64 0, .int .i64 (ls.length : Int), fnCmp] H fun r H' => H = H' := by
  refine in157 rfl ?_
  intro Q hQ
  have hb := h.bnd
  have hl := h.len
  simp (maxSteps := 1000000) (disch := omega) only [cd157, wrap64, S, S1, S2, S3, S4, S5, ST, eq_self, reduceIte, reduceCtorEq, Nat.reduceEqDiff, Nat.reduceAdd]
  refine LoopH.by (fun m s H' => ∃ i, m + i = ls.length + 1 ∧ 1 ≤ i ∧ s 0 = v ∧ s 1 = .int .i64 0 ∧ s 2 = .int .i64 (ls.length : Int) ∧ s 3 = fnCmp ∧ s 8 = .int .i64 ((i : Nat) : Int) ∧ H = H') ls.length ?_ ?_
  · exact ⟨1, by omega, by omega, rfl, rfl, rfl, rfl, rfl, rfl⟩
  · rintro m s H' ⟨i, hm, hi1, h0, h1, h2, h3, h8, rfl⟩
    simp (maxSteps := 1000000) (disch := omega) only [h0, h1, h2, h3, h8, S, S1, S2, S3, S4, S5, ST, eq_self, reduceIte, reduceCtorEq, Nat.reduceEqDiff, Nat.reduceAdd]
    refine brD.intro (fun g => ?_) (fun g => ?_)
    · have hi : i < ls.length := by omega
      have e1 : (i : Int) - 1 = ((i - 1 : Nat) : Int) := by omega
      have hc1 := h.cell hi
      have hc2 := h.cell (show i - 1 < ls.length by omega)
      simp (maxSteps := 1000000) (disch := omega) only [h0, h1, h2, h3, h8, S, S1, S2, S3, S4, S5, ST, eq_self, reduceIte, reduceCtorEq, Nat.reduceEqDiff, Nat.reduceAdd]
      refine LoopH.by (fun m' s' H' => s' 0 = v ∧ s' 1 = .int .i64 0 ∧ s' 2 = .int .i64 (ls.length : Int) ∧ s' 3 = fnCmp ∧ s' 8 = .int .i64 ((i : Nat) : Int) ∧ s' 9 = .int .i64 ((i : Nat) : Int) ∧ H = H') 0 ?_ ?_
      · simp only [S, S1, S2, S3, S4, S5, ST, eq_self, reduceIte, reduceCtorEq, Nat.reduceEqDiff, Nat.reduceAdd, h0, h1, h2, h3, h8]
      · rintro m' s' H' ⟨g0, g1, g2, g3, g8, g9, rfl⟩
        have hgt : (i : Int) > 0 := by omega
        simp (maxSteps := 1000000) (disch := omega) only [g0, g1, g2, g3, g8, g9, S, S1, S2, S3, S4, S5, ST, eq_self, reduceIte, reduceCtorEq, Nat.reduceEqDiff, Nat.reduceAdd]
        refine brD.intro (fun q => ?_) (fun q => absurd hgt q)
        simp (maxSteps := 1000000) (disch := omega) only [q, g0, g1, g2, g3, g8, g9, wrap64, e1, h.row.ix Tryz.underlying26 cs38, Int.toNat_natCast, hc1, hc2, S, S1, S2, S3, S4, S5, ST, eq_self, reduceIte, reduceCtorEq, Nat.reduceEqDiff, Nat.reduceAdd]
        refine CallH.by (h.cmp hi (show i - 1 < ls.length by omega)) ?_
        rintro _ _ ⟨rfl, rfl⟩
        simp (maxSteps := 1000000) (disch := omega) only [q, S, S1, S2, S3, S4, S5, ST, eq_self, reduceIte, reduceCtorEq, Nat.reduceEqDiff, Nat.reduceAdd]
        refine brD.intro (fun e => absurd e (h.le (by omega) hi)) (fun e => ?_)
        simp (maxSteps := 1000000) (disch := omega) only [q, e, g0, g1, g2, g3, g8, g9, wrap64, S, S1, S2, S3, S4, S5, ST, eq_self, reduceIte, reduceCtorEq, Nat.reduceEqDiff, Nat.reduceAdd]
        refine ⟨m - 1, by omega, i + 1, ?_⟩
        (repeat' apply And.intro) <;> first | (simp only [Value.int.injEq, true_and]; omega) | omega | rfl | assumption | (simp; done) | (simp; omega)
    · simp (maxSteps := 1000000) (disch := omega) only [S, S1, S2, S3, S4, S5, ST, eq_self, reduceIte, reduceCtorEq, Nat.reduceEqDiff, Nat.reduceAdd]
      refine hQ _ _ _ ?_
      simp (maxSteps := 1000000) (disch := omega) only [S, S1, S2, S3, S4, S5, ST, eq_self, reduceIte, reduceCtorEq, Nat.reduceEqDiff, Nat.reduceAdd]
theorem alloc_int (H : AH) : allocA Tryz.prog 3 H = some (.pointer (some ⟨H.length, 0, none⟩), H ++ [.cells [.int .i64 0] 3 false]) := by kernel_rfl
set_option maxRecDepth 20000 in
set_option maxHeartbeats 1000000 in
theorem choosePivot_c (h : Sts H v us ls) (h1 : 13 ≤ ls.length) :
    ACalls Tryz.prog 160 [v, .int .i64 0, .int .i64 (ls.length : Int), fnCmp] H fun r H' => (∃ j : Int, r = .tuple (List.toArray [.int .i64 j, .int .i64 1])) ∧ H <+: H' := by
  refine in160 rfl ?_
  intro Q hQ
  have hb := h.bnd
  have hl := h.len
  obtain ⟨q, hqd⟩ : ∃ q, ls.length / 4 = q := ⟨_, rfl⟩
  have hq : IntKind.i64.wrap ((ls.length : Int).tdiv 4) = (q : Int) := by
    rw [Int.tdiv_eq_ediv_of_nonneg (by omega), wrap64 (by omega) (by omega)]
    omega
  have e1 : (0 : Int) + (q : Int) * 1 = (q : Int) := by omega
  have e2 : (0 : Int) + (q : Int) * 2 = ((2 * q : Nat) : Int) := by omega
  have e3 : (0 : Int) + (q : Int) * 3 = ((3 * q : Nat) : Int) := by omega
  have e0 : (ls.length : Int) - 0 = (ls.length : Int) := by omega
  simp (maxSteps := 1000000) (disch := omega) only [cd160, alloc_int, wrap64, e0, hq, e1, e2, e3, S, S1, S2, S3, S4, S5, ST, eq_self, reduceIte, reduceCtorEq, Nat.reduceEqDiff, Nat.reduceAdd]
  generalize hA : H ++ [AObj.cells [.int .i64 0] 3 false] = A
  have pA : H <+: A := by rw [← hA]; exact List.prefix_append _ _
  have cA : A[H.length]? = some (.cells [.int .i64 0] 3 false) := by rw [← hA]; exact at_new ..
  have hA2 := h.pre pA
  refine brD.intro (fun g => ?_) (fun g => absurd (show (ls.length : Int) ≥ 8 by omega) g)
  simp (maxSteps := 1000000) (disch := omega) only [S, S1, S2, S3, S4, S5, ST, eq_self, reduceIte, reduceCtorEq, Nat.reduceEqDiff, Nat.reduceAdd]
  refine brD.intro (fun g2 => ?_) (fun g2 => ?_)
  · simp (maxSteps := 1000000) (disch := omega) only [S, S1, S2, S3, S4, S5, ST, eq_self, reduceIte, reduceCtorEq, Nat.reduceEqDiff, Nat.reduceAdd]
    refine CallH.by (medianAdj_c hA2 q _ (by omega) (by omega)) ?_
    rintro _ _ ⟨rfl, rfl⟩
    simp (maxSteps := 1000000) (disch := omega) only [S, S1, S2, S3, S4, S5, ST, eq_self, reduceIte, reduceCtorEq, Nat.reduceEqDiff, Nat.reduceAdd]
    refine CallH.by (medianAdj_c hA2 (2 * q) _ (by omega) (by omega)) ?_
    rintro _ _ ⟨rfl, rfl⟩
    simp (maxSteps := 1000000) (disch := omega) only [S, S1, S2, S3, S4, S5, ST, eq_self, reduceIte, reduceCtorEq, Nat.reduceEqDiff, Nat.reduceAdd]
    refine CallH.by (medianAdj_c hA2 (3 * q) _ (by omega) (by omega)) ?_
    rintro _ _ ⟨rfl, rfl⟩
    simp (maxSteps := 1000000) (disch := omega) only [S, S1, S2, S3, S4, S5, ST, eq_self, reduceIte, reduceCtorEq, Nat.reduceEqDiff, Nat.reduceAdd]
    refine CallH.by (median_c hA2 q (2 * q) (3 * q) _ (by omega) (by omega) (by omega)) ?_
    rintro _ _ ⟨rfl, rfl⟩
    simp (maxSteps := 1000000) (disch := omega) only [cell_of cA, S, S1, S2, S3, S4, S5, ST, eq_self, reduceIte, reduceCtorEq, Nat.reduceEqDiff, Nat.reduceAdd]
    first
      | (refine brD.intro (fun _ => ?_) (fun g3 => absurd rfl g3)
         simp (maxSteps := 1000000) (disch := omega) only [S, S1, S2, S3, S4, S5, ST, eq_self, reduceIte, reduceCtorEq, Nat.reduceEqDiff, Nat.reduceAdd])
      | skip
    refine hQ _ _ _ ?_
    simp (maxSteps := 1000000) (disch := omega) only [S, S1, S2, S3, S4, S5, ST, eq_self, reduceIte, reduceCtorEq, Nat.reduceEqDiff, Nat.reduceAdd]
    exact ⟨⟨_, rfl⟩, pA⟩
  · simp (maxSteps := 1000000) (disch := omega) only [S, S1, S2, S3, S4, S5, ST, eq_self, reduceIte, reduceCtorEq, Nat.reduceEqDiff, Nat.reduceAdd]
    refine CallH.by (median_c hA2 q (2 * q) (3 * q) _ (by omega) (by omega) (by omega)) ?_
    rintro _ _ ⟨rfl, rfl⟩
    simp (maxSteps := 1000000) (disch := omega) only [cell_of cA, S, S1, S2, S3, S4, S5, ST, eq_self, reduceIte, reduceCtorEq, Nat.reduceEqDiff, Nat.reduceAdd]
    first
      | (refine brD.intro (fun _ => ?_) (fun g3 => absurd rfl g3)
         simp (maxSteps := 1000000) (disch := omega) only [S, S1, S2, S3, S4, S5, ST, eq_self, reduceIte, reduceCtorEq, Nat.reduceEqDiff, Nat.reduceAdd])
      | skip
    refine hQ _ _ _ ?_
    simp (maxSteps := 1000000) (disch := omega) only [S, S1, S2, S3, S4, S5, ST, eq_self, reduceIte, reduceCtorEq, Nat.reduceEqDiff, Nat.reduceAdd]
    exact ⟨⟨_, rfl⟩, pA⟩
set_option maxRecDepth 20000 in
set_option maxHeartbeats 1000000 in
theorem pdqCmp_c (h : Sts H v us ls) (lim : Int) (hlim : lim ≠ 0 ∨ ls.length ≤ 12) :
    ACalls Tryz.prog 128 [v, .int .i64 0, .int .i64 (ls.length : Int), .int .i64 lim, fnCmp] H fun r H' => H <+: H' := by
  refine in128 rfl ?_
  intro Q hQ
  have hb := h.bnd
  have e0 : (ls.length : Int) - 0 = (ls.length : Int) := by omega
  simp (maxSteps := 1000000) (disch := omega) only [cd128, S, S1, S2, S3, S4, S5, ST, eq_self, reduceIte, reduceCtorEq, Nat.reduceEqDiff, Nat.reduceAdd]
  refine LoopH.by (fun m s H' => s 0 = v ∧ s 1 = .int .i64 0 ∧ s 2 = .int .i64 (ls.length : Int) ∧ s 3 = .int .i64 lim ∧ s 4 = fnCmp ∧ s 10 = .bool true ∧ s 11 = .bool true ∧ H = H') 0 ?_ ?_
  · exact ⟨rfl, rfl, rfl, rfl, rfl, rfl, rfl, rfl⟩
  · rintro m s H' ⟨h0, h1, h2, h3, h4, h10, h11, rfl⟩
    simp (maxSteps := 1000000) (disch := omega) only [h0, h1, h2, h3, h4, h10, h11, wrap64, e0, S, S1, S2, S3, S4, S5, ST, eq_self, reduceIte, reduceCtorEq, Nat.reduceEqDiff, Nat.reduceAdd]
    refine brD.intro (fun g => ?_) (fun g => ?_)
    · simp (maxSteps := 1000000) (disch := omega) only [h0, h1, h2, h3, h4, h10, h11, S, S1, S2, S3, S4, S5, ST, eq_self, reduceIte, reduceCtorEq, Nat.reduceEqDiff, Nat.reduceAdd]
      refine CallH.by (insCmp_c h) ?_
      rintro _ _ rfl
      simp (maxSteps := 1000000) (disch := omega) only [S, S1, S2, S3, S4, S5, ST, eq_self, reduceIte, reduceCtorEq, Nat.reduceEqDiff, Nat.reduceAdd]
      refine hQ _ _ _ ?_
      simp (maxSteps := 1000000) (disch := omega) only [S, S1, S2, S3, S4, S5, ST, eq_self, reduceIte, reduceCtorEq, Nat.reduceEqDiff, Nat.reduceAdd]
      exact List.prefix_refl _
    · have hlim' : lim ≠ 0 := hlim.resolve_right (by omega)
      simp (maxSteps := 1000000) (disch := omega) only [h0, h1, h2, h3, h4, h10, h11, S, S1, S2, S3, S4, S5, ST, eq_self, reduceIte, reduceCtorEq, Nat.reduceEqDiff, Nat.reduceAdd]
      refine brD.intro (fun g2 => absurd g2 hlim') (fun g2 => ?_)
      simp (maxSteps := 1000000) (disch := omega) only [h0, h1, h2, h3, h4, h10, h11, S, S1, S2, S3, S4, S5, ST, eq_self, reduceIte, reduceCtorEq, Nat.reduceEqDiff, Nat.reduceAdd]
      refine CallH.by (choosePivot_c h (by omega)) ?_
      rintro _ A ⟨⟨j, rfl⟩, pA⟩
      simp (maxSteps := 1000000) (disch := omega) only [h0, h1, h2, h3, h4, h10, h11, S, S1, S2, S3, S4, S5, ST, eq_self, reduceIte, reduceCtorEq, Nat.reduceEqDiff, Nat.reduceAdd]
      refine brD.intro (fun g3 => absurd g3 (by decide)) (fun g3 => ?_)
      simp (maxSteps := 1000000) (disch := omega) only [h0, h1, h2, h3, h4, h10, h11, S, S1, S2, S3, S4, S5, ST, eq_self, reduceIte, reduceCtorEq, Nat.reduceEqDiff, Nat.reduceAdd]
      refine CallH.by (partialIns_c (h.pre pA) (by omega)) ?_
      rintro _ _ ⟨rfl, rfl⟩
      simp (maxSteps := 1000000) (disch := omega) only [S, S1, S2, S3, S4, S5, ST, eq_self, reduceIte, reduceCtorEq, Nat.reduceEqDiff, Nat.reduceAdd]
      refine hQ _ _ _ ?_
      simp (maxSteps := 1000000) (disch := omega) only [S, S1, S2, S3, S4, S5, ST, eq_self, reduceIte, reduceCtorEq, Nat.reduceEqDiff, Nat.reduceAdd]
      exact pA
end
end Go.Proofs.YtlfongfhbkefmaaGreat.Ai
namespace Go.Proofs.YtlfongfhbkefmaaGreat.Ai
open Go
def ords90 : List (Nat × List (Nat × Bool)) := []
def cd90 : Cd := (.seq (.reg [⟨⟨some 5, Op.move (Operand.tmp 0), none⟩, []⟩,
  ⟨⟨some 6, Op.call { callee := (Callee.builtin Builtin.len), args := #[(Operand.tmp 5)], argTypes := #[26] }, none⟩, []⟩,
  ⟨⟨some 4, Op.assign (Operand.tmp 6), none⟩, []⟩]) (.reg [⟨⟨some 7, Op.move (Operand.tmp 0), none⟩, []⟩,
  ⟨⟨some 8, Op.move (Operand.tmp 4), none⟩, []⟩,
  ⟨⟨some 9, Op.move (Operand.tmp 4), none⟩, []⟩,
  ⟨⟨some 10, Op.convert 3 108 (Operand.tmp 9), none⟩, []⟩,
  ⟨⟨some 11, Op.call { callee := (Callee.value (Operand.func 129)), args := #[(Operand.tmp 10)], argTypes := #[108] }, none⟩, []⟩,
  ⟨⟨some 12, Op.move (Operand.tmp 1), none⟩, []⟩,
  ⟨⟨some 13, Op.call { callee := (Callee.value (Operand.func 128)), args := #[(Operand.tmp 7), (Operand.const (Value.int IntKind.i64 0)), (Operand.tmp 8), (Operand.tmp 11), (Operand.tmp 12)], argTypes := #[26, 3, 3, 3, 105] }, none⟩, []⟩]))
theorem sl90 : slim Tryz.f90.ntmps ords90 (Tryz.f90.body.getD .skip) = some cd90 := by kernel_rfl
theorem in90 {args : List Value} {H : AH} {R : Value → AH → Prop} (hl : args.length = 2) (h : ∀ (Q : Exit → Sl → AH → Prop), (∀ e s H, endA Tryz.prog [] R e s H → Q e s H) → wpC Tryz.prog cd90 Q (enterA args) H) : ACalls Tryz.prog 90 args H R :=
  ACalls.intro (by kernel_rfl) Tryz.func90 rfl (by kernel_rfl) sl90 hl (of_decide_eq_true (by kernel_rfl)) (by kernel_rfl) h
end Go.Proofs.YtlfongfhbkefmaaGreat.Ai
namespace Go.Proofs.YtlfongfhbkefmaaGreat.Ai
open Go Go.RowKit
set_option linter.unusedVariables false
set_option linter.unusedSimpArgs false
theorem str_at {P : Program} {t : TypeId} (hu : P.underlying t = some .string) (s : ByteArray) (hz : s.size = 256) (hp : ∀ i : Fin 256, 0 < i.1 → 1 ≤ (s.data.getD i.1 0).toNat) (k : IntKind) (n : Nat) (h0 : 0 < n) (h1 : n < 256) : ∃ b : Nat, 1 ≤ b ∧ b < 256 ∧ indexA P t (.string s) (.int k (n : Int)) = some (.int .u8 (b : Int)) := by
  have hl : n < s.data.size := by have : s.data.size = 256 := hz; omega
  have hlt : n < s.size := by omega
  have e1 : s[(n : Int).toNat]? = some s[n] := by rw [Int.toNat_natCast]; simp [hlt]
  have e2 := hp ⟨n, h1⟩ h0
  have e3 : s.data.getD n 0 = s[n] := by
    rw [Array.getD_eq_getD_getElem?, Array.getElem?_eq_getElem hl]; rfl
  refine ⟨s[n].toNat, ?_, UInt8.toNat_lt _, ?_⟩
  · rw [← e3]; exact e2
  · simp only [indexA, hu, if_pos (show (0 : Int) ≤ n by omega), e1]
set_option maxRecDepth 20000 in
theorem Len64b_c (n : Nat) (H : AH) (h0 : 0 < n) (hn : n < 65536) : ACalls Tryz.prog 166 [.int .u64 (n : Int)] H fun r H' => (∃ k : Int, r = .int .i64 k ∧ 1 ≤ k) ∧ H = H' := by
  refine in166 rfl ?_
  intro Q hQ
  have k8 : binA Tryz.prog .shr 86 (.int .u64 (n : Int)) (.int .u64 8) = some (.int .u64 ((n / 256 : Nat) : Int)) := by
    simp only [binA, shiftA]
    rw [if_pos (.inr trivial), if_neg (by decide)]
    congr 2
    have : (2 ^ min (8 : Int).toNat IntKind.u64.bits : Int) = 256 := by decide
    rw [this, Int.fdiv_eq_ediv_of_nonneg _ (by decide)]
    omega
  simp (maxSteps := 1000000) (disch := omega) only [cd166, S, S1, S2, S3, S4, S5, ST, eq_self, reduceIte, reduceCtorEq, Nat.reduceEqDiff, Nat.reduceAdd]
  refine brD.intro (fun h => absurd h (by omega)) (fun _ => ?_)
  simp (maxSteps := 1000000) (disch := omega) only [S, S1, S2, S3, S4, S5, ST, eq_self, reduceIte, reduceCtorEq, Nat.reduceEqDiff, Nat.reduceAdd]
  refine brD.intro (fun h => absurd h (by omega)) (fun _ => ?_)
  simp (maxSteps := 1000000) (disch := omega) only [S, S1, S2, S3, S4, S5, ST, eq_self, reduceIte, reduceCtorEq, Nat.reduceEqDiff, Nat.reduceAdd]
  refine brD.intro (fun h => ?_) (fun h => ?_)
  · have hw : IntKind.u8.wrap ((n / 256 : Nat) : Int) = ((n / 256 : Nat) : Int) := wrapU8 (by omega) (by omega)
    simp (maxSteps := 1000000) (disch := omega) only [k8, hw, wrap64, S, S1, S2, S3, S4, S5, ST, eq_self, reduceIte, reduceCtorEq, Nat.reduceEqDiff, Nat.reduceAdd]
    generalize hs : (ByteArray.mk _) = s
    have hz : s.size = 256 := by rw [← hs]; rfl
    have hp : ∀ i : Fin 256, 0 < i.1 → 1 ≤ (s.data.getD i.1 0).toNat := by rw [← hs]; decide +kernel
    obtain ⟨b, hb1, hb2, hb⟩ := str_at (P := Tryz.prog) Tryz.underlying9 s hz hp .u8 (n / 256) (by omega) (by omega)
    simp (maxSteps := 1000000) (disch := omega) only [hb, wrap64, S, S1, S2, S3, S4, S5, ST, eq_self, reduceIte, reduceCtorEq, Nat.reduceEqDiff, Nat.reduceAdd]
    refine hQ _ _ _ ?_
    simp (maxSteps := 1000000) (disch := omega) only [S, S1, S2, S3, S4, S5, ST, eq_self, reduceIte, reduceCtorEq, Nat.reduceEqDiff, Nat.reduceAdd]
    exact ⟨_, rfl, by omega⟩
  · have hw : IntKind.u8.wrap (n : Int) = (n : Int) := wrapU8 (by omega) (by omega)
    simp (maxSteps := 1000000) (disch := omega) only [hw, wrap64, S, S1, S2, S3, S4, S5, ST, eq_self, reduceIte, reduceCtorEq, Nat.reduceEqDiff, Nat.reduceAdd]
    generalize hs : (ByteArray.mk _) = s
    have hz : s.size = 256 := by rw [← hs]; rfl
    have hp : ∀ i : Fin 256, 0 < i.1 → 1 ≤ (s.data.getD i.1 0).toNat := by rw [← hs]; decide +kernel
    obtain ⟨b, hb1, hb2, hb⟩ := str_at (P := Tryz.prog) Tryz.underlying9 s hz hp .u8 n (by omega) (by omega)
    simp (maxSteps := 1000000) (disch := omega) only [hb, wrap64, S, S1, S2, S3, S4, S5, ST, eq_self, reduceIte, reduceCtorEq, Nat.reduceEqDiff, Nat.reduceAdd]
    refine hQ _ _ _ ?_
    simp (maxSteps := 1000000) (disch := omega) only [S, S1, S2, S3, S4, S5, ST, eq_self, reduceIte, reduceCtorEq, Nat.reduceEqDiff, Nat.reduceAdd]
    exact ⟨_, rfl, by omega⟩
theorem Lenb_c (n : Nat) (H : AH) (h0 : 0 < n) (hn : n < 65536) : ACalls Tryz.prog 129 [.int .u64 (n : Int)] H fun r H' => (∃ k : Int, r = .int .i64 k ∧ 1 ≤ k) ∧ H = H' := by
  refine in129 rfl ?_
  intro Q hQ
  simp (maxSteps := 1000000) (disch := omega) only [cd129, S, S1, S2, S3, S4, S5, ST, eq_self, reduceIte, reduceCtorEq, Nat.reduceEqDiff, Nat.reduceAdd]
  refine CallH.by (Len64b_c n H h0 hn) ?_
  rintro _ _ ⟨⟨k, rfl, hk⟩, rfl⟩
  simp (maxSteps := 1000000) (disch := omega) only [S, S1, S2, S3, S4, S5, ST, eq_self, reduceIte, reduceCtorEq, Nat.reduceEqDiff, Nat.reduceAdd]
  refine hQ _ _ _ ?_
  simp (maxSteps := 1000000) (disch := omega) only [S, S1, S2, S3, S4, S5, ST, eq_self, reduceIte, reduceCtorEq, Nat.reduceEqDiff, Nat.reduceAdd]
  exact ⟨_, rfl, hk⟩
theorem str_z {P : Program} {t : TypeId} (hu : P.underlying t = some .string) (s : ByteArray) (hz : s.size = 256) (k : IntKind) (n : Nat) (h1 : n < 256) : ∃ b : Nat, b < 256 ∧ indexA P t (.string s) (.int k (n : Int)) = some (.int .u8 (b : Int)) := by
  have hlt : n < s.size := by omega
  have e1 : s[(n : Int).toNat]? = some s[n] := by rw [Int.toNat_natCast]; simp [hlt]
  refine ⟨s[n].toNat, UInt8.toNat_lt _, ?_⟩
  simp only [indexA, hu, if_pos (show (0 : Int) ≤ n by omega), e1]
set_option maxRecDepth 20000 in
theorem Len64z_c (n : Nat) (H : AH) (h0 : n = 0) : ACalls Tryz.prog 166 [.int .u64 (n : Int)] H fun r H' => (∃ k : Int, r = .int .i64 k) ∧ H = H' := by
  refine in166 rfl ?_
  intro Q hQ
  simp (maxSteps := 1000000) (disch := omega) only [cd166, S, S1, S2, S3, S4, S5, ST, eq_self, reduceIte, reduceCtorEq, Nat.reduceEqDiff, Nat.reduceAdd]
  refine brD.intro (fun h => absurd h (by omega)) (fun _ => ?_)
  simp (maxSteps := 1000000) (disch := omega) only [S, S1, S2, S3, S4, S5, ST, eq_self, reduceIte, reduceCtorEq, Nat.reduceEqDiff, Nat.reduceAdd]
  refine brD.intro (fun h => absurd h (by omega)) (fun _ => ?_)
  simp (maxSteps := 1000000) (disch := omega) only [S, S1, S2, S3, S4, S5, ST, eq_self, reduceIte, reduceCtorEq, Nat.reduceEqDiff, Nat.reduceAdd]
  refine brD.intro (fun h => absurd h (by omega)) (fun _ => ?_)
  have hw : IntKind.u8.wrap (n : Int) = (n : Int) := wrapU8 (by omega) (by omega)
  simp (maxSteps := 1000000) (disch := omega) only [hw, wrap64, S, S1, S2, S3, S4, S5, ST, eq_self, reduceIte, reduceCtorEq, Nat.reduceEqDiff, Nat.reduceAdd]
  generalize hs : (ByteArray.mk _) = s
  have hz : s.size = 256 := by rw [← hs]; rfl
  obtain ⟨b, hb2, hb⟩ := str_z (P := Tryz.prog) Tryz.underlying9 s hz .u8 n (by omega)
  simp (maxSteps := 1000000) (disch := omega) only [hb, wrap64, S, S1, S2, S3, S4, S5, ST, eq_self, reduceIte, reduceCtorEq, Nat.reduceEqDiff, Nat.reduceAdd]
  refine hQ _ _ _ ?_
  simp (maxSteps := 1000000) (disch := omega) only [S, S1, S2, S3, S4, S5, ST, eq_self, reduceIte, reduceCtorEq, Nat.reduceEqDiff, Nat.reduceAdd]
  exact ⟨_, rfl⟩
theorem Lenz_c (n : Nat) (H : AH) (h0 : n = 0) : ACalls Tryz.prog 129 [.int .u64 (n : Int)] H fun r H' => (∃ k : Int, r = .int .i64 k) ∧ H = H' := by
  refine in129 rfl ?_
  intro Q hQ
  simp (maxSteps := 1000000) (disch := omega) only [cd129, S, S1, S2, S3, S4, S5, ST, eq_self, reduceIte, reduceCtorEq, Nat.reduceEqDiff, Nat.reduceAdd]
  refine CallH.by (Len64z_c n H h0) ?_
  rintro _ _ ⟨⟨k, rfl⟩, rfl⟩
  simp (maxSteps := 1000000) (disch := omega) only [S, S1, S2, S3, S4, S5, ST, eq_self, reduceIte, reduceCtorEq, Nat.reduceEqDiff, Nat.reduceAdd]
  refine hQ _ _ _ ?_
  simp (maxSteps := 1000000) (disch := omega) only [S, S1, S2, S3, S4, S5, ST, eq_self, reduceIte, reduceCtorEq, Nat.reduceEqDiff, Nat.reduceAdd]
  exact ⟨_, rfl⟩
theorem SortFunc_c {H : AH} {v : Value} {us : List Value} {ls : List (List Int)} (h : Sts H v us ls) :
    ACalls Tryz.prog 90 [v, fnCmp] H fun r H' => H <+: H' := by
  refine in90 rfl ?_
  intro Q hQ
  have hb := h.bnd
  have hl := h.len
  have hU : IntKind.u64.wrap (ls.length : Int) = (ls.length : Int) := by rw [IntKind.wrap_u64]; omega
  simp (maxSteps := 1000000) (disch := omega) only [cd90, h.row.len Tryz.underlying26, hl, hU, S, S1, S2, S3, S4, S5, ST, eq_self, reduceIte, reduceCtorEq, Nat.reduceEqDiff, Nat.reduceAdd]
  by_cases h1 : 1 ≤ ls.length
  rotate_left
  · refine CallH.by (Lenz_c ls.length H (by omega)) ?_
    rintro _ _ ⟨⟨k, rfl⟩, rfl⟩
    simp (maxSteps := 1000000) (disch := omega) only [S, S1, S2, S3, S4, S5, ST, eq_self, reduceIte, reduceCtorEq, Nat.reduceEqDiff, Nat.reduceAdd]
    refine CallH.by (pdqCmp_c h k (.inr (by omega))) ?_
    rintro _ B hB
    simp (maxSteps := 1000000) (disch := omega) only [S, S1, S2, S3, S4, S5, ST, eq_self, reduceIte, reduceCtorEq, Nat.reduceEqDiff, Nat.reduceAdd]
    refine hQ _ _ _ ?_
    simp (maxSteps := 1000000) (disch := omega) only [S, S1, S2, S3, S4, S5, ST, eq_self, reduceIte, reduceCtorEq, Nat.reduceEqDiff, Nat.reduceAdd]
    exact hB
  refine CallH.by (Lenb_c ls.length H (by omega) (by omega)) ?_
  rintro _ _ ⟨⟨k, rfl, hk⟩, rfl⟩
  simp (maxSteps := 1000000) (disch := omega) only [S, S1, S2, S3, S4, S5, ST, eq_self, reduceIte, reduceCtorEq, Nat.reduceEqDiff, Nat.reduceAdd]
  refine CallH.by (pdqCmp_c h k (.inl (by omega))) ?_
  rintro _ B hB
  simp (maxSteps := 1000000) (disch := omega) only [S, S1, S2, S3, S4, S5, ST, eq_self, reduceIte, reduceCtorEq, Nat.reduceEqDiff, Nat.reduceAdd]
  refine hQ _ _ _ ?_
  simp (maxSteps := 1000000) (disch := omega) only [S, S1, S2, S3, S4, S5, ST, eq_self, reduceIte, reduceCtorEq, Nat.reduceEqDiff, Nat.reduceAdd]
  exact hB
end Go.Proofs.YtlfongfhbkefmaaGreat.Ai
namespace Go.Proofs.YtlfongfhbkefmaaGreat.Ai
open Go
set_option linter.unusedVariables false
theorem cmpL_pre : ∀ (p a b : List Int), cmpL (p ++ a) (p ++ b) = cmpL a b
  | [], a, b => rfl
  | x :: p, a, b => by
    show cmpL (x :: (p ++ a)) (x :: (p ++ b)) = _
    rw [cmpL]
    have : cmpI x x = 0 := by unfold cmpI; simp
    simp only [this]
    simpa using cmpL_pre p a b
theorem srtL_of {ls : List (List Int)} (h : ls.Pairwise fun x y => 0 < cmpL y x) : SrtL ls := by
  intro i j hij hj
  rw [List.pairwise_iff_getElem] at h
  have := h i j (by omega) hj hij
  have e1 : ls.getD i [] = ls[i] := by simp [show i < ls.length by omega]
  have e2 : ls.getD j [] = ls[j] := by simp [hj]
  rw [e1, e2]; exact this
theorem cmpL_head (p r q : List Int) {e f : Int} (h : e < f) : 0 < cmpL (p ++ f :: q) (p ++ e :: r) := by
  rw [cmpL_pre, cmpL]
  have h1 : cmpI f e = 1 := by
    unfold cmpI
    have a : ¬ f < e := by omega
    simp [a, h]
  rw [h1, if_pos (by decide)]; decide
theorem mall_head {es : List (Int × Int)} {k : Nat} {ed M : List Int} (hk : k ≤ es.length) (hM : M ∈ mall es k ed) : ∃ f q, M = ed ++ f :: q ∧ ((es.length - k : Nat) : Int) ≤ f := by
  obtain ⟨r, h1, h2⟩ := mall_new es k ed hk M hM
  have h3 := mall_longer es k ed M hM
  cases r with
  | nil => rw [h1] at h3; simp at h3
  | cons f q => exact ⟨f, q, h1, (h2 f (by simp)).1⟩
theorem mlpE_pw (es : List (Int × Int)) (j : Nat) : ∀ (k : Nat), k ≤ es.length → ∀ ed, (mlpE es k ed j).Pairwise fun x y => 0 < cmpL y x
  | 0, _, ed => by
    have : mlpE es 0 ed j = [] := rfl
    rw [this]; exact .nil
  | k + 1, hk, ed => by
    have ih := mlpE_pw es j k (by omega)
    rw [mlpE_step, List.pairwise_append]
    refine ⟨?_, ih ed, fun x hx y hy => ?_⟩
    · split
      · by_cases e : (ed ++ [((es.length - (k + 1) : Nat) : Int)]).length = j
        · subst e
          rw [mext_done]; simp
        · rw [mext_loop _ _ _ _ e]; exact ih _
      · exact .nil
    · have hx1 : ∃ r, x = ed ++ ((es.length - (k + 1) : Nat) : Int) :: r := by
        split at hx
        · unfold mext at hx
          rcases List.mem_cons.1 (List.mem_filter.1 hx).1 with rfl | h
          · exact ⟨[], rfl⟩
          · obtain ⟨f, q, h1, _⟩ := mall_head (by omega) h
            exact ⟨f :: q, by rw [h1]; simp⟩
        · simp at hx
      obtain ⟨r, rfl⟩ := hx1
      unfold mlpE at hy
      obtain ⟨f, q, rfl, hf⟩ := mall_head (by omega) (List.mem_filter.1 hy).1
      exact cmpL_head ed r q (by omega)
theorem mext_srt (es : List (Int × Int)) (j : Nat) : SrtL (mext es es.length [] j) := by
  refine srtL_of ?_
  by_cases e : ([] : List Int).length = j
  · subst e
    rw [mext_done]; simp
  · rw [mext_loop _ _ _ _ e]; exact mlpE_pw es j es.length (Nat.le_refl _) []
end Go.Proofs.YtlfongfhbkefmaaGreat.Ai
namespace Go.Proofs.YtlfongfhbkefmaaGreat.Ai
open Go
set_option linter.unusedVariables false
theorem mext_asc {n : Int} {es : List (Int × Int)} (hg : Grd n es) {j : Nat} : ∀ x ∈ mext es es.length [] j, x.Pairwise (· < ·) := by
  have key : ∀ (k : Nat) (ed : List Int), k ≤ es.length → ed.Pairwise (· < ·) → (∀ e ∈ ed, e < ((es.length - k : Nat) : Int)) → ∀ x ∈ mall es k ed, x.Pairwise (· < ·) := by
    intro k
    induction k with
    | zero => intro ed _ _ _ x hx; simp [mall] at hx
    | succ k ih =>
      intro ed hk hp he x hx
      have hp2 : (ed ++ [((es.length - (k + 1) : Nat) : Int)]).Pairwise (· < ·) := by
        rw [List.pairwise_append]
        exact ⟨hp, by simp, fun a ha b hb => by rw [List.mem_singleton.1 hb]; exact he a ha⟩
      simp only [mall, List.mem_append] at hx
      rcases hx with hx | hx
      · split at hx
        · rcases List.mem_cons.1 hx with rfl | hx
          · exact hp2
          · refine ih _ (by omega) hp2 (fun e h => ?_) x hx
            rcases List.mem_append.1 h with h | h
            · have := he e h; omega
            · rw [List.mem_singleton.1 h]; omega
        · simp at hx
      · exact ih ed (by omega) hp (fun e h => by have := he e h; omega) x hx
  intro x hx
  unfold mext at hx
  rcases List.mem_cons.1 (List.mem_filter.1 hx).1 with rfl | h
  · exact .nil
  · exact key es.length [] (Nat.le_refl _) .nil (fun e h => absurd h (by simp)) x h
theorem mext_mtc {n : Int} {es : List (Int × Int)} (hg : Grd n es) {j : Nat} : ∀ x ∈ mext es es.length [] j, Mtc es x := by
  intro x hx
  have hr := mext_asc hg x hx
  have h0 := (List.mem_filter.1 (show x ∈ ([] :: mall es es.length []).filter _ from hx)).1
  have hm : Mgo n es x := by
    rcases List.mem_cons.1 h0 with rfl | h
    · exact Mgo.nil n es
    · exact Mgo.all hg es.length [] (Nat.le_refl _) (Mgo.nil n es) x h
  have hb : ∀ e ∈ x, 0 ≤ e ∧ e < es.length := by
    rcases List.mem_cons.1 h0 with rfl | h
    · simp
    · obtain ⟨r, h1, h2⟩ := mall_new es es.length [] (Nat.le_refl _) x h
      intro e he
      rw [h1, List.nil_append] at he
      have := h2 e he; omega
  intro i hi
  have e1 : x.getD i 0 = x[i] := by simp [hi]
  refine ⟨⟨?_, fun hi0 => ?_⟩, ?_⟩
  · have := hb _ (List.getElem_mem hi)
    rw [e1]; omega
  · have e2 : x.getD (i - 1) 0 = x[i - 1] := by simp [show i - 1 < x.length by omega]
    rw [List.pairwise_iff_getElem] at hr
    have := hr (i - 1) i (by omega) hi (by omega)
    rw [e1, e2]; exact this
  · have hs := seenL_take es x i hi
    have hn : (seenL es (x.take (i + 1))).Nodup := by
      have := hm.1
      rw [← List.take_append_drop (i + 1) x, seenL_append] at this
      exact (List.nodup_append.1 this).1
    rw [hs, List.nodup_append] at hn
    exact ⟨fun h => hn.2.2 _ h _ (by simp) rfl, fun h => hn.2.2 _ h _ (by simp) rfl⟩
theorem perf_mtc {n : Int} {es : List (Int × Int)} (hg : Grd n es) {x : List Int} (hx : x ∈ perfL n es) : Mtc es x ∧ 2 * x.length = n.toNat := by
  unfold perfL at hx
  split at hx
  · simp at hx
  · refine ⟨mext_mtc hg x hx, ?_⟩
    have := mext_lenP (n := n) hx
    omega
theorem perf_srt {n : Int} {es : List (Int × Int)} : SrtL (perfL n es) := by
  unfold perfL
  split
  · intro i j _ hj; simp at hj
  · exact mext_srt es _
theorem asc_nodup {l : List Int} (h : l.Pairwise (· < ·)) : l.Nodup := h.imp fun h e => by omega
section
variable {n : Nat} {es : List (Int × Int)} (hg : Grd (n : Int) es)
include hg
end
/-- one cycle -/
def cyB (n : Nat) (es : List (Int × Int)) (a b : List Int) : Bool := decide ((piecesL (dE es a b) (domL (dE es a b) n n)).length = 1)
end Go.Proofs.YtlfongfhbkefmaaGreat.Ai
namespace Go.Proofs.YtlfongfhbkefmaaGreat.Ai
open Go
def ords41 : List (Nat × List (Nat × Bool)) := []
def cd41 : Cd := (.seq (.reg [⟨⟨some 4, Op.alloc 28, none⟩, []⟩]) (.seq (.reg [⟨⟨some 10, Op.move (Operand.tmp 0), none⟩, []⟩,
  ⟨⟨some 11, Op.build 28 #[(0, (Operand.tmp 10))], none⟩, []⟩,
  ⟨⟨some 5, Op.alloc 28, none⟩, []⟩,
  ⟨⟨none, Op.store 28 (Operand.tmp 5) (Operand.tmp 11), none⟩, []⟩]) (.seq (.reg [⟨⟨some 12, Op.fieldAddr 28 (Operand.tmp 5) 0, none⟩, []⟩,
  ⟨⟨some 13, Op.load 26 (Operand.tmp 12), none⟩, []⟩,
  ⟨⟨some 14, Op.call { callee := (Callee.value (Operand.func 90)), args := #[(Operand.tmp 13), (Operand.func 91)], argTypes := #[26, 105] }, none⟩, []⟩]) (.seq (.seq (.reg [⟨⟨some 15, Op.fieldAddr 28 (Operand.tmp 5) 0, none⟩, []⟩,
  ⟨⟨some 16, Op.load 26 (Operand.tmp 15), none⟩, []⟩,
  ⟨⟨some 17, Op.call { callee := (Callee.builtin Builtin.len), args := #[(Operand.tmp 16)], argTypes := #[26] }, none⟩, []⟩,
  ⟨⟨some 18, Op.move (Operand.const (Value.int IntKind.i64 0)), none⟩, []⟩]) (.block 0 (.loop (.seq (.reg [⟨⟨some 19, Op.binOp BinOp.lss 3 (Operand.tmp 18) (Operand.tmp 17) 3, none⟩, []⟩]) (.seq (.cond (Operand.tmp 19) .skip (.exit 0)) (.seq (.block 1 (.seq (.reg [⟨⟨some 20, Op.move (Operand.tmp 18), none⟩, []⟩,
  ⟨⟨some 21, Op.indexAddr 26 (Operand.tmp 16) (Operand.tmp 18), none⟩, []⟩,
  ⟨⟨some 22, Op.load 38 (Operand.tmp 21), none⟩, []⟩,
  ⟨⟨some 6, Op.assign (Operand.tmp 20), none⟩, []⟩,
  ⟨⟨some 7, Op.assign (Operand.tmp 22), none⟩, []⟩]) (.seq (.reg [⟨⟨some 23, Op.fieldAddr 28 (Operand.tmp 5) 0, none⟩, []⟩,
  ⟨⟨some 24, Op.load 26 (Operand.tmp 23), none⟩, []⟩,
  ⟨⟨some 25, Op.move (Operand.tmp 6), none⟩, []⟩,
  ⟨⟨some 26, Op.binOp BinOp.add 3 (Operand.tmp 25) (Operand.const (Value.int IntKind.i64 1)) 3, none⟩, []⟩,
  ⟨⟨some 27, Op.slice 26 (Operand.tmp 24) (some (Operand.tmp 26)) none none, none⟩, []⟩,
  ⟨⟨some 28, Op.call { callee := (Callee.builtin Builtin.len), args := #[(Operand.tmp 27)], argTypes := #[26] }, none⟩, []⟩,
  ⟨⟨some 29, Op.move (Operand.const (Value.int IntKind.i64 0)), none⟩, []⟩]) (.block 2 (.loop (.seq (.reg [⟨⟨some 30, Op.binOp BinOp.lss 3 (Operand.tmp 29) (Operand.tmp 28) 3, none⟩, []⟩]) (.seq (.cond (Operand.tmp 30) .skip (.exit 2)) (.seq (.block 3 (.seq (.reg [⟨⟨some 31, Op.move (Operand.tmp 29), none⟩, []⟩,
  ⟨⟨some 32, Op.indexAddr 26 (Operand.tmp 27) (Operand.tmp 29), none⟩, []⟩,
  ⟨⟨some 33, Op.load 38 (Operand.tmp 32), none⟩, []⟩,
  ⟨⟨some 8, Op.assign (Operand.tmp 31), none⟩, []⟩,
  ⟨⟨some 9, Op.assign (Operand.tmp 33), none⟩, []⟩]) (.seq (.reg [⟨⟨some 34, Op.move (Operand.tmp 1), none⟩, []⟩,
  ⟨⟨some 35, Op.move (Operand.tmp 7), none⟩, []⟩,
  ⟨⟨some 36, Op.move (Operand.tmp 9), none⟩, []⟩,
  ⟨⟨some 37, Op.call { callee := (Callee.value (Operand.tmp 34)), args := #[(Operand.tmp 35), (Operand.tmp 36)], argTypes := #[38, 38] }, none⟩, []⟩]) (.cond (Operand.tmp 37) (.reg [⟨⟨some 38, Op.fieldAddr 28 (Operand.tmp 5) 1, none⟩, []⟩,
  ⟨⟨some 39, Op.load 22 (Operand.tmp 38), none⟩, []⟩,
  ⟨⟨some 40, Op.move (Operand.tmp 6), none⟩, []⟩,
  ⟨⟨some 41, Op.move (Operand.tmp 6), none⟩, []⟩,
  ⟨⟨some 42, Op.binOp BinOp.add 3 (Operand.tmp 41) (Operand.const (Value.int IntKind.i64 1)) 3, none⟩, []⟩,
  ⟨⟨some 43, Op.move (Operand.tmp 8), none⟩, []⟩,
  ⟨⟨some 44, Op.binOp BinOp.add 3 (Operand.tmp 42) (Operand.tmp 43) 3, none⟩, []⟩,
  ⟨⟨some 45, Op.build 83 #[(0, (Operand.tmp 40)), (1, (Operand.tmp 44))], none⟩, []⟩,
  ⟨⟨some 46, Op.buildSlice 22 1 #[(0, (Operand.tmp 45))], none⟩, []⟩,
  ⟨⟨some 47, Op.call { callee := (Callee.builtin Builtin.append), args := #[(Operand.tmp 39), (Operand.tmp 46)], argTypes := #[22, 22] }, none⟩, []⟩,
  ⟨⟨some 48, Op.fieldAddr 28 (Operand.tmp 5) 1, none⟩, []⟩,
  ⟨⟨none, Op.store 22 (Operand.tmp 48) (Operand.tmp 47), none⟩, []⟩]) .skip)))) (.reg [⟨⟨some 49, Op.binOp BinOp.add 3 (Operand.tmp 29) (Operand.const (Value.int IntKind.i64 1)) 3, none⟩, []⟩,
  ⟨⟨some 29, Op.move (Operand.tmp 49), none⟩, []⟩]))))))))) (.reg [⟨⟨some 50, Op.binOp BinOp.add 3 (Operand.tmp 18) (Operand.const (Value.int IntKind.i64 1)) 3, none⟩, []⟩,
  ⟨⟨some 18, Op.move (Operand.tmp 50), none⟩, []⟩]))))))) (.seq (.reg [⟨⟨some 51, Op.load 28 (Operand.tmp 5), none⟩, []⟩,
  ⟨⟨none, Op.store 28 (Operand.tmp 4) (Operand.tmp 51), none⟩, []⟩]) .ret)))))
theorem sl41 : slim Tryz.f41.ntmps ords41 (Tryz.f41.body.getD .skip) = some cd41 := by kernel_rfl
set_option maxRecDepth 20000 in
theorem in41 {args : List Value} {H : AH} {R : Value → AH → Prop} (hl : args.length = 2) (h : ∀ (Q : Exit → Sl → AH → Prop), (∀ e s H, endA Tryz.prog [ResultVar.cell 4 28] R e s H → Q e s H) → wpC Tryz.prog cd41 Q (enterA args) H) : ACalls Tryz.prog 41 args H R :=
  ACalls.intro (by kernel_rfl) Tryz.func41 rfl (by kernel_rfl) sl41 hl (of_decide_eq_true (by kernel_rfl)) (by kernel_rfl) h
end Go.Proofs.YtlfongfhbkefmaaGreat.Ai
namespace Go.Proofs.YtlfongfhbkefmaaGreat.Ai
open Go Go.RowKit
set_option linter.unusedVariables false
set_option linter.unusedSimpArgs false
theorem alloc_sp (H : AH) : allocA Tryz.prog 28 H = some (.pointer (some ⟨H.length, 0, none⟩), H ++ [.cells [.slice none 0 0, .slice none 0 0] 28 false]) := by kernel_rfl
theorem bld_sp1 (p : Option Addr) (n c : Nat) : buildA Tryz.prog 28 [(0, .slice p n c)] = some (.agg (List.toArray [.slice p n c, .slice none 0 0])) := by kernel_rfl
theorem bld_sp2 (p q : Option Addr) (n c m d : Nat) : buildA Tryz.prog 28 [(0, .slice p n c), (1, .slice q m d)] = some (.agg (List.toArray [.slice p n c, .slice q m d])) := by kernel_rfl
theorem bld_sp0 : buildA Tryz.prog 28 [] = some (.agg (List.toArray [.slice none 0 0, .slice none 0 0])) := by kernel_rfl
theorem st_ss {e : TypeId} {H : AH} {o : Nat} {vs : List Value} (ho : H[o]? = some (.cells vs e false)) (hv : vs.length = 2) (p q : Option Addr) (n c m d : Nat) :
    storeA Tryz.prog 28 (.pointer (some ⟨o, 0, none⟩)) (.agg (List.toArray [.slice p n c, .slice q m d])) H = some (H.set o (.cells [.slice p n c, .slice q m d] e false)) := by
  simp only [storeA, ho, cs28]
  have hcl : (Value.agg (List.toArray [.slice p n c, .slice q m d])).cells.toList = [.slice p n c, .slice q m d] := rfl
  rw [hcl, if_pos ⟨rfl, rfl, by decide, by rw [hv]; exact Nat.le_refl 2⟩]
  have : putAt vs 0 [.slice p n c, .slice q m d] = [.slice p n c, .slice q m d] := by
    unfold putAt
    rw [List.take_zero, List.nil_append, List.drop_of_length_le (by simp; omega), List.append_nil]
  rw [this]
/-- the end of a function with a variable and a value as results -/
theorem end_cell2 (P : Program) (a b : Nat) (t : TypeId) (R : Value → AH → Prop) (s : Sl) (H : AH) (v w : Value) (h : loadA P t (s a) H = some v) (ht : isTup v = false) (hb : s b = w) (hw : isTup w = false) (hr : R (.tuple (List.toArray [v, w])) H) : endA P [.cell a t, .tmp b] R .ret s H := by
  subst hb
  simp only [endA, resA, h, ht]
  simp [hw, outA]
  exact hr
/-- the steps between lists of which something is so -/
def stpI (p : List Int → List Int → Bool) (ls : List (List Int)) (i : Nat) : Nat → List (Int × Int)
  | 0 => []
  | k + 1 => stpI p ls i k ++ if p (ls.getD i []) (ls.getD (i + 1 + k) []) = true then [((i : Int), ((i + 1 + k : Nat) : Int))] else []
def stpO (p : List Int → List Int → Bool) (ls : List (List Int)) : Nat → List (Int × Int)
  | 0 => []
  | i + 1 => stpO p ls i ++ stpI p ls i (ls.length - (i + 1))
theorem stpI_len (p : List Int → List Int → Bool) (ls : List (List Int)) (i k : Nat) : (stpI p ls i k).length ≤ k := by
  induction k with
  | zero => simp [stpI]
  | succ k ih => simp only [stpI, List.length_append]; split <;> simp <;> omega
theorem stpO_len (p : List Int → List Int → Bool) (ls : List (List Int)) (i : Nat) : (stpO p ls i).length ≤ i * ls.length := by
  induction i with
  | zero => simp [stpO]
  | succ i ih =>
    have := stpI_len p ls i (ls.length - (i + 1))
    simp only [stpO, List.length_append, Nat.add_mul, Nat.one_mul]
    omega
abbrev steps (p : List Int → List Int → Bool) (ls : List (List Int)) : List (Int × Int) := stpO p ls ls.length
/-- is a step between two lists: a function of the program's -/
def StepFn (HB : AH) (fS : FuncId) (caps : List Value) (ls : List (List Int)) (p : List Int → List Int → Bool) : Prop :=
  ∀ (a b : Value) (x y : List Int) (H : AH), HB <+: H → Row 3 H a x → Row 3 H b y → x ∈ ls → y ∈ ls → ACalls Tryz.prog fS (a :: b :: caps) H fun r H' => r = .bool (p x y) ∧ H <+: H'
set_option maxRecDepth 20000 in
set_option maxHeartbeats 4000000 in
theorem spaceOf_c {HB H : AH} {v : Value} {us : List Value} {ls : List (List Int)} (h : Sts H v us ls) (hls : ls.length ≤ 1000) (fS : FuncId) (caps : List Value) (p : List Int → List Int → Bool) (hS : StepFn HB fS caps ls p) (hp : HB <+: H) :
    ACalls Tryz.prog 41 [v, .func (.func fS) #[] (List.toArray caps)] H fun r H' => ∃ st, r = .agg (List.toArray [v, st]) ∧ MineP 83 H H' st (steps p ls) ∧ H <+: H' := by
  refine in41 rfl ?_
  intro Q hQ
  have hul := h.len
  obtain ⟨pv, hpv⟩ := h.row.shape
  have hb1 := bld_sp1 pv us.length us.length
  rw [← hpv] at hb1
  simp (maxSteps := 1000000) (disch := omega) only [cd41, alloc_sp, hb1, S, S1, S2, S3, S4, S5, ST, eq_self, reduceIte, reduceCtorEq, Nat.reduceEqDiff, Nat.reduceAdd]
  generalize hA : H ++ [AObj.cells [.slice none 0 0, .slice none 0 0] 28 false] = A
  have pA : H <+: A := by rw [← hA]; exact List.prefix_append _ _
  have cA : A[H.length]? = some (.cells [.slice none 0 0, .slice none 0 0] 28 false) := by rw [← hA]; exact at_new ..
  have lA : A.length = H.length + 1 := by rw [← hA]; simp
  have st1 := st_ss (at_new A (.cells [.slice none 0 0, .slice none 0 0] 28 false)) rfl pv none us.length us.length 0 0
  rw [set_new, ← hpv] at st1
  simp (maxSteps := 1000000) (disch := omega) only [st1, cell_new, S, S1, S2, S3, S4, S5, ST, eq_self, reduceIte, reduceCtorEq, Nat.reduceEqDiff, Nat.reduceAdd]
  generalize hB : A ++ [AObj.cells [v, .slice none 0 0] 28 false] = B
  have pB : A <+: B := by rw [← hB]; exact List.prefix_append _ _
  have cB : B[A.length]? = some (.cells [v, .slice none 0 0] 28 false) := by rw [← hB]; exact at_new ..
  have lB : B.length = A.length + 1 := by rw [← hB]; simp
  have pHB := pA.trans pB
  refine CallH.by (SortFunc_c (h.pre pHB)) ?_
  rintro _ C pC
  have pHC := pHB.trans pC
  have lC := pC.length_le
  have cC := pre_at pC cB
  have cC0 := pre_at (pB.trans pC) cA
  simp (maxSteps := 1000000) (disch := omega) only [cell_of cC, h.row.len Tryz.underlying26, hul, S, S1, S2, S3, S4, S5, ST, eq_self, reduceIte, reduceCtorEq, Nat.reduceEqDiff, Nat.reduceAdd]
  refine LoopH.by (fun m s H' => ∃ i st, m + i = ls.length ∧ s 1 = .func (.func fS) #[] (List.toArray caps) ∧ s 4 = .pointer (some ⟨H.length, 0, none⟩) ∧ s 5 = .pointer (some ⟨A.length, 0, none⟩) ∧ s 16 = v ∧ s 17 = .int .i64 (ls.length : Int) ∧ s 18 = .int .i64 ((i : Nat) : Int) ∧ H'[A.length]? = some (.cells [v, st] 28 false) ∧ H'[H.length]? = some (.cells [.slice none 0 0, .slice none 0 0] 28 false) ∧ (st = .slice none 0 0 ∨ B.length ≤ rowO st) ∧ MineP 83 H H' st (stpO p ls i) ∧ H <+: H') ls.length ?_ ?_
  · exact ⟨0, .slice none 0 0, by simp, rfl, rfl, rfl, rfl, rfl, rfl, cC, cC0, .inl rfl, .inl ⟨rfl, rfl⟩, pHC⟩
  rintro m s H' ⟨i, st, hm, s1, s4, s5, s16, s17, s18, hc5, hc4, hst, hmn, hpp⟩
  simp (maxSteps := 1000000) (disch := omega) only [s1, s4, s5, s16, s17, s18, S, S1, S2, S3, S4, S5, ST, eq_self, reduceIte, reduceCtorEq, Nat.reduceEqDiff, Nat.reduceAdd]
  refine brD.intro (fun g => ?_) (fun g => ?_)
  rotate_left
  · have hi : i = ls.length := by omega
    subst hi
    have hst2 : isTup st = false := hmn.row.tup
    obtain ⟨q, hq⟩ := hmn.row.shape
    have hstA := st_ss hc4 rfl pv q us.length us.length (stpO p ls ls.length).length (stpO p ls ls.length).length
    rw [← hpv, ← hq] at hstA
    simp (maxSteps := 1000000) (disch := omega) only [s4, s5, ld_agg ag28 cs28 hc5, hstA, S, S1, S2, S3, S4, S5, ST, eq_self, reduceIte, reduceCtorEq, Nat.reduceEqDiff, Nat.reduceAdd]
    have d4 := at_set (d := .cells [v, st] 28 false) hc4
    refine hQ _ _ _ (end_cell _ _ _ _ _ _ (.agg (List.toArray [v, st])) ?_ rfl ⟨st, rfl, ?_, ?_⟩)
    · simp (maxSteps := 1000000) (disch := omega) only [s4, ld_agg ag28 cs28 d4, S, S1, S2, S3, S4, S5, ST, eq_self, reduceIte, reduceCtorEq, Nat.reduceEqDiff, Nat.reduceAdd]
    · rcases hst with e | e
      · rcases hmn with hm0 | ⟨o, zs, q1, _⟩
        · exact .inl hm0
        · rw [e] at q1; cases q1
      · refine hmn.keepL ?_
        intro hl y hy
        rw [List.getElem?_set_ne (by omega)]
        exact hy
    · exact pre_set hpp (Nat.le_refl _) _
  have hi : i < ls.length := by omega
  have hH' := h.pre hpp
  have hci := hH'.cell hi
  have hri := hH'.each i hi
  have hmi : ls.getD i [] ∈ ls := by simp [hi]
  have hsl := hH'.row.slice (P := Tryz.prog) (t := 26) Tryz.underlying26 cs38 (bound_some (k := .i64) (i := (i : Int) + 1) (by omega) 0) (hi_none us.length) (show ((i : Int) + 1).toNat ≤ us.length by omega) (Nat.le_refl _)
  have hi1 : ((i : Int) + 1).toNat = i + 1 := by omega
  rw [hi1] at hsl
  obtain ⟨hsl1, hsl2, hsl3⟩ := hsl
  have hdl : (us.drop (i + 1)).take (us.length - (i + 1)) = us.drop (i + 1) := by rw [List.take_of_length_le (by simp)]
  rw [hdl] at hsl2
  have hdn : ((us.drop (i + 1)).length : Int) = ((ls.length - (i + 1) : Nat) : Int) := by simp; omega
  simp (maxSteps := 1000000) (disch := omega) only [s1, s4, s5, s16, s17, s18, hH'.row.ix Tryz.underlying26 cs38, Int.toNat_natCast, hci, cell_of hc5, wrap64, hsl1, hsl2.len Tryz.underlying26, hdn, S, S1, S2, S3, S4, S5, ST, eq_self, reduceIte, reduceCtorEq, Nat.reduceEqDiff, Nat.reduceAdd]
  refine LoopH.by (fun m' s' H'' => ∃ j st', m' + j = ls.length - (i + 1) ∧ s' 1 = .func (.func fS) #[] (List.toArray caps) ∧ s' 4 = .pointer (some ⟨H.length, 0, none⟩) ∧ s' 5 = .pointer (some ⟨A.length, 0, none⟩) ∧ s' 6 = .int .i64 ((i : Nat) : Int) ∧ s' 7 = us.getD i undef ∧ s' 16 = v ∧ s' 17 = .int .i64 (ls.length : Int) ∧ s' 18 = .int .i64 ((i : Nat) : Int) ∧ s' 27 = subV v (i + 1) us.length ∧ s' 28 = .int .i64 ((ls.length - (i + 1) : Nat) : Int) ∧ s' 29 = .int .i64 ((j : Nat) : Int) ∧ H''[A.length]? = some (.cells [v, st'] 28 false) ∧ H''[H.length]? = some (.cells [.slice none 0 0, .slice none 0 0] 28 false) ∧ (st' = .slice none 0 0 ∨ B.length ≤ rowO st') ∧ MineP 83 H H'' st' (stpO p ls i ++ stpI p ls i j) ∧ H <+: H'') (ls.length - (i + 1)) ?_ ?_
  · refine ⟨0, st, by simp, ?_⟩
    simp only [S, S1, S2, S3, S4, S5, ST, eq_self, reduceIte, reduceCtorEq, Nat.reduceEqDiff, Nat.reduceAdd, s1, s4, s5, s16, s17, s18]
    have f0 : MineP 83 H H' st (stpO p ls i ++ stpI p ls i 0) := by rw [stpI, List.append_nil]; exact hmn
    (repeat' first | exact hc5 | exact hc4 | exact hst | exact f0 | exact hpp | apply And.intro) <;> first | (simp only [Value.int.injEq, true_and]; omega) | omega | rfl | assumption | (simp; done) | (simp; omega)
  · rintro m' s' H'' ⟨j, st', hm', g1, g4, g5, g6, g7, g16, g17, g18, g27, g28, g29, hc5', hc4', hst', hmn', hpp'⟩
    simp (maxSteps := 1000000) (disch := omega) only [g1, g4, g5, g6, g7, g16, g17, g18, g27, g28, g29, S, S1, S2, S3, S4, S5, ST, eq_self, reduceIte, reduceCtorEq, Nat.reduceEqDiff, Nat.reduceAdd]
    refine brD.intro (fun q => ?_) (fun q => ?_)
    · have hj : i + 1 + j < ls.length := by omega
      have hH2 := h.pre hpp'
      have hsl' := hH2.row.slice (P := Tryz.prog) (t := 26) Tryz.underlying26 cs38 (bound_some (k := .i64) (i := (i : Int) + 1) (by omega) 0) (hi_none us.length) (show ((i : Int) + 1).toNat ≤ us.length by omega) (Nat.le_refl _)
      rw [hi1, hdl] at hsl'
      obtain ⟨_, hsr, _⟩ := hsl'
      have hjd : j < (us.drop (i + 1)).length := by simp; omega
      have hcj := hsr.cell hjd
      have hdd : (us.drop (i + 1)).getD j undef = us.getD (i + 1 + j) undef := by
        rw [List.getD_eq_getElem?_getD, List.getD_eq_getElem?_getD, List.getElem?_drop]
      rw [hdd] at hcj
      have hmj : ls.getD (i + 1 + j) [] ∈ ls := by simp [hj]
      simp (maxSteps := 1000000) (disch := omega) only [g1, g4, g5, g6, g7, g16, g17, g18, g27, g28, g29, hsr.ix Tryz.underlying26 cs38, Int.toNat_natCast, hcj, S, S1, S2, S3, S4, S5, ST, eq_self, reduceIte, reduceCtorEq, Nat.reduceEqDiff, Nat.reduceAdd]
      refine CallH.by (hS _ _ _ _ H'' (hp.trans hpp') (hH2.each i hi) (hH2.each (i + 1 + j) hj) hmi hmj) ?_
      rintro _ D ⟨rfl, pD⟩
      have hcD5 := pre_at pD hc5'
      have hcD4 := pre_at pD hc4'
      have hpD := hpp'.trans pD
      have hmD := hmn'.pre pD
      have hsl1 := stpO_len p ls i
      have hsl2 := stpI_len p ls i j
      have hmul : i * ls.length ≤ 1000 * 1000 := Nat.mul_le_mul (by omega) hls
      have lD := hpD.length_le
      have l5 := at_lt hc5'
      simp (maxSteps := 1000000) (disch := omega) only [S, S1, S2, S3, S4, S5, ST, eq_self, reduceIte, reduceCtorEq, Nat.reduceEqDiff, Nat.reduceAdd]
      refine brH.intro (fun e => ?_) (fun e => ?_)
      · have hstep : stpI p ls i (j + 1) = stpI p ls i j ++ [((i : Int), ((i + 1 + j : Nat) : Int))] := by rw [stpI, if_pos e]
        obtain ⟨st2, H3, k1, k2, k3, k4, k5, k6⟩ := own1_22 hmD hpD (by rw [List.length_append]; omega) (i : Int) ((i + 1 + j : Nat) : Int)
        have hne : st' = .slice none 0 0 ∨ ∀ o, o < B.length → o ≠ rowO st' := hst'.imp id fun q o ho => by omega
        have d5 : H3[A.length]? = some (.cells [v, st'] 28 false) := k4 _ _ (hne.imp id fun q => q _ (by omega)) hcD5
        have d4 : H3[H.length]? = some (.cells [.slice none 0 0, .slice none 0 0] 28 false) := k4 _ _ (hne.imp id fun q => q _ (by omega)) hcD4
        obtain ⟨q2, hq2⟩ := k2.row.shape
        have t1 : isTup st2 = false := k6
        have t2 : st2.cells.toList = [st2] := by rw [hq2]; rfl
        have hst3 := st_at (P := Tryz.prog) (t := 22) (i := 1) (y := st2) cs22 d5 (by show 1 < 2; decide) t1 t2
        have hidx : (i : Int) + 1 + (j : Int) = ((i + 1 + j : Nat) : Int) := by omega
        have lDB : B.length ≤ D.length := by have := hpp'.length_le; have := pD.length_le; omega
        simp (maxSteps := 1000000) (disch := omega) only [e, g1, g4, g5, g6, g7, g16, g17, g18, g27, g28, g29, cell_of hcD5, build_a2, wrap64, hidx, k1, hst3, S, S1, S2, S3, S4, S5, ST, eq_self, reduceIte, reduceCtorEq, Nat.reduceEqDiff, Nat.reduceAdd]
        have f5 : (H3.set A.length (.cells ([v, st'].set 1 st2) 28 false))[A.length]? = some (.cells [v, st2] 28 false) := by
          rw [List.getElem?_set_self (at_lt d5)]; rfl
        have f4 : (H3.set A.length (.cells ([v, st'].set 1 st2) 28 false))[H.length]? = some (.cells [.slice none 0 0, .slice none 0 0] 28 false) := by
          rw [List.getElem?_set_ne (by omega)]; exact d4
        have fs' : st2 = .slice none 0 0 ∨ B.length ≤ rowO st2 := .inr (by omega)
        have fm : MineP 83 H (H3.set A.length (.cells ([v, st'].set 1 st2) 28 false)) st2 (stpO p ls i ++ stpI p ls i (j + 1)) := by
          rw [hstep, ← List.append_assoc]
          exact k2.keepL fun hl y hy => by rw [List.getElem?_set_ne (by omega)]; exact hy
        have fp : H <+: H3.set A.length (.cells ([v, st'].set 1 st2) 28 false) := pre_set k3 (by omega) _
        refine ⟨m' - 1, by omega, j + 1, st2, ?_⟩
        (repeat' first | exact f5 | exact f4 | exact fs' | exact fm | exact fp | apply And.intro) <;> first | (simp only [Value.int.injEq, true_and]; omega) | omega | rfl | assumption | (simp; done) | (simp; omega)
      · have hstep : stpI p ls i (j + 1) = stpI p ls i j := by rw [stpI, if_neg (by rw [e]; decide), List.append_nil]
        rw [← hstep] at hmD
        simp (maxSteps := 1000000) (disch := omega) only [e, g1, g4, g5, g6, g7, g16, g17, g18, g27, g28, g29, wrap64, S, S1, S2, S3, S4, S5, ST, eq_self, reduceIte, reduceCtorEq, Nat.reduceEqDiff, Nat.reduceAdd]
        refine ⟨m' - 1, by omega, j + 1, st', ?_⟩
        (repeat' first | exact hcD5 | exact hcD4 | exact hst' | exact hmD | exact hpD | apply And.intro) <;> first | (simp only [Value.int.injEq, true_and]; omega) | omega | rfl | assumption | (simp; done) | (simp; omega)
    · have hjj : j = ls.length - (i + 1) := by omega
      subst hjj
      have hstO : stpO p ls (i + 1) = stpO p ls i ++ stpI p ls i (ls.length - (i + 1)) := rfl
      rw [← hstO] at hmn'
      simp (maxSteps := 1000000) (disch := omega) only [g1, g4, g5, g6, g7, g16, g17, g18, g27, g28, g29, wrap64, S, S1, S2, S3, S4, S5, ST, eq_self, reduceIte, reduceCtorEq, Nat.reduceEqDiff, Nat.reduceAdd]
      refine ⟨m - 1, by omega, i + 1, st', ?_⟩
      (repeat' first | exact hc5' | exact hc4' | exact hst' | exact hmn' | exact hpp' | apply And.intro) <;> first | (simp only [Value.int.injEq, true_and]; omega) | omega | rfl | assumption | (simp; done) | (simp; omega)
end Go.Proofs.YtlfongfhbkefmaaGreat.Ai
namespace Go.Proofs.YtlfongfhbkefmaaGreat.Ai
open Go
def ords18 : List (Nat × List (Nat × Bool)) := [(6, [(0, false), (1, false), (2, false), (3, false), (4, false), (5, false), (6, false), (7, false), (8, true), (9, false)])]
def cd18 : Cd := (.seq (.reg [⟨⟨some 4, Op.assign (Operand.const (Value.bool false)), none⟩, []⟩]) (.seq (.seq (.reg [⟨⟨some 6, Op.move (Operand.tmp 0), none⟩, []⟩,
  ⟨⟨some 7, Op.call { callee := (Callee.builtin Builtin.len), args := #[(Operand.tmp 6)], argTypes := #[26] }, none⟩, []⟩,
  ⟨⟨some 8, Op.move (Operand.tmp 1), none⟩, []⟩,
  ⟨⟨some 9, Op.call { callee := (Callee.builtin Builtin.len), args := #[(Operand.tmp 8)], argTypes := #[26] }, none⟩, []⟩,
  ⟨⟨some 10, Op.binOp BinOp.neq 3 (Operand.tmp 7) (Operand.tmp 9) 3, none⟩, []⟩]) (.cond (Operand.tmp 10) (.seq (.reg [⟨⟨some 4, Op.assign (Operand.const (Value.bool false)), none⟩, []⟩]) .ret) .skip)) (.seq (.seq (.reg [⟨⟨some 5, Op.assign (Operand.const (Value.int IntKind.i64 0)), none⟩, []⟩]) (.block 0 (.loop (.seq (.seq (.reg [⟨⟨some 11, Op.move (Operand.tmp 5), none⟩, []⟩,
  ⟨⟨some 12, Op.move (Operand.tmp 0), none⟩, []⟩,
  ⟨⟨some 13, Op.call { callee := (Callee.builtin Builtin.len), args := #[(Operand.tmp 12)], argTypes := #[26] }, none⟩, []⟩,
  ⟨⟨some 14, Op.binOp BinOp.lss 3 (Operand.tmp 11) (Operand.tmp 13) 3, none⟩, []⟩]) (.cond (Operand.tmp 14) .skip (.exit 0))) (.seq (.block 1 (.seq (.reg [⟨⟨some 17, Op.move (Operand.tmp 0), none⟩, []⟩,
  ⟨⟨some 18, Op.move (Operand.tmp 5), none⟩, []⟩,
  ⟨⟨some 19, Op.indexAddr 26 (Operand.tmp 17) (Operand.tmp 18), none⟩, []⟩,
  ⟨⟨some 20, Op.load 38 (Operand.tmp 19), none⟩, []⟩,
  ⟨⟨some 21, Op.move (Operand.tmp 1), none⟩, []⟩,
  ⟨⟨some 22, Op.move (Operand.tmp 5), none⟩, []⟩,
  ⟨⟨some 23, Op.indexAddr 26 (Operand.tmp 21) (Operand.tmp 22), none⟩, []⟩,
  ⟨⟨some 24, Op.load 38 (Operand.tmp 23), none⟩, []⟩,
  ⟨⟨some 25, Op.call { callee := (Callee.value (Operand.func 19)), args := #[(Operand.tmp 20), (Operand.tmp 24)], argTypes := #[38, 38] }, none⟩, []⟩,
  ⟨⟨some 26, Op.unOp UnOp.not 4 (Operand.tmp 25), none⟩, []⟩]) (.cond (Operand.tmp 26) (.seq (.reg [⟨⟨some 4, Op.assign (Operand.const (Value.bool false)), none⟩, []⟩]) .ret) .skip))) (.reg [⟨⟨some 15, Op.move (Operand.tmp 5), none⟩, []⟩,
  ⟨⟨some 16, Op.binOp BinOp.add 3 (Operand.tmp 15) (Operand.const (Value.int IntKind.i64 1)) 3, none⟩, []⟩,
  ⟨⟨some 5, Op.assign (Operand.tmp 16), none⟩, []⟩])))))) (.seq (.reg [⟨⟨some 4, Op.assign (Operand.const (Value.bool true)), none⟩, []⟩]) .ret))))
theorem sl18 : slim Tryz.f18.ntmps ords18 (Tryz.f18.body.getD .skip) = some cd18 := by kernel_rfl
theorem in18 {args : List Value} {H : AH} {R : Value → AH → Prop} (hl : args.length = 2) (h : ∀ (Q : Exit → Sl → AH → Prop), (∀ e s H, endA Tryz.prog [ResultVar.tmp 4] R e s H → Q e s H) → wpC Tryz.prog cd18 Q (enterA args) H) : ACalls Tryz.prog 18 args H R :=
  ACalls.intro (by kernel_rfl) Tryz.func18 rfl (by kernel_rfl) sl18 hl (of_decide_eq_true (by kernel_rfl)) (by kernel_rfl) h
def ords22 : List (Nat × List (Nat × Bool)) := []
def cd22 : Cd := (.seq (.reg [⟨⟨some 4, Op.assign (Operand.const (Value.int IntKind.i64 0)), none⟩, []⟩]) (.seq (.seq (.reg [⟨⟨some 5, Op.assign (Operand.const (Value.int IntKind.i64 0)), none⟩, []⟩]) (.block 0 (.loop (.seq (.seq (.reg [⟨⟨some 6, Op.move (Operand.tmp 5), none⟩, []⟩,
  ⟨⟨some 7, Op.move (Operand.tmp 0), none⟩, []⟩,
  ⟨⟨some 8, Op.call { callee := (Callee.builtin Builtin.len), args := #[(Operand.tmp 7)], argTypes := #[26] }, none⟩, []⟩,
  ⟨⟨some 9, Op.binOp BinOp.lss 3 (Operand.tmp 6) (Operand.tmp 8) 3, none⟩, []⟩]) (.cond (Operand.tmp 9) .skip (.exit 0))) (.seq (.block 1 (.seq (.reg [⟨⟨some 12, Op.move (Operand.tmp 0), none⟩, []⟩,
  ⟨⟨some 13, Op.move (Operand.tmp 5), none⟩, []⟩,
  ⟨⟨some 14, Op.indexAddr 26 (Operand.tmp 12) (Operand.tmp 13), none⟩, []⟩,
  ⟨⟨some 15, Op.load 38 (Operand.tmp 14), none⟩, []⟩,
  ⟨⟨some 16, Op.move (Operand.tmp 1), none⟩, []⟩,
  ⟨⟨some 17, Op.call { callee := (Callee.value (Operand.func 55)), args := #[(Operand.tmp 15), (Operand.tmp 16)], argTypes := #[38, 3] }, none⟩, []⟩,
  ⟨⟨some 1, Op.assign (Operand.tmp 17), none⟩, []⟩]) (.seq (.reg [⟨⟨some 18, Op.move (Operand.tmp 1), none⟩, []⟩,
  ⟨⟨some 19, Op.binOp BinOp.lss 3 (Operand.tmp 18) (Operand.const (Value.int IntKind.i64 0)) 3, none⟩, []⟩]) (.cond (Operand.tmp 19) (.seq (.reg [⟨⟨some 4, Op.assign (Operand.const (Value.int IntKind.i64 (-1))), none⟩, []⟩]) .ret) .skip)))) (.reg [⟨⟨some 10, Op.move (Operand.tmp 5), none⟩, []⟩,
  ⟨⟨some 11, Op.binOp BinOp.add 3 (Operand.tmp 10) (Operand.const (Value.int IntKind.i64 1)) 3, none⟩, []⟩,
  ⟨⟨some 5, Op.assign (Operand.tmp 11), none⟩, []⟩])))))) (.seq (.reg [⟨⟨some 20, Op.move (Operand.tmp 1), none⟩, []⟩,
  ⟨⟨some 4, Op.assign (Operand.tmp 20), none⟩, []⟩]) .ret)))
theorem sl22 : slim Tryz.f22.ntmps ords22 (Tryz.f22.body.getD .skip) = some cd22 := by kernel_rfl
theorem in22 {args : List Value} {H : AH} {R : Value → AH → Prop} (hl : args.length = 2) (h : ∀ (Q : Exit → Sl → AH → Prop), (∀ e s H, endA Tryz.prog [ResultVar.tmp 4] R e s H → Q e s H) → wpC Tryz.prog cd22 Q (enterA args) H) : ACalls Tryz.prog 22 args H R :=
  ACalls.intro (by kernel_rfl) Tryz.func22 rfl (by kernel_rfl) sl22 hl (of_decide_eq_true (by kernel_rfl)) (by kernel_rfl) h
def ords21 : List (Nat × List (Nat × Bool)) := []
def cd21 : Cd := (.seq (.reg [⟨⟨some 4, Op.assign (Operand.const (Value.int IntKind.i64 0)), none⟩, []⟩]) (.seq (.seq (.reg [⟨⟨some 5, Op.assign (Operand.const (Value.int IntKind.i64 0)), none⟩, []⟩]) (.block 0 (.loop (.seq (.seq (.reg [⟨⟨some 6, Op.move (Operand.tmp 5), none⟩, []⟩,
  ⟨⟨some 7, Op.move (Operand.tmp 0), none⟩, []⟩,
  ⟨⟨some 8, Op.call { callee := (Callee.builtin Builtin.len), args := #[(Operand.tmp 7)], argTypes := #[26] }, none⟩, []⟩,
  ⟨⟨some 9, Op.binOp BinOp.lss 3 (Operand.tmp 6) (Operand.tmp 8) 3, none⟩, []⟩]) (.cond (Operand.tmp 9) .skip (.exit 0))) (.seq (.block 1 (.reg [⟨⟨some 12, Op.move (Operand.tmp 0), none⟩, []⟩,
  ⟨⟨some 13, Op.move (Operand.tmp 5), none⟩, []⟩,
  ⟨⟨some 14, Op.indexAddr 26 (Operand.tmp 12) (Operand.tmp 13), none⟩, []⟩,
  ⟨⟨some 15, Op.load 38 (Operand.tmp 14), none⟩, []⟩,
  ⟨⟨some 16, Op.move (Operand.tmp 1), none⟩, []⟩,
  ⟨⟨some 17, Op.call { callee := (Callee.value (Operand.func 20)), args := #[(Operand.tmp 15), (Operand.tmp 16)], argTypes := #[38, 3] }, none⟩, []⟩,
  ⟨⟨some 1, Op.assign (Operand.tmp 17), none⟩, []⟩])) (.reg [⟨⟨some 10, Op.move (Operand.tmp 5), none⟩, []⟩,
  ⟨⟨some 11, Op.binOp BinOp.add 3 (Operand.tmp 10) (Operand.const (Value.int IntKind.i64 1)) 3, none⟩, []⟩,
  ⟨⟨some 5, Op.assign (Operand.tmp 11), none⟩, []⟩])))))) (.seq (.reg [⟨⟨some 18, Op.move (Operand.tmp 1), none⟩, []⟩,
  ⟨⟨some 4, Op.assign (Operand.tmp 18), none⟩, []⟩]) .ret)))
theorem sl21 : slim Tryz.f21.ntmps ords21 (Tryz.f21.body.getD .skip) = some cd21 := by kernel_rfl
theorem in21 {args : List Value} {H : AH} {R : Value → AH → Prop} (hl : args.length = 2) (h : ∀ (Q : Exit → Sl → AH → Prop), (∀ e s H, endA Tryz.prog [ResultVar.tmp 4] R e s H → Q e s H) → wpC Tryz.prog cd21 Q (enterA args) H) : ACalls Tryz.prog 21 args H R :=
  ACalls.intro (by kernel_rfl) Tryz.func21 rfl (by kernel_rfl) sl21 hl (of_decide_eq_true (by kernel_rfl)) (by kernel_rfl) h
end Go.Proofs.YtlfongfhbkefmaaGreat.Ai
namespace Go.Proofs.YtlfongfhbkefmaaGreat.Ai
open Go Go.RowKit
set_option linter.unusedVariables false
set_option linter.unusedSimpArgs false
set_option maxHeartbeats 1000000 in
theorem eqIntSS_c (v w : Value) (ls ms : List (List Int)) (H : AH) {b b' : Nat} (hr : RowLB b 38 3 H v ls) (hr2 : RowLB b' 38 3 H w ms) (hlen : ls.length ≤ 1099511627776) (hsz : sizeL ls ≤ 1099511627776) :
    ACalls Tryz.prog 18 [v, w] H fun r H' => r = .bool (decide (ls = ms)) ∧ H = H' := by
  obtain ⟨us, hv, _, hul, hu⟩ := hr
  obtain ⟨ws, hw, _, hwl, hwr⟩ := hr2
  have hvl := hv.len Tryz.underlying26
  have hwln := hw.len Tryz.underlying26
  rw [hul] at hvl
  rw [hwl] at hwln
  refine in18 rfl ?_
  intro Q hQ
  simp (maxSteps := 1000000) (disch := omega) only [cd18, hvl, hwln, S, S1, S2, S3, S4, S5, ST, eq_self, reduceIte, reduceCtorEq, Nat.reduceEqDiff, Nat.reduceAdd]
  refine brD.intro (fun g => ?_) (fun g => ?_) <;> simp (maxSteps := 1000000) (disch := omega) only [hvl, S, S1, S2, S3, S4, S5, ST, eq_self, reduceIte, reduceCtorEq, Nat.reduceEqDiff, Nat.reduceAdd]
  · refine hQ _ _ _ ?_
    simp (maxSteps := 1000000) (disch := omega) only [S, S1, S2, S3, S4, S5, ST, eq_self, reduceIte, reduceCtorEq, Nat.reduceEqDiff, Nat.reduceAdd]
    have : ls ≠ ms := fun e => g (by rw [e])
    simp [this]
  · have hl : ls.length = ms.length := by omega
    refine LoopH.by (fun m s H' => ∃ i, m + i = ls.length ∧ s 0 = v ∧ s 1 = w ∧ s 5 = .int .i64 ((i : Nat) : Int) ∧ H = H' ∧ ls.take i = ms.take i) ls.length ?_ ?_
    · exact ⟨0, by simp, rfl, rfl, rfl, rfl, by simp⟩
    · rintro m s H' ⟨i, hm, h0, h1, h5, rfl, hn⟩
      simp (maxSteps := 1000000) (disch := omega) only [h0, h1, h5, hvl, S, S1, S2, S3, S4, S5, ST, eq_self, reduceIte, reduceCtorEq, Nat.reduceEqDiff, Nat.reduceAdd]
      refine brD.intro (fun g => ?_) (fun g => ?_) <;> simp (maxSteps := 1000000) (disch := omega) only [h0, h1, h5, hv.ix Tryz.underlying26 cs38, hv.cell, hw.ix Tryz.underlying26 cs38, hw.cell, Int.toNat_natCast, S, S1, S2, S3, S4, S5, ST, eq_self, reduceIte, reduceCtorEq, Nat.reduceEqDiff, Nat.reduceAdd]
      · have hi : i < ls.length := by omega
        have hg : ls.getD i [] = ls[i] := by simp [hi]
        have hg2 : ms.getD i [] = ms[i] := by simp [hl ▸ hi]
        have h1l := sizeL_take ls i hi
        have h2l := sizeL_le ls (i + 1)
        refine CallH.by (eqIntS_c _ _ _ _ H (hu i hi).1 (hwr i (by omega)).1 (by omega)) ?_
        rintro _ _ ⟨rfl, rfl⟩
        simp (maxSteps := 1000000) (disch := omega) only [S, S1, S2, S3, S4, S5, ST, eq_self, reduceIte, reduceCtorEq, Nat.reduceEqDiff, Nat.reduceAdd]
        refine brD.intro (fun e => ?_) (fun e => ?_) <;> simp (maxSteps := 1000000) (disch := omega) only [h0, h1, h5, wrap64, S, S1, S2, S3, S4, S5, ST, eq_self, reduceIte, reduceCtorEq, Nat.reduceEqDiff, Nat.reduceAdd]
        · have fx : ls.take (i + 1) = ms.take (i + 1) := by
            rw [List.take_add_one, List.take_add_one, hn, List.getElem?_eq_getElem hi, List.getElem?_eq_getElem (hl ▸ hi)]
            rw [hg, hg2] at e
            rw [e]
          refine ⟨m - 1, by omega, i + 1, ?_⟩
          (repeat' first | exact fx | apply And.intro) <;> first | (simp only [Value.int.injEq, true_and]; omega) | omega | rfl | assumption | (simp; done) | (simp; omega)
        · refine hQ _ _ _ ?_
          simp (maxSteps := 1000000) (disch := omega) only [S, S1, S2, S3, S4, S5, ST, eq_self, reduceIte, reduceCtorEq, Nat.reduceEqDiff, Nat.reduceAdd]
          have : ls ≠ ms := by
            intro e'
            subst e'
            exact e rfl
          simp [this]
      · refine hQ _ _ _ ?_
        simp (maxSteps := 1000000) (disch := omega) only [S, S1, S2, S3, S4, S5, ST, eq_self, reduceIte, reduceCtorEq, Nat.reduceEqDiff, Nat.reduceAdd]
        rw [List.take_of_length_le (by omega), List.take_of_length_le (by omega)] at hn
        simp [hn]
theorem heldIntSS_c (v : Value) (ls : List (List Int)) (k : Int) (H : AH) {b : Nat} (hr : RowLB b 38 3 H v (runL k ls)) (hlen : ls.length ≤ 1099511627776) (hsz : sizeL ls ≤ 1099511627776) (hk : 0 ≤ k ∧ k ≤ 1099511627776) :
    ACalls Tryz.prog 22 [v, .int .i64 k] H fun r H' => r = .int .i64 (k + sizeL ls) ∧ H = H' := by
  obtain ⟨us, hv, _, hul, hu⟩ := hr
  rw [runL_len] at hul hu
  have hvl := hv.len Tryz.underlying26
  rw [hul] at hvl
  refine in22 rfl ?_
  intro Q hQ
  simp (maxSteps := 1000000) (disch := omega) only [cd22, S, S1, S2, S3, S4, S5, ST, eq_self, reduceIte, reduceCtorEq, Nat.reduceEqDiff, Nat.reduceAdd]
  refine LoopH.by (fun m s H' => ∃ i, m + i = ls.length ∧ s 0 = v ∧ s 1 = .int .i64 (k + (sizeL (ls.take i) : Nat)) ∧ s 5 = .int .i64 ((i : Nat) : Int) ∧ H = H') ls.length ?_ ?_
  · exact ⟨0, by simp, rfl, by simp [S, S1, S2, S3, S4, S5, ST, eq_self, reduceIte, reduceCtorEq, Nat.reduceEqDiff, Nat.reduceAdd, sizeL], rfl, rfl⟩
  · rintro m s H' ⟨i, hm, h0, h1, h5, rfl⟩
    simp (maxSteps := 1000000) (disch := omega) only [h0, h1, h5, hvl, S, S1, S2, S3, S4, S5, ST, eq_self, reduceIte, reduceCtorEq, Nat.reduceEqDiff, Nat.reduceAdd]
    refine brD.intro (fun g => ?_) (fun g => ?_) <;> simp (maxSteps := 1000000) (disch := omega) only [h0, h1, h5, hv.ix Tryz.underlying26 cs38, hv.cell, Int.toNat_natCast, S, S1, S2, S3, S4, S5, ST, eq_self, reduceIte, reduceCtorEq, Nat.reduceEqDiff, Nat.reduceAdd]
    · have hi : i < ls.length := by omega
      have h1l := sizeL_take ls i hi
      have h2l := sizeL_le ls (i + 1)
      have hrow := (hu i hi).1
      rw [runL_at k ls i hi] at hrow
      refine CallH.by (heldIntS_c _ _ (k + (sizeL (ls.take i) : Nat)) H hrow (by rw [runI_len]; omega) (by omega) (by rw [runI_len])) ?_
      rintro _ _ ⟨rfl, rfl⟩
      simp (maxSteps := 1000000) (disch := omega) only [runI_len, S, S1, S2, S3, S4, S5, ST, eq_self, reduceIte, reduceCtorEq, Nat.reduceEqDiff, Nat.reduceAdd]
      refine brD.intro (fun h => absurd h (by omega)) (fun _ => ?_)
      simp (maxSteps := 1000000) (disch := omega) only [h0, h1, h5, wrap64, S, S1, S2, S3, S4, S5, ST, eq_self, reduceIte, reduceCtorEq, Nat.reduceEqDiff, Nat.reduceAdd]
      refine ⟨m - 1, by omega, i + 1, by omega, ?_⟩
      rw [h1l]
      (repeat' first | apply And.intro) <;> first | (simp only [Value.int.injEq, true_and]; omega) | omega | rfl | assumption | (simp; done) | (simp; omega)
    · refine hQ _ _ _ ?_
      simp (maxSteps := 1000000) (disch := omega) only [h1, S, S1, S2, S3, S4, S5, ST, eq_self, reduceIte, reduceCtorEq, Nat.reduceEqDiff, Nat.reduceAdd]
      have : ls.take i = ls := List.take_of_length_le (by omega)
      rw [this]
/-- the lists as far as i are marked -/
def mixL (k : Int) (ls : List (List Int)) (i : Nat) : List (List Int) := (runL k ls).take i ++ ls.drop i
theorem mixL_len (k : Int) (ls : List (List Int)) (i : Nat) : (mixL k ls i).length = ls.length := by
  unfold mixL
  simp [runL_len]; omega
theorem mixL_at (k : Int) (ls : List (List Int)) (i j : Nat) (hj : j < ls.length) : (mixL k ls i).getD j [] = if j < i then runI (k + sizeL (ls.take j)) (ls.getD j []).length else ls.getD j [] := by
  unfold mixL
  have hl : ((runL k ls).take i).length = min i ls.length := by simp [runL_len]
  by_cases h : j < i
  · rw [if_pos h, List.getD_eq_getElem?_getD, List.getElem?_append_left (by rw [hl]; omega), List.getElem?_take, if_pos h, ← List.getD_eq_getElem?_getD, runL_at k ls j hj]
  · rw [if_neg h, List.getD_eq_getElem?_getD, List.getElem?_append_right (by rw [hl]; omega), hl, List.getElem?_drop, ← List.getD_eq_getElem?_getD]
    congr 1; omega
set_option maxHeartbeats 1000000 in
theorem markIntSS_B (v : Value) (ls : List (List Int)) (k : Int) (lo hi : Nat) (H : AH) (h : InL lo hi 38 3 H v ls) (hlen : ls.length ≤ 1099511627776) (hsz : sizeL ls ≤ 1099511627776) (hk : 0 ≤ k ∧ k ≤ 1099511627776) :
    ACalls Tryz.prog 21 [v, .int .i64 k] H fun r H' => r = .int .i64 (k + sizeL ls) ∧ InL lo hi 38 3 H' v (runL k ls) ∧ ElseR lo hi H H' := by
  refine in21 rfl ?_
  intro Q hQ
  rcases h with ⟨rfl, rfl⟩ | ⟨o, us, rfl, hin⟩
  · simp (maxSteps := 1000000) (disch := omega) only [cd21, S, S1, S2, S3, S4, S5, ST, eq_self, reduceIte, reduceCtorEq, Nat.reduceEqDiff, Nat.reduceAdd]
    refine LoopH.by (fun m s H' => s 0 = .slice none 0 0 ∧ s 1 = .int .i64 k ∧ s 5 = .int .i64 0 ∧ H = H') 0 ?_ ?_
    · exact ⟨rfl, rfl, rfl, rfl⟩
    · rintro m s H' ⟨h0, h1, h5, rfl⟩
      simp (maxSteps := 1000000) (disch := omega) only [h0, h1, h5, S, S1, S2, S3, S4, S5, ST, eq_self, reduceIte, reduceCtorEq, Nat.reduceEqDiff, Nat.reduceAdd]
      refine brD.intro (fun g => absurd g (by decide)) (fun g => ?_)
      simp (maxSteps := 1000000) (disch := omega) only [h1, S, S1, S2, S3, S4, S5, ST, eq_self, reduceIte, reduceCtorEq, Nat.reduceEqDiff, Nat.reduceAdd]
      refine hQ _ _ _ ?_
      simp (maxSteps := 1000000) (disch := omega) only [h1, S, S1, S2, S3, S4, S5, ST, eq_self, reduceIte, reduceCtorEq, Nat.reduceEqDiff, Nat.reduceAdd]
      exact ⟨by simp [sizeL], .inl ⟨rfl, rfl⟩, ElseR.refl _ _ _⟩
  · simp (maxSteps := 1000000) (disch := omega) only [cd21, S, S1, S2, S3, S4, S5, ST, eq_self, reduceIte, reduceCtorEq, Nat.reduceEqDiff, Nat.reduceAdd]
    refine LoopH.by (fun m s H' => ∃ i, m + i = ls.length ∧ s 0 = .slice (some ⟨o, 0, none⟩) ls.length ls.length ∧ s 1 = .int .i64 (k + (sizeL (ls.take i) : Nat)) ∧ s 5 = .int .i64 ((i : Nat) : Int) ∧ InU lo hi 38 3 H' o us (mixL k ls i) ∧ ElseR lo hi H H') ls.length ?_ ?_
    · refine ⟨0, by simp, rfl, by simp [S, S1, S2, S3, S4, S5, ST, eq_self, reduceIte, reduceCtorEq, Nat.reduceEqDiff, Nat.reduceAdd, sizeL], rfl, ?_, ElseR.refl _ _ _⟩
      have : mixL k ls 0 = ls := by simp [mixL]
      rw [this]; exact hin
    · rintro m s H' ⟨i, hm, h0, h1, h5, hin', hel⟩
      have hrow := hin'.row
      rw [mixL_len] at hrow
      obtain ⟨ws, hv, _, hul, hu⟩ := hrow
      rw [mixL_len] at hul
      simp (maxSteps := 1000000) (disch := omega) only [h0, h1, h5, S, S1, S2, S3, S4, S5, ST, eq_self, reduceIte, reduceCtorEq, Nat.reduceEqDiff, Nat.reduceAdd]
      refine brD.intro (fun g => ?_) (fun g => ?_)
      · have hi' : i < ls.length := by omega
        have h1l := sizeL_take ls i hi'
        have h2l := sizeL_le ls (i + 1)
        obtain ⟨q1, q2, q3, q4, q5, q6⟩ := hin'
        rw [mixL_len] at q4 q5 q6
        have hcell : cellA H' o i = some (us.getD i undef) := by
          rw [cell_of q3, List.getD_eq_getElem?_getD, List.getElem?_eq_getElem (by omega)]; rfl
        obtain ⟨r1, r2⟩ := q5 i hi'
        rw [mixL_at k ls i i hi', if_neg (Nat.lt_irrefl _)] at r1
        simp (maxSteps := 1000000) (disch := omega) only [h0, h1, h5, hcell, Int.toNat_natCast, Nat.zero_add, S, S1, S2, S3, S4, S5, ST, eq_self, reduceIte, reduceCtorEq, Nat.reduceEqDiff, Nat.reduceAdd]
        have mk := markIntS_B (us.getD i undef) (ls.getD i []) (k + (sizeL (ls.take i) : Nat)) lo hi H' r1 (by omega) (by omega)
        have mk2 := markIntS_c (us.getD i undef) (ls.getD i []) (k + (sizeL (ls.take i) : Nat)) (List.replicate lo AObj.dead) H' (by
          rcases r1 with h | ⟨o', zs, h1, h2, h3, h4, h5⟩
          · exact .inl h
          · exact .inr ⟨o', zs, h1, by simpa using h2, h4, h5⟩) (by omega) (by omega)
        refine CallH.by mk2 ?_
        rintro _ H2 ⟨rfl, hmine, hels⟩
        simp (maxSteps := 1000000) (disch := omega) only [h0, h1, h5, wrap64, S, S1, S2, S3, S4, S5, ST, eq_self, reduceIte, reduceCtorEq, Nat.reduceEqDiff, Nat.reduceAdd]
        have keepo : H2[o]? = some (.cells us 38 false) := by
          refine hels.2 o _ ?_ q3
          rcases r2 with g | g
          · exact .inl g
          · exact .inr (fun e => g e.symm)
        have fel : ElseR lo hi H H2 := by
          refine hel.trans ⟨hels.1, fun j x hj hx => hels.2 j x ?_ hx⟩
          rcases r1.at_ with g | g
          · exact .inl g
          · exact .inr (by omega)
        have r1' : InI lo hi 3 H2 (us.getD i undef) (runI (k + (sizeL (ls.take i) : Nat)) (ls.getD i []).length) := by
          rcases r1 with ⟨g1, g2⟩ | ⟨o', zs, g1, g2, g3, g4, g5⟩
          · rw [g2]; exact .inl ⟨g1, rfl⟩
          · rcases hmine with ⟨f1, f2⟩ | ⟨o2, zs2, f1, f2, f3, f4⟩
            · rw [g1] at f1; cases f1
            · have e : o2 = o' := by
                rw [g1] at f1
                simp only [Value.slice.injEq, Option.some.injEq, Addr.mk.injEq] at f1
                exact f1.1.1.symm
              subst e
              exact .inr ⟨o2, zs2, f1, g2, g3, f3, f4⟩
        have fin : InU lo hi 38 3 H2 o us (mixL k ls (i + 1)) := by
          refine ⟨q1, q2, keepo, by rw [mixL_len]; exact q4, fun j hj => ?_, fun a b hab ha hb => q6 a b hab (by rw [mixL_len] at ha; exact ha) (by rw [mixL_len] at hb; exact hb)⟩
          rw [mixL_len] at hj
          obtain ⟨w1, w2⟩ := q5 j hj
          refine ⟨?_, w2⟩
          rw [mixL_at k ls i j hj] at w1
          rw [mixL_at k ls (i + 1) j hj]
          by_cases e : j = i
          · subst e; rw [if_pos (by omega)]; exact r1'
          · have : (if j < i then runI (k + sizeL (ls.take j)) (ls.getD j []).length else ls.getD j []) = (if j < i + 1 then runI (k + sizeL (ls.take j)) (ls.getD j []).length else ls.getD j []) := by
              by_cases c : j < i
              · rw [if_pos c, if_pos (by omega)]
              · rw [if_neg c, if_neg (by omega)]
            rw [← this]
            refine w1.move fun y hn hy => hels.2 _ _ ?_ hy
            rcases q6 j i e hj hi' with g | g | g
            · exact .inl g
            · exact absurd g hn
            · exact .inr g
        refine ⟨m - 1, by omega, i + 1, by omega, ?_⟩
        rw [h1l]
        (repeat' first | exact fin | exact fel | apply And.intro) <;> first | (simp only [Value.int.injEq, true_and]; omega) | omega | rfl | assumption | (simp; done) | (simp; omega)
      · simp (maxSteps := 1000000) (disch := omega) only [h1, S, S1, S2, S3, S4, S5, ST, eq_self, reduceIte, reduceCtorEq, Nat.reduceEqDiff, Nat.reduceAdd]
        refine hQ _ _ _ ?_
        simp (maxSteps := 1000000) (disch := omega) only [h1, S, S1, S2, S3, S4, S5, ST, eq_self, reduceIte, reduceCtorEq, Nat.reduceEqDiff, Nat.reduceAdd]
        have e1 : ls.take i = ls := List.take_of_length_le (by omega)
        have e2 : mixL k ls i = runL k ls := by
          unfold mixL
          rw [List.take_of_length_le (by rw [runL_len]; omega), List.drop_of_length_le (by omega), List.append_nil]
        rw [e2] at hin'
        rw [e1]
        exact ⟨rfl, by have := hin'.inl; rw [runL_len] at this; exact .inr ⟨o, us, by rw [runL_len], hin'⟩, hel⟩
end Go.Proofs.YtlfongfhbkefmaaGreat.Ai
namespace Go.Proofs.YtlfongfhbkefmaaGreat.Ai
open Go
def ords10 : List (Nat × List (Nat × Bool)) := []
def cd10 : Cd := (.seq (.reg [⟨⟨some 2, Op.box 28 (Operand.tmp 0), none⟩, []⟩,
  ⟨⟨some 3, Op.box 28 (Operand.tmp 1), none⟩, []⟩,
  ⟨⟨some 4, Op.assign (Operand.const (Value.bool false)), none⟩, []⟩]) (.seq (.seq (.reg [⟨⟨some 5, Op.fieldAddr 28 (Operand.tmp 2) 0, none⟩, []⟩,
  ⟨⟨some 6, Op.load 26 (Operand.tmp 5), none⟩, []⟩,
  ⟨⟨some 7, Op.fieldAddr 28 (Operand.tmp 3) 0, none⟩, []⟩,
  ⟨⟨some 8, Op.load 26 (Operand.tmp 7), none⟩, []⟩,
  ⟨⟨some 9, Op.call { callee := (Callee.value (Operand.func 18)), args := #[(Operand.tmp 6), (Operand.tmp 8)], argTypes := #[26, 26] }, none⟩, []⟩,
  ⟨⟨some 10, Op.unOp UnOp.not 4 (Operand.tmp 9), none⟩, []⟩]) (.cond (Operand.tmp 10) (.seq (.reg [⟨⟨some 4, Op.assign (Operand.const (Value.bool false)), none⟩, []⟩]) .ret) .skip)) (.seq (.seq (.reg [⟨⟨some 11, Op.fieldAddr 28 (Operand.tmp 2) 1, none⟩, []⟩,
  ⟨⟨some 12, Op.load 22 (Operand.tmp 11), none⟩, []⟩,
  ⟨⟨some 13, Op.fieldAddr 28 (Operand.tmp 3) 1, none⟩, []⟩,
  ⟨⟨some 14, Op.load 22 (Operand.tmp 13), none⟩, []⟩,
  ⟨⟨some 15, Op.call { callee := (Callee.value (Operand.func 45)), args := #[(Operand.tmp 12), (Operand.tmp 14)], argTypes := #[22, 22] }, none⟩, []⟩,
  ⟨⟨some 16, Op.unOp UnOp.not 4 (Operand.tmp 15), none⟩, []⟩]) (.cond (Operand.tmp 16) (.seq (.reg [⟨⟨some 4, Op.assign (Operand.const (Value.bool false)), none⟩, []⟩]) .ret) .skip)) (.seq (.reg [⟨⟨some 4, Op.assign (Operand.const (Value.bool true)), none⟩, []⟩]) .ret))))
theorem sl10 : slim Tryz.f10.ntmps ords10 (Tryz.f10.body.getD .skip) = some cd10 := by kernel_rfl
theorem in10 {args : List Value} {H : AH} {R : Value → AH → Prop} (hl : args.length = 2) (h : ∀ (Q : Exit → Sl → AH → Prop), (∀ e s H, endA Tryz.prog [ResultVar.tmp 4] R e s H → Q e s H) → wpC Tryz.prog cd10 Q (enterA args) H) : ACalls Tryz.prog 10 args H R :=
  ACalls.intro (by kernel_rfl) Tryz.func10 rfl (by kernel_rfl) sl10 hl (of_decide_eq_true (by kernel_rfl)) (by kernel_rfl) h
def ords13 : List (Nat × List (Nat × Bool)) := []
def cd13 : Cd := (.seq (.reg [⟨⟨some 2, Op.box 28 (Operand.tmp 0), none⟩, []⟩,
  ⟨⟨some 4, Op.assign (Operand.const (Value.int IntKind.i64 0)), none⟩, []⟩]) (.seq (.reg [⟨⟨some 5, Op.fieldAddr 28 (Operand.tmp 2) 0, none⟩, []⟩,
  ⟨⟨some 6, Op.load 26 (Operand.tmp 5), none⟩, []⟩,
  ⟨⟨some 7, Op.move (Operand.tmp 1), none⟩, []⟩,
  ⟨⟨some 8, Op.call { callee := (Callee.value (Operand.func 21)), args := #[(Operand.tmp 6), (Operand.tmp 7)], argTypes := #[26, 3] }, none⟩, []⟩,
  ⟨⟨some 1, Op.assign (Operand.tmp 8), none⟩, []⟩]) (.seq (.reg [⟨⟨some 9, Op.fieldAddr 28 (Operand.tmp 2) 1, none⟩, []⟩,
  ⟨⟨some 10, Op.load 22 (Operand.tmp 9), none⟩, []⟩,
  ⟨⟨some 11, Op.move (Operand.tmp 1), none⟩, []⟩,
  ⟨⟨some 12, Op.call { callee := (Callee.value (Operand.func 46)), args := #[(Operand.tmp 10), (Operand.tmp 11)], argTypes := #[22, 3] }, none⟩, []⟩,
  ⟨⟨some 1, Op.assign (Operand.tmp 12), none⟩, []⟩]) (.seq (.reg [⟨⟨some 13, Op.move (Operand.tmp 1), none⟩, []⟩,
  ⟨⟨some 4, Op.assign (Operand.tmp 13), none⟩, []⟩]) .ret))))
theorem sl13 : slim Tryz.f13.ntmps ords13 (Tryz.f13.body.getD .skip) = some cd13 := by kernel_rfl
theorem in13 {args : List Value} {H : AH} {R : Value → AH → Prop} (hl : args.length = 2) (h : ∀ (Q : Exit → Sl → AH → Prop), (∀ e s H, endA Tryz.prog [ResultVar.tmp 4] R e s H → Q e s H) → wpC Tryz.prog cd13 Q (enterA args) H) : ACalls Tryz.prog 13 args H R :=
  ACalls.intro (by kernel_rfl) Tryz.func13 rfl (by kernel_rfl) sl13 hl (of_decide_eq_true (by kernel_rfl)) (by kernel_rfl) h
def ords14 : List (Nat × List (Nat × Bool)) := []
def cd14 : Cd := (.seq (.reg [⟨⟨some 2, Op.box 28 (Operand.tmp 0), none⟩, []⟩,
  ⟨⟨some 4, Op.assign (Operand.const (Value.int IntKind.i64 0)), none⟩, []⟩]) (.seq (.reg [⟨⟨some 5, Op.fieldAddr 28 (Operand.tmp 2) 0, none⟩, []⟩,
  ⟨⟨some 6, Op.load 26 (Operand.tmp 5), none⟩, []⟩,
  ⟨⟨some 7, Op.move (Operand.tmp 1), none⟩, []⟩,
  ⟨⟨some 8, Op.call { callee := (Callee.value (Operand.func 22)), args := #[(Operand.tmp 6), (Operand.tmp 7)], argTypes := #[26, 3] }, none⟩, []⟩,
  ⟨⟨some 1, Op.assign (Operand.tmp 8), none⟩, []⟩]) (.seq (.seq (.reg [⟨⟨some 9, Op.move (Operand.tmp 1), none⟩, []⟩,
  ⟨⟨some 10, Op.binOp BinOp.lss 3 (Operand.tmp 9) (Operand.const (Value.int IntKind.i64 0)) 3, none⟩, []⟩]) (.cond (Operand.tmp 10) (.seq (.reg [⟨⟨some 4, Op.assign (Operand.const (Value.int IntKind.i64 (-1))), none⟩, []⟩]) .ret) .skip)) (.seq (.reg [⟨⟨some 11, Op.fieldAddr 28 (Operand.tmp 2) 1, none⟩, []⟩,
  ⟨⟨some 12, Op.load 22 (Operand.tmp 11), none⟩, []⟩,
  ⟨⟨some 13, Op.move (Operand.tmp 1), none⟩, []⟩,
  ⟨⟨some 14, Op.call { callee := (Callee.value (Operand.func 47)), args := #[(Operand.tmp 12), (Operand.tmp 13)], argTypes := #[22, 3] }, none⟩, []⟩,
  ⟨⟨some 1, Op.assign (Operand.tmp 14), none⟩, []⟩]) (.seq (.seq (.reg [⟨⟨some 15, Op.move (Operand.tmp 1), none⟩, []⟩,
  ⟨⟨some 16, Op.binOp BinOp.lss 3 (Operand.tmp 15) (Operand.const (Value.int IntKind.i64 0)) 3, none⟩, []⟩]) (.cond (Operand.tmp 16) (.seq (.reg [⟨⟨some 4, Op.assign (Operand.const (Value.int IntKind.i64 (-1))), none⟩, []⟩]) .ret) .skip)) (.seq (.reg [⟨⟨some 17, Op.move (Operand.tmp 1), none⟩, []⟩,
  ⟨⟨some 4, Op.assign (Operand.tmp 17), none⟩, []⟩]) .ret))))))
theorem sl14 : slim Tryz.f14.ntmps ords14 (Tryz.f14.body.getD .skip) = some cd14 := by kernel_rfl
theorem in14 {args : List Value} {H : AH} {R : Value → AH → Prop} (hl : args.length = 2) (h : ∀ (Q : Exit → Sl → AH → Prop), (∀ e s H, endA Tryz.prog [ResultVar.tmp 4] R e s H → Q e s H) → wpC Tryz.prog cd14 Q (enterA args) H) : ACalls Tryz.prog 14 args H R :=
  ACalls.intro (by kernel_rfl) Tryz.func14 rfl (by kernel_rfl) sl14 hl (of_decide_eq_true (by kernel_rfl)) (by kernel_rfl) h
end Go.Proofs.YtlfongfhbkefmaaGreat.Ai
namespace Go.Proofs.YtlfongfhbkefmaaGreat.Ai
open Go Go.RowKit
set_option linter.unusedVariables false
set_option linter.unusedSimpArgs false
/-- a space's two lists in memory -/
def SpRow (H : AH) (a b : Value) (ls : List (List Int)) (ps : List (Int × Int)) : Prop := (∃ bd, RowLB bd 38 3 H a ls) ∧ RowP 83 H b ps
/-- .. of one's own: the states below mid, the steps from mid on -/
def SpIn (lo hi : Nat) (H : AH) (a b : Value) (ls : List (List Int)) (ps : List (Int × Int)) : Prop := ∃ mid, lo ≤ mid ∧ mid ≤ hi ∧ InL lo mid 38 3 H a ls ∧ InP mid hi 83 H b ps
theorem SpIn.row {lo hi : Nat} {H : AH} {a b : Value} {ls : List (List Int)} {ps : List (Int × Int)} (h : SpIn lo hi H a b ls ps) : SpRow H a b ls ps := by
  obtain ⟨mid, h1, h2, h3, h4⟩ := h
  exact ⟨⟨_, h3.row⟩, h4.row.1⟩
theorem SpIn.pre {lo hi : Nat} {H H' : AH} {a b : Value} {ls : List (List Int)} {ps : List (Int × Int)} (h : SpIn lo hi H a b ls ps) (hp : H <+: H') : SpIn lo hi H' a b ls ps := by
  obtain ⟨mid, h1, h2, h3, h4⟩ := h
  exact ⟨mid, h1, h2, h3.pre hp, h4.pre hp⟩
theorem SpIn.keep {lo hi lo' hi' : Nat} {H H' : AH} {a b : Value} {ls : List (List Int)} {ps : List (Int × Int)} (h : SpIn lo hi H a b ls ps) (he : ElseR lo' hi' H H') (hl : hi ≤ lo' ∨ hi' ≤ lo) : SpIn lo hi H' a b ls ps := by
  obtain ⟨mid, h1, h2, h3, h4⟩ := h
  exact ⟨mid, h1, h2, h3.keep he (by omega), h4.keep he (by omega)⟩
theorem SpRow.pre {H H' : AH} {a b : Value} {ls : List (List Int)} {ps : List (Int × Int)} (h : SpRow H a b ls ps) (hp : H <+: H') : SpRow H' a b ls ps := ⟨h.1.imp fun _ q => q.pre hp, h.2.pre hp⟩
theorem SpRow.shape {H : AH} {a b : Value} {ls : List (List Int)} {ps : List (Int × Int)} (h : SpRow H a b ls ps) : (∃ p n c, a = .slice p n c) ∧ ∃ p n c, b = .slice p n c := by
  obtain ⟨⟨bd, us, h1, _⟩, h2⟩ := h
  obtain ⟨p, e⟩ := h1.shape
  obtain ⟨q, e2⟩ := h2.shape
  exact ⟨⟨_, _, _, e⟩, ⟨_, _, _, e2⟩⟩
theorem SpRow.box {H G : AH} {a b : Value} {ls : List (List Int)} {ps : List (Int × Int)} (h : SpRow G a b ls ps) : boxA Tryz.prog 28 (.agg (List.toArray [a, b])) H = some (.pointer (some ⟨H.length, 0, none⟩), H ++ [.cells [a, b] 28 false]) := by
  obtain ⟨⟨p, n, c, rfl⟩, ⟨q, m, d, rfl⟩⟩ := h.shape
  kernel_rfl
theorem SpRow.store {e : TypeId} {H G : AH} {o : Nat} {vs : List Value} {a b : Value} {ls : List (List Int)} {ps : List (Int × Int)} (h : SpRow G a b ls ps) (ho : H[o]? = some (.cells vs e false)) (hv : vs.length = 2) :
    storeA Tryz.prog 28 (.pointer (some ⟨o, 0, none⟩)) (.agg (List.toArray [a, b])) H = some (H.set o (.cells [a, b] e false)) := by
  obtain ⟨⟨p, n, c, rfl⟩, ⟨q, m, d, rfl⟩⟩ := h.shape
  exact st_ss ho hv p q n c m d
theorem eqSpace_c (a b c d : Value) (ls ms : List (List Int)) (ps qs : List (Int × Int)) (H : AH) (hr : SpRow H a b ls ps) (hr2 : SpRow H c d ms qs) (hl : ls.length ≤ 1099511627776) (hs : sizeL ls ≤ 1099511627776) (hp : ps.length ≤ 1099511627776) :
    ACalls Tryz.prog 10 [.agg (List.toArray [a, b]), .agg (List.toArray [c, d])] H fun r H' => r = .bool (decide (ls = ms ∧ ps = qs)) ∧ H <+: H' := by
  refine in10 rfl ?_
  intro Q hQ
  simp (maxSteps := 1000000) (disch := omega) only [cd10, hr.box, hr2.box, S, S1, S2, S3, S4, S5, ST, eq_self, reduceIte, reduceCtorEq, Nat.reduceEqDiff, Nat.reduceAdd]
  generalize hA : H ++ [AObj.cells [a, b] 28 false] = A
  have pA : H <+: A := by rw [← hA]; exact List.prefix_append _ _
  have a0 : A[H.length]? = some (.cells [a, b] 28 false) := by rw [← hA]; exact at_new ..
  generalize hB : A ++ [AObj.cells [c, d] 28 false] = B
  have pB : A <+: B := by rw [← hB]; exact List.prefix_append _ _
  have b0 := pre_at pB a0
  have b1 : B[A.length]? = some (.cells [c, d] 28 false) := by rw [← hB]; exact at_new ..
  have pHB := pA.trans pB
  obtain ⟨⟨bd, r1⟩, r2⟩ := hr.pre pHB
  obtain ⟨⟨bd2, r3⟩, r4⟩ := hr2.pre pHB
  simp (maxSteps := 1000000) (disch := omega) only [cell_of b0, cell_of b1, S, S1, S2, S3, S4, S5, ST, eq_self, reduceIte, reduceCtorEq, Nat.reduceEqDiff, Nat.reduceAdd]
  refine CallH.by (eqIntSS_c a c ls ms B r1 r3 hl hs) ?_
  rintro _ _ ⟨rfl, rfl⟩
  simp (maxSteps := 1000000) (disch := omega) only [S, S1, S2, S3, S4, S5, ST, eq_self, reduceIte, reduceCtorEq, Nat.reduceEqDiff, Nat.reduceAdd]
  refine brD.intro (fun g => ?_) (fun g => ?_) <;> simp (maxSteps := 1000000) (disch := omega) only [g, cell_of b0, cell_of b1, S, S1, S2, S3, S4, S5, ST, eq_self, reduceIte, reduceCtorEq, Nat.reduceEqDiff, Nat.reduceAdd]
  · refine CallH.by (eqIntA2S_c b d ps qs B r2 r4 hp) ?_
    rintro _ C ⟨rfl, pC⟩
    have pHC := pHB.trans pC
    simp (maxSteps := 1000000) (disch := omega) only [S, S1, S2, S3, S4, S5, ST, eq_self, reduceIte, reduceCtorEq, Nat.reduceEqDiff, Nat.reduceAdd]
    refine brD.intro (fun e => ?_) (fun e => ?_) <;> simp (maxSteps := 1000000) (disch := omega) only [e, S, S1, S2, S3, S4, S5, ST, eq_self, reduceIte, reduceCtorEq, Nat.reduceEqDiff, Nat.reduceAdd]
    · refine hQ _ _ _ ?_
      simp (maxSteps := 1000000) (disch := omega) only [S, S1, S2, S3, S4, S5, ST, eq_self, reduceIte, reduceCtorEq, Nat.reduceEqDiff, Nat.reduceAdd]
      exact ⟨by rw [decide_eq_true ⟨g, e⟩], pHC⟩
    · refine hQ _ _ _ ?_
      simp (maxSteps := 1000000) (disch := omega) only [S, S1, S2, S3, S4, S5, ST, eq_self, reduceIte, reduceCtorEq, Nat.reduceEqDiff, Nat.reduceAdd]
      exact ⟨by rw [decide_eq_false (fun h => e h.2)], pHC⟩
  · refine hQ _ _ _ ?_
    simp (maxSteps := 1000000) (disch := omega) only [S, S1, S2, S3, S4, S5, ST, eq_self, reduceIte, reduceCtorEq, Nat.reduceEqDiff, Nat.reduceAdd]
    exact ⟨by rw [decide_eq_false (fun h => g h.1)], pHB⟩
theorem markSpace_B (a b : Value) (ls : List (List Int)) (ps : List (Int × Int)) (k : Int) (lo hi : Nat) (H : AH) (h : SpIn lo hi H a b ls ps) (hl : ls.length ≤ 1099511627776) (hs : sizeL ls ≤ 549755813888) (hp : ps.length ≤ 1099511627776) (hk : 0 ≤ k ∧ k ≤ 1000000) (hb : hi ≤ H.length) :
    ACalls Tryz.prog 13 [.agg (List.toArray [a, b]), .int .i64 k] H fun r H' => r = .int .i64 (k + sizeL ls + 2 * ps.length) ∧ ∃ Hm, SpIn lo hi Hm a b (runL k ls) (runP (k + sizeL ls) ps.length) ∧ ElseR lo hi H Hm ∧ Hm <+: H' := by
  refine in13 rfl ?_
  intro Q hQ
  have hrow := h.row
  simp (maxSteps := 1000000) (disch := omega) only [cd13, hrow.box, cell_new, S, S1, S2, S3, S4, S5, ST, eq_self, reduceIte, reduceCtorEq, Nat.reduceEqDiff, Nat.reduceAdd]
  generalize hA : H ++ [AObj.cells [a, b] 28 false] = A
  have pA : H <+: A := by rw [← hA]; exact List.prefix_append _ _
  have cA : A[H.length]? = some (.cells [a, b] 28 false) := by rw [← hA]; exact at_new ..
  have lA : A.length = H.length + 1 := by rw [← hA]; simp
  obtain ⟨mid, m1, m2, m3, m4⟩ := h.pre pA
  refine CallH.by (markIntSS_B a ls k lo mid A m3 hl (by omega) (by omega)) ?_
  rintro _ B ⟨rfl, m5, e1⟩
  have m6 := m4.keep e1 (.inr (Nat.le_refl _))
  have cB := e1.2 _ _ (.inr (by omega)) cA
  simp (maxSteps := 1000000) (disch := omega) only [cell_of cB, S, S1, S2, S3, S4, S5, ST, eq_self, reduceIte, reduceCtorEq, Nat.reduceEqDiff, Nat.reduceAdd]
  refine CallH.by (markIntA2S_B b ps (k + sizeL ls) mid hi B m6 hp (by omega)) ?_
  rintro _ C ⟨rfl, m7, e2⟩
  have m8 := m5.keep e2 (.inl (Nat.le_refl _))
  simp (maxSteps := 1000000) (disch := omega) only [S, S1, S2, S3, S4, S5, ST, eq_self, reduceIte, reduceCtorEq, Nat.reduceEqDiff, Nat.reduceAdd]
  refine hQ _ _ _ ?_
  simp (maxSteps := 1000000) (disch := omega) only [S, S1, S2, S3, S4, S5, ST, eq_self, reduceIte, reduceCtorEq, Nat.reduceEqDiff, Nat.reduceAdd]
  have eAll : ElseR lo hi A C := ⟨e2.1.trans e1.1, fun o x ho hx => e2.2 o x (by omega) (e1.2 o x (by omega) hx)⟩
  have hC : ∀ o, o < H.length → (C.take H.length)[o]? = C[o]? := fun o ho => List.getElem?_take_of_lt ho
  refine ⟨C.take H.length, ⟨mid, m1, m2, ?_, ?_⟩, ⟨?_, ?_⟩, List.take_prefix _ _⟩
  · rcases m8 with q | ⟨o, us, q1, q2⟩
    · exact .inl q
    · exact .inr ⟨o, us, q1, q2.move fun j y hj1 hj2 hy => by rw [hC j (by omega)]; exact hy⟩
  · rcases m7 with q | ⟨o, zs, q1, q2, q3, q4, q5⟩
    · exact .inl q
    · exact .inr ⟨o, zs, q1, q2, q3, by rw [hC o (by omega)]; exact q4, q5⟩
  · have := eAll.1
    rw [List.length_take]; omega
  · intro o x ho hx
    rw [hC o (at_lt hx)]
    exact eAll.2 o x ho (pre_at pA hx)
theorem heldSpace_c (a b : Value) (ls : List (List Int)) (n : Nat) (k : Int) (H : AH) (h : SpRow H a b (runL k ls) (runP (k + sizeL ls) n)) (hl : ls.length ≤ 1099511627776) (hs : sizeL ls ≤ 549755813888) (hn : n ≤ 1099511627776) (hk : 0 ≤ k ∧ k ≤ 1000000) :
    ACalls Tryz.prog 14 [.agg (List.toArray [a, b]), .int .i64 k] H fun r H' => r = .int .i64 (k + sizeL ls + 2 * n) ∧ H <+: H' := by
  refine in14 rfl ?_
  intro Q hQ
  simp (maxSteps := 1000000) (disch := omega) only [cd14, h.box, cell_new, S, S1, S2, S3, S4, S5, ST, eq_self, reduceIte, reduceCtorEq, Nat.reduceEqDiff, Nat.reduceAdd]
  generalize hA : H ++ [AObj.cells [a, b] 28 false] = A
  have pA : H <+: A := by rw [← hA]; exact List.prefix_append _ _
  have cA : A[H.length]? = some (.cells [a, b] 28 false) := by rw [← hA]; exact at_new ..
  obtain ⟨⟨bd, r1⟩, r2⟩ := h.pre pA
  refine CallH.by (heldIntSS_c a ls k A r1 hl (by omega) (by omega)) ?_
  rintro _ _ ⟨rfl, rfl⟩
  simp (maxSteps := 1000000) (disch := omega) only [S, S1, S2, S3, S4, S5, ST, eq_self, reduceIte, reduceCtorEq, Nat.reduceEqDiff, Nat.reduceAdd]
  refine brD.intro (fun g => absurd g (by omega)) (fun g => ?_)
  simp (maxSteps := 1000000) (disch := omega) only [cell_of cA, S, S1, S2, S3, S4, S5, ST, eq_self, reduceIte, reduceCtorEq, Nat.reduceEqDiff, Nat.reduceAdd]
  refine CallH.by (heldIntA2S_c b n (k + sizeL ls) A r2 hn (by omega)) ?_
  rintro _ _ ⟨rfl, rfl⟩
  simp (maxSteps := 1000000) (disch := omega) only [S, S1, S2, S3, S4, S5, ST, eq_self, reduceIte, reduceCtorEq, Nat.reduceEqDiff, Nat.reduceAdd]
  refine brD.intro (fun g => absurd g (by omega)) (fun g => ?_)
  simp (maxSteps := 1000000) (disch := omega) only [S, S1, S2, S3, S4, S5, ST, eq_self, reduceIte, reduceCtorEq, Nat.reduceEqDiff, Nat.reduceAdd]
  refine hQ _ _ _ ?_
  simp (maxSteps := 1000000) (disch := omega) only [S, S1, S2, S3, S4, S5, ST, eq_self, reduceIte, reduceCtorEq, Nat.reduceEqDiff, Nat.reduceAdd]
  exact pA
end Go.Proofs.YtlfongfhbkefmaaGreat.Ai
namespace Go.Proofs.YtlfongfhbkefmaaGreat.Ai
open Go
def ords40 : List (Nat × List (Nat × Bool)) := []
def cd40 : Cd := (.seq (.reg [⟨⟨some 1, Op.box 28 (Operand.tmp 0), none⟩, []⟩,
  ⟨⟨some 2, Op.alloc 28, none⟩, []⟩,
  ⟨⟨some 3, Op.assign (Operand.const (Value.bool false)), none⟩, []⟩]) (.seq (.seq (.reg [⟨⟨some 4, Op.fieldAddr 28 (Operand.tmp 1) 0, none⟩, []⟩,
  ⟨⟨some 5, Op.load 26 (Operand.tmp 4), none⟩, []⟩,
  ⟨⟨some 6, Op.call { callee := (Callee.builtin Builtin.len), args := #[(Operand.tmp 5)], argTypes := #[26] }, none⟩, []⟩,
  ⟨⟨some 7, Op.binOp BinOp.gtr 3 (Operand.tmp 6) (Operand.const (Value.int IntKind.i64 300)) 3, none⟩, []⟩,
  ⟨⟨some 8, Op.move (Operand.tmp 7), none⟩, []⟩,
  ⟨⟨some 9, Op.fieldAddr 28 (Operand.tmp 1) 1, some (8, false)⟩, []⟩,
  ⟨⟨some 10, Op.load 22 (Operand.tmp 9), some (8, false)⟩, []⟩,
  ⟨⟨some 11, Op.call { callee := (Callee.builtin Builtin.len), args := #[(Operand.tmp 10)], argTypes := #[22] }, some (8, false)⟩, []⟩,
  ⟨⟨some 12, Op.binOp BinOp.gtr 3 (Operand.tmp 11) (Operand.const (Value.int IntKind.i64 6000)) 3, some (8, false)⟩, []⟩,
  ⟨⟨some 13, Op.pick (Operand.tmp 8) (Operand.const (Value.bool true)) (Operand.tmp 12), none⟩, []⟩]) (.cond (Operand.tmp 13) (.seq (.reg [⟨⟨some 14, Op.build 28 #[], none⟩, []⟩,
  ⟨⟨none, Op.store 28 (Operand.tmp 2) (Operand.tmp 14), none⟩, []⟩,
  ⟨⟨some 3, Op.assign (Operand.const (Value.bool false)), none⟩, []⟩]) .ret) .skip)) (.seq (.reg [⟨⟨some 15, Op.load 28 (Operand.tmp 1), none⟩, []⟩,
  ⟨⟨none, Op.store 28 (Operand.tmp 2) (Operand.tmp 15), none⟩, []⟩,
  ⟨⟨some 3, Op.assign (Operand.const (Value.bool true)), none⟩, []⟩]) .ret)))
theorem sl40 : slim Tryz.f40.ntmps ords40 (Tryz.f40.body.getD .skip) = some cd40 := by kernel_rfl
set_option maxRecDepth 20000 in
theorem in40 {args : List Value} {H : AH} {R : Value → AH → Prop} (hl : args.length = 1) (h : ∀ (Q : Exit → Sl → AH → Prop), (∀ e s H, endA Tryz.prog [ResultVar.cell 2 28, ResultVar.tmp 3] R e s H → Q e s H) → wpC Tryz.prog cd40 Q (enterA args) H) : ACalls Tryz.prog 40 args H R :=
  ACalls.intro (by kernel_rfl) Tryz.func40 rfl (by kernel_rfl) sl40 hl (of_decide_eq_true (by kernel_rfl)) (by kernel_rfl) h
end Go.Proofs.YtlfongfhbkefmaaGreat.Ai
namespace Go.Proofs.YtlfongfhbkefmaaGreat.Ai
open Go Go.RowKit
set_option linter.unusedVariables false
set_option linter.unusedSimpArgs false
set_option maxRecDepth 20000 in
set_option maxHeartbeats 2000000 in
theorem orNone_c (a b : Value) (ls : List (List Int)) (ps : List (Int × Int)) (H : AH) (hr : SpRow H a b ls ps) (hl : ls.length ≤ 300) (hp : ps.length ≤ 6000) :
    ACalls Tryz.prog 40 [.agg (List.toArray [a, b])] H fun r H' => r = .tuple (List.toArray [.agg (List.toArray [a, b]), .bool true]) ∧ H <+: H' := by
  refine in40 rfl ?_
  intro Q hQ
  simp (maxSteps := 1000000) (disch := omega) only [cd40, hr.box, S, S1, S2, S3, S4, S5, ST, eq_self, reduceIte, reduceCtorEq, Nat.reduceEqDiff, Nat.reduceAdd]
  generalize hA0 : H ++ [AObj.cells [a, b] 28 false] = A0
  have pA0 : H <+: A0 := by rw [← hA0]; exact List.prefix_append _ _
  have cA0 : A0[H.length]? = some (.cells [a, b] 28 false) := by rw [← hA0]; exact at_new ..
  simp (maxSteps := 1000000) (disch := omega) only [alloc_sp, S, S1, S2, S3, S4, S5, ST, eq_self, reduceIte, reduceCtorEq, Nat.reduceEqDiff, Nat.reduceAdd]
  generalize hA : A0 ++ [AObj.cells [.slice none 0 0, .slice none 0 0] 28 false] = A
  have pA : A0 <+: A := by rw [← hA]; exact List.prefix_append _ _
  have cA : A[A0.length]? = some (.cells [.slice none 0 0, .slice none 0 0] 28 false) := by rw [← hA]; exact at_new ..
  have cB := pre_at pA cA0
  have rA := hr.pre (pA0.trans pA)
  obtain ⟨bd, us, r1, r2, r3⟩ := rA.1
  have g1 : ¬ (300 < (us.length : Int)) := by omega
  have g2 : ¬ (6000 < (ps.length : Int)) := by omega
  have hst := rA.store cA rfl
  simp (maxSteps := 1000000) (disch := omega) only [cell_of cB, r1.len Tryz.underlying26, rA.2.len Tryz.underlying22, decide_eq_false g1, decide_eq_false g2, ld_agg ag28 cs28 cB, hst, S, S1, S2, S3, S4, S5, ST, eq_self, reduceIte, reduceCtorEq, Nat.reduceEqDiff, Nat.reduceAdd]
  have d4 := at_set (d := .cells [a, b] 28 false) cA
  refine hQ _ _ _ (end_cell2 _ _ _ _ _ _ _ (.agg (List.toArray [a, b])) (.bool true) ?_ rfl ?_ rfl ⟨rfl, ?_⟩)
  · simp (maxSteps := 1000000) (disch := omega) only [ld_agg ag28 cs28 d4, S, S1, S2, S3, S4, S5, ST, eq_self, reduceIte, reduceCtorEq, Nat.reduceEqDiff, Nat.reduceAdd]
  · simp (maxSteps := 1000000) (disch := omega) only [S, S1, S2, S3, S4, S5, ST, eq_self, reduceIte, reduceCtorEq, Nat.reduceEqDiff, Nat.reduceAdd]
  · exact pre_set (pA0.trans pA) (by have := pA0.length_le; omega) _
end Go.Proofs.YtlfongfhbkefmaaGreat.Ai
namespace Go.Proofs.YtlfongfhbkefmaaGreat.Ai
open Go
def ords43 : List (Nat × List (Nat × Bool)) := []
def cd43 : Cd := (.seq (.reg [⟨⟨some 5, Op.assign (Operand.const (Value.bool false)), none⟩, []⟩]) (.seq (.reg [⟨⟨some 6, Op.load 31 (Operand.tmp 2), none⟩, []⟩,
  ⟨⟨some 7, Op.move (Operand.tmp 0), none⟩, []⟩,
  ⟨⟨some 8, Op.move (Operand.tmp 1), none⟩, []⟩,
  ⟨⟨some 9, Op.call { callee := (Callee.value (Operand.func 44)), args := #[(Operand.tmp 6), (Operand.tmp 7), (Operand.tmp 8)], argTypes := #[31, 38, 38] }, none⟩, []⟩,
  ⟨⟨some 10, Op.call { callee := (Callee.builtin Builtin.len), args := #[(Operand.tmp 9)], argTypes := #[26] }, none⟩, []⟩,
  ⟨⟨some 11, Op.binOp BinOp.eql 3 (Operand.tmp 10) (Operand.const (Value.int IntKind.i64 1)) 3, none⟩, []⟩,
  ⟨⟨some 5, Op.assign (Operand.tmp 11), none⟩, []⟩]) .ret))
theorem sl43 : slim Tryz.f43.ntmps ords43 (Tryz.f43.body.getD .skip) = some cd43 := by kernel_rfl
theorem in43 {args : List Value} {H : AH} {R : Value → AH → Prop} (hl : args.length = 3) (h : ∀ (Q : Exit → Sl → AH → Prop), (∀ e s H, endA Tryz.prog [ResultVar.tmp 5] R e s H → Q e s H) → wpC Tryz.prog cd43 Q (enterA args) H) : ACalls Tryz.prog 43 args H R :=
  ACalls.intro (by kernel_rfl) Tryz.func43 rfl (by kernel_rfl) sl43 hl (of_decide_eq_true (by kernel_rfl)) (by kernel_rfl) h
def ords9 : List (Nat × List (Nat × Bool)) := []
def cd9 : Cd := (.seq (.reg [⟨⟨some 1, Op.box 31 (Operand.tmp 0), none⟩, []⟩,
  ⟨⟨some 2, Op.alloc 28, none⟩, []⟩,
  ⟨⟨some 3, Op.assign (Operand.const (Value.bool false)), none⟩, []⟩]) (.seq (.seq (.reg [⟨⟨some 4, Op.load 31 (Operand.tmp 1), none⟩, []⟩,
  ⟨⟨some 5, Op.call { callee := (Callee.value (Operand.func 39)), args := #[(Operand.tmp 4)], argTypes := #[31] }, none⟩, []⟩,
  ⟨⟨some 6, Op.unOp UnOp.not 4 (Operand.tmp 5), none⟩, []⟩]) (.cond (Operand.tmp 6) (.seq (.reg [⟨⟨some 7, Op.build 28 #[], none⟩, []⟩,
  ⟨⟨none, Op.store 28 (Operand.tmp 2) (Operand.tmp 7), none⟩, []⟩,
  ⟨⟨some 3, Op.assign (Operand.const (Value.bool false)), none⟩, []⟩]) .ret) .skip)) (.seq (.reg [⟨⟨some 8, Op.load 31 (Operand.tmp 1), none⟩, []⟩,
  ⟨⟨some 9, Op.call { callee := (Callee.value (Operand.func 42)), args := #[(Operand.tmp 8)], argTypes := #[31] }, none⟩, []⟩,
  ⟨⟨some 10, Op.makeFunc (Fn.func 43) #[] #[(Operand.tmp 1)], none⟩, []⟩,
  ⟨⟨some 11, Op.call { callee := (Callee.value (Operand.func 41)), args := #[(Operand.tmp 9), (Operand.tmp 10)], argTypes := #[26, 43] }, none⟩, []⟩,
  ⟨⟨some 12, Op.call { callee := (Callee.value (Operand.func 40)), args := #[(Operand.tmp 11)], argTypes := #[28] }, none⟩, []⟩,
  ⟨⟨some 13, Op.extract (Operand.tmp 12) 0, none⟩, []⟩,
  ⟨⟨some 14, Op.extract (Operand.tmp 12) 1, none⟩, []⟩,
  ⟨⟨none, Op.store 28 (Operand.tmp 2) (Operand.tmp 13), none⟩, []⟩,
  ⟨⟨some 3, Op.assign (Operand.tmp 14), none⟩, []⟩]) .ret)))
theorem sl9 : slim Tryz.f9.ntmps ords9 (Tryz.f9.body.getD .skip) = some cd9 := by kernel_rfl
set_option maxRecDepth 20000 in
theorem in9 {args : List Value} {H : AH} {R : Value → AH → Prop} (hl : args.length = 1) (h : ∀ (Q : Exit → Sl → AH → Prop), (∀ e s H, endA Tryz.prog [ResultVar.cell 2 28, ResultVar.tmp 3] R e s H → Q e s H) → wpC Tryz.prog cd9 Q (enterA args) H) : ACalls Tryz.prog 9 args H R :=
  ACalls.intro (by kernel_rfl) Tryz.func9 rfl (by kernel_rfl) sl9 hl (of_decide_eq_true (by kernel_rfl)) (by kernel_rfl) h
end Go.Proofs.YtlfongfhbkefmaaGreat.Ai
namespace Go.Proofs.YtlfongfhbkefmaaGreat.Ai
open Go Go.RowKit
set_option linter.unusedVariables false
set_option linter.unusedSimpArgs false
theorem stpO_two (p : List Int → List Int → Bool) (ls : List (List Int)) : ∀ i, i ≤ ls.length → 2 * (stpO p ls i).length + i * (i + 1) ≤ 2 * (i * ls.length)
  | 0, _ => by simp [stpO]
  | i + 1, hi => by
    have ih := stpO_two p ls i (by omega)
    have := stpI_len p ls i (ls.length - (i + 1))
    simp only [stpO, List.length_append]
    have e1 : (i + 1) * (i + 1 + 1) = i * (i + 1) + 2 * (i + 1) := by rw [Nat.add_mul, Nat.mul_add i, Nat.mul_add i]; omega
    have e2 : (i + 1) * ls.length = i * ls.length + ls.length := Nat.succ_mul _ _
    rw [e1, e2]
    omega
theorem steps_two (p : List Int → List Int → Bool) (ls : List (List Int)) {N : Nat} (h : ls.length ≤ N + 1) : 2 * (steps p ls).length ≤ (N + 1) * N := by
  have h1 := stpO_two p ls ls.length (Nat.le_refl _)
  have h2 : 2 * (stpO p ls ls.length).length ≤ ls.length * (ls.length - 1) := by
    rcases Nat.eq_zero_or_pos ls.length with h0 | h0
    · rw [h0] at h1 ⊢; omega
    · have e : ls.length = ls.length - 1 + 1 := by omega
      generalize ls.length - 1 = k at *
      rw [e] at h1 ⊢
      have e1 : (k + 1) * (k + 1 + 1) = (k + 1) * (k + 1) + (k + 1) := Nat.mul_succ _ _
      have e2 : (k + 1) * (k + 1) = (k + 1) * k + (k + 1) := Nat.mul_succ _ _
      generalize (k + 1) * (k + 1 + 1) = x1 at *
      generalize (k + 1) * (k + 1) = x2 at *
      show 2 * (stpO p ls (k + 1)).length ≤ (k + 1) * k
      generalize (k + 1) * k = x3 at *
      omega
  exact Nat.le_trans h2 (Nat.mul_le_mul h (by omega))
def cyS (n : Int) (es : List (Int × Int)) : List (Int × Int) := if Grd n es then steps (cyB n.toNat es) (perfL n es) else []
theorem perf_nat {n : Nat} {es : List (Int × Int)} (hg : Grd (n : Int) es) {x : List Int} (hx : x ∈ perfL (n : Int) es) : Mtc es x ∧ 2 * x.length = n ∧ x.Nodup ∧ x.length ≤ 4 := by
  have h := perf_mtc hg hx
  have h8 := hg.1
  have h2 : 2 * x.length = n := by have := h.2; rwa [Int.toNat_natCast] at this
  refine ⟨h.1, h2, ?_, by omega⟩
  unfold perfL at hx
  split at hx
  · simp at hx
  · exact asc_nodup (mext_asc hg x hx)
set_option maxRecDepth 20000 in
set_option maxHeartbeats 2000000 in
theorem cyF_c {HB : AH} {o : Nat} (n : Nat) (v : Value) (es : List (Int × Int)) (hg : Grd (n : Int) es) (hc : HB[o]? = some (.cells [.int .i64 (n : Int), v] 31 false)) (hr : RowP 83 HB v es) : StepFn HB 43 [.pointer (some ⟨o, 0, none⟩)] (perfL (n : Int) es) (cyB n es) := by
  intro a b x y H hp ha hb hx hy
  obtain ⟨mx, lx, nx, lx4⟩ := perf_nat hg hx
  obtain ⟨my, ly, ny, ly4⟩ := perf_nat hg hy
  have h28 := grd_28 hg
  have cA := pre_at hp hc
  refine in43 rfl ?_
  intro Q hQ
  simp (maxSteps := 1000000) (disch := omega) only [cd43, ld_agg ag31 cs31 cA, S, S1, S2, S3, S4, S5, ST, eq_self, reduceIte, reduceCtorEq, Nat.reduceEqDiff, Nat.reduceAdd]
  refine CallH.by (pieces_c n v a b es x y H (hr.pre hp) (by omega) hg ha hb (by omega) (by omega) mx my) ?_
  rintro r B ⟨hL, pB⟩
  obtain ⟨us, r1, r2, r3⟩ := hL.parts
  simp (maxSteps := 1000000) (disch := omega) only [r1.len Tryz.underlying26, S, S1, S2, S3, S4, S5, ST, eq_self, reduceIte, reduceCtorEq, Nat.reduceEqDiff, Nat.reduceAdd]
  refine hQ _ _ _ ?_
  simp (maxSteps := 1000000) (disch := omega) only [S, S1, S2, S3, S4, S5, ST, eq_self, reduceIte, reduceCtorEq, Nat.reduceEqDiff, Nat.reduceAdd]
  refine ⟨?_, pB⟩
  unfold cyB
  rw [Value.bool.injEq, decide_eq_decide]
  omega
theorem qs_ok {n : Int} {es : List (Int × Int)} (hg : Grd n es) (p : List Int → List Int → Bool) : SrtL (perfL n es) ∧ (perfL n es).length ≤ 105 ∧ (∀ x ∈ perfL n es, x.length ≤ 4) ∧ (steps p (perfL n es)).length ≤ 6000 := by
  have h1 := perfL_len hg
  refine ⟨perf_srt, h1, fun x hx => ?_, ?_⟩
  · have := (perf_mtc hg hx).2
    have := hg.1
    omega
  · have := steps_two p (perfL n es) (N := 104) h1
    omega
set_option maxRecDepth 20000 in
set_option maxHeartbeats 4000000 in
theorem CyI_c (n : Int) (v : Value) (es : List (Int × Int)) (H : AH) (hr : RowP 83 H v es) (hlen : es.length ≤ 1099511627776) (hes : ∀ y ∈ es, I64 y.1 ∧ I64 y.2) (hn : I64 n) :
    ACalls Tryz.prog 9 [.agg (List.toArray [.int .i64 n, v])] H fun r H' => ∃ a b, r = .tuple (List.toArray [.agg (List.toArray [a, b]), .bool (decide (Grd n es))]) ∧ SpIn H.length H'.length H' a b (perfR n es) (cyS n es) ∧ H <+: H' := by
  refine in9 rfl ?_
  intro Q hQ
  simp (maxSteps := 1000000) (disch := omega) only [cd9, hr.boxG, S, S1, S2, S3, S4, S5, ST, eq_self, reduceIte, reduceCtorEq, Nat.reduceEqDiff, Nat.reduceAdd]
  generalize hA0 : H ++ [AObj.cells [.int .i64 n, v] 31 false] = A0
  have pA0 : H <+: A0 := by rw [← hA0]; exact List.prefix_append _ _
  have cA0 : A0[H.length]? = some (.cells [.int .i64 n, v] 31 false) := by rw [← hA0]; exact at_new ..
  have rA0 := hr.pre pA0
  simp (maxSteps := 1000000) (disch := omega) only [alloc_sp, S, S1, S2, S3, S4, S5, ST, eq_self, reduceIte, reduceCtorEq, Nat.reduceEqDiff, Nat.reduceAdd]
  generalize hA : A0 ++ [AObj.cells [.slice none 0 0, .slice none 0 0] 28 false] = A
  have pA1 : A0 <+: A := by rw [← hA]; exact List.prefix_append _ _
  have lA0 : A0.length = H.length + 1 := by rw [← hA0]; simp
  have cS : A[A0.length]? = some (.cells [.slice none 0 0, .slice none 0 0] 28 false) := by rw [← hA]; exact at_new ..
  have lA : A.length = A0.length + 1 := by rw [← hA]; simp
  have pA := pA0.trans pA1
  have cA := pre_at pA1 cA0
  have rA := rA0.pre pA1
  simp (maxSteps := 1000000) (disch := omega) only [ld_agg ag31 cs31 cA, S, S1, S2, S3, S4, S5, ST, eq_self, reduceIte, reduceCtorEq, Nat.reduceEqDiff, Nat.reduceAdd]
  refine CallH.by (IsGraph_c n v es A rA (by omega)) ?_
  rintro _ B ⟨rfl, pB⟩
  have cB := pre_at pB cA
  have cSB := pre_at pB cS
  have pHB := pA.trans pB
  have lB := pB.length_le
  have hstore0 := st_ss cSB rfl none none 0 0 0 0
  by_cases e : Grd n es
  rotate_left
  · simp (maxSteps := 1000000) (disch := omega) only [decide_eq_false e, bld_sp0, hstore0, S, S1, S2, S3, S4, S5, ST, eq_self, reduceIte, reduceCtorEq, Nat.reduceEqDiff, Nat.reduceAdd]
    have d4 := at_set (d := .cells [.slice none 0 0, .slice none 0 0] 28 false) cSB
    refine hQ _ _ _ (end_cell2 _ _ _ _ _ _ _ (.agg (List.toArray [.slice none 0 0, .slice none 0 0])) (.bool false) ?_ rfl ?_ rfl ⟨_, _, by rw [decide_eq_false e], ⟨H.length, Nat.le_refl _, by simp; omega, ?_, ?_⟩, ?_⟩)
    · simp (maxSteps := 1000000) (disch := omega) only [ld_agg ag28 cs28 d4, S, S1, S2, S3, S4, S5, ST, eq_self, reduceIte, reduceCtorEq, Nat.reduceEqDiff, Nat.reduceAdd]
    · simp (maxSteps := 1000000) (disch := omega) only [S, S1, S2, S3, S4, S5, ST, eq_self, reduceIte, reduceCtorEq, Nat.reduceEqDiff, Nat.reduceAdd]
    · have : perfR n es = [] := by unfold perfR; rw [if_neg e]
      rw [this]; exact .inl ⟨rfl, rfl⟩
    · have : cyS n es = [] := by unfold cyS; rw [if_neg e]
      rw [this]; exact .inl ⟨rfl, rfl⟩
    · exact pre_set pHB (by omega) _
  obtain ⟨k, rfl⟩ : ∃ k : Nat, n = k := ⟨n.toNat, by have := e.1; omega⟩
  have h28 := grd_28 e
  simp (maxSteps := 1000000) (disch := omega) only [decide_eq_true e, ld_agg ag31 cs31 cB, S, S1, S2, S3, S4, S5, ST, eq_self, reduceIte, reduceCtorEq, Nat.reduceEqDiff, Nat.reduceAdd]
  refine CallH.by (perfect_c (k : Int) v es B (rA.pre pB) (by omega) e) ?_
  rintro a C ⟨hL, pC⟩
  obtain ⟨us, r1, r2, r3⟩ := hL.parts
  have cC := pre_at pC cB
  have cSC := pre_at pC cSB
  have lC := pC.length_le
  obtain ⟨hsrt, hcnt, hin, hstp⟩ := qs_ok e (cyB k es)
  have hS := cyF_c k v es e cC (rA.pre (pB.trans pC))
  have hpL : perfR (k : Int) es = perfL (k : Int) es := by unfold perfR; rw [if_pos e]
  have hpP : cyS (k : Int) es = steps (cyB k es) (perfL (k : Int) es) := by unfold cyS; rw [if_pos e, Int.toNat_natCast]
  rw [hpL, hpP] at hQ
  generalize perfL (k : Int) es = ls at *
  have hsts : Sts C a us ls := ⟨r1, r2, fun i hi => (r3 i hi).row.1, fun i hi => by
    have : ls.getD i [] ∈ ls := by simp [hi]
    have := hin _ this; omega, by omega, hsrt⟩
  simp (maxSteps := 1000000) (disch := omega) only [mkf_1C, S, S1, S2, S3, S4, S5, ST, eq_self, reduceIte, reduceCtorEq, Nat.reduceEqDiff, Nat.reduceAdd]
  refine CallH.by (spaceOf_c hsts (by omega) 43 _ (cyB k es) hS (List.prefix_refl _)) ?_
  rintro _ D ⟨st, rfl, hst, pD⟩
  have hrowD : SpRow D a st ls (steps (cyB k es) ls) := ⟨⟨_, (hL.row).pre pD⟩, hst.row⟩
  simp (maxSteps := 1000000) (disch := omega) only [S, S1, S2, S3, S4, S5, ST, eq_self, reduceIte, reduceCtorEq, Nat.reduceEqDiff, Nat.reduceAdd]
  refine CallH.by (orNone_c a st _ _ D hrowD (by omega) hstp) ?_
  rintro _ E ⟨rfl, pE⟩
  have hrowE := hrowD.pre pE
  have cSE := pre_at (pD.trans pE) cSC
  have hstore := hrowE.store cSE rfl
  simp (maxSteps := 1000000) (disch := omega) only [hstore, S, S1, S2, S3, S4, S5, ST, eq_self, reduceIte, reduceCtorEq, Nat.reduceEqDiff, Nat.reduceAdd]
  have d4 := at_set (d := .cells [a, st] 28 false) cSE
  have lD := pD.length_le
  have lE := pE.length_le
  refine hQ _ _ _ (end_cell2 _ _ _ _ _ _ _ (.agg (List.toArray [a, st])) (.bool true) ?_ rfl ?_ rfl ⟨a, st, by rw [decide_eq_true e], ⟨C.length, by omega, by simp; omega, ?_, ?_⟩, ?_⟩)
  · simp (maxSteps := 1000000) (disch := omega) only [ld_agg ag28 cs28 d4, S, S1, S2, S3, S4, S5, ST, eq_self, reduceIte, reduceCtorEq, Nat.reduceEqDiff, Nat.reduceAdd]
  · simp (maxSteps := 1000000) (disch := omega) only [S, S1, S2, S3, S4, S5, ST, eq_self, reduceIte, reduceCtorEq, Nat.reduceEqDiff, Nat.reduceAdd]
  · rcases hL.pre (pD.trans pE) with q | ⟨o, us', q1, q2⟩
    · exact .inl q
    · refine .inr ⟨o, us', q1, (q2.move fun j y hj1 hj2 hy => ?_).wide (by omega) (Nat.le_refl _)⟩
      rw [List.getElem?_set_ne (by omega)]; exact hy
  · have hI := InP.of (hst.pre pE)
    rcases hI with q | ⟨o, zs, q1, q2, q3, q4, q5⟩
    · exact .inl q
    · exact .inr ⟨o, zs, q1, q2, by simpa using q3, by rw [List.getElem?_set_ne (by omega)]; exact q4, q5⟩
  · exact pre_set (pHB.trans (pC.trans (pD.trans pE))) (by omega) _
end Go.Proofs.YtlfongfhbkefmaaGreat.Ai
namespace Go.Proofs.YtlfongfhbkefmaaGreat.Ai
open Go
def ords37 : List (Nat × List (Nat × Bool)) := [(8, [(0, false), (1, false), (2, false), (3, false), (4, false), (5, false), (6, false), (7, false), (8, false), (9, false), (10, false), (11, true), (12, false)])]
def cd37 : Cd := (.seq (.reg [⟨⟨some 2, Op.box 31 (Operand.tmp 0), none⟩, []⟩,
  ⟨⟨some 4, Op.alloc 28, none⟩, []⟩]) (.seq (.reg [⟨⟨some 9, Op.load 31 (Operand.tmp 2), none⟩, []⟩,
  ⟨⟨some 10, Op.call { callee := (Callee.value (Operand.func 85)), args := #[(Operand.tmp 9)], argTypes := #[31] }, none⟩, []⟩,
  ⟨⟨some 11, Op.buildSlice 22 0 #[], none⟩, []⟩,
  ⟨⟨some 12, Op.build 28 #[(0, (Operand.tmp 10)), (1, (Operand.tmp 11))], none⟩, []⟩,
  ⟨⟨some 5, Op.alloc 28, none⟩, []⟩,
  ⟨⟨none, Op.store 28 (Operand.tmp 5) (Operand.tmp 12), none⟩, []⟩]) (.seq (.seq (.reg [⟨⟨some 6, Op.assign (Operand.const (Value.int IntKind.i64 0)), none⟩, []⟩]) (.block 0 (.loop (.seq (.seq (.reg [⟨⟨some 13, Op.move (Operand.tmp 6), none⟩, []⟩,
  ⟨⟨some 14, Op.fieldAddr 28 (Operand.tmp 5) 0, none⟩, []⟩,
  ⟨⟨some 15, Op.load 26 (Operand.tmp 14), none⟩, []⟩,
  ⟨⟨some 16, Op.call { callee := (Callee.builtin Builtin.len), args := #[(Operand.tmp 15)], argTypes := #[26] }, none⟩, []⟩,
  ⟨⟨some 17, Op.binOp BinOp.lss 3 (Operand.tmp 13) (Operand.tmp 16) 3, none⟩, []⟩]) (.cond (Operand.tmp 17) .skip (.exit 0))) (.seq (.block 1 (.seq (.reg [⟨⟨some 20, Op.move (Operand.tmp 6), none⟩, []⟩,
  ⟨⟨some 21, Op.binOp BinOp.add 3 (Operand.tmp 20) (Operand.const (Value.int IntKind.i64 1)) 3, none⟩, []⟩,
  ⟨⟨some 7, Op.assign (Operand.tmp 21), none⟩, []⟩]) (.block 2 (.loop (.seq (.seq (.reg [⟨⟨some 22, Op.move (Operand.tmp 7), none⟩, []⟩,
  ⟨⟨some 23, Op.fieldAddr 28 (Operand.tmp 5) 0, none⟩, []⟩,
  ⟨⟨some 24, Op.load 26 (Operand.tmp 23), none⟩, []⟩,
  ⟨⟨some 25, Op.call { callee := (Callee.builtin Builtin.len), args := #[(Operand.tmp 24)], argTypes := #[26] }, none⟩, []⟩,
  ⟨⟨some 26, Op.binOp BinOp.lss 3 (Operand.tmp 22) (Operand.tmp 25) 3, none⟩, []⟩]) (.cond (Operand.tmp 26) .skip (.exit 2))) (.seq (.block 3 (.seq (.reg [⟨⟨some 29, Op.load 31 (Operand.tmp 2), none⟩, []⟩,
  ⟨⟨some 30, Op.fieldAddr 28 (Operand.tmp 5) 0, none⟩, []⟩,
  ⟨⟨some 31, Op.load 26 (Operand.tmp 30), none⟩, []⟩,
  ⟨⟨some 32, Op.move (Operand.tmp 6), none⟩, []⟩,
  ⟨⟨some 33, Op.indexAddr 26 (Operand.tmp 31) (Operand.tmp 32), none⟩, []⟩,
  ⟨⟨some 34, Op.load 38 (Operand.tmp 33), none⟩, []⟩,
  ⟨⟨some 35, Op.fieldAddr 28 (Operand.tmp 5) 0, none⟩, []⟩,
  ⟨⟨some 36, Op.load 26 (Operand.tmp 35), none⟩, []⟩,
  ⟨⟨some 37, Op.move (Operand.tmp 7), none⟩, []⟩,
  ⟨⟨some 38, Op.indexAddr 26 (Operand.tmp 36) (Operand.tmp 37), none⟩, []⟩,
  ⟨⟨some 39, Op.load 38 (Operand.tmp 38), none⟩, []⟩,
  ⟨⟨some 40, Op.call { callee := (Callee.value (Operand.func 86)), args := #[(Operand.tmp 29), (Operand.tmp 34), (Operand.tmp 39)], argTypes := #[31, 38, 38] }, none⟩, []⟩,
  ⟨⟨some 8, Op.assign (Operand.tmp 40), none⟩, []⟩]) (.seq (.reg [⟨⟨some 41, Op.move (Operand.tmp 8), none⟩, []⟩,
  ⟨⟨some 42, Op.call { callee := (Callee.builtin Builtin.len), args := #[(Operand.tmp 41)], argTypes := #[26] }, none⟩, []⟩,
  ⟨⟨some 43, Op.binOp BinOp.eql 3 (Operand.tmp 42) (Operand.const (Value.int IntKind.i64 1)) 3, none⟩, []⟩,
  ⟨⟨some 44, Op.move (Operand.tmp 43), none⟩, []⟩,
  ⟨⟨some 45, Op.move (Operand.tmp 8), some (44, true)⟩, []⟩,
  ⟨⟨some 46, Op.indexAddr 26 (Operand.tmp 45) (Operand.const (Value.int IntKind.i64 0)), some (44, true)⟩, []⟩,
  ⟨⟨some 47, Op.load 38 (Operand.tmp 46), some (44, true)⟩, []⟩,
  ⟨⟨some 48, Op.call { callee := (Callee.builtin Builtin.len), args := #[(Operand.tmp 47)], argTypes := #[38] }, some (44, true)⟩, []⟩,
  ⟨⟨some 49, Op.move (Operand.tmp 1), some (44, true)⟩, []⟩,
  ⟨⟨some 50, Op.binOp BinOp.leq 3 (Operand.tmp 48) (Operand.tmp 49) 3, some (44, true)⟩, []⟩,
  ⟨⟨some 51, Op.pick (Operand.tmp 44) (Operand.tmp 50) (Operand.const (Value.bool false)), none⟩, []⟩]) (.cond (Operand.tmp 51) (.reg [⟨⟨some 52, Op.fieldAddr 28 (Operand.tmp 5) 1, none⟩, []⟩,
  ⟨⟨some 53, Op.load 22 (Operand.tmp 52), none⟩, []⟩,
  ⟨⟨some 54, Op.move (Operand.tmp 6), none⟩, []⟩,
  ⟨⟨some 55, Op.move (Operand.tmp 7), none⟩, []⟩,
  ⟨⟨some 56, Op.build 83 #[(0, (Operand.tmp 54)), (1, (Operand.tmp 55))], none⟩, []⟩,
  ⟨⟨some 57, Op.buildSlice 22 1 #[(0, (Operand.tmp 56))], none⟩, []⟩,
  ⟨⟨some 58, Op.call { callee := (Callee.builtin Builtin.append), args := #[(Operand.tmp 53), (Operand.tmp 57)], argTypes := #[22, 22] }, none⟩, []⟩,
  ⟨⟨some 59, Op.fieldAddr 28 (Operand.tmp 5) 1, none⟩, []⟩,
  ⟨⟨none, Op.store 22 (Operand.tmp 59) (Operand.tmp 58), none⟩, []⟩]) .skip)))) (.reg [⟨⟨some 27, Op.move (Operand.tmp 7), none⟩, []⟩,
  ⟨⟨some 28, Op.binOp BinOp.add 3 (Operand.tmp 27) (Operand.const (Value.int IntKind.i64 1)) 3, none⟩, []⟩,
  ⟨⟨some 7, Op.assign (Operand.tmp 28), none⟩, []⟩]))))))) (.reg [⟨⟨some 18, Op.move (Operand.tmp 6), none⟩, []⟩,
  ⟨⟨some 19, Op.binOp BinOp.add 3 (Operand.tmp 18) (Operand.const (Value.int IntKind.i64 1)) 3, none⟩, []⟩,
  ⟨⟨some 6, Op.assign (Operand.tmp 19), none⟩, []⟩])))))) (.seq (.reg [⟨⟨some 60, Op.load 28 (Operand.tmp 5), none⟩, []⟩,
  ⟨⟨none, Op.store 28 (Operand.tmp 4) (Operand.tmp 60), none⟩, []⟩]) .ret))))
theorem sl37 : slim Tryz.f37.ntmps ords37 (Tryz.f37.body.getD .skip) = some cd37 := by kernel_rfl
set_option maxRecDepth 20000 in
theorem in37 {args : List Value} {H : AH} {R : Value → AH → Prop} (hl : args.length = 2) (h : ∀ (Q : Exit → Sl → AH → Prop), (∀ e s H, endA Tryz.prog [ResultVar.cell 4 28] R e s H → Q e s H) → wpC Tryz.prog cd37 Q (enterA args) H) : ACalls Tryz.prog 37 args H R :=
  ACalls.intro (by kernel_rfl) Tryz.func37 rfl (by kernel_rfl) sl37 hl (of_decide_eq_true (by kernel_rfl)) (by kernel_rfl) h
def ords7 : List (Nat × List (Nat × Bool)) := []
def cd7 : Cd := (.seq (.reg [⟨⟨some 1, Op.box 31 (Operand.tmp 0), none⟩, []⟩,
  ⟨⟨some 2, Op.alloc 28, none⟩, []⟩,
  ⟨⟨some 3, Op.assign (Operand.const (Value.bool false)), none⟩, []⟩]) (.seq (.seq (.reg [⟨⟨some 4, Op.load 31 (Operand.tmp 1), none⟩, []⟩,
  ⟨⟨some 5, Op.call { callee := (Callee.value (Operand.func 36)), args := #[(Operand.tmp 4)], argTypes := #[31] }, none⟩, []⟩,
  ⟨⟨some 6, Op.unOp UnOp.not 4 (Operand.tmp 5), none⟩, []⟩]) (.cond (Operand.tmp 6) (.seq (.reg [⟨⟨some 7, Op.build 28 #[], none⟩, []⟩,
  ⟨⟨none, Op.store 28 (Operand.tmp 2) (Operand.tmp 7), none⟩, []⟩,
  ⟨⟨some 3, Op.assign (Operand.const (Value.bool false)), none⟩, []⟩]) .ret) .skip)) (.seq (.reg [⟨⟨some 8, Op.load 31 (Operand.tmp 1), none⟩, []⟩,
  ⟨⟨some 9, Op.call { callee := (Callee.value (Operand.func 37)), args := #[(Operand.tmp 8), (Operand.const (Value.int IntKind.i64 8))], argTypes := #[31, 3] }, none⟩, []⟩,
  ⟨⟨none, Op.store 28 (Operand.tmp 2) (Operand.tmp 9), none⟩, []⟩,
  ⟨⟨some 3, Op.assign (Operand.const (Value.bool true)), none⟩, []⟩]) .ret)))
theorem sl7 : slim Tryz.f7.ntmps ords7 (Tryz.f7.body.getD .skip) = some cd7 := by kernel_rfl
set_option maxRecDepth 20000 in
theorem in7 {args : List Value} {H : AH} {R : Value → AH → Prop} (hl : args.length = 1) (h : ∀ (Q : Exit → Sl → AH → Prop), (∀ e s H, endA Tryz.prog [ResultVar.cell 2 28, ResultVar.tmp 3] R e s H → Q e s H) → wpC Tryz.prog cd7 Q (enterA args) H) : ACalls Tryz.prog 7 args H R :=
  ACalls.intro (by kernel_rfl) Tryz.func7 rfl (by kernel_rfl) sl7 hl (of_decide_eq_true (by kernel_rfl)) (by kernel_rfl) h
end Go.Proofs.YtlfongfhbkefmaaGreat.Ai
namespace Go.Proofs.YtlfongfhbkefmaaGreat.Ai
open Go Go.RowKit
set_option linter.unusedVariables false
set_option linter.unusedSimpArgs false
theorem stpI_congr {p q : List Int → List Int → Bool} {ls : List (List Int)} (h : ∀ x ∈ ls, ∀ y ∈ ls, p x y = q x y) (i : Nat) (hi : i < ls.length) : ∀ k, i + 1 + k ≤ ls.length → stpI p ls i k = stpI q ls i k
  | 0, _ => rfl
  | k + 1, hk => by
    rw [stpI, stpI, stpI_congr h i hi k (by omega), h _ (by simp [hi]) _ (by simp [show i + 1 + k < ls.length by omega])]
theorem stpO_congr {p q : List Int → List Int → Bool} {ls : List (List Int)} (h : ∀ x ∈ ls, ∀ y ∈ ls, p x y = q x y) : ∀ i, i ≤ ls.length → stpO p ls i = stpO q ls i
  | 0, _ => rfl
  | i + 1, hi => by
    rw [stpO, stpO, stpO_congr h i (by omega), stpI_congr h i (by omega) _ (by omega)]
/-- one piece with at most so many nodes -/
def spB (n : Nat) (es : List (Int × Int)) (m : Int) (a b : List Int) : Bool := decide ((piecesL (dE es a b) (domL (dE es a b) n n)).length = 1) && decide ((((piecesL (dE es a b) (domL (dE es a b) n n)).getD 0 []).length : Int) ≤ m)
theorem sp_cy {n : Nat} {es : List (Int × Int)} (hg : Grd (n : Int) es) : ∀ x ∈ perfL (n : Int) es, ∀ y ∈ perfL (n : Int) es, spB n es 8 x y = cyB n es x y := by
  intro x hx y hy
  unfold spB cyB
  generalize dE es x y = E
  by_cases h : (piecesL E (domL E n n)).length = 1
  · rw [decide_eq_true h, Bool.true_and, decide_eq_true_eq]
    obtain ⟨P, hP⟩ := List.length_eq_one_iff.1 h
    rw [hP]
    have hm : P ∈ piecesL E (domL E n n) := by rw [hP]; simp
    have hPn : P.Nodup := by
      obtain ⟨y, _, rfl⟩ := pieces_mem hm
      exact asc_nodup (reach_srt _ _ _)
    have := nodup_le_of P _ hPn fun z hz => piece_sub hm hz
    have := domL_len E n n
    have h8 := hg.1
    show ((P.length : Nat) : Int) ≤ 8
    omega
  · rw [decide_eq_false h, Bool.false_and]
set_option maxRecDepth 20000 in
set_option maxHeartbeats 8000000 in
theorem l8Space_c (n : Nat) (m0 : Int) (v : Value) (es : List (Int × Int)) (H : AH) (hr : RowP 83 H v es) (hg : Grd (n : Int) es) :
    ACalls Tryz.prog 37 [.agg (List.toArray [.int .i64 (n : Int), v]), .int .i64 m0] H fun r H' => ∃ a b, r = .agg (List.toArray [a, b]) ∧ SpIn H.length H'.length H' a b (perfL (n : Int) es) (steps (spB n es m0) (perfL (n : Int) es)) ∧ H <+: H' := by
  have h28 := grd_28 hg
  refine in37 rfl ?_
  intro Q hQ
  simp (maxSteps := 1000000) (disch := omega) only [cd37, hr.boxG, S, S1, S2, S3, S4, S5, ST, eq_self, reduceIte, reduceCtorEq, Nat.reduceEqDiff, Nat.reduceAdd]
  generalize hA0 : H ++ [AObj.cells [.int .i64 ↑n, v] 31 false] = A0
  have pA0 : H <+: A0 := by rw [← hA0]; exact List.prefix_append _ _
  have cA0 : A0[H.length]? = some (.cells [.int .i64 ↑n, v] 31 false) := by rw [← hA0]; exact at_new ..
  have rA0 := hr.pre pA0
  simp (maxSteps := 1000000) (disch := omega) only [alloc_sp, S, S1, S2, S3, S4, S5, ST, eq_self, reduceIte, reduceCtorEq, Nat.reduceEqDiff, Nat.reduceAdd]
  generalize hA : A0 ++ [AObj.cells [.slice none 0 0, .slice none 0 0] 28 false] = A
  have pA1 : A0 <+: A := by rw [← hA]; exact List.prefix_append _ _
  have lA0 : A0.length = H.length + 1 := by rw [← hA0]; simp
  have cS : A[A0.length]? = some (.cells [.slice none 0 0, .slice none 0 0] 28 false) := by rw [← hA]; exact at_new ..
  have lA : A.length = A0.length + 1 := by rw [← hA]; simp
  have pA := pA0.trans pA1
  have cA := pre_at pA1 cA0
  have rA := rA0.pre pA1
  simp (maxSteps := 1000000) (disch := omega) only [ld_agg ag31 cs31 cA, S, S1, S2, S3, S4, S5, ST, eq_self, reduceIte, reduceCtorEq, Nat.reduceEqDiff, Nat.reduceAdd]
  refine CallH.by (l8Perfect_c (n : Int) v es A rA hg) ?_
  rintro a D ⟨hL, pD⟩
  obtain ⟨us, r1, r2, r3⟩ := hL.parts
  have hmt : ∀ x ∈ perfL (n : Int) es, Mtc es x ∧ 2 * x.length = n ∧ x.Nodup ∧ x.length ≤ 4 := fun x hx => perf_nat hg hx
  have hcnt := (qs_ok hg (spB n es m0)).2.1
  generalize perfL (n : Int) es = ls at *
  obtain ⟨pa, hpa⟩ := r1.shape
  have lD := pD.length_le
  have hb2 := bld_sp2 pa (some ⟨D.length, 0, none⟩) us.length us.length 0 0
  rw [← hpa] at hb2
  simp (maxSteps := 1000000) (disch := omega) only [hb2, alloc_sp, S, S1, S2, S3, S4, S5, ST, eq_self, reduceIte, reduceCtorEq, Nat.reduceEqDiff, Nat.reduceAdd]
  generalize hE : D ++ [AObj.cells [] 83 false] = E
  have pE : D <+: E := by rw [← hE]; exact List.prefix_append _ _
  have lE : E.length = D.length + 1 := by rw [← hE]; simp
  have m0' : MineP 83 D E (.slice (some ⟨D.length, 0, none⟩) 0 0) [] := by rw [← hE]; exact MineP.nil0 (P := Tryz.prog) D D (Nat.le_refl _)
  have st1 := st_ss (at_new E (.cells [.slice none 0 0, .slice none 0 0] 28 false)) rfl pa (some ⟨D.length, 0, none⟩) us.length us.length 0 0
  rw [set_new, ← hpa] at st1
  simp (maxSteps := 1000000) (disch := omega) only [st1, S, S1, S2, S3, S4, S5, ST, eq_self, reduceIte, reduceCtorEq, Nat.reduceEqDiff, Nat.reduceAdd]
  generalize hG : E ++ [AObj.cells [a, .slice (some ⟨D.length, 0, none⟩) 0 0] 28 false] = G
  have pG : E <+: G := by rw [← hG]; exact List.prefix_append _ _
  have cG : G[E.length]? = some (.cells [a, .slice (some ⟨D.length, 0, none⟩) 0 0] 28 false) := by rw [← hG]; exact at_new ..
  have lG : G.length = E.length + 1 := by rw [← hG]; simp
  have pDG := pE.trans pG
  have cSD := pre_at pD cS
  have cGD := pre_at pD cA
  have rD := rA.pre pD
  have pHD := pA.trans pD
  have rowA : ∀ {H'}, D <+: H' → RowV 38 H' a us := fun hp => r1.pre hp
  have rowI : ∀ {H'} (i : Nat), i < ls.length → D <+: H' → Row 3 H' (us.getD i undef) (ls.getD i []) := fun i hi hp => (r3 i hi).row.1.pre hp
  have sm : ∀ i, i < ls.length → (ls.getD i []).length ≤ 4 := fun i hi => (hmt _ (by simp [hi])).2.2.2
  refine LoopH.by (fun m s H' => ∃ i st, m + i = ls.length ∧ s 1 = .int .i64 m0 ∧ s 2 = .pointer (some ⟨H.length, 0, none⟩) ∧ s 4 = .pointer (some ⟨A0.length, 0, none⟩) ∧ s 5 = .pointer (some ⟨E.length, 0, none⟩) ∧ s 6 = .int .i64 ((i : Nat) : Int) ∧ H'[E.length]? = some (.cells [a, st] 28 false) ∧ (rowO st = D.length ∨ G.length ≤ rowO st) ∧ st ≠ .slice none 0 0 ∧ MineP 83 D H' st (stpO (spB n es m0) ls i) ∧ D <+: H') ls.length ?_ ?_
  · exact ⟨0, .slice (some ⟨D.length, 0, none⟩) 0 0, by simp, rfl, rfl, rfl, rfl, rfl, cG, .inl rfl, (by intro e; cases e), m0'.pre pG, pDG⟩
  rintro m s H' ⟨i, st, hm, s1, s2, s4, s6, s7, hc5, hst, hsn, hmn, hpp⟩
  simp (maxSteps := 1000000) (disch := omega) only [s1, s2, s4, s6, s7, cell_of hc5, (rowA hpp).len Tryz.underlying26, r2, S, S1, S2, S3, S4, S5, ST, eq_self, reduceIte, reduceCtorEq, Nat.reduceEqDiff, Nat.reduceAdd]
  refine brD.intro (fun g => ?_) (fun g => ?_)
  rotate_left
  · have hi : i = ls.length := by omega
    subst hi
    have hrow : SpRow H' a st ls (stpO (spB n es m0) ls ls.length) := ⟨⟨_, hL.row.pre hpp⟩, hmn.row⟩
    have cAH := pre_at hpp cSD
    have hstore := hrow.store cAH rfl
    simp (maxSteps := 1000000) (disch := omega) only [s1, s2, s4, s6, ld_agg ag28 cs28 hc5, hstore, S, S1, S2, S3, S4, S5, ST, eq_self, reduceIte, reduceCtorEq, Nat.reduceEqDiff, Nat.reduceAdd]
    have d4 := at_set (d := .cells [a, st] 28 false) cAH
    have lH' := hpp.length_le
    refine hQ _ _ _ (end_cell _ _ _ _ _ _ (.agg (List.toArray [a, st])) ?_ rfl ⟨a, st, rfl, ⟨D.length, by omega, by simp; omega, ?_, ?_⟩, ?_⟩)
    · simp (maxSteps := 1000000) (disch := omega) only [s4, ld_agg ag28 cs28 d4, S, S1, S2, S3, S4, S5, ST, eq_self, reduceIte, reduceCtorEq, Nat.reduceEqDiff, Nat.reduceAdd]
    · rcases hL.pre hpp with q | ⟨o, us', q1, q2⟩
      · exact .inl q
      · refine .inr ⟨o, us', q1, (q2.move fun j y hj1 hj2 hy => ?_).wide (by omega) (Nat.le_refl _)⟩
        rw [List.getElem?_set_ne (by omega)]; exact hy
    · rcases InP.of hmn with q | ⟨o, zs, q1, q2, q3, q4, q5⟩
      · exact .inl q
      · exact .inr ⟨o, zs, q1, q2, by simpa using q3, by rw [List.getElem?_set_ne (by omega)]; exact q4, q5⟩
    · exact pre_set (pHD.trans hpp) (by omega) _
  have hi : i < ls.length := by omega
  simp (maxSteps := 1000000) (disch := omega) only [s1, s2, s4, s6, s7, wrap64, S, S1, S2, S3, S4, S5, ST, eq_self, reduceIte, reduceCtorEq, Nat.reduceEqDiff, Nat.reduceAdd]
  refine LoopH.by (fun m' s' H'' => ∃ j st', m' + j = ls.length - (i + 1) ∧ s' 1 = .int .i64 m0 ∧ s' 2 = .pointer (some ⟨H.length, 0, none⟩) ∧ s' 4 = .pointer (some ⟨A0.length, 0, none⟩) ∧ s' 5 = .pointer (some ⟨E.length, 0, none⟩) ∧ s' 6 = .int .i64 ((i : Nat) : Int) ∧ s' 7 = .int .i64 ((i + 1 + j : Nat) : Int) ∧ H''[E.length]? = some (.cells [a, st'] 28 false) ∧ (rowO st' = D.length ∨ G.length ≤ rowO st') ∧ st' ≠ .slice none 0 0 ∧ MineP 83 D H'' st' (stpO (spB n es m0) ls i ++ stpI (spB n es m0) ls i j) ∧ D <+: H'') (ls.length - (i + 1)) ?_ ?_
  · refine ⟨0, st, by simp, ?_⟩
    simp only [S, S1, S2, S3, S4, S5, ST, eq_self, reduceIte, reduceCtorEq, Nat.reduceEqDiff, Nat.reduceAdd, s1, s2, s4, s6, s7]
    have f0 : MineP 83 D H' st (stpO (spB n es m0) ls i ++ stpI (spB n es m0) ls i 0) := by rw [stpI, List.append_nil]; exact hmn
    (repeat' first | exact hc5 | exact hst | exact hsn | exact f0 | exact hpp | apply And.intro) <;> first | (simp only [Value.int.injEq, true_and]; omega) | omega | rfl | assumption | (simp; done) | (simp; omega)
  · rintro m' s' H'' ⟨j, st', hm', g1, g2, g4, g6, g7, g8, hc5', hst', hsn', hmn', hpp'⟩
    simp (maxSteps := 1000000) (disch := omega) only [g1, g2, g4, g6, g7, g8, cell_of hc5', (rowA hpp').len Tryz.underlying26, r2, S, S1, S2, S3, S4, S5, ST, eq_self, reduceIte, reduceCtorEq, Nat.reduceEqDiff, Nat.reduceAdd]
    refine brD.intro (fun q => ?_) (fun q => ?_)
    · have hj : i + 1 + j < ls.length := by omega
      have hci := (rowA hpp').cell (show i < us.length by omega)
      have hcj := (rowA hpp').cell (show i + 1 + j < us.length by omega)
      have cGH := pre_at hpp' cGD
      simp (maxSteps := 1000000) (disch := omega) only [g1, g2, g4, g6, g7, g8, cell_of hc5', ld_agg ag31 cs31 cGH, (rowA hpp').ix Tryz.underlying26 cs38, Int.toNat_natCast, hci, hcj, S, S1, S2, S3, S4, S5, ST, eq_self, reduceIte, reduceCtorEq, Nat.reduceEqDiff, Nat.reduceAdd]
      refine CallH.by (l8Pieces_c n v _ _ es _ _ H'' (rD.pre hpp') (by omega) hg (rowI i hi hpp') (rowI (i + 1 + j) hj hpp') (by have := sm i hi; omega) (by have := sm _ hj; omega)) ?_
      rintro u K ⟨hu, pK⟩
      obtain ⟨vs, v1, v2, v3⟩ := hu.parts
      have hcK := pre_at pK hc5'
      have hpK := hpp'.trans pK
      have hmK := hmn'.pre pK
      have hsl1 := stpO_len (spB n es m0) ls i
      have hsl2 := stpI_len (spB n es m0) ls i j
      have hmul : i * ls.length ≤ 300 * 300 := Nat.mul_le_mul (by omega) (by omega)
      have lK := hpK.length_le
      have l5 := at_lt hc5'
      have hne : ∀ o, o = E.length → o ≠ rowO st' := fun o ho => by omega
      have yes : spB n es m0 (ls.getD i []) (ls.getD (i + 1 + j) []) = true → _ := fun ht => (show stpI (spB n es m0) ls i (j + 1) = stpI (spB n es m0) ls i j ++ [((i : Int), ((i + 1 + j : Nat) : Int))] by rw [stpI, if_pos ht])
      have nay : ¬ spB n es m0 (ls.getD i []) (ls.getD (i + 1 + j) []) = true → _ := fun ht => (show stpI (spB n es m0) ls i (j + 1) = stpI (spB n es m0) ls i j by rw [stpI, if_neg ht, List.append_nil])
      by_cases e1 : (piecesL (dE es (ls.getD i []) (ls.getD (i + 1 + j) [])) (domL (dE es (ls.getD i []) (ls.getD (i + 1 + j) [])) n n)).length = 1
      · have e1' : ((vs.length : Nat) : Int) = 1 := by omega
        have hv0 := v1.cell (show 0 < vs.length by omega)
        rw [Nat.add_zero] at hv0
        have hrow0 := (v3 0 (by omega)).row.1
        simp (maxSteps := 1000000) (disch := omega) only [g1, g2, g4, g6, g7, g8, v1.len Tryz.underlying26, decide_eq_true e1', v1.ix Tryz.underlying26 cs38, Int.toNat_zero, Nat.add_zero, hv0, hrow0.len Tryz.underlying38, S, S1, S2, S3, S4, S5, ST, eq_self, reduceIte, reduceCtorEq, Nat.reduceEqDiff, Nat.reduceAdd]
        refine brD.intro (fun e2 => ?_) (fun e2 => ?_)
        · have ht : spB n es m0 (ls.getD i []) (ls.getD (i + 1 + j) []) = true := by
            unfold spB; rw [decide_eq_true e1, decide_eq_true e2]; rfl
          have hstep := yes ht
          obtain ⟨st2, H3, k1, k2, k3, k4, k5, k6⟩ := own1_22 hmK hpK (by rw [List.length_append]; omega) (i : Int) ((i + 1 + j : Nat) : Int)
          have d5 : H3[E.length]? = some (.cells [a, st'] 28 false) := k4 _ _ (.inr (hne _ rfl)) hcK
          obtain ⟨q2, hq2⟩ := k2.row.shape
          have t2 : st2.cells.toList = [st2] := by rw [hq2]; rfl
          have hst3 := st_at (P := Tryz.prog) (t := 22) (i := 1) (y := st2) cs22 d5 (by show 1 < 2; decide) k6 t2
          have lGK : G.length ≤ K.length := by have := pK.length_le; omega
          simp (maxSteps := 1000000) (disch := omega) only [e2, g1, g2, g4, g6, g7, g8, cell_of hcK, build_a2, wrap64, k1, hst3, S, S1, S2, S3, S4, S5, ST, eq_self, reduceIte, reduceCtorEq, Nat.reduceEqDiff, Nat.reduceAdd]
          have f5 : (H3.set E.length (.cells ([a, st'].set 1 st2) 28 false))[E.length]? = some (.cells [a, st2] 28 false) := by
            rw [List.getElem?_set_self (at_lt d5)]; rfl
          have fs1 : rowO st2 = D.length ∨ G.length ≤ rowO st2 := .inr (by omega)
          have fs2 : st2 ≠ .slice none 0 0 := by
            intro hh
            rw [hh] at k5
            have : rowO (Value.slice none 0 0) = 0 := rfl
            omega
          have fm : MineP 83 D (H3.set E.length (.cells ([a, st'].set 1 st2) 28 false)) st2 (stpO (spB n es m0) ls i ++ stpI (spB n es m0) ls i (j + 1)) := by
            rw [hstep, ← List.append_assoc]
            exact k2.keepL fun hl y hy => by rw [List.getElem?_set_ne (by omega)]; exact hy
          have fp : D <+: H3.set E.length (.cells ([a, st'].set 1 st2) 28 false) := pre_set k3 (by omega) _
          refine ⟨m' - 1, by omega, j + 1, st2, ?_⟩
          (repeat' first | exact f5 | exact fs1 | exact fs2 | exact fm | exact fp | apply And.intro) <;> first | (simp only [Value.int.injEq, true_and]; omega) | omega | rfl | assumption | (simp; done) | (simp; omega)
        · have hstep := nay (by unfold spB; rw [decide_eq_true e1, decide_eq_false e2]; decide)
          rw [← hstep] at hmK
          simp (maxSteps := 1000000) (disch := omega) only [e2, g1, g2, g4, g6, g7, g8, wrap64, S, S1, S2, S3, S4, S5, ST, eq_self, reduceIte, reduceCtorEq, Nat.reduceEqDiff, Nat.reduceAdd]
          refine ⟨m' - 1, by omega, j + 1, st', ?_⟩
          (repeat' first | exact hcK | exact hst' | exact hsn' | exact hmK | exact hpK | apply And.intro) <;> first | (simp only [Value.int.injEq, true_and]; omega) | omega | rfl | assumption | (simp; done) | (simp; omega)
      · have e1' : ¬ ((vs.length : Nat) : Int) = 1 := by omega
        have hstep := nay (by unfold spB; rw [decide_eq_false e1, Bool.false_and]; decide)
        rw [← hstep] at hmK
        simp (maxSteps := 1000000) (disch := omega) only [g1, g2, g4, g6, g7, g8, v1.len Tryz.underlying26, decide_eq_false e1', wrap64, S, S1, S2, S3, S4, S5, ST, eq_self, reduceIte, reduceCtorEq, Nat.reduceEqDiff, Nat.reduceAdd]
        refine ⟨m' - 1, by omega, j + 1, st', ?_⟩
        (repeat' first | exact hcK | exact hst' | exact hsn' | exact hmK | exact hpK | apply And.intro) <;> first | (simp only [Value.int.injEq, true_and]; omega) | omega | rfl | assumption | (simp; done) | (simp; omega)
    · have hjj : j = ls.length - (i + 1) := by omega
      subst hjj
      have hstO : stpO (spB n es m0) ls (i + 1) = stpO (spB n es m0) ls i ++ stpI (spB n es m0) ls i (ls.length - (i + 1)) := rfl
      rw [← hstO] at hmn'
      simp (maxSteps := 1000000) (disch := omega) only [g1, g2, g4, g6, g7, g8, wrap64, S, S1, S2, S3, S4, S5, ST, eq_self, reduceIte, reduceCtorEq, Nat.reduceEqDiff, Nat.reduceAdd]
      refine ⟨m - 1, by omega, i + 1, st', ?_⟩
      (repeat' first | exact hc5' | exact hst' | exact hsn' | exact hmn' | exact hpp' | apply And.intro) <;> first | (simp only [Value.int.injEq, true_and]; omega) | omega | rfl | assumption | (simp; done) | (simp; omega)
theorem sq_sz (n : Int) (es : List (Int × Int)) : (perfR n es).length ≤ 1099511627776 ∧ sizeL (perfR n es) ≤ 549755813888 := by
  unfold perfR
  split
  · rename_i h
    have h1 := qs_ok h fun _ _ => true
    have := sizeL_max 4 _ h1.2.2.1
    omega
  · simp [sizeL]
theorem cy_ok (n : Int) (es : List (Int × Int)) : (perfR n es).length ≤ 1099511627776 ∧ sizeL (perfR n es) ≤ 549755813888 ∧ (cyS n es).length ≤ 1099511627776 := by
  refine ⟨(sq_sz n es).1, (sq_sz n es).2, ?_⟩
  unfold cyS
  split
  · rename_i h
    have := (qs_ok h (cyB n.toNat es)).2.2.2; omega
  · simp
set_option maxRecDepth 20000 in
set_option maxHeartbeats 4000000 in
theorem CyS_c (n : Int) (v : Value) (es : List (Int × Int)) (H : AH) (hr : RowP 83 H v es) (hlen : es.length ≤ 1099511627776) (hes : ∀ y ∈ es, I64 y.1 ∧ I64 y.2) (hn : I64 n) :
    ACalls Tryz.prog 7 [.agg (List.toArray [.int .i64 n, v])] H fun r H' => ∃ a b, r = .tuple (List.toArray [.agg (List.toArray [a, b]), .bool (decide (Grd n es))]) ∧ SpIn H.length H'.length H' a b (perfR n es) (cyS n es) ∧ H <+: H' := by
  refine in7 rfl ?_
  intro Q hQ
  simp (maxSteps := 1000000) (disch := omega) only [cd7, hr.boxG, S, S1, S2, S3, S4, S5, ST, eq_self, reduceIte, reduceCtorEq, Nat.reduceEqDiff, Nat.reduceAdd]
  generalize hA0 : H ++ [AObj.cells [.int .i64 n, v] 31 false] = A0
  have pA0 : H <+: A0 := by rw [← hA0]; exact List.prefix_append _ _
  have cA0 : A0[H.length]? = some (.cells [.int .i64 n, v] 31 false) := by rw [← hA0]; exact at_new ..
  have rA0 := hr.pre pA0
  simp (maxSteps := 1000000) (disch := omega) only [alloc_sp, S, S1, S2, S3, S4, S5, ST, eq_self, reduceIte, reduceCtorEq, Nat.reduceEqDiff, Nat.reduceAdd]
  generalize hA : A0 ++ [AObj.cells [.slice none 0 0, .slice none 0 0] 28 false] = A
  have pA1 : A0 <+: A := by rw [← hA]; exact List.prefix_append _ _
  have lA0 : A0.length = H.length + 1 := by rw [← hA0]; simp
  have cS : A[A0.length]? = some (.cells [.slice none 0 0, .slice none 0 0] 28 false) := by rw [← hA]; exact at_new ..
  have lA : A.length = A0.length + 1 := by rw [← hA]; simp
  have pA := pA0.trans pA1
  have cA := pre_at pA1 cA0
  have rA := rA0.pre pA1
  simp (maxSteps := 1000000) (disch := omega) only [ld_agg ag31 cs31 cA, S, S1, S2, S3, S4, S5, ST, eq_self, reduceIte, reduceCtorEq, Nat.reduceEqDiff, Nat.reduceAdd]
  refine CallH.by (l2Good_c n v es A rA (by omega)) ?_
  rintro _ B ⟨rfl, pB⟩
  have cB := pre_at pB cA
  have cSB := pre_at pB cS
  have pHB := pA.trans pB
  have lB := pB.length_le
  have hstore0 := st_ss cSB rfl none none 0 0 0 0
  by_cases e : Grd n es
  rotate_left
  · simp (maxSteps := 1000000) (disch := omega) only [decide_eq_false e, bld_sp0, hstore0, S, S1, S2, S3, S4, S5, ST, eq_self, reduceIte, reduceCtorEq, Nat.reduceEqDiff, Nat.reduceAdd]
    have d4 := at_set (d := .cells [.slice none 0 0, .slice none 0 0] 28 false) cSB
    refine hQ _ _ _ (end_cell2 _ _ _ _ _ _ _ (.agg (List.toArray [.slice none 0 0, .slice none 0 0])) (.bool false) ?_ rfl ?_ rfl ⟨_, _, by rw [decide_eq_false e], ⟨H.length, Nat.le_refl _, by simp; omega, ?_, ?_⟩, ?_⟩)
    · simp (maxSteps := 1000000) (disch := omega) only [ld_agg ag28 cs28 d4, S, S1, S2, S3, S4, S5, ST, eq_self, reduceIte, reduceCtorEq, Nat.reduceEqDiff, Nat.reduceAdd]
    · simp (maxSteps := 1000000) (disch := omega) only [S, S1, S2, S3, S4, S5, ST, eq_self, reduceIte, reduceCtorEq, Nat.reduceEqDiff, Nat.reduceAdd]
    · have : perfR n es = [] := by unfold perfR; rw [if_neg e]
      rw [this]; exact .inl ⟨rfl, rfl⟩
    · have : cyS n es = [] := by unfold cyS; rw [if_neg e]
      rw [this]; exact .inl ⟨rfl, rfl⟩
    · exact pre_set pHB (by omega) _
  obtain ⟨k, rfl⟩ : ∃ k : Nat, n = k := ⟨n.toNat, by have := e.1; omega⟩
  simp (maxSteps := 1000000) (disch := omega) only [decide_eq_true e, ld_agg ag31 cs31 cB, S, S1, S2, S3, S4, S5, ST, eq_self, reduceIte, reduceCtorEq, Nat.reduceEqDiff, Nat.reduceAdd]
  refine CallH.by (l8Space_c k 8 v es B (rA.pre pB) e) ?_
  rintro _ C ⟨a, b, rfl, hs, pC⟩
  have cSC := pre_at pC cSB
  have lC := pC.length_le
  have hpL : perfR (k : Int) es = perfL (k : Int) es := by unfold perfR; rw [if_pos e]
  have hpP : cyS (k : Int) es = steps (spB k es 8) (perfL (k : Int) es) := by
    unfold cyS
    rw [if_pos e, Int.toNat_natCast]
    exact (stpO_congr (sp_cy e) _ (Nat.le_refl _)).symm
  rw [hpL, hpP] at hQ
  have hstore := hs.row.store cSC rfl
  obtain ⟨mid, m1, m2, hL, hP⟩ := hs
  simp (maxSteps := 1000000) (disch := omega) only [hstore, S, S1, S2, S3, S4, S5, ST, eq_self, reduceIte, reduceCtorEq, Nat.reduceEqDiff, Nat.reduceAdd]
  have d4 := at_set (d := .cells [a, b] 28 false) cSC
  refine hQ _ _ _ (end_cell2 _ _ _ _ _ _ _ (.agg (List.toArray [a, b])) (.bool true) ?_ rfl ?_ rfl ⟨a, b, by rw [decide_eq_true e], ⟨mid, by omega, by simp; omega, ?_, ?_⟩, ?_⟩)
  · simp (maxSteps := 1000000) (disch := omega) only [ld_agg ag28 cs28 d4, S, S1, S2, S3, S4, S5, ST, eq_self, reduceIte, reduceCtorEq, Nat.reduceEqDiff, Nat.reduceAdd]
  · simp (maxSteps := 1000000) (disch := omega) only [S, S1, S2, S3, S4, S5, ST, eq_self, reduceIte, reduceCtorEq, Nat.reduceEqDiff, Nat.reduceAdd]
  · rcases hL with q | ⟨o, us', q1, q2⟩
    · exact .inl q
    · refine .inr ⟨o, us', q1, (q2.move fun j y hj1 hj2 hy => ?_).wide (by omega) (Nat.le_refl _)⟩
      rw [List.getElem?_set_ne (by omega)]; exact hy
  · rcases hP with q | ⟨o, zs, q1, q2, q3, q4, q5⟩
    · exact .inl q
    · exact .inr ⟨o, zs, q1, q2, by simpa using q3, by rw [List.getElem?_set_ne (by omega)]; exact q4, q5⟩
  · exact pre_set (pHB.trans pC) (by omega) _
end Go.Proofs.YtlfongfhbkefmaaGreat.Ai
namespace Go.Proofs.YtlfongfhbkefmaaGreat.Ai
open Go
def ords3 : List (Nat × List (Nat × Bool)) := [(10, [(0, false), (1, false), (2, true), (3, true), (4, false)])]
def cd3 : Cd := (.seq (.reg [⟨⟨some 1, Op.box 24 (Operand.tmp 0), none⟩, []⟩,
  ⟨⟨some 2, Op.assign (Operand.const (Value.bool false)), none⟩, []⟩]) (.seq (.reg [⟨⟨some 3, Op.assign (Operand.const (Value.int IntKind.i64 1048576)), none⟩, []⟩]) (.seq (.reg [⟨⟨some 14, Op.load 24 (Operand.tmp 1), none⟩, []⟩,
  ⟨⟨some 15, Op.move (Operand.tmp 3), none⟩, []⟩,
  ⟨⟨some 16, Op.call { callee := (Callee.value (Operand.func 6)), args := #[(Operand.tmp 14), (Operand.tmp 15)], argTypes := #[24, 3] }, none⟩, []⟩,
  ⟨⟨some 3, Op.assign (Operand.tmp 16), none⟩, []⟩]) (.seq (.seq (.reg [⟨⟨some 17, Op.move (Operand.tmp 3), none⟩, []⟩,
  ⟨⟨some 18, Op.binOp BinOp.lss 3 (Operand.tmp 17) (Operand.const (Value.int IntKind.i64 0)) 3, none⟩, []⟩]) (.cond (Operand.tmp 18) (.seq (.reg [⟨⟨some 2, Op.assign (Operand.const (Value.bool true)), none⟩, []⟩]) .ret) .skip)) (.seq (.reg [⟨⟨some 20, Op.load 24 (Operand.tmp 1), none⟩, []⟩,
  ⟨⟨some 21, Op.call { callee := (Callee.value (Operand.func 8)), args := #[(Operand.tmp 20)], argTypes := #[24] }, none⟩, []⟩,
  ⟨⟨some 22, Op.call { callee := (Callee.value (Operand.func 7)), args := #[(Operand.tmp 21)], argTypes := #[31] }, none⟩, []⟩,
  ⟨⟨some 19, Op.move (Operand.tmp 22), none⟩, []⟩,
  ⟨⟨some 23, Op.extract (Operand.tmp 19) 0, none⟩, []⟩,
  ⟨⟨some 24, Op.extract (Operand.tmp 19) 1, none⟩, []⟩,
  ⟨⟨some 4, Op.alloc 28, none⟩, []⟩,
  ⟨⟨none, Op.store 28 (Operand.tmp 4) (Operand.tmp 23), none⟩, []⟩,
  ⟨⟨some 5, Op.assign (Operand.tmp 24), none⟩, []⟩]) (.seq (.reg [⟨⟨some 25, Op.load 24 (Operand.tmp 1), none⟩, []⟩,
  ⟨⟨some 26, Op.call { callee := (Callee.value (Operand.func 8)), args := #[(Operand.tmp 25)], argTypes := #[24] }, none⟩, []⟩,
  ⟨⟨some 6, Op.alloc 31, none⟩, []⟩,
  ⟨⟨none, Op.store 31 (Operand.tmp 6) (Operand.tmp 26), none⟩, []⟩]) (.seq (.reg [⟨⟨some 28, Op.load 31 (Operand.tmp 6), none⟩, []⟩,
  ⟨⟨some 29, Op.call { callee := (Callee.value (Operand.func 9)), args := #[(Operand.tmp 28)], argTypes := #[31] }, none⟩, []⟩,
  ⟨⟨some 27, Op.move (Operand.tmp 29), none⟩, []⟩,
  ⟨⟨some 30, Op.extract (Operand.tmp 27) 0, none⟩, []⟩,
  ⟨⟨some 31, Op.extract (Operand.tmp 27) 1, none⟩, []⟩,
  ⟨⟨some 7, Op.alloc 28, none⟩, []⟩,
  ⟨⟨none, Op.store 28 (Operand.tmp 7) (Operand.tmp 30), none⟩, []⟩,
  ⟨⟨some 8, Op.assign (Operand.tmp 31), none⟩, []⟩]) (.seq (.seq (.reg [⟨⟨some 32, Op.load 28 (Operand.tmp 7), none⟩, []⟩,
  ⟨⟨some 33, Op.load 28 (Operand.tmp 4), none⟩, []⟩,
  ⟨⟨some 34, Op.call { callee := (Callee.value (Operand.func 10)), args := #[(Operand.tmp 32), (Operand.tmp 33)], argTypes := #[28, 28] }, none⟩, []⟩,
  ⟨⟨some 35, Op.unOp UnOp.not 4 (Operand.tmp 34), none⟩, []⟩,
  ⟨⟨some 36, Op.move (Operand.tmp 35), none⟩, []⟩,
  ⟨⟨some 37, Op.move (Operand.tmp 8), some (36, false)⟩, []⟩,
  ⟨⟨some 38, Op.move (Operand.tmp 5), some (36, false)⟩, []⟩,
  ⟨⟨some 39, Op.binOp BinOp.neq 4 (Operand.tmp 37) (Operand.tmp 38) 4, some (36, false)⟩, []⟩,
  ⟨⟨some 40, Op.pick (Operand.tmp 36) (Operand.const (Value.bool true)) (Operand.tmp 39), none⟩, []⟩]) (.cond (Operand.tmp 40) (.seq (.reg [⟨⟨some 2, Op.assign (Operand.const (Value.bool false)), none⟩, []⟩]) .ret) .skip)) (.seq (.seq (.reg [⟨⟨some 41, Op.load 31 (Operand.tmp 6), none⟩, []⟩,
  ⟨⟨some 42, Op.load 24 (Operand.tmp 1), none⟩, []⟩,
  ⟨⟨some 43, Op.call { callee := (Callee.value (Operand.func 8)), args := #[(Operand.tmp 42)], argTypes := #[24] }, none⟩, [⟨some 41, Op.load 31 (Operand.tmp 6), none⟩]⟩,
  ⟨⟨some 44, Op.call { callee := (Callee.value (Operand.func 11)), args := #[(Operand.tmp 41), (Operand.tmp 43)], argTypes := #[31, 31] }, none⟩, []⟩,
  ⟨⟨some 45, Op.unOp UnOp.not 4 (Operand.tmp 44), none⟩, []⟩]) (.cond (Operand.tmp 45) (.seq (.reg [⟨⟨some 2, Op.assign (Operand.const (Value.bool false)), none⟩, []⟩]) .ret) .skip)) (.seq (.reg [⟨⟨some 9, Op.assign (Operand.const (Value.int IntKind.i64 1)), none⟩, []⟩]) (.seq (.reg [⟨⟨some 46, Op.load 31 (Operand.tmp 6), none⟩, []⟩,
  ⟨⟨some 47, Op.move (Operand.tmp 9), none⟩, []⟩,
  ⟨⟨some 48, Op.call { callee := (Callee.value (Operand.func 12)), args := #[(Operand.tmp 46), (Operand.tmp 47)], argTypes := #[31, 3] }, none⟩, []⟩,
  ⟨⟨some 9, Op.assign (Operand.tmp 48), none⟩, []⟩]) (.seq (.seq (.reg [⟨⟨some 49, Op.move (Operand.tmp 9), none⟩, []⟩,
  ⟨⟨some 50, Op.binOp BinOp.lss 3 (Operand.tmp 49) (Operand.const (Value.int IntKind.i64 0)) 3, none⟩, []⟩,
  ⟨⟨some 51, Op.move (Operand.tmp 50), none⟩, []⟩,
  ⟨⟨some 52, Op.load 28 (Operand.tmp 7), some (51, false)⟩, []⟩,
  ⟨⟨some 53, Op.load 28 (Operand.tmp 4), some (51, false)⟩, []⟩,
  ⟨⟨some 54, Op.call { callee := (Callee.value (Operand.func 10)), args := #[(Operand.tmp 52), (Operand.tmp 53)], argTypes := #[28, 28] }, some (51, false)⟩, []⟩,
  ⟨⟨some 55, Op.unOp UnOp.not 4 (Operand.tmp 54), some (51, false)⟩, []⟩,
  ⟨⟨some 56, Op.pick (Operand.tmp 51) (Operand.const (Value.bool true)) (Operand.tmp 55), none⟩, []⟩,
  ⟨⟨some 57, Op.move (Operand.tmp 56), none⟩, []⟩,
  ⟨⟨some 58, Op.move (Operand.tmp 8), some (57, false)⟩, []⟩,
  ⟨⟨some 59, Op.move (Operand.tmp 5), some (57, false)⟩, []⟩,
  ⟨⟨some 60, Op.binOp BinOp.neq 4 (Operand.tmp 58) (Operand.tmp 59) 4, some (57, false)⟩, []⟩,
  ⟨⟨some 61, Op.pick (Operand.tmp 57) (Operand.const (Value.bool true)) (Operand.tmp 60), none⟩, []⟩]) (.cond (Operand.tmp 61) (.seq (.reg [⟨⟨some 2, Op.assign (Operand.const (Value.bool false)), none⟩, []⟩]) .ret) .skip)) (.seq (.reg [⟨⟨some 10, Op.assign (Operand.const (Value.int IntKind.i64 1)), none⟩, []⟩]) (.seq (.reg [⟨⟨some 62, Op.load 28 (Operand.tmp 7), none⟩, []⟩,
  ⟨⟨some 63, Op.move (Operand.tmp 10), none⟩, []⟩,
  ⟨⟨some 64, Op.call { callee := (Callee.value (Operand.func 13)), args := #[(Operand.tmp 62), (Operand.tmp 63)], argTypes := #[28, 3] }, none⟩, []⟩,
  ⟨⟨some 10, Op.assign (Operand.tmp 64), none⟩, []⟩]) (.seq (.reg [⟨⟨some 11, Op.assign (Operand.const (Value.int IntKind.i64 1)), none⟩, []⟩]) (.seq (.reg [⟨⟨some 65, Op.load 28 (Operand.tmp 7), none⟩, []⟩,
  ⟨⟨some 66, Op.move (Operand.tmp 11), none⟩, []⟩,
  ⟨⟨some 67, Op.call { callee := (Callee.value (Operand.func 14)), args := #[(Operand.tmp 65), (Operand.tmp 66)], argTypes := #[28, 3] }, none⟩, []⟩,
  ⟨⟨some 11, Op.assign (Operand.tmp 67), none⟩, []⟩]) (.seq (.seq (.reg [⟨⟨some 68, Op.move (Operand.tmp 11), none⟩, []⟩,
  ⟨⟨some 69, Op.binOp BinOp.lss 3 (Operand.tmp 68) (Operand.const (Value.int IntKind.i64 0)) 3, none⟩, []⟩]) (.cond (Operand.tmp 69) (.seq (.reg [⟨⟨some 2, Op.assign (Operand.const (Value.bool false)), none⟩, []⟩]) .ret) .skip)) (.seq (.seq (.reg [⟨⟨some 70, Op.move (Operand.tmp 11), none⟩, []⟩,
  ⟨⟨some 71, Op.move (Operand.tmp 10), none⟩, []⟩,
  ⟨⟨some 72, Op.binOp BinOp.neq 3 (Operand.tmp 70) (Operand.tmp 71) 3, none⟩, []⟩]) (.cond (Operand.tmp 72) (.seq (.reg [⟨⟨some 2, Op.assign (Operand.const (Value.bool false)), none⟩, []⟩]) .ret) .skip)) (.seq (.reg [⟨⟨some 74, Op.load 24 (Operand.tmp 1), none⟩, []⟩,
  ⟨⟨some 75, Op.call { callee := (Callee.value (Operand.func 8)), args := #[(Operand.tmp 74)], argTypes := #[24] }, none⟩, []⟩,
  ⟨⟨some 76, Op.call { callee := (Callee.value (Operand.func 9)), args := #[(Operand.tmp 75)], argTypes := #[31] }, none⟩, []⟩,
  ⟨⟨some 73, Op.move (Operand.tmp 76), none⟩, []⟩,
  ⟨⟨some 77, Op.extract (Operand.tmp 73) 0, none⟩, []⟩,
  ⟨⟨some 78, Op.extract (Operand.tmp 73) 1, none⟩, []⟩,
  ⟨⟨some 12, Op.alloc 28, none⟩, []⟩,
  ⟨⟨none, Op.store 28 (Operand.tmp 12) (Operand.tmp 77), none⟩, []⟩,
  ⟨⟨some 13, Op.assign (Operand.tmp 78), none⟩, []⟩]) (.seq (.seq (.reg [⟨⟨some 79, Op.load 28 (Operand.tmp 12), none⟩, []⟩,
  ⟨⟨some 80, Op.load 28 (Operand.tmp 4), none⟩, []⟩,
  ⟨⟨some 81, Op.call { callee := (Callee.value (Operand.func 10)), args := #[(Operand.tmp 79), (Operand.tmp 80)], argTypes := #[28, 28] }, none⟩, []⟩,
  ⟨⟨some 82, Op.unOp UnOp.not 4 (Operand.tmp 81), none⟩, []⟩,
  ⟨⟨some 83, Op.move (Operand.tmp 82), none⟩, []⟩,
  ⟨⟨some 84, Op.move (Operand.tmp 13), some (83, false)⟩, []⟩,
  ⟨⟨some 85, Op.move (Operand.tmp 5), some (83, false)⟩, []⟩,
  ⟨⟨some 86, Op.binOp BinOp.neq 4 (Operand.tmp 84) (Operand.tmp 85) 4, some (83, false)⟩, []⟩,
  ⟨⟨some 87, Op.pick (Operand.tmp 83) (Operand.const (Value.bool true)) (Operand.tmp 86), none⟩, []⟩]) (.cond (Operand.tmp 87) (.seq (.reg [⟨⟨some 2, Op.assign (Operand.const (Value.bool false)), none⟩, []⟩]) .ret) .skip)) (.seq (.reg [⟨⟨some 11, Op.assign (Operand.const (Value.int IntKind.i64 1)), none⟩, []⟩]) (.seq (.reg [⟨⟨some 88, Op.load 28 (Operand.tmp 7), none⟩, []⟩,
  ⟨⟨some 89, Op.move (Operand.tmp 11), none⟩, []⟩,
  ⟨⟨some 90, Op.call { callee := (Callee.value (Operand.func 14)), args := #[(Operand.tmp 88), (Operand.tmp 89)], argTypes := #[28, 3] }, none⟩, []⟩,
  ⟨⟨some 11, Op.assign (Operand.tmp 90), none⟩, []⟩]) (.seq (.seq (.reg [⟨⟨some 91, Op.move (Operand.tmp 11), none⟩, []⟩,
  ⟨⟨some 92, Op.binOp BinOp.lss 3 (Operand.tmp 91) (Operand.const (Value.int IntKind.i64 0)) 3, none⟩, []⟩]) (.cond (Operand.tmp 92) (.seq (.reg [⟨⟨some 2, Op.assign (Operand.const (Value.bool false)), none⟩, []⟩]) .ret) .skip)) (.seq (.seq (.reg [⟨⟨some 93, Op.move (Operand.tmp 11), none⟩, []⟩,
  ⟨⟨some 94, Op.move (Operand.tmp 10), none⟩, []⟩,
  ⟨⟨some 95, Op.binOp BinOp.neq 3 (Operand.tmp 93) (Operand.tmp 94) 3, none⟩, []⟩]) (.cond (Operand.tmp 95) (.seq (.reg [⟨⟨some 2, Op.assign (Operand.const (Value.bool false)), none⟩, []⟩]) .ret) .skip)) (.seq (.reg [⟨⟨some 2, Op.assign (Operand.const (Value.bool true)), none⟩, []⟩]) .ret)))))))))))))))))))))))))
theorem sl3 : slim Tryz.f3.ntmps ords3 (Tryz.f3.body.getD .skip) = some cd3 := by kernel_rfl
theorem in3 {args : List Value} {H : AH} {R : Value → AH → Prop} (hl : args.length = 1) (h : ∀ (Q : Exit → Sl → AH → Prop), (∀ e s H, endA Tryz.prog [ResultVar.tmp 2] R e s H → Q e s H) → wpC Tryz.prog cd3 Q (enterA args) H) : ACalls Tryz.prog 3 args H R :=
  ACalls.intro (by kernel_rfl) Tryz.func3 rfl (by kernel_rfl) sl3 hl (of_decide_eq_true (by kernel_rfl)) (by kernel_rfl) h
end Go.Proofs.YtlfongfhbkefmaaGreat.Ai
namespace Go.Proofs.YtlfongfhbkefmaaGreat.Ai
open Go Go.RowKit
set_option linter.unusedVariables false
set_option linter.unusedSimpArgs false
set_option maxRecDepth 20000 in
set_option maxHeartbeats 8000000 in
theorem cySLaw_c  (n0 : Int) (v0 : Value) (xs0 : List (Int × Int)) (H0 : AH) (r0 : RowP 83 H0 v0 xs0) (b0 : (∀ y ∈ xs0, I64 y.1 ∧ I64 y.2) ∧ (xs0.length : Int) ≤ 9223372036854775807) (bn0 : I64 n0) :
    ACalls Tryz.prog 3 [.agg (List.toArray [.int .i64 n0, v0])] H0 fun r H' => r = .bool true := by
  refine in3 rfl ?_
  intro Q hQ
  simp (maxSteps := 4000000) (disch := omega) only [cd3, r0.boxL, S, S1, S2, S3, S4, S5, ST, eq_self, reduceIte, reduceCtorEq, Nat.reduceEqDiff, Nat.reduceAdd]
  generalize hG0 : H0 ++ [AObj.cells [.int .i64 n0, v0] 24 false] = H1
  have p1 : H0 <+: H1 := by rw [← hG0]; exact List.prefix_append _ _
  have CB0_1 : H1[H0.length]? = some (.cells [.int .i64 n0, v0] 24 false) := by rw [← hG0]; exact at_new ..
  have L1 := p1.length_le
  have Lb := at_lt CB0_1
  try simp (maxSteps := 4000000) (disch := omega) only [ld_agg ag24 cs24 CB0_1, S, S1, S2, S3, S4, S5, ST, eq_self, reduceIte, reduceCtorEq, Nat.reduceEqDiff, Nat.reduceAdd]
  have Ra0_0 := r0.b
  have Ra0_1 := Ra0_0.pre p1
  refine CallH.by (szGraph_c n0 v0 xs0 (1048576) H1 Ra0_1.1 (by omega) b0.2) ?_
  rintro _ H2 ⟨rfl, p2⟩
  have Ra0_2 := Ra0_1.pre p2
  have CB0_2 := pre_at p2 CB0_1
  have L2 := p2.length_le
  simp (maxSteps := 4000000) (disch := omega) only [ld_agg ag24 cs24 CB0_2, S, S1, S2, S3, S4, S5, ST, eq_self, reduceIte, reduceCtorEq, Nat.reduceEqDiff, Nat.reduceAdd]
  by_cases g0 : 1048576 - (xs0.length : Int) < 0
  · rw [if_pos g0]
    try simp (maxSteps := 4000000) (disch := omega) only [ld_agg ag24 cs24 CB0_2, S, S1, S2, S3, S4, S5, ST, eq_self, reduceIte, reduceCtorEq, Nat.reduceEqDiff, Nat.reduceAdd]
    try (refine brD.intro (fun _ => ?_) (fun h => absurd h (by omega)))
    try simp (maxSteps := 4000000) (disch := omega) only [ld_agg ag24 cs24 CB0_2, S, S1, S2, S3, S4, S5, ST, eq_self, reduceIte, reduceCtorEq, Nat.reduceEqDiff, Nat.reduceAdd]
    refine hQ _ _ _ ?_
    simp (maxSteps := 4000000) (disch := omega) only [ld_agg ag24 cs24 CB0_2, S, S1, S2, S3, S4, S5, ST, eq_self, reduceIte, reduceCtorEq, Nat.reduceEqDiff, Nat.reduceAdd]
  rw [if_neg g0]
  try simp (maxSteps := 4000000) (disch := omega) only [g0, ld_agg ag24 cs24 CB0_2, S, S1, S2, S3, S4, S5, ST, eq_self, reduceIte, reduceCtorEq, Nat.reduceEqDiff, Nat.reduceAdd]
  try refine brD.intro (fun h => absurd h (by omega)) (fun _ => ?_)
  try simp (maxSteps := 4000000) (disch := omega) only [g0, ld_agg ag24 cs24 CB0_2, S, S1, S2, S3, S4, S5, ST, eq_self, reduceIte, reduceCtorEq, Nat.reduceEqDiff, Nat.reduceAdd]
  have l0 : xs0.length ≤ 1048576 := by omega
  have L0_big : xs0.length ≤ 1099511627776 := by omega
  refine CallH.by (toGraph_c n0 v0 xs0 H2 Ra0_2.1 L0_big) ?_
  rintro _ H3 ⟨c0, rfl, qc0, p3⟩
  have Ra0_3 := Ra0_2.pre p3
  have CB0_3 := pre_at p3 CB0_2
  have L3 := p3.length_le
  have Mc0_3 := InP.of qc0
  have Rc0_3 := Mc0_3.row
  simp (maxSteps := 4000000) (disch := omega) only [ld_agg ag24 cs24 CB0_3, S, S1, S2, S3, S4, S5, ST, eq_self, reduceIte, reduceCtorEq, Nat.reduceEqDiff, Nat.reduceAdd]
  refine CallH.by (CyS_c  n0 c0 xs0 H3 Rc0_3.1 L0_big b0.1 bn0) ?_
  rintro _ H4 ⟨w0a, w0b, rfl, qw0, p4⟩
  have Ra0_4 := Ra0_3.pre p4
  have Rc0_4 := Rc0_3.pre p4
  have Mc0_4 := Mc0_3.pre p4
  have CB0_4 := pre_at p4 CB0_3
  have L4 := p4.length_le
  have Mw0_4 := qw0
  have Rw0_4 := Mw0_4.row
  have hstw0 := Rw0_4.store (at_new H4 (.cells [.slice none 0 0, .slice none 0 0] 28 false)) rfl
  simp (maxSteps := 4000000) (disch := omega) only [alloc_sp, hstw0, set_new, ld_agg ag24 cs24 CB0_4, S, S1, S2, S3, S4, S5, ST, eq_self, reduceIte, reduceCtorEq, Nat.reduceEqDiff, Nat.reduceAdd]
  generalize hXw0 : H4 ++ [AObj.cells [w0a, w0b] 28 false] = H5
  have p5 : H4 <+: H5 := by rw [← hXw0]; exact List.prefix_append _ _
  have Cw0_5 : H5[H4.length]? = some (.cells [w0a, w0b] 28 false) := by rw [← hXw0]; exact at_new ..
  have Lxw0 := at_lt Cw0_5
  have Ra0_5 := Ra0_4.pre p5
  have Rc0_5 := Rc0_4.pre p5
  have Rw0_5 := Rw0_4.pre p5
  have Mc0_5 := Mc0_4.pre p5
  have Mw0_5 := Mw0_4.pre p5
  have CB0_5 := pre_at p5 CB0_4
  have L5 := p5.length_le
  try simp (maxSteps := 4000000) (disch := omega) only [ld_agg ag24 cs24 CB0_5, ld_agg ag28 cs28 Cw0_5, S, S1, S2, S3, S4, S5, ST, eq_self, reduceIte, reduceCtorEq, Nat.reduceEqDiff, Nat.reduceAdd]
  refine CallH.by (toGraph_c n0 v0 xs0 H5 Ra0_5.1 L0_big) ?_
  rintro _ H6 ⟨d0, rfl, qd0, p6⟩
  have Ra0_6 := Ra0_5.pre p6
  have Rw0_6 := Rw0_5.pre p6
  have Mw0_6 := Mw0_5.pre p6
  have CB0_6 := pre_at p6 CB0_5
  have Cw0_6 := pre_at p6 Cw0_5
  have L6 := p6.length_le
  have Md0_6 := InP.of qd0
  have Rd0_6 := Md0_6.row
  simp (maxSteps := 4000000) (disch := omega) only [ld_agg ag24 cs24 CB0_6, ld_agg ag28 cs28 Cw0_6, S, S1, S2, S3, S4, S5, ST, eq_self, reduceIte, reduceCtorEq, Nat.reduceEqDiff, Nat.reduceAdd]
  have hst0 := st_G Rd0_6.1 (at_new H6 (.cells [.int .i64 0, .slice none 0 0] 31 false)) rfl n0
  simp (maxSteps := 4000000) (disch := omega) only [alloc_G, hst0, set_new, ld_agg ag24 cs24 CB0_6, ld_agg ag28 cs28 Cw0_6, S, S1, S2, S3, S4, S5, ST, eq_self, reduceIte, reduceCtorEq, Nat.reduceEqDiff, Nat.reduceAdd]
  generalize hX0 : H6 ++ [AObj.cells [.int .i64 n0, d0] 31 false] = H7
  have p7 : H6 <+: H7 := by rw [← hX0]; exact List.prefix_append _ _
  have CX0_7 : H7[H6.length]? = some (.cells [.int .i64 n0, d0] 31 false) := by rw [← hX0]; exact at_new ..
  have Lx := at_lt CX0_7
  have Ra0_7 := Ra0_6.pre p7
  have Rw0_7 := Rw0_6.pre p7
  have Rd0_7 := Rd0_6.pre p7
  have Mw0_7 := Mw0_6.pre p7
  have Md0_7 := Md0_6.pre p7
  have CB0_7 := pre_at p7 CB0_6
  have Cw0_7 := pre_at p7 Cw0_6
  have L7 := p7.length_le
  try simp (maxSteps := 4000000) (disch := omega) only [ld_agg ag24 cs24 CB0_7, ld_agg ag28 cs28 Cw0_7, ld_agg ag31 cs31 CX0_7, S, S1, S2, S3, S4, S5, ST, eq_self, reduceIte, reduceCtorEq, Nat.reduceEqDiff, Nat.reduceAdd]
  refine CallH.by (CyI_c  n0 d0 xs0 H7 Rd0_7.1 L0_big b0.1 bn0) ?_
  rintro _ H8 ⟨g0a, g0b, rfl, qg0, p8⟩
  have Ra0_8 := Ra0_7.pre p8
  have Rw0_8 := Rw0_7.pre p8
  have Rd0_8 := Rd0_7.pre p8
  have Mw0_8 := Mw0_7.pre p8
  have Md0_8 := Md0_7.pre p8
  have CB0_8 := pre_at p8 CB0_7
  have Cw0_8 := pre_at p8 Cw0_7
  have CX0_8 := pre_at p8 CX0_7
  have L8 := p8.length_le
  have Mg0_8 := qg0
  have Rg0_8 := Mg0_8.row
  have hstg0 := Rg0_8.store (at_new H8 (.cells [.slice none 0 0, .slice none 0 0] 28 false)) rfl
  simp (maxSteps := 4000000) (disch := omega) only [alloc_sp, hstg0, set_new, ld_agg ag24 cs24 CB0_8, ld_agg ag28 cs28 Cw0_8, ld_agg ag31 cs31 CX0_8, S, S1, S2, S3, S4, S5, ST, eq_self, reduceIte, reduceCtorEq, Nat.reduceEqDiff, Nat.reduceAdd]
  generalize hXg0 : H8 ++ [AObj.cells [g0a, g0b] 28 false] = H9
  have p9 : H8 <+: H9 := by rw [← hXg0]; exact List.prefix_append _ _
  have Cg0_9 : H9[H8.length]? = some (.cells [g0a, g0b] 28 false) := by rw [← hXg0]; exact at_new ..
  have Lxg0 := at_lt Cg0_9
  have Ra0_9 := Ra0_8.pre p9
  have Rw0_9 := Rw0_8.pre p9
  have Rd0_9 := Rd0_8.pre p9
  have Rg0_9 := Rg0_8.pre p9
  have Mw0_9 := Mw0_8.pre p9
  have Md0_9 := Md0_8.pre p9
  have Mg0_9 := Mg0_8.pre p9
  have CB0_9 := pre_at p9 CB0_8
  have Cw0_9 := pre_at p9 Cw0_8
  have CX0_9 := pre_at p9 CX0_8
  have L9 := p9.length_le
  try simp (maxSteps := 4000000) (disch := omega) only [ld_agg ag24 cs24 CB0_9, ld_agg ag28 cs28 Cw0_9, ld_agg ag31 cs31 CX0_9, ld_agg ag28 cs28 Cg0_9, S, S1, S2, S3, S4, S5, ST, eq_self, reduceIte, reduceCtorEq, Nat.reduceEqDiff, Nat.reduceAdd]
  have hR := cy_ok n0 xs0
  refine CallH.by (eqSpace_c g0a g0b w0a w0b _ _ _ _ H9 Rg0_9 Rw0_9 hR.1 (Nat.le_trans hR.2.1 (by decide)) hR.2.2) ?_
  rintro _ H10 ⟨rfl, p10⟩
  have Ra0_10 := Ra0_9.pre p10
  have Rw0_10 := Rw0_9.pre p10
  have Rd0_10 := Rd0_9.pre p10
  have Rg0_10 := Rg0_9.pre p10
  have Mw0_10 := Mw0_9.pre p10
  have Md0_10 := Md0_9.pre p10
  have Mg0_10 := Mg0_9.pre p10
  have CB0_10 := pre_at p10 CB0_9
  have Cw0_10 := pre_at p10 Cw0_9
  have CX0_10 := pre_at p10 CX0_9
  have Cg0_10 := pre_at p10 Cg0_9
  have L10 := p10.length_le
  simp (maxSteps := 4000000) (disch := omega) only [ld_agg ag24 cs24 CB0_10, ld_agg ag28 cs28 Cw0_10, ld_agg ag31 cs31 CX0_10, ld_agg ag28 cs28 Cg0_10, S, S1, S2, S3, S4, S5, ST, eq_self, reduceIte, reduceCtorEq, Nat.reduceEqDiff, Nat.reduceAdd]
  refine CallH.by (toGraph_c n0 v0 xs0 H10 Ra0_10.1 L0_big) ?_
  rintro _ H11 ⟨f0, rfl, qf0, p11⟩
  have Ra0_11 := Ra0_10.pre p11
  have Rw0_11 := Rw0_10.pre p11
  have Rd0_11 := Rd0_10.pre p11
  have Rg0_11 := Rg0_10.pre p11
  have Mw0_11 := Mw0_10.pre p11
  have Md0_11 := Md0_10.pre p11
  have Mg0_11 := Mg0_10.pre p11
  have CB0_11 := pre_at p11 CB0_10
  have Cw0_11 := pre_at p11 Cw0_10
  have CX0_11 := pre_at p11 CX0_10
  have Cg0_11 := pre_at p11 Cg0_10
  have L11 := p11.length_le
  have Mf0_11 := InP.of qf0
  have Rf0_11 := Mf0_11.row
  simp (maxSteps := 4000000) (disch := omega) only [ld_agg ag24 cs24 CB0_11, ld_agg ag28 cs28 Cw0_11, ld_agg ag31 cs31 CX0_11, ld_agg ag28 cs28 Cg0_11, S, S1, S2, S3, S4, S5, ST, eq_self, reduceIte, reduceCtorEq, Nat.reduceEqDiff, Nat.reduceAdd]
  refine CallH.by (eqGraph_c n0 n0 d0 f0 _ _ H11 Rd0_11.1 Rf0_11.1 L0_big) ?_
  rintro _ H12 ⟨rfl, p12⟩
  have Ra0_12 := Ra0_11.pre p12
  have Rw0_12 := Rw0_11.pre p12
  have Rd0_12 := Rd0_11.pre p12
  have Rg0_12 := Rg0_11.pre p12
  have Rf0_12 := Rf0_11.pre p12
  have Mw0_12 := Mw0_11.pre p12
  have Md0_12 := Md0_11.pre p12
  have Mg0_12 := Mg0_11.pre p12
  have Mf0_12 := Mf0_11.pre p12
  have CB0_12 := pre_at p12 CB0_11
  have Cw0_12 := pre_at p12 Cw0_11
  have CX0_12 := pre_at p12 CX0_11
  have Cg0_12 := pre_at p12 Cg0_11
  have L12 := p12.length_le
  simp (maxSteps := 4000000) (disch := omega) only [ld_agg ag24 cs24 CB0_12, ld_agg ag28 cs28 Cw0_12, ld_agg ag31 cs31 CX0_12, ld_agg ag28 cs28 Cg0_12, S, S1, S2, S3, S4, S5, ST, eq_self, reduceIte, reduceCtorEq, Nat.reduceEqDiff, Nat.reduceAdd]
  refine CallH.by (markGraph_B n0 d0 _ _ _ _ H12 Md0_12 L0_big (by omega) (by omega)) ?_
  rintro _ H14 ⟨rfl, H13, n_13, e13, p14⟩
  have L13 := Nat.le_of_eq e13.1.symm
  have Ra0_13 := Ra0_12.keep e13 (by omega)
  have Mw0_13 := Mw0_12.keep e13 (by omega)
  have Rw0_13 := Mw0_13.row
  have Mg0_13 := Mg0_12.keep e13 (by omega)
  have Rg0_13 := Mg0_13.row
  have CB0_13 := e13.2 _ _ (by omega) CB0_12
  have Cw0_13 := e13.2 _ _ (by omega) Cw0_12
  have CX0_13 := e13.2 _ _ (by omega) CX0_12
  have Cg0_13 := e13.2 _ _ (by omega) Cg0_12
  have Ra0_14 := Ra0_13.pre p14
  have Rw0_14 := Rw0_13.pre p14
  have Rg0_14 := Rg0_13.pre p14
  have Mw0_14 := Mw0_13.pre p14
  have Mg0_14 := Mg0_13.pre p14
  have CB0_14 := pre_at p14 CB0_13
  have Cw0_14 := pre_at p14 Cw0_13
  have CX0_14 := pre_at p14 CX0_13
  have Cg0_14 := pre_at p14 Cg0_13
  have L14 := p14.length_le
  simp (maxSteps := 4000000) (disch := omega) only [ld_agg ag24 cs24 CB0_14, ld_agg ag28 cs28 Cw0_14, ld_agg ag31 cs31 CX0_14, ld_agg ag28 cs28 Cg0_14, S, S1, S2, S3, S4, S5, ST, eq_self, reduceIte, reduceCtorEq, Nat.reduceEqDiff, Nat.reduceAdd]
  refine brD.intro (fun g => absurd g (by omega)) (fun gk => ?_)
  simp (maxSteps := 4000000) (disch := omega) only [gk, ld_agg ag24 cs24 CB0_14, ld_agg ag28 cs28 Cw0_14, ld_agg ag31 cs31 CX0_14, ld_agg ag28 cs28 Cg0_14, S, S1, S2, S3, S4, S5, ST, eq_self, reduceIte, reduceCtorEq, Nat.reduceEqDiff, Nat.reduceAdd]
  refine CallH.by (eqSpace_c g0a g0b w0a w0b _ _ _ _ H14 Rg0_14 Rw0_14 hR.1 (Nat.le_trans hR.2.1 (by decide)) hR.2.2) ?_
  rintro _ H15 ⟨rfl, p15⟩
  have Ra0_15 := Ra0_14.pre p15
  have Rw0_15 := Rw0_14.pre p15
  have Rg0_15 := Rg0_14.pre p15
  have Mw0_15 := Mw0_14.pre p15
  have Mg0_15 := Mg0_14.pre p15
  have CB0_15 := pre_at p15 CB0_14
  have Cw0_15 := pre_at p15 Cw0_14
  have CX0_15 := pre_at p15 CX0_14
  have Cg0_15 := pre_at p15 Cg0_14
  have L15 := p15.length_le
  simp (maxSteps := 4000000) (disch := omega) only [ld_agg ag24 cs24 CB0_15, ld_agg ag28 cs28 Cw0_15, ld_agg ag31 cs31 CX0_15, ld_agg ag28 cs28 Cg0_15, S, S1, S2, S3, S4, S5, ST, eq_self, reduceIte, reduceCtorEq, Nat.reduceEqDiff, Nat.reduceAdd]
  try simp (maxSteps := 4000000) (disch := omega) only [gk, ld_agg ag24 cs24 CB0_15, ld_agg ag28 cs28 Cw0_15, ld_agg ag31 cs31 CX0_15, ld_agg ag28 cs28 Cg0_15, S, S1, S2, S3, S4, S5, ST, eq_self, reduceIte, reduceCtorEq, Nat.reduceEqDiff, Nat.reduceAdd]
  refine CallH.by (markSpace_B g0a g0b _ _ 1 _ _ H15 Mg0_15 hR.1 hR.2.1 hR.2.2 (by omega) (by omega)) ?_
  rintro _ H17 ⟨rfl, H16, n_16, e16, p17⟩
  have L16 := Nat.le_of_eq e16.1.symm
  have Ra0_16 := Ra0_15.keep e16 (by omega)
  have Mw0_16 := Mw0_15.keep e16 (by omega)
  have Rw0_16 := Mw0_16.row
  have CB0_16 := e16.2 _ _ (by omega) CB0_15
  have Cw0_16 := e16.2 _ _ (by omega) Cw0_15
  have CX0_16 := e16.2 _ _ (by omega) CX0_15
  have Cg0_16 := e16.2 _ _ (by omega) Cg0_15
  have Mg0_16 := n_16
  have Rg0_16 := n_16.row
  have Ra0_17 := Ra0_16.pre p17
  have Rw0_17 := Rw0_16.pre p17
  have Rg0_17 := Rg0_16.pre p17
  have Mw0_17 := Mw0_16.pre p17
  have Mg0_17 := Mg0_16.pre p17
  have CB0_17 := pre_at p17 CB0_16
  have Cw0_17 := pre_at p17 Cw0_16
  have CX0_17 := pre_at p17 CX0_16
  have Cg0_17 := pre_at p17 Cg0_16
  have L17 := p17.length_le
  simp (maxSteps := 4000000) (disch := omega) only [ld_agg ag24 cs24 CB0_17, ld_agg ag28 cs28 Cw0_17, ld_agg ag31 cs31 CX0_17, ld_agg ag28 cs28 Cg0_17, S, S1, S2, S3, S4, S5, ST, eq_self, reduceIte, reduceCtorEq, Nat.reduceEqDiff, Nat.reduceAdd]
  refine CallH.by (heldSpace_c g0a g0b _ _ 1 H17 Rg0_17 hR.1 hR.2.1 hR.2.2 (by omega)) ?_
  rintro _ H18 ⟨rfl, p18⟩
  have Ra0_18 := Ra0_17.pre p18
  have Rw0_18 := Rw0_17.pre p18
  have Rg0_18 := Rg0_17.pre p18
  have Mw0_18 := Mw0_17.pre p18
  have Mg0_18 := Mg0_17.pre p18
  have CB0_18 := pre_at p18 CB0_17
  have Cw0_18 := pre_at p18 Cw0_17
  have CX0_18 := pre_at p18 CX0_17
  have Cg0_18 := pre_at p18 Cg0_17
  have L18 := p18.length_le
  simp (maxSteps := 4000000) (disch := omega) only [ld_agg ag24 cs24 CB0_18, ld_agg ag28 cs28 Cw0_18, ld_agg ag31 cs31 CX0_18, ld_agg ag28 cs28 Cg0_18, S, S1, S2, S3, S4, S5, ST, eq_self, reduceIte, reduceCtorEq, Nat.reduceEqDiff, Nat.reduceAdd]
  refine brD.intro (fun g => absurd g (by omega)) (fun _ => ?_)
  simp (maxSteps := 4000000) (disch := omega) only [ld_agg ag24 cs24 CB0_18, ld_agg ag28 cs28 Cw0_18, ld_agg ag31 cs31 CX0_18, ld_agg ag28 cs28 Cg0_18, S, S1, S2, S3, S4, S5, ST, eq_self, reduceIte, reduceCtorEq, Nat.reduceEqDiff, Nat.reduceAdd]
  refine CallH.by (toGraph_c n0 v0 xs0 H18 Ra0_18.1 L0_big) ?_
  rintro _ H19 ⟨e0, rfl, qe0, p19⟩
  have Ra0_19 := Ra0_18.pre p19
  have Rw0_19 := Rw0_18.pre p19
  have Rg0_19 := Rg0_18.pre p19
  have Mw0_19 := Mw0_18.pre p19
  have Mg0_19 := Mg0_18.pre p19
  have CB0_19 := pre_at p19 CB0_18
  have Cw0_19 := pre_at p19 Cw0_18
  have CX0_19 := pre_at p19 CX0_18
  have Cg0_19 := pre_at p19 Cg0_18
  have L19 := p19.length_le
  have Me0_19 := InP.of qe0
  have Re0_19 := Me0_19.row
  simp (maxSteps := 4000000) (disch := omega) only [ld_agg ag24 cs24 CB0_19, ld_agg ag28 cs28 Cw0_19, ld_agg ag31 cs31 CX0_19, ld_agg ag28 cs28 Cg0_19, S, S1, S2, S3, S4, S5, ST, eq_self, reduceIte, reduceCtorEq, Nat.reduceEqDiff, Nat.reduceAdd]
  refine CallH.by (CyI_c  n0 e0 xs0 H19 Re0_19.1 L0_big b0.1 bn0) ?_
  rintro _ H20 ⟨h0a, h0b, rfl, qh0, p20⟩
  have Ra0_20 := Ra0_19.pre p20
  have Rw0_20 := Rw0_19.pre p20
  have Rg0_20 := Rg0_19.pre p20
  have Re0_20 := Re0_19.pre p20
  have Mw0_20 := Mw0_19.pre p20
  have Mg0_20 := Mg0_19.pre p20
  have Me0_20 := Me0_19.pre p20
  have CB0_20 := pre_at p20 CB0_19
  have Cw0_20 := pre_at p20 Cw0_19
  have CX0_20 := pre_at p20 CX0_19
  have Cg0_20 := pre_at p20 Cg0_19
  have L20 := p20.length_le
  have Mh0_20 := qh0
  have Rh0_20 := Mh0_20.row
  have hsth0 := Rh0_20.store (at_new H20 (.cells [.slice none 0 0, .slice none 0 0] 28 false)) rfl
  simp (maxSteps := 4000000) (disch := omega) only [alloc_sp, hsth0, set_new, ld_agg ag24 cs24 CB0_20, ld_agg ag28 cs28 Cw0_20, ld_agg ag31 cs31 CX0_20, ld_agg ag28 cs28 Cg0_20, S, S1, S2, S3, S4, S5, ST, eq_self, reduceIte, reduceCtorEq, Nat.reduceEqDiff, Nat.reduceAdd]
  generalize hXh0 : H20 ++ [AObj.cells [h0a, h0b] 28 false] = H21
  have p21 : H20 <+: H21 := by rw [← hXh0]; exact List.prefix_append _ _
  have Ch0_21 : H21[H20.length]? = some (.cells [h0a, h0b] 28 false) := by rw [← hXh0]; exact at_new ..
  have Lxh0 := at_lt Ch0_21
  have Ra0_21 := Ra0_20.pre p21
  have Rw0_21 := Rw0_20.pre p21
  have Rg0_21 := Rg0_20.pre p21
  have Re0_21 := Re0_20.pre p21
  have Rh0_21 := Rh0_20.pre p21
  have Mw0_21 := Mw0_20.pre p21
  have Mg0_21 := Mg0_20.pre p21
  have Me0_21 := Me0_20.pre p21
  have Mh0_21 := Mh0_20.pre p21
  have CB0_21 := pre_at p21 CB0_20
  have Cw0_21 := pre_at p21 Cw0_20
  have CX0_21 := pre_at p21 CX0_20
  have Cg0_21 := pre_at p21 Cg0_20
  have L21 := p21.length_le
  try simp (maxSteps := 4000000) (disch := omega) only [ld_agg ag24 cs24 CB0_21, ld_agg ag28 cs28 Cw0_21, ld_agg ag31 cs31 CX0_21, ld_agg ag28 cs28 Cg0_21, ld_agg ag28 cs28 Ch0_21, S, S1, S2, S3, S4, S5, ST, eq_self, reduceIte, reduceCtorEq, Nat.reduceEqDiff, Nat.reduceAdd]
  refine CallH.by (eqSpace_c h0a h0b w0a w0b _ _ _ _ H21 Rh0_21 Rw0_21 hR.1 (Nat.le_trans hR.2.1 (by decide)) hR.2.2) ?_
  rintro _ H22 ⟨rfl, p22⟩
  have Ra0_22 := Ra0_21.pre p22
  have Rw0_22 := Rw0_21.pre p22
  have Rg0_22 := Rg0_21.pre p22
  have Re0_22 := Re0_21.pre p22
  have Rh0_22 := Rh0_21.pre p22
  have Mw0_22 := Mw0_21.pre p22
  have Mg0_22 := Mg0_21.pre p22
  have Me0_22 := Me0_21.pre p22
  have Mh0_22 := Mh0_21.pre p22
  have CB0_22 := pre_at p22 CB0_21
  have Cw0_22 := pre_at p22 Cw0_21
  have CX0_22 := pre_at p22 CX0_21
  have Cg0_22 := pre_at p22 Cg0_21
  have Ch0_22 := pre_at p22 Ch0_21
  have L22 := p22.length_le
  simp (maxSteps := 4000000) (disch := omega) only [ld_agg ag24 cs24 CB0_22, ld_agg ag28 cs28 Cw0_22, ld_agg ag31 cs31 CX0_22, ld_agg ag28 cs28 Cg0_22, ld_agg ag28 cs28 Ch0_22, S, S1, S2, S3, S4, S5, ST, eq_self, reduceIte, reduceCtorEq, Nat.reduceEqDiff, Nat.reduceAdd]
  refine CallH.by (heldSpace_c g0a g0b _ _ 1 H22 Rg0_22 hR.1 hR.2.1 hR.2.2 (by omega)) ?_
  rintro _ H23 ⟨rfl, p23⟩
  have Ra0_23 := Ra0_22.pre p23
  have Rw0_23 := Rw0_22.pre p23
  have Rg0_23 := Rg0_22.pre p23
  have Re0_23 := Re0_22.pre p23
  have Rh0_23 := Rh0_22.pre p23
  have Mw0_23 := Mw0_22.pre p23
  have Mg0_23 := Mg0_22.pre p23
  have Me0_23 := Me0_22.pre p23
  have Mh0_23 := Mh0_22.pre p23
  have CB0_23 := pre_at p23 CB0_22
  have Cw0_23 := pre_at p23 Cw0_22
  have CX0_23 := pre_at p23 CX0_22
  have Cg0_23 := pre_at p23 Cg0_22
  have Ch0_23 := pre_at p23 Ch0_22
  have L23 := p23.length_le
  simp (maxSteps := 4000000) (disch := omega) only [ld_agg ag24 cs24 CB0_23, ld_agg ag28 cs28 Cw0_23, ld_agg ag31 cs31 CX0_23, ld_agg ag28 cs28 Cg0_23, ld_agg ag28 cs28 Ch0_23, S, S1, S2, S3, S4, S5, ST, eq_self, reduceIte, reduceCtorEq, Nat.reduceEqDiff, Nat.reduceAdd]
  refine brD.intro (fun g => absurd g (by omega)) (fun _ => ?_)
  simp (maxSteps := 4000000) (disch := omega) only [ld_agg ag24 cs24 CB0_23, ld_agg ag28 cs28 Cw0_23, ld_agg ag31 cs31 CX0_23, ld_agg ag28 cs28 Cg0_23, ld_agg ag28 cs28 Ch0_23, S, S1, S2, S3, S4, S5, ST, eq_self, reduceIte, reduceCtorEq, Nat.reduceEqDiff, Nat.reduceAdd]
  refine hQ _ _ _ ?_
  simp (maxSteps := 4000000) (disch := omega) only [ld_agg ag24 cs24 CB0_23, ld_agg ag28 cs28 Cw0_23, ld_agg ag31 cs31 CX0_23, ld_agg ag28 cs28 Cg0_23, ld_agg ag28 cs28 Ch0_23, S, S1, S2, S3, S4, S5, ST, eq_self, reduceIte, reduceCtorEq, Nat.reduceEqDiff, Nat.reduceAdd]
end Go.Proofs.YtlfongfhbkefmaaGreat.Ai
