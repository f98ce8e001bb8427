/- Texts of this claim, joined: SrtL, SrtF, JmpS, BfsP, BfsQ, Pair, Near, Bag, Rep, Bfs, Roads, DfL. -/
import Derived.Test.YtlfongfhbkefmaaGreatProg
import Derived.KernelRfl
import Derived.Laws.Bits64
import Derived.Test.YtlfongfhbkefmaaGreatMgLawWw3
namespace Go.Proofs.YtlfongfhbkefmaaGreat.Ai
open Go
def ords91 : List (Nat × List (Nat × Bool)) := []
def cd91 : Cd := (.seq (.reg [⟨⟨some 4, Op.assign (Operand.const (Value.int IntKind.i64 0)), none⟩, []⟩]) (.seq (.seq (.reg [⟨⟨some 9, Op.move (Operand.tmp 0), none⟩, []⟩,
  ⟨⟨some 10, Op.call { callee := (Callee.builtin Builtin.len), args := #[(Operand.tmp 9)], argTypes := #[38] }, none⟩, []⟩,
  ⟨⟨some 11, Op.move (Operand.const (Value.int IntKind.i64 0)), none⟩, []⟩]) (.block 0 (.loop (.seq (.reg [⟨⟨some 12, Op.binOp BinOp.lss 3 (Operand.tmp 11) (Operand.tmp 10) 3, none⟩, []⟩]) (.seq (.cond (Operand.tmp 12) .skip (.exit 0)) (.seq (.block 1 (.seq (.reg [⟨⟨some 13, Op.move (Operand.tmp 11), none⟩, []⟩,
  ⟨⟨some 14, Op.indexAddr 38 (Operand.tmp 9) (Operand.tmp 11), none⟩, []⟩,
  ⟨⟨some 15, Op.load 3 (Operand.tmp 14), none⟩, []⟩,
  ⟨⟨some 5, Op.assign (Operand.tmp 13), none⟩, []⟩,
  ⟨⟨some 6, Op.assign (Operand.tmp 15), none⟩, []⟩]) (.seq (.seq (.reg [⟨⟨some 16, Op.move (Operand.tmp 5), none⟩, []⟩,
  ⟨⟨some 17, Op.move (Operand.tmp 1), none⟩, []⟩,
  ⟨⟨some 18, Op.call { callee := (Callee.builtin Builtin.len), args := #[(Operand.tmp 17)], argTypes := #[38] }, none⟩, []⟩,
  ⟨⟨some 19, Op.binOp BinOp.geq 3 (Operand.tmp 16) (Operand.tmp 18) 3, none⟩, []⟩]) (.cond (Operand.tmp 19) (.seq (.reg [⟨⟨some 4, Op.assign (Operand.const (Value.int IntKind.i64 1)), none⟩, []⟩]) .ret) .skip)) (.seq (.reg [⟨⟨some 20, Op.move (Operand.tmp 1), none⟩, []⟩,
  ⟨⟨some 21, Op.move (Operand.tmp 5), none⟩, []⟩,
  ⟨⟨some 22, Op.indexAddr 38 (Operand.tmp 20) (Operand.tmp 21), none⟩, []⟩,
  ⟨⟨some 23, Op.load 3 (Operand.tmp 22), none⟩, []⟩,
  ⟨⟨some 7, Op.assign (Operand.tmp 23), none⟩, []⟩]) (.seq (.reg [⟨⟨some 24, Op.move (Operand.tmp 6), none⟩, []⟩,
  ⟨⟨some 25, Op.move (Operand.tmp 7), none⟩, []⟩,
  ⟨⟨some 26, Op.call { callee := (Callee.value (Operand.func 130)), args := #[(Operand.tmp 24), (Operand.tmp 25)], argTypes := #[3, 3] }, none⟩, []⟩,
  ⟨⟨some 8, Op.assign (Operand.tmp 26), none⟩, []⟩]) (.seq (.reg [⟨⟨some 27, Op.move (Operand.tmp 8), none⟩, []⟩,
  ⟨⟨some 28, Op.binOp BinOp.neq 3 (Operand.tmp 27) (Operand.const (Value.int IntKind.i64 0)) 3, none⟩, []⟩]) (.cond (Operand.tmp 28) (.seq (.reg [⟨⟨some 29, Op.move (Operand.tmp 8), none⟩, []⟩,
  ⟨⟨some 4, Op.assign (Operand.tmp 29), none⟩, []⟩]) .ret) .skip))))))) (.reg [⟨⟨some 30, Op.binOp BinOp.add 3 (Operand.tmp 11) (Operand.const (Value.int IntKind.i64 1)) 3, none⟩, []⟩,
  ⟨⟨some 11, Op.move (Operand.tmp 30), none⟩, []⟩]))))))) (.seq (.seq (.reg [⟨⟨some 31, Op.move (Operand.tmp 0), none⟩, []⟩,
  ⟨⟨some 32, Op.call { callee := (Callee.builtin Builtin.len), args := #[(Operand.tmp 31)], argTypes := #[38] }, none⟩, []⟩,
  ⟨⟨some 33, Op.move (Operand.tmp 1), none⟩, []⟩,
  ⟨⟨some 34, Op.call { callee := (Callee.builtin Builtin.len), args := #[(Operand.tmp 33)], argTypes := #[38] }, none⟩, []⟩,
  ⟨⟨some 35, Op.binOp BinOp.lss 3 (Operand.tmp 32) (Operand.tmp 34) 3, none⟩, []⟩]) (.cond (Operand.tmp 35) (.seq (.reg [⟨⟨some 4, Op.assign (Operand.const (Value.int IntKind.i64 (-1))), none⟩, []⟩]) .ret) .skip)) (.seq (.reg [⟨⟨some 4, Op.assign (Operand.const (Value.int IntKind.i64 0)), none⟩, []⟩]) .ret))))
theorem sl91 : slim Tryz.f91.ntmps ords91 (Tryz.f91.body.getD .skip) = some cd91 := by kernel_rfl
theorem in91 {args : List Value} {H : AH} {R : Value → AH → Prop} (hl : args.length = 2) (h : ∀ (Q : Exit → Sl → AH → Prop), (∀ e s H, endA Tryz.prog [ResultVar.tmp 4] R e s H → Q e s H) → wpC Tryz.prog cd91 Q (enterA args) H) : ACalls Tryz.prog 91 args H R :=
  ACalls.intro (by kernel_rfl) Tryz.func91 rfl (by kernel_rfl) sl91 hl (of_decide_eq_true (by kernel_rfl)) (by kernel_rfl) h
def ords197 : List (Nat × List (Nat × Bool)) := [(1, [(0, false), (1, false), (2, false), (3, false), (4, false), (5, false), (6, false), (7, false), (8, false), (9, true), (10, false)])]
def cd197 : Cd := (.seq (.reg [⟨⟨some 10, Op.assign (Operand.const (Value.int IntKind.i64 0)), none⟩, []⟩,
  ⟨⟨some 11, Op.assign (Operand.const (Value.int IntKind.i64 0)), none⟩, []⟩]) (.seq (.seq (.reg [⟨⟨some 12, Op.move (Operand.tmp 4), none⟩, []⟩,
  ⟨⟨some 13, Op.move (Operand.tmp 0), none⟩, []⟩,
  ⟨⟨some 14, Op.move (Operand.tmp 2), none⟩, []⟩,
  ⟨⟨some 15, Op.indexAddr 26 (Operand.tmp 13) (Operand.tmp 14), none⟩, []⟩,
  ⟨⟨some 16, Op.load 38 (Operand.tmp 15), none⟩, []⟩,
  ⟨⟨some 17, Op.move (Operand.tmp 0), none⟩, []⟩,
  ⟨⟨some 18, Op.move (Operand.tmp 1), none⟩, []⟩,
  ⟨⟨some 19, Op.indexAddr 26 (Operand.tmp 17) (Operand.tmp 18), none⟩, []⟩,
  ⟨⟨some 20, Op.load 38 (Operand.tmp 19), none⟩, []⟩,
  ⟨⟨some 21, Op.call { callee := (Callee.value (Operand.tmp 12)), args := #[(Operand.tmp 16), (Operand.tmp 20)], argTypes := #[38, 38] }, none⟩, []⟩,
  ⟨⟨some 22, Op.binOp BinOp.lss 3 (Operand.tmp 21) (Operand.const (Value.int IntKind.i64 0)) 3, none⟩, []⟩]) (.cond (Operand.tmp 22) (.seq (.reg [⟨⟨some 23, Op.move (Operand.tmp 3), none⟩, []⟩,
  ⟨⟨some 24, Op.nilCheck (Operand.tmp 23), none⟩, []⟩,
  ⟨⟨some 25, Op.load 3 (Operand.tmp 24), none⟩, []⟩,
  ⟨⟨some 26, Op.binOp BinOp.add 3 (Operand.tmp 25) (Operand.const (Value.int IntKind.i64 1)) 3, none⟩, []⟩,
  ⟨⟨some 27, Op.nilCheck (Operand.tmp 23), none⟩, []⟩,
  ⟨⟨none, Op.store 3 (Operand.tmp 27) (Operand.tmp 26), none⟩, []⟩]) (.seq (.reg [⟨⟨some 28, Op.move (Operand.tmp 2), none⟩, []⟩,
  ⟨⟨some 29, Op.move (Operand.tmp 1), none⟩, []⟩,
  ⟨⟨some 10, Op.assign (Operand.tmp 28), none⟩, []⟩,
  ⟨⟨some 11, Op.assign (Operand.tmp 29), none⟩, []⟩]) .ret)) .skip)) (.seq (.reg [⟨⟨some 30, Op.move (Operand.tmp 1), none⟩, []⟩,
  ⟨⟨some 31, Op.move (Operand.tmp 2), none⟩, []⟩,
  ⟨⟨some 10, Op.assign (Operand.tmp 30), none⟩, []⟩,
  ⟨⟨some 11, Op.assign (Operand.tmp 31), none⟩, []⟩]) .ret)))
theorem sl197 : slim Tryz.f197.ntmps ords197 (Tryz.f197.body.getD .skip) = some cd197 := by kernel_rfl
theorem in197 {args : List Value} {H : AH} {R : Value → AH → Prop} (hl : args.length = 5) (h : ∀ (Q : Exit → Sl → AH → Prop), (∀ e s H, endA Tryz.prog [ResultVar.tmp 10, ResultVar.tmp 11] R e s H → Q e s H) → wpC Tryz.prog cd197 Q (enterA args) H) : ACalls Tryz.prog 197 args H R :=
  ACalls.intro (by kernel_rfl) Tryz.func197 rfl (by kernel_rfl) sl197 hl (of_decide_eq_true (by kernel_rfl)) (by kernel_rfl) h
def ords182 : List (Nat × List (Nat × Bool)) := []
def cd182 : Cd := (.seq (.reg [⟨⟨some 12, Op.assign (Operand.const (Value.int IntKind.i64 0)), none⟩, []⟩]) (.seq (.reg [⟨⟨some 14, Op.move (Operand.tmp 0), none⟩, []⟩,
  ⟨⟨some 15, Op.move (Operand.tmp 1), none⟩, []⟩,
  ⟨⟨some 16, Op.move (Operand.tmp 2), none⟩, []⟩,
  ⟨⟨some 17, Op.move (Operand.tmp 4), none⟩, []⟩,
  ⟨⟨some 18, Op.move (Operand.tmp 5), none⟩, []⟩,
  ⟨⟨some 19, Op.call { callee := (Callee.value (Operand.func 197)), args := #[(Operand.tmp 14), (Operand.tmp 15), (Operand.tmp 16), (Operand.tmp 17), (Operand.tmp 18)], argTypes := #[26, 3, 3, 172, 105] }, none⟩, []⟩,
  ⟨⟨some 13, Op.move (Operand.tmp 19), none⟩, []⟩,
  ⟨⟨some 20, Op.extract (Operand.tmp 13) 0, none⟩, []⟩,
  ⟨⟨some 21, Op.extract (Operand.tmp 13) 1, none⟩, []⟩,
  ⟨⟨some 1, Op.assign (Operand.tmp 20), none⟩, []⟩,
  ⟨⟨some 2, Op.assign (Operand.tmp 21), none⟩, []⟩]) (.seq (.reg [⟨⟨some 23, Op.move (Operand.tmp 0), none⟩, []⟩,
  ⟨⟨some 24, Op.move (Operand.tmp 2), none⟩, []⟩,
  ⟨⟨some 25, Op.move (Operand.tmp 3), none⟩, []⟩,
  ⟨⟨some 26, Op.move (Operand.tmp 4), none⟩, []⟩,
  ⟨⟨some 27, Op.move (Operand.tmp 5), none⟩, []⟩,
  ⟨⟨some 28, Op.call { callee := (Callee.value (Operand.func 197)), args := #[(Operand.tmp 23), (Operand.tmp 24), (Operand.tmp 25), (Operand.tmp 26), (Operand.tmp 27)], argTypes := #[26, 3, 3, 172, 105] }, none⟩, []⟩,
  ⟨⟨some 22, Op.move (Operand.tmp 28), none⟩, []⟩,
  ⟨⟨some 29, Op.extract (Operand.tmp 22) 0, none⟩, []⟩,
  ⟨⟨some 30, Op.extract (Operand.tmp 22) 1, none⟩, []⟩,
  ⟨⟨some 2, Op.assign (Operand.tmp 29), none⟩, []⟩,
  ⟨⟨some 3, Op.assign (Operand.tmp 30), none⟩, []⟩]) (.seq (.reg [⟨⟨some 32, Op.move (Operand.tmp 0), none⟩, []⟩,
  ⟨⟨some 33, Op.move (Operand.tmp 1), none⟩, []⟩,
  ⟨⟨some 34, Op.move (Operand.tmp 2), none⟩, []⟩,
  ⟨⟨some 35, Op.move (Operand.tmp 4), none⟩, []⟩,
  ⟨⟨some 36, Op.move (Operand.tmp 5), none⟩, []⟩,
  ⟨⟨some 37, Op.call { callee := (Callee.value (Operand.func 197)), args := #[(Operand.tmp 32), (Operand.tmp 33), (Operand.tmp 34), (Operand.tmp 35), (Operand.tmp 36)], argTypes := #[26, 3, 3, 172, 105] }, none⟩, []⟩,
  ⟨⟨some 31, Op.move (Operand.tmp 37), none⟩, []⟩,
  ⟨⟨some 38, Op.extract (Operand.tmp 31) 0, none⟩, []⟩,
  ⟨⟨some 39, Op.extract (Operand.tmp 31) 1, none⟩, []⟩,
  ⟨⟨some 1, Op.assign (Operand.tmp 38), none⟩, []⟩,
  ⟨⟨some 2, Op.assign (Operand.tmp 39), none⟩, []⟩]) (.seq (.reg [⟨⟨some 40, Op.move (Operand.tmp 2), none⟩, []⟩,
  ⟨⟨some 12, Op.assign (Operand.tmp 40), none⟩, []⟩]) .ret)))))
theorem sl182 : slim Tryz.f182.ntmps ords182 (Tryz.f182.body.getD .skip) = some cd182 := by kernel_rfl
theorem in182 {args : List Value} {H : AH} {R : Value → AH → Prop} (hl : args.length = 6) (h : ∀ (Q : Exit → Sl → AH → Prop), (∀ e s H, endA Tryz.prog [ResultVar.tmp 12] R e s H → Q e s H) → wpC Tryz.prog cd182 Q (enterA args) H) : ACalls Tryz.prog 182 args H R :=
  ACalls.intro (by kernel_rfl) Tryz.func182 rfl (by kernel_rfl) sl182 hl (of_decide_eq_true (by kernel_rfl)) (by kernel_rfl) h
def ords181 : List (Nat × List (Nat × Bool)) := []
def cd181 : Cd := (.seq (.reg [⟨⟨some 8, Op.assign (Operand.const (Value.int IntKind.i64 0)), none⟩, []⟩]) (.seq (.reg [⟨⟨some 9, Op.move (Operand.tmp 0), none⟩, []⟩,
  ⟨⟨some 10, Op.move (Operand.tmp 1), none⟩, []⟩,
  ⟨⟨some 11, Op.binOp BinOp.sub 3 (Operand.tmp 10) (Operand.const (Value.int IntKind.i64 1)) 3, none⟩, []⟩,
  ⟨⟨some 12, Op.move (Operand.tmp 1), none⟩, []⟩,
  ⟨⟨some 13, Op.move (Operand.tmp 1), none⟩, []⟩,
  ⟨⟨some 14, Op.binOp BinOp.add 3 (Operand.tmp 13) (Operand.const (Value.int IntKind.i64 1)) 3, none⟩, []⟩,
  ⟨⟨some 15, Op.move (Operand.tmp 2), none⟩, []⟩,
  ⟨⟨some 16, Op.move (Operand.tmp 3), none⟩, []⟩,
  ⟨⟨some 17, Op.call { callee := (Callee.value (Operand.func 182)), args := #[(Operand.tmp 9), (Operand.tmp 11), (Operand.tmp 12), (Operand.tmp 14), (Operand.tmp 15), (Operand.tmp 16)], argTypes := #[26, 3, 3, 3, 172, 105] }, none⟩, []⟩,
  ⟨⟨some 8, Op.assign (Operand.tmp 17), none⟩, []⟩]) .ret))
theorem sl181 : slim Tryz.f181.ntmps ords181 (Tryz.f181.body.getD .skip) = some cd181 := by kernel_rfl
theorem in181 {args : List Value} {H : AH} {R : Value → AH → Prop} (hl : args.length = 4) (h : ∀ (Q : Exit → Sl → AH → Prop), (∀ e s H, endA Tryz.prog [ResultVar.tmp 8] R e s H → Q e s H) → wpC Tryz.prog cd181 Q (enterA args) H) : ACalls Tryz.prog 181 args H R :=
  ACalls.intro (by kernel_rfl) Tryz.func181 rfl (by kernel_rfl) sl181 hl (of_decide_eq_true (by kernel_rfl)) (by kernel_rfl) h
def ords162 : List (Nat × List (Nat × Bool)) := [(5, [(0, false), (1, false), (2, false), (3, false), (4, false), (5, false), (6, false), (7, false), (8, false), (9, false), (10, false), (11, false), (12, false), (13, false), (14, true), (15, false), (16, false), (17, false)]), (11, [(0, false), (1, false), (2, false), (3, false), (4, false), (5, false), (6, false), (7, false), (8, false), (9, false), (10, false), (11, false), (12, false), (13, false), (14, false), (15, true), (16, false), (17, true)]), (16, [(0, false), (1, false), (2, false), (3, false), (4, false), (5, false), (6, false), (7, false), (8, false), (9, false), (10, true), (11, false), (12, false)]), (17, [(0, false), (1, false), (2, false), (3, false), (4, false), (5, false), (6, false), (7, false), (8, false), (9, false), (10, false), (11, false), (12, false), (13, false), (14, false), (15, true), (16, false), (17, true)]), (22, [(0, false), (1, false), (2, false), (3, false), (4, false), (5, false), (6, false), (7, false), (8, false), (9, false), (10, true), (11, false), (12, false)]), (23, [(0, false), (1, false), (2, false), (3, false), (4, false), (5, false), (6, false), (7, false), (8, false), (9, false), (10, false), (11, false), (12, false), (13, false), (14, false), (15, true), (16, false), (17, true)])]
def cd162 : Cd := (.seq (.reg [⟨⟨some 8, Op.assign (Operand.const (Value.bool false)), none⟩, []⟩]) (.seq (.reg [⟨⟨some 13, Op.move (Operand.tmp 1), none⟩, []⟩,
  ⟨⟨some 14, Op.binOp BinOp.add 3 (Operand.tmp 13) (Operand.const (Value.int IntKind.i64 1)) 3, none⟩, []⟩,
  ⟨⟨some 9, Op.assign (Operand.tmp 14), none⟩, []⟩]) (.seq (.seq (.reg [⟨⟨some 10, Op.assign (Operand.const (Value.int IntKind.i64 0)), none⟩, []⟩]) (.block 0 (.loop (.seq (.seq (.reg [⟨⟨some 15, Op.move (Operand.tmp 10), none⟩, []⟩,
  ⟨⟨some 16, Op.binOp BinOp.lss 3 (Operand.tmp 15) (Operand.const (Value.int IntKind.i64 5)) 3, none⟩, []⟩]) (.cond (Operand.tmp 16) .skip (.exit 0))) (.seq (.block 1 (.seq (.block 2 (.loop (.seq (.seq (.reg [⟨⟨some 19, Op.move (Operand.tmp 9), none⟩, []⟩,
  ⟨⟨some 20, Op.move (Operand.tmp 2), none⟩, []⟩,
  ⟨⟨some 21, Op.binOp BinOp.lss 3 (Operand.tmp 19) (Operand.tmp 20) 3, none⟩, []⟩,
  ⟨⟨some 22, Op.move (Operand.tmp 21), none⟩, []⟩,
  ⟨⟨some 23, Op.move (Operand.tmp 3), some (22, true)⟩, []⟩,
  ⟨⟨some 24, Op.move (Operand.tmp 0), some (22, true)⟩, []⟩,
  ⟨⟨some 25, Op.move (Operand.tmp 9), some (22, true)⟩, []⟩,
  ⟨⟨some 26, Op.indexAddr 26 (Operand.tmp 24) (Operand.tmp 25), some (22, true)⟩, []⟩,
  ⟨⟨some 27, Op.load 38 (Operand.tmp 26), some (22, true)⟩, []⟩,
  ⟨⟨some 28, Op.move (Operand.tmp 0), some (22, true)⟩, []⟩,
  ⟨⟨some 29, Op.move (Operand.tmp 9), some (22, true)⟩, []⟩,
  ⟨⟨some 30, Op.binOp BinOp.sub 3 (Operand.tmp 29) (Operand.const (Value.int IntKind.i64 1)) 3, some (22, true)⟩, []⟩,
  ⟨⟨some 31, Op.indexAddr 26 (Operand.tmp 28) (Operand.tmp 30), some (22, true)⟩, []⟩,
  ⟨⟨some 32, Op.load 38 (Operand.tmp 31), some (22, true)⟩, []⟩,
  ⟨⟨some 33, Op.call { callee := (Callee.value (Operand.tmp 23)), args := #[(Operand.tmp 27), (Operand.tmp 32)], argTypes := #[38, 38] }, some (22, true)⟩, []⟩,
  ⟨⟨some 34, Op.binOp BinOp.lss 3 (Operand.tmp 33) (Operand.const (Value.int IntKind.i64 0)) 3, some (22, true)⟩, []⟩,
  ⟨⟨some 35, Op.unOp UnOp.not 4 (Operand.tmp 34), some (22, true)⟩, []⟩,
  ⟨⟨some 36, Op.pick (Operand.tmp 22) (Operand.tmp 35) (Operand.const (Value.bool false)), none⟩, []⟩]) (.cond (Operand.tmp 36) .skip (.exit 2))) (.block 3 (.reg [⟨⟨some 37, Op.move (Operand.tmp 9), none⟩, []⟩,
  ⟨⟨some 38, Op.binOp BinOp.add 3 (Operand.tmp 37) (Operand.const (Value.int IntKind.i64 1)) 3, none⟩, []⟩,
  ⟨⟨some 9, Op.assign (Operand.tmp 38), none⟩, []⟩]))))) (.seq (.seq (.reg [⟨⟨some 39, Op.move (Operand.tmp 9), none⟩, []⟩,
  ⟨⟨some 40, Op.move (Operand.tmp 2), none⟩, []⟩,
  ⟨⟨some 41, Op.binOp BinOp.eql 3 (Operand.tmp 39) (Operand.tmp 40) 3, none⟩, []⟩]) (.cond (Operand.tmp 41) (.seq (.reg [⟨⟨some 8, Op.assign (Operand.const (Value.bool true)), none⟩, []⟩]) .ret) .skip)) (.seq (.seq (.reg [⟨⟨some 42, Op.move (Operand.tmp 2), none⟩, []⟩,
  ⟨⟨some 43, Op.move (Operand.tmp 1), none⟩, []⟩,
  ⟨⟨some 44, Op.binOp BinOp.sub 3 (Operand.tmp 42) (Operand.tmp 43) 3, none⟩, []⟩,
  ⟨⟨some 45, Op.binOp BinOp.lss 3 (Operand.tmp 44) (Operand.const (Value.int IntKind.i64 50)) 3, none⟩, []⟩]) (.cond (Operand.tmp 45) (.seq (.reg [⟨⟨some 8, Op.assign (Operand.const (Value.bool false)), none⟩, []⟩]) .ret) .skip)) (.seq (.reg [⟨⟨some 46, Op.move (Operand.tmp 0), none⟩, []⟩,
  ⟨⟨some 47, Op.move (Operand.tmp 9), none⟩, []⟩,
  ⟨⟨some 48, Op.move (Operand.tmp 0), none⟩, []⟩,
  ⟨⟨some 49, Op.move (Operand.tmp 9), none⟩, []⟩,
  ⟨⟨some 50, Op.binOp BinOp.sub 3 (Operand.tmp 49) (Operand.const (Value.int IntKind.i64 1)) 3, none⟩, []⟩,
  ⟨⟨some 51, Op.move (Operand.tmp 0), none⟩, []⟩,
  ⟨⟨some 52, Op.move (Operand.tmp 9), none⟩, []⟩,
  ⟨⟨some 53, Op.binOp BinOp.sub 3 (Operand.tmp 52) (Operand.const (Value.int IntKind.i64 1)) 3, none⟩, []⟩,
  ⟨⟨some 54, Op.indexAddr 26 (Operand.tmp 51) (Operand.tmp 53), none⟩, []⟩,
  ⟨⟨some 55, Op.load 38 (Operand.tmp 54), none⟩, []⟩,
  ⟨⟨some 56, Op.move (Operand.tmp 0), none⟩, []⟩,
  ⟨⟨some 57, Op.move (Operand.tmp 9), none⟩, []⟩,
  ⟨⟨some 58, Op.indexAddr 26 (Operand.tmp 56) (Operand.tmp 57), none⟩, []⟩,
  ⟨⟨some 59, Op.load 38 (Operand.tmp 58), none⟩, []⟩,
  ⟨⟨some 60, Op.indexAddr 26 (Operand.tmp 46) (Operand.tmp 47), none⟩, []⟩,
  ⟨⟨none, Op.store 38 (Operand.tmp 60) (Operand.tmp 55), none⟩, []⟩,
  ⟨⟨some 61, Op.indexAddr 26 (Operand.tmp 48) (Operand.tmp 50), none⟩, []⟩,
  ⟨⟨none, Op.store 38 (Operand.tmp 61) (Operand.tmp 59), none⟩, []⟩]) (.seq (.seq (.reg [⟨⟨some 62, Op.move (Operand.tmp 9), none⟩, []⟩,
  ⟨⟨some 63, Op.move (Operand.tmp 1), none⟩, []⟩,
  ⟨⟨some 64, Op.binOp BinOp.sub 3 (Operand.tmp 62) (Operand.tmp 63) 3, none⟩, []⟩,
  ⟨⟨some 65, Op.binOp BinOp.geq 3 (Operand.tmp 64) (Operand.const (Value.int IntKind.i64 2)) 3, none⟩, []⟩]) (.cond (Operand.tmp 65) (.seq (.reg [⟨⟨some 66, Op.move (Operand.tmp 9), none⟩, []⟩,
  ⟨⟨some 67, Op.binOp BinOp.sub 3 (Operand.tmp 66) (Operand.const (Value.int IntKind.i64 1)) 3, none⟩, []⟩,
  ⟨⟨some 11, Op.assign (Operand.tmp 67), none⟩, []⟩]) (.block 4 (.loop (.seq (.seq (.reg [⟨⟨some 68, Op.move (Operand.tmp 11), none⟩, []⟩,
  ⟨⟨some 69, Op.binOp BinOp.geq 3 (Operand.tmp 68) (Operand.const (Value.int IntKind.i64 1)) 3, none⟩, []⟩]) (.cond (Operand.tmp 69) .skip (.exit 4))) (.seq (.block 5 (.seq (.seq (.reg [⟨⟨some 72, Op.move (Operand.tmp 3), none⟩, []⟩,
  ⟨⟨some 73, Op.move (Operand.tmp 0), none⟩, []⟩,
  ⟨⟨some 74, Op.move (Operand.tmp 11), none⟩, []⟩,
  ⟨⟨some 75, Op.indexAddr 26 (Operand.tmp 73) (Operand.tmp 74), none⟩, []⟩,
  ⟨⟨some 76, Op.load 38 (Operand.tmp 75), none⟩, []⟩,
  ⟨⟨some 77, Op.move (Operand.tmp 0), none⟩, []⟩,
  ⟨⟨some 78, Op.move (Operand.tmp 11), none⟩, []⟩,
  ⟨⟨some 79, Op.binOp BinOp.sub 3 (Operand.tmp 78) (Operand.const (Value.int IntKind.i64 1)) 3, none⟩, []⟩,
  ⟨⟨some 80, Op.indexAddr 26 (Operand.tmp 77) (Operand.tmp 79), none⟩, []⟩,
  ⟨⟨some 81, Op.load 38 (Operand.tmp 80), none⟩, []⟩,
  ⟨⟨some 82, Op.call { callee := (Callee.value (Operand.tmp 72)), args := #[(Operand.tmp 76), (Operand.tmp 81)], argTypes := #[38, 38] }, none⟩, []⟩,
  ⟨⟨some 83, Op.binOp BinOp.lss 3 (Operand.tmp 82) (Operand.const (Value.int IntKind.i64 0)) 3, none⟩, []⟩,
  ⟨⟨some 84, Op.unOp UnOp.not 4 (Operand.tmp 83), none⟩, []⟩]) (.cond (Operand.tmp 84) (.exit 4) .skip)) (.reg [⟨⟨some 85, Op.move (Operand.tmp 0), none⟩, []⟩,
  ⟨⟨some 86, Op.move (Operand.tmp 11), none⟩, []⟩,
  ⟨⟨some 87, Op.move (Operand.tmp 0), none⟩, []⟩,
  ⟨⟨some 88, Op.move (Operand.tmp 11), none⟩, []⟩,
  ⟨⟨some 89, Op.binOp BinOp.sub 3 (Operand.tmp 88) (Operand.const (Value.int IntKind.i64 1)) 3, none⟩, []⟩,
  ⟨⟨some 90, Op.move (Operand.tmp 0), none⟩, []⟩,
  ⟨⟨some 91, Op.move (Operand.tmp 11), none⟩, []⟩,
  ⟨⟨some 92, Op.binOp BinOp.sub 3 (Operand.tmp 91) (Operand.const (Value.int IntKind.i64 1)) 3, none⟩, []⟩,
  ⟨⟨some 93, Op.indexAddr 26 (Operand.tmp 90) (Operand.tmp 92), none⟩, []⟩,
  ⟨⟨some 94, Op.load 38 (Operand.tmp 93), none⟩, []⟩,
  ⟨⟨some 95, Op.move (Operand.tmp 0), none⟩, []⟩,
  ⟨⟨some 96, Op.move (Operand.tmp 11), none⟩, []⟩,
  ⟨⟨some 97, Op.indexAddr 26 (Operand.tmp 95) (Operand.tmp 96), none⟩, []⟩,
  ⟨⟨some 98, Op.load 38 (Operand.tmp 97), none⟩, []⟩,
  ⟨⟨some 99, Op.indexAddr 26 (Operand.tmp 85) (Operand.tmp 86), none⟩, []⟩,
  ⟨⟨none, Op.store 38 (Operand.tmp 99) (Operand.tmp 94), none⟩, []⟩,
  ⟨⟨some 100, Op.indexAddr 26 (Operand.tmp 87) (Operand.tmp 89), none⟩, []⟩,
  ⟨⟨none, Op.store 38 (Operand.tmp 100) (Operand.tmp 98), none⟩, []⟩]))) (.reg [⟨⟨some 70, Op.move (Operand.tmp 11), none⟩, []⟩,
  ⟨⟨some 71, Op.binOp BinOp.sub 3 (Operand.tmp 70) (Operand.const (Value.int IntKind.i64 1)) 3, none⟩, []⟩,
  ⟨⟨some 11, Op.assign (Operand.tmp 71), none⟩, []⟩])))))) .skip)) (.seq (.reg [⟨⟨some 101, Op.move (Operand.tmp 2), none⟩, []⟩,
  ⟨⟨some 102, Op.move (Operand.tmp 9), none⟩, []⟩,
  ⟨⟨some 103, Op.binOp BinOp.sub 3 (Operand.tmp 101) (Operand.tmp 102) 3, none⟩, []⟩,
  ⟨⟨some 104, Op.binOp BinOp.geq 3 (Operand.tmp 103) (Operand.const (Value.int IntKind.i64 2)) 3, none⟩, []⟩]) (.cond (Operand.tmp 104) (.seq (.reg [⟨⟨some 105, Op.move (Operand.tmp 9), none⟩, []⟩,
  ⟨⟨some 106, Op.binOp BinOp.add 3 (Operand.tmp 105) (Operand.const (Value.int IntKind.i64 1)) 3, none⟩, []⟩,
  ⟨⟨some 12, Op.assign (Operand.tmp 106), none⟩, []⟩]) (.block 6 (.loop (.seq (.seq (.reg [⟨⟨some 107, Op.move (Operand.tmp 12), none⟩, []⟩,
  ⟨⟨some 108, Op.move (Operand.tmp 2), none⟩, []⟩,
  ⟨⟨some 109, Op.binOp BinOp.lss 3 (Operand.tmp 107) (Operand.tmp 108) 3, none⟩, []⟩]) (.cond (Operand.tmp 109) .skip (.exit 6))) (.seq (.block 7 (.seq (.seq (.reg [⟨⟨some 112, Op.move (Operand.tmp 3), none⟩, []⟩,
  ⟨⟨some 113, Op.move (Operand.tmp 0), none⟩, []⟩,
  ⟨⟨some 114, Op.move (Operand.tmp 12), none⟩, []⟩,
  ⟨⟨some 115, Op.indexAddr 26 (Operand.tmp 113) (Operand.tmp 114), none⟩, []⟩,
  ⟨⟨some 116, Op.load 38 (Operand.tmp 115), none⟩, []⟩,
  ⟨⟨some 117, Op.move (Operand.tmp 0), none⟩, []⟩,
  ⟨⟨some 118, Op.move (Operand.tmp 12), none⟩, []⟩,
  ⟨⟨some 119, Op.binOp BinOp.sub 3 (Operand.tmp 118) (Operand.const (Value.int IntKind.i64 1)) 3, none⟩, []⟩,
  ⟨⟨some 120, Op.indexAddr 26 (Operand.tmp 117) (Operand.tmp 119), none⟩, []⟩,
  ⟨⟨some 121, Op.load 38 (Operand.tmp 120), none⟩, []⟩,
  ⟨⟨some 122, Op.call { callee := (Callee.value (Operand.tmp 112)), args := #[(Operand.tmp 116), (Operand.tmp 121)], argTypes := #[38, 38] }, none⟩, []⟩,
  ⟨⟨some 123, Op.binOp BinOp.lss 3 (Operand.tmp 122) (Operand.const (Value.int IntKind.i64 0)) 3, none⟩, []⟩,
  ⟨⟨some 124, Op.unOp UnOp.not 4 (Operand.tmp 123), none⟩, []⟩]) (.cond (Operand.tmp 124) (.exit 6) .skip)) (.reg [⟨⟨some 125, Op.move (Operand.tmp 0), none⟩, []⟩,
  ⟨⟨some 126, Op.move (Operand.tmp 12), none⟩, []⟩,
  ⟨⟨some 127, Op.move (Operand.tmp 0), none⟩, []⟩,
  ⟨⟨some 128, Op.move (Operand.tmp 12), none⟩, []⟩,
  ⟨⟨some 129, Op.binOp BinOp.sub 3 (Operand.tmp 128) (Operand.const (Value.int IntKind.i64 1)) 3, none⟩, []⟩,
  ⟨⟨some 130, Op.move (Operand.tmp 0), none⟩, []⟩,
  ⟨⟨some 131, Op.move (Operand.tmp 12), none⟩, []⟩,
  ⟨⟨some 132, Op.binOp BinOp.sub 3 (Operand.tmp 131) (Operand.const (Value.int IntKind.i64 1)) 3, none⟩, []⟩,
  ⟨⟨some 133, Op.indexAddr 26 (Operand.tmp 130) (Operand.tmp 132), none⟩, []⟩,
  ⟨⟨some 134, Op.load 38 (Operand.tmp 133), none⟩, []⟩,
  ⟨⟨some 135, Op.move (Operand.tmp 0), none⟩, []⟩,
  ⟨⟨some 136, Op.move (Operand.tmp 12), none⟩, []⟩,
  ⟨⟨some 137, Op.indexAddr 26 (Operand.tmp 135) (Operand.tmp 136), none⟩, []⟩,
  ⟨⟨some 138, Op.load 38 (Operand.tmp 137), none⟩, []⟩,
  ⟨⟨some 139, Op.indexAddr 26 (Operand.tmp 125) (Operand.tmp 126), none⟩, []⟩,
  ⟨⟨none, Op.store 38 (Operand.tmp 139) (Operand.tmp 134), none⟩, []⟩,
  ⟨⟨some 140, Op.indexAddr 26 (Operand.tmp 127) (Operand.tmp 129), none⟩, []⟩,
  ⟨⟨none, Op.store 38 (Operand.tmp 140) (Operand.tmp 138), none⟩, []⟩]))) (.reg [⟨⟨some 110, Op.move (Operand.tmp 12), none⟩, []⟩,
  ⟨⟨some 111, Op.binOp BinOp.add 3 (Operand.tmp 110) (Operand.const (Value.int IntKind.i64 1)) 3, none⟩, []⟩,
  ⟨⟨some 12, Op.assign (Operand.tmp 111), none⟩, []⟩])))))) .skip)))))))) (.reg [⟨⟨some 17, Op.move (Operand.tmp 10), none⟩, []⟩,
  ⟨⟨some 18, Op.binOp BinOp.add 3 (Operand.tmp 17) (Operand.const (Value.int IntKind.i64 1)) 3, none⟩, []⟩,
  ⟨⟨some 10, Op.assign (Operand.tmp 18), none⟩, []⟩])))))) (.seq (.reg [⟨⟨some 8, Op.assign (Operand.const (Value.bool false)), none⟩, []⟩]) .ret))))
theorem sl162 : slim Tryz.f162.ntmps ords162 (Tryz.f162.body.getD .skip) = some cd162 := by kernel_rfl
theorem in162 {args : List Value} {H : AH} {R : Value → AH → Prop} (hl : args.length = 4) (h : ∀ (Q : Exit → Sl → AH → Prop), (∀ e s H, endA Tryz.prog [ResultVar.tmp 8] R e s H → Q e s H) → wpC Tryz.prog cd162 Q (enterA args) H) : ACalls Tryz.prog 162 args H R :=
  ACalls.intro (by kernel_rfl) Tryz.func162 rfl (by kernel_rfl) sl162 hl (of_decide_eq_true (by kernel_rfl)) (by kernel_rfl) h
def ords157 : List (Nat × List (Nat × Bool)) := [(4, [(0, false), (1, false), (2, false), (3, false), (4, false), (5, false), (6, false), (7, false), (8, false), (9, false), (10, false), (11, false), (12, false), (13, false), (14, true), (15, false), (16, false)]), (6, [(0, false), (1, false), (2, false), (3, false), (4, false), (5, false), (6, false), (7, false), (8, false), (9, false), (10, false), (11, false), (12, false), (13, false), (14, false), (15, true), (16, false), (17, true)])]
def cd157 : Cd := (.seq (.reg [⟨⟨some 10, Op.move (Operand.tmp 1), none⟩, []⟩,
  ⟨⟨some 11, Op.binOp BinOp.add 3 (Operand.tmp 10) (Operand.const (Value.int IntKind.i64 1)) 3, none⟩, []⟩,
  ⟨⟨some 8, Op.assign (Operand.tmp 11), none⟩, []⟩]) (.block 0 (.loop (.seq (.seq (.reg [⟨⟨some 12, Op.move (Operand.tmp 8), none⟩, []⟩,
  ⟨⟨some 13, Op.move (Operand.tmp 2), none⟩, []⟩,
  ⟨⟨some 14, Op.binOp BinOp.lss 3 (Operand.tmp 12) (Operand.tmp 13) 3, none⟩, []⟩]) (.cond (Operand.tmp 14) .skip (.exit 0))) (.seq (.block 1 (.seq (.reg [⟨⟨some 17, Op.move (Operand.tmp 8), none⟩, []⟩,
  ⟨⟨some 9, Op.assign (Operand.tmp 17), none⟩, []⟩]) (.block 2 (.loop (.seq (.seq (.reg [⟨⟨some 18, Op.move (Operand.tmp 9), none⟩, []⟩,
  ⟨⟨some 19, Op.move (Operand.tmp 1), none⟩, []⟩,
  ⟨⟨some 20, Op.binOp BinOp.gtr 3 (Operand.tmp 18) (Operand.tmp 19) 3, none⟩, []⟩,
  ⟨⟨some 21, Op.move (Operand.tmp 20), none⟩, []⟩,
  ⟨⟨some 22, Op.move (Operand.tmp 3), some (21, true)⟩, []⟩,
  ⟨⟨some 23, Op.move (Operand.tmp 0), some (21, true)⟩, []⟩,
  ⟨⟨some 24, Op.move (Operand.tmp 9), some (21, true)⟩, []⟩,
  ⟨⟨some 25, Op.indexAddr 26 (Operand.tmp 23) (Operand.tmp 24), some (21, true)⟩, []⟩,
  ⟨⟨some 26, Op.load 38 (Operand.tmp 25), some (21, true)⟩, []⟩,
  ⟨⟨some 27, Op.move (Operand.tmp 0), some (21, true)⟩, []⟩,
  ⟨⟨some 28, Op.move (Operand.tmp 9), some (21, true)⟩, []⟩,
  ⟨⟨some 29, Op.binOp BinOp.sub 3 (Operand.tmp 28) (Operand.const (Value.int IntKind.i64 1)) 3, some (21, true)⟩, []⟩,
  ⟨⟨some 30, Op.indexAddr 26 (Operand.tmp 27) (Operand.tmp 29), some (21, true)⟩, []⟩,
  ⟨⟨some 31, Op.load 38 (Operand.tmp 30), some (21, true)⟩, []⟩,
  ⟨⟨some 32, Op.call { callee := (Callee.value (Operand.tmp 22)), args := #[(Operand.tmp 26), (Operand.tmp 31)], argTypes := #[38, 38] }, some (21, true)⟩, []⟩,
  ⟨⟨some 33, Op.binOp BinOp.lss 3 (Operand.tmp 32) (Operand.const (Value.int IntKind.i64 0)) 3, some (21, true)⟩, []⟩,
  ⟨⟨some 34, Op.pick (Operand.tmp 21) (Operand.tmp 33) (Operand.const (Value.bool false)), none⟩, []⟩]) (.cond (Operand.tmp 34) .skip (.exit 2))) (.seq (.block 3 (.reg [⟨⟨some 37, Op.move (Operand.tmp 0), none⟩, []⟩,
  ⟨⟨some 38, Op.move (Operand.tmp 9), none⟩, []⟩,
  ⟨⟨some 39, Op.move (Operand.tmp 0), none⟩, []⟩,
  ⟨⟨some 40, Op.move (Operand.tmp 9), none⟩, []⟩,
  ⟨⟨some 41, Op.binOp BinOp.sub 3 (Operand.tmp 40) (Operand.const (Value.int IntKind.i64 1)) 3, none⟩, []⟩,
  ⟨⟨some 42, Op.move (Operand.tmp 0), none⟩, []⟩,
  ⟨⟨some 43, Op.move (Operand.tmp 9), none⟩, []⟩,
  ⟨⟨some 44, Op.binOp BinOp.sub 3 (Operand.tmp 43) (Operand.const (Value.int IntKind.i64 1)) 3, none⟩, []⟩,
  ⟨⟨some 45, Op.indexAddr 26 (Operand.tmp 42) (Operand.tmp 44), none⟩, []⟩,
  ⟨⟨some 46, Op.load 38 (Operand.tmp 45), none⟩, []⟩,
  ⟨⟨some 47, Op.move (Operand.tmp 0), none⟩, []⟩,
  ⟨⟨some 48, Op.move (Operand.tmp 9), none⟩, []⟩,
  ⟨⟨some 49, Op.indexAddr 26 (Operand.tmp 47) (Operand.tmp 48), none⟩, []⟩,
  ⟨⟨some 50, Op.load 38 (Operand.tmp 49), none⟩, []⟩,
  ⟨⟨some 51, Op.indexAddr 26 (Operand.tmp 37) (Operand.tmp 38), none⟩, []⟩,
  ⟨⟨none, Op.store 38 (Operand.tmp 51) (Operand.tmp 46), none⟩, []⟩,
  ⟨⟨some 52, Op.indexAddr 26 (Operand.tmp 39) (Operand.tmp 41), none⟩, []⟩,
  ⟨⟨none, Op.store 38 (Operand.tmp 52) (Operand.tmp 50), none⟩, []⟩])) (.reg [⟨⟨some 35, Op.move (Operand.tmp 9), none⟩, []⟩,
  ⟨⟨some 36, Op.binOp BinOp.sub 3 (Operand.tmp 35) (Operand.const (Value.int IntKind.i64 1)) 3, none⟩, []⟩,
  ⟨⟨some 9, Op.assign (Operand.tmp 36), none⟩, []⟩]))))))) (.reg [⟨⟨some 15, Op.move (Operand.tmp 8), none⟩, []⟩,
  ⟨⟨some 16, Op.binOp BinOp.add 3 (Operand.tmp 15) (Operand.const (Value.int IntKind.i64 1)) 3, none⟩, []⟩,
  ⟨⟨some 8, Op.assign (Operand.tmp 16), none⟩, []⟩]))))))
theorem sl157 : slim Tryz.f157.ntmps ords157 (Tryz.f157.body.getD .skip) = some cd157 := by kernel_rfl
theorem in157 {args : List Value} {H : AH} {R : Value → AH → Prop} (hl : args.length = 4) (h : ∀ (Q : Exit → Sl → AH → Prop), (∀ e s H, endA Tryz.prog [] R e s H → Q e s H) → wpC Tryz.prog cd157 Q (enterA args) H) : ACalls Tryz.prog 157 args H R :=
  ACalls.intro (by kernel_rfl) Tryz.func157 rfl (by kernel_rfl) sl157 hl (of_decide_eq_true (by kernel_rfl)) (by kernel_rfl) h
def ords160 : List (Nat × List (Nat × Bool)) := []
def cd160 : Cd := (.seq (.reg [⟨⟨some 8, Op.assign (Operand.const (Value.int IntKind.i64 0)), none⟩, []⟩,
  ⟨⟨some 9, Op.assign (Operand.const (Value.int IntKind.i64 0)), none⟩, []⟩]) (.seq (.reg [⟨⟨some 15, Op.move (Operand.tmp 2), none⟩, []⟩,
  ⟨⟨some 16, Op.move (Operand.tmp 1), none⟩, []⟩,
  ⟨⟨some 17, Op.binOp BinOp.sub 3 (Operand.tmp 15) (Operand.tmp 16) 3, none⟩, []⟩,
  ⟨⟨some 10, Op.assign (Operand.tmp 17), none⟩, []⟩]) (.seq (.reg [⟨⟨some 11, Op.alloc 3, none⟩, []⟩]) (.seq (.reg [⟨⟨some 18, Op.move (Operand.tmp 1), none⟩, []⟩,
  ⟨⟨some 19, Op.move (Operand.tmp 10), none⟩, []⟩,
  ⟨⟨some 20, Op.binOp BinOp.quo 3 (Operand.tmp 19) (Operand.const (Value.int IntKind.i64 4)) 3, none⟩, []⟩,
  ⟨⟨some 21, Op.binOp BinOp.mul 3 (Operand.tmp 20) (Operand.const (Value.int IntKind.i64 1)) 3, none⟩, []⟩,
  ⟨⟨some 22, Op.binOp BinOp.add 3 (Operand.tmp 18) (Operand.tmp 21) 3, none⟩, []⟩,
  ⟨⟨some 12, Op.assign (Operand.tmp 22), none⟩, []⟩]) (.seq (.reg [⟨⟨some 23, Op.move (Operand.tmp 1), none⟩, []⟩,
  ⟨⟨some 24, Op.move (Operand.tmp 10), none⟩, []⟩,
  ⟨⟨some 25, Op.binOp BinOp.quo 3 (Operand.tmp 24) (Operand.const (Value.int IntKind.i64 4)) 3, none⟩, []⟩,
  ⟨⟨some 26, Op.binOp BinOp.mul 3 (Operand.tmp 25) (Operand.const (Value.int IntKind.i64 2)) 3, none⟩, []⟩,
  ⟨⟨some 27, Op.binOp BinOp.add 3 (Operand.tmp 23) (Operand.tmp 26) 3, none⟩, []⟩,
  ⟨⟨some 13, Op.assign (Operand.tmp 27), none⟩, []⟩]) (.seq (.reg [⟨⟨some 28, Op.move (Operand.tmp 1), none⟩, []⟩,
  ⟨⟨some 29, Op.move (Operand.tmp 10), none⟩, []⟩,
  ⟨⟨some 30, Op.binOp BinOp.quo 3 (Operand.tmp 29) (Operand.const (Value.int IntKind.i64 4)) 3, none⟩, []⟩,
  ⟨⟨some 31, Op.binOp BinOp.mul 3 (Operand.tmp 30) (Operand.const (Value.int IntKind.i64 3)) 3, none⟩, []⟩,
  ⟨⟨some 32, Op.binOp BinOp.add 3 (Operand.tmp 28) (Operand.tmp 31) 3, none⟩, []⟩,
  ⟨⟨some 14, Op.assign (Operand.tmp 32), none⟩, []⟩]) (.seq (.seq (.reg [⟨⟨some 33, Op.move (Operand.tmp 10), none⟩, []⟩,
  ⟨⟨some 34, Op.binOp BinOp.geq 3 (Operand.tmp 33) (Operand.const (Value.int IntKind.i64 8)) 3, none⟩, []⟩]) (.cond (Operand.tmp 34) (.seq (.seq (.reg [⟨⟨some 35, Op.move (Operand.tmp 10), none⟩, []⟩,
  ⟨⟨some 36, Op.binOp BinOp.geq 3 (Operand.tmp 35) (Operand.const (Value.int IntKind.i64 50)) 3, none⟩, []⟩]) (.cond (Operand.tmp 36) (.seq (.reg [⟨⟨some 37, Op.move (Operand.tmp 0), none⟩, []⟩,
  ⟨⟨some 38, Op.move (Operand.tmp 12), none⟩, []⟩,
  ⟨⟨some 39, Op.move (Operand.tmp 3), none⟩, []⟩,
  ⟨⟨some 40, Op.call { callee := (Callee.value (Operand.func 181)), args := #[(Operand.tmp 37), (Operand.tmp 38), (Operand.tmp 11), (Operand.tmp 39)], argTypes := #[26, 3, 172, 105] }, none⟩, []⟩,
  ⟨⟨some 12, Op.assign (Operand.tmp 40), none⟩, []⟩]) (.seq (.reg [⟨⟨some 41, Op.move (Operand.tmp 0), none⟩, []⟩,
  ⟨⟨some 42, Op.move (Operand.tmp 13), none⟩, []⟩,
  ⟨⟨some 43, Op.move (Operand.tmp 3), none⟩, []⟩,
  ⟨⟨some 44, Op.call { callee := (Callee.value (Operand.func 181)), args := #[(Operand.tmp 41), (Operand.tmp 42), (Operand.tmp 11), (Operand.tmp 43)], argTypes := #[26, 3, 172, 105] }, none⟩, []⟩,
  ⟨⟨some 13, Op.assign (Operand.tmp 44), none⟩, []⟩]) (.reg [⟨⟨some 45, Op.move (Operand.tmp 0), none⟩, []⟩,
  ⟨⟨some 46, Op.move (Operand.tmp 14), none⟩, []⟩,
  ⟨⟨some 47, Op.move (Operand.tmp 3), none⟩, []⟩,
  ⟨⟨some 48, Op.call { callee := (Callee.value (Operand.func 181)), args := #[(Operand.tmp 45), (Operand.tmp 46), (Operand.tmp 11), (Operand.tmp 47)], argTypes := #[26, 3, 172, 105] }, none⟩, []⟩,
  ⟨⟨some 14, Op.assign (Operand.tmp 48), none⟩, []⟩]))) .skip)) (.reg [⟨⟨some 49, Op.move (Operand.tmp 0), none⟩, []⟩,
  ⟨⟨some 50, Op.move (Operand.tmp 12), none⟩, []⟩,
  ⟨⟨some 51, Op.move (Operand.tmp 13), none⟩, []⟩,
  ⟨⟨some 52, Op.move (Operand.tmp 14), none⟩, []⟩,
  ⟨⟨some 53, Op.move (Operand.tmp 3), none⟩, []⟩,
  ⟨⟨some 54, Op.call { callee := (Callee.value (Operand.func 182)), args := #[(Operand.tmp 49), (Operand.tmp 50), (Operand.tmp 51), (Operand.tmp 52), (Operand.tmp 11), (Operand.tmp 53)], argTypes := #[26, 3, 3, 3, 172, 105] }, none⟩, []⟩,
  ⟨⟨some 13, Op.assign (Operand.tmp 54), none⟩, []⟩])) .skip)) (.seq (.reg [⟨⟨some 55, Op.load 3 (Operand.tmp 11), none⟩, []⟩]) (.block 0 (.seq (.reg [⟨⟨some 58, Op.binOp BinOp.eql 3 (Operand.tmp 55) (Operand.const (Value.int IntKind.i64 0)) 3, none⟩, []⟩,
  ⟨⟨some 57, Op.assign (Operand.tmp 58), none⟩, []⟩]) (.cond (Operand.tmp 57) (.seq (.reg [⟨⟨some 59, Op.move (Operand.tmp 13), none⟩, []⟩,
  ⟨⟨some 8, Op.assign (Operand.tmp 59), none⟩, []⟩,
  ⟨⟨some 9, Op.assign (Operand.const (Value.int IntKind.i64 1)), none⟩, []⟩]) .ret) (.seq (.reg [⟨⟨some 61, Op.binOp BinOp.eql 3 (Operand.tmp 55) (Operand.const (Value.int IntKind.i64 12)) 3, none⟩, []⟩,
  ⟨⟨some 60, Op.assign (Operand.tmp 61), none⟩, []⟩]) (.cond (Operand.tmp 60) (.seq (.reg [⟨⟨some 62, Op.move (Operand.tmp 13), none⟩, []⟩,
  ⟨⟨some 8, Op.assign (Operand.tmp 62), none⟩, []⟩,
  ⟨⟨some 9, Op.assign (Operand.const (Value.int IntKind.i64 2)), none⟩, []⟩]) .ret) (.seq (.reg [⟨⟨some 56, Op.move (Operand.tmp 13), none⟩, []⟩,
  ⟨⟨some 8, Op.assign (Operand.tmp 56), none⟩, []⟩,
  ⟨⟨some 9, Op.assign (Operand.const (Value.int IntKind.i64 0)), none⟩, []⟩]) .ret))))))))))))))
theorem sl160 : slim Tryz.f160.ntmps ords160 (Tryz.f160.body.getD .skip) = some cd160 := by kernel_rfl
theorem in160 {args : List Value} {H : AH} {R : Value → AH → Prop} (hl : args.length = 4) (h : ∀ (Q : Exit → Sl → AH → Prop), (∀ e s H, endA Tryz.prog [ResultVar.tmp 8, ResultVar.tmp 9] R e s H → Q e s H) → wpC Tryz.prog cd160 Q (enterA args) H) : ACalls Tryz.prog 160 args H R :=
  ACalls.intro (by kernel_rfl) Tryz.func160 rfl (by kernel_rfl) sl160 hl (of_decide_eq_true (by kernel_rfl)) (by kernel_rfl) h
def ords128 : List (Nat × List (Nat × Bool)) := [(17, [(0, false), (1, false), (2, false), (3, false), (4, false), (5, false), (6, false), (7, false), (8, false), (9, false), (10, false), (11, false), (12, false), (13, true), (14, false), (15, false), (16, false)])]
def cd128 : Cd := (.seq (.reg [⟨⟨some 10, Op.assign (Operand.const (Value.bool true)), none⟩, []⟩]) (.seq (.reg [⟨⟨some 11, Op.assign (Operand.const (Value.bool true)), none⟩, []⟩]) (.block 0 (.loop (.block 1 (.seq (.reg [⟨⟨some 21, Op.move (Operand.tmp 2), none⟩, []⟩,
  ⟨⟨some 22, Op.move (Operand.tmp 1), none⟩, []⟩,
  ⟨⟨some 23, Op.binOp BinOp.sub 3 (Operand.tmp 21) (Operand.tmp 22) 3, none⟩, []⟩,
  ⟨⟨some 12, Op.assign (Operand.tmp 23), none⟩, []⟩]) (.seq (.seq (.reg [⟨⟨some 24, Op.move (Operand.tmp 12), none⟩, []⟩,
  ⟨⟨some 25, Op.binOp BinOp.leq 3 (Operand.tmp 24) (Operand.const (Value.int IntKind.i64 12)) 3, none⟩, []⟩]) (.cond (Operand.tmp 25) (.seq (.reg [⟨⟨some 26, Op.move (Operand.tmp 0), none⟩, []⟩,
  ⟨⟨some 27, Op.move (Operand.tmp 1), none⟩, []⟩,
  ⟨⟨some 28, Op.move (Operand.tmp 2), none⟩, []⟩,
  ⟨⟨some 29, Op.move (Operand.tmp 4), none⟩, []⟩,
  ⟨⟨some 30, Op.call { callee := (Callee.value (Operand.func 157)), args := #[(Operand.tmp 26), (Operand.tmp 27), (Operand.tmp 28), (Operand.tmp 29)], argTypes := #[26, 3, 3, 105] }, none⟩, []⟩]) .ret) .skip)) (.seq (.seq (.reg [⟨⟨some 31, Op.move (Operand.tmp 3), none⟩, []⟩,
  ⟨⟨some 32, Op.binOp BinOp.eql 3 (Operand.tmp 31) (Operand.const (Value.int IntKind.i64 0)) 3, none⟩, []⟩]) (.cond (Operand.tmp 32) (.seq (.reg [⟨⟨some 33, Op.move (Operand.tmp 0), none⟩, []⟩,
  ⟨⟨some 34, Op.move (Operand.tmp 1), none⟩, []⟩,
  ⟨⟨some 35, Op.move (Operand.tmp 2), none⟩, []⟩,
  ⟨⟨some 36, Op.move (Operand.tmp 4), none⟩, []⟩,
  ⟨⟨some 37, Op.call { callee := (Callee.value (Operand.func 158)), args := #[(Operand.tmp 33), (Operand.tmp 34), (Operand.tmp 35), (Operand.tmp 36)], argTypes := #[26, 3, 3, 105] }, none⟩, []⟩]) .ret) .skip)) (.seq (.seq (.reg [⟨⟨some 38, Op.move (Operand.tmp 10), none⟩, []⟩,
  ⟨⟨some 39, Op.unOp UnOp.not 4 (Operand.tmp 38), none⟩, []⟩]) (.cond (Operand.tmp 39) (.seq (.reg [⟨⟨some 40, Op.move (Operand.tmp 0), none⟩, []⟩,
  ⟨⟨some 41, Op.move (Operand.tmp 1), none⟩, []⟩,
  ⟨⟨some 42, Op.move (Operand.tmp 2), none⟩, []⟩,
  ⟨⟨some 43, Op.move (Operand.tmp 4), none⟩, []⟩,
  ⟨⟨some 44, Op.call { callee := (Callee.value (Operand.func 159)), args := #[(Operand.tmp 40), (Operand.tmp 41), (Operand.tmp 42), (Operand.tmp 43)], argTypes := #[26, 3, 3, 105] }, none⟩, []⟩]) (.reg [⟨⟨some 45, Op.move (Operand.tmp 3), none⟩, []⟩,
  ⟨⟨some 46, Op.binOp BinOp.sub 3 (Operand.tmp 45) (Operand.const (Value.int IntKind.i64 1)) 3, none⟩, []⟩,
  ⟨⟨some 3, Op.assign (Operand.tmp 46), none⟩, []⟩])) .skip)) (.seq (.reg [⟨⟨some 48, Op.move (Operand.tmp 0), none⟩, []⟩,
  ⟨⟨some 49, Op.move (Operand.tmp 1), none⟩, []⟩,
  ⟨⟨some 50, Op.move (Operand.tmp 2), none⟩, []⟩,
  ⟨⟨some 51, Op.move (Operand.tmp 4), none⟩, []⟩,
  ⟨⟨some 52, Op.call { callee := (Callee.value (Operand.func 160)), args := #[(Operand.tmp 48), (Operand.tmp 49), (Operand.tmp 50), (Operand.tmp 51)], argTypes := #[26, 3, 3, 105] }, none⟩, []⟩,
  ⟨⟨some 47, Op.move (Operand.tmp 52), none⟩, []⟩,
  ⟨⟨some 53, Op.extract (Operand.tmp 47) 0, none⟩, []⟩,
  ⟨⟨some 54, Op.extract (Operand.tmp 47) 1, none⟩, []⟩,
  ⟨⟨some 13, Op.assign (Operand.tmp 53), none⟩, []⟩,
  ⟨⟨some 14, Op.assign (Operand.tmp 54), none⟩, []⟩]) (.seq (.seq (.reg [⟨⟨some 55, Op.move (Operand.tmp 14), none⟩, []⟩,
  ⟨⟨some 56, Op.binOp BinOp.eql 152 (Operand.tmp 55) (Operand.const (Value.int IntKind.i64 2)) 152, none⟩, []⟩]) (.cond (Operand.tmp 56) (.seq (.reg [⟨⟨some 57, Op.move (Operand.tmp 0), none⟩, []⟩,
  ⟨⟨some 58, Op.move (Operand.tmp 1), none⟩, []⟩,
  ⟨⟨some 59, Op.move (Operand.tmp 2), none⟩, []⟩,
  ⟨⟨some 60, Op.move (Operand.tmp 4), none⟩, []⟩,
  ⟨⟨some 61, Op.call { callee := (Callee.value (Operand.func 161)), args := #[(Operand.tmp 57), (Operand.tmp 58), (Operand.tmp 59), (Operand.tmp 60)], argTypes := #[26, 3, 3, 105] }, none⟩, []⟩]) (.seq (.reg [⟨⟨some 62, Op.move (Operand.tmp 2), none⟩, []⟩,
  ⟨⟨some 63, Op.binOp BinOp.sub 3 (Operand.tmp 62) (Operand.const (Value.int IntKind.i64 1)) 3, none⟩, []⟩,
  ⟨⟨some 64, Op.move (Operand.tmp 13), none⟩, []⟩,
  ⟨⟨some 65, Op.move (Operand.tmp 1), none⟩, []⟩,
  ⟨⟨some 66, Op.binOp BinOp.sub 3 (Operand.tmp 64) (Operand.tmp 65) 3, none⟩, []⟩,
  ⟨⟨some 67, Op.binOp BinOp.sub 3 (Operand.tmp 63) (Operand.tmp 66) 3, none⟩, []⟩,
  ⟨⟨some 13, Op.assign (Operand.tmp 67), none⟩, []⟩]) (.reg [⟨⟨some 14, Op.assign (Operand.const (Value.int IntKind.i64 1)), none⟩, []⟩]))) .skip)) (.seq (.seq (.reg [⟨⟨some 68, Op.move (Operand.tmp 10), none⟩, []⟩,
  ⟨⟨some 69, Op.move (Operand.tmp 68), none⟩, []⟩,
  ⟨⟨some 70, Op.move (Operand.tmp 11), some (69, true)⟩, []⟩,
  ⟨⟨some 71, Op.pick (Operand.tmp 69) (Operand.tmp 70) (Operand.const (Value.bool false)), none⟩, []⟩,
  ⟨⟨some 72, Op.move (Operand.tmp 71), none⟩, []⟩,
  ⟨⟨some 73, Op.move (Operand.tmp 14), some (72, true)⟩, []⟩,
  ⟨⟨some 74, Op.binOp BinOp.eql 152 (Operand.tmp 73) (Operand.const (Value.int IntKind.i64 1)) 152, some (72, true)⟩, []⟩,
  ⟨⟨some 75, Op.pick (Operand.tmp 72) (Operand.tmp 74) (Operand.const (Value.bool false)), none⟩, []⟩]) (.cond (Operand.tmp 75) (.seq (.reg [⟨⟨some 76, Op.move (Operand.tmp 0), none⟩, []⟩,
  ⟨⟨some 77, Op.move (Operand.tmp 1), none⟩, []⟩,
  ⟨⟨some 78, Op.move (Operand.tmp 2), none⟩, []⟩,
  ⟨⟨some 79, Op.move (Operand.tmp 4), none⟩, []⟩,
  ⟨⟨some 80, Op.call { callee := (Callee.value (Operand.func 162)), args := #[(Operand.tmp 76), (Operand.tmp 77), (Operand.tmp 78), (Operand.tmp 79)], argTypes := #[26, 3, 3, 105] }, none⟩, []⟩]) (.cond (Operand.tmp 80) .ret .skip)) .skip)) (.seq (.seq (.reg [⟨⟨some 81, Op.move (Operand.tmp 1), none⟩, []⟩,
  ⟨⟨some 82, Op.binOp BinOp.gtr 3 (Operand.tmp 81) (Operand.const (Value.int IntKind.i64 0)) 3, none⟩, []⟩,
  ⟨⟨some 83, Op.move (Operand.tmp 82), none⟩, []⟩,
  ⟨⟨some 84, Op.move (Operand.tmp 4), some (83, true)⟩, []⟩,
  ⟨⟨some 85, Op.move (Operand.tmp 0), some (83, true)⟩, []⟩,
  ⟨⟨some 86, Op.move (Operand.tmp 1), some (83, true)⟩, []⟩,
  ⟨⟨some 87, Op.binOp BinOp.sub 3 (Operand.tmp 86) (Operand.const (Value.int IntKind.i64 1)) 3, some (83, true)⟩, []⟩,
  ⟨⟨some 88, Op.indexAddr 26 (Operand.tmp 85) (Operand.tmp 87), some (83, true)⟩, []⟩,
  ⟨⟨some 89, Op.load 38 (Operand.tmp 88), some (83, true)⟩, []⟩,
  ⟨⟨some 90, Op.move (Operand.tmp 0), some (83, true)⟩, []⟩,
  ⟨⟨some 91, Op.move (Operand.tmp 13), some (83, true)⟩, []⟩,
  ⟨⟨some 92, Op.indexAddr 26 (Operand.tmp 90) (Operand.tmp 91), some (83, true)⟩, []⟩,
  ⟨⟨some 93, Op.load 38 (Operand.tmp 92), some (83, true)⟩, []⟩,
  ⟨⟨some 94, Op.call { callee := (Callee.value (Operand.tmp 84)), args := #[(Operand.tmp 89), (Operand.tmp 93)], argTypes := #[38, 38] }, some (83, true)⟩, []⟩,
  ⟨⟨some 95, Op.binOp BinOp.lss 3 (Operand.tmp 94) (Operand.const (Value.int IntKind.i64 0)) 3, some (83, true)⟩, []⟩,
  ⟨⟨some 96, Op.unOp UnOp.not 4 (Operand.tmp 95), some (83, true)⟩, []⟩,
  ⟨⟨some 97, Op.pick (Operand.tmp 83) (Operand.tmp 96) (Operand.const (Value.bool false)), none⟩, []⟩]) (.cond (Operand.tmp 97) (.seq (.reg [⟨⟨some 98, Op.move (Operand.tmp 0), none⟩, []⟩,
  ⟨⟨some 99, Op.move (Operand.tmp 1), none⟩, []⟩,
  ⟨⟨some 100, Op.move (Operand.tmp 2), none⟩, []⟩,
  ⟨⟨some 101, Op.move (Operand.tmp 13), none⟩, []⟩,
  ⟨⟨some 102, Op.move (Operand.tmp 4), none⟩, []⟩,
  ⟨⟨some 103, Op.call { callee := (Callee.value (Operand.func 163)), args := #[(Operand.tmp 98), (Operand.tmp 99), (Operand.tmp 100), (Operand.tmp 101), (Operand.tmp 102)], argTypes := #[26, 3, 3, 3, 105] }, none⟩, []⟩,
  ⟨⟨some 15, Op.assign (Operand.tmp 103), none⟩, []⟩]) (.seq (.reg [⟨⟨some 104, Op.move (Operand.tmp 15), none⟩, []⟩,
  ⟨⟨some 1, Op.assign (Operand.tmp 104), none⟩, []⟩]) (.exit 1))) .skip)) (.seq (.reg [⟨⟨some 106, Op.move (Operand.tmp 0), none⟩, []⟩,
  ⟨⟨some 107, Op.move (Operand.tmp 1), none⟩, []⟩,
  ⟨⟨some 108, Op.move (Operand.tmp 2), none⟩, []⟩,
  ⟨⟨some 109, Op.move (Operand.tmp 13), none⟩, []⟩,
  ⟨⟨some 110, Op.move (Operand.tmp 4), none⟩, []⟩,
  ⟨⟨some 111, Op.call { callee := (Callee.value (Operand.func 164)), args := #[(Operand.tmp 106), (Operand.tmp 107), (Operand.tmp 108), (Operand.tmp 109), (Operand.tmp 110)], argTypes := #[26, 3, 3, 3, 105] }, none⟩, []⟩,
  ⟨⟨some 105, Op.move (Operand.tmp 111), none⟩, []⟩,
  ⟨⟨some 112, Op.extract (Operand.tmp 105) 0, none⟩, []⟩,
  ⟨⟨some 113, Op.extract (Operand.tmp 105) 1, none⟩, []⟩,
  ⟨⟨some 16, Op.assign (Operand.tmp 112), none⟩, []⟩,
  ⟨⟨some 17, Op.assign (Operand.tmp 113), none⟩, []⟩]) (.seq (.reg [⟨⟨some 114, Op.move (Operand.tmp 17), none⟩, []⟩,
  ⟨⟨some 11, Op.assign (Operand.tmp 114), none⟩, []⟩]) (.seq (.reg [⟨⟨some 115, Op.move (Operand.tmp 16), none⟩, []⟩,
  ⟨⟨some 116, Op.move (Operand.tmp 1), none⟩, []⟩,
  ⟨⟨some 117, Op.binOp BinOp.sub 3 (Operand.tmp 115) (Operand.tmp 116) 3, none⟩, []⟩,
  ⟨⟨some 118, Op.move (Operand.tmp 2), none⟩, []⟩,
  ⟨⟨some 119, Op.move (Operand.tmp 16), none⟩, []⟩,
  ⟨⟨some 120, Op.binOp BinOp.sub 3 (Operand.tmp 118) (Operand.tmp 119) 3, none⟩, []⟩,
  ⟨⟨some 18, Op.assign (Operand.tmp 117), none⟩, []⟩,
  ⟨⟨some 19, Op.assign (Operand.tmp 120), none⟩, []⟩]) (.seq (.reg [⟨⟨some 121, Op.move (Operand.tmp 12), none⟩, []⟩,
  ⟨⟨some 122, Op.binOp BinOp.quo 3 (Operand.tmp 121) (Operand.const (Value.int IntKind.i64 8)) 3, none⟩, []⟩,
  ⟨⟨some 20, Op.assign (Operand.tmp 122), none⟩, []⟩]) (.seq (.reg [⟨⟨some 123, Op.move (Operand.tmp 18), none⟩, []⟩,
  ⟨⟨some 124, Op.move (Operand.tmp 19), none⟩, []⟩,
  ⟨⟨some 125, Op.binOp BinOp.lss 3 (Operand.tmp 123) (Operand.tmp 124) 3, none⟩, []⟩]) (.cond (Operand.tmp 125) (.seq (.reg [⟨⟨some 126, Op.move (Operand.tmp 18), none⟩, []⟩,
  ⟨⟨some 127, Op.move (Operand.tmp 20), none⟩, []⟩,
  ⟨⟨some 128, Op.binOp BinOp.geq 3 (Operand.tmp 126) (Operand.tmp 127) 3, none⟩, []⟩,
  ⟨⟨some 10, Op.assign (Operand.tmp 128), none⟩, []⟩]) (.seq (.reg [⟨⟨some 129, Op.move (Operand.tmp 0), none⟩, []⟩,
  ⟨⟨some 130, Op.move (Operand.tmp 1), none⟩, []⟩,
  ⟨⟨some 131, Op.move (Operand.tmp 16), none⟩, []⟩,
  ⟨⟨some 132, Op.move (Operand.tmp 3), none⟩, []⟩,
  ⟨⟨some 133, Op.move (Operand.tmp 4), none⟩, []⟩,
  ⟨⟨some 134, Op.call { callee := (Callee.value (Operand.func 128)), args := #[(Operand.tmp 129), (Operand.tmp 130), (Operand.tmp 131), (Operand.tmp 132), (Operand.tmp 133)], argTypes := #[26, 3, 3, 3, 105] }, none⟩, []⟩]) (.reg [⟨⟨some 135, Op.move (Operand.tmp 16), none⟩, []⟩,
  ⟨⟨some 136, Op.binOp BinOp.add 3 (Operand.tmp 135) (Operand.const (Value.int IntKind.i64 1)) 3, none⟩, []⟩,
  ⟨⟨some 1, Op.assign (Operand.tmp 136), none⟩, []⟩]))) (.seq (.reg [⟨⟨some 137, Op.move (Operand.tmp 19), none⟩, []⟩,
  ⟨⟨some 138, Op.move (Operand.tmp 20), none⟩, []⟩,
  ⟨⟨some 139, Op.binOp BinOp.geq 3 (Operand.tmp 137) (Operand.tmp 138) 3, none⟩, []⟩,
  ⟨⟨some 10, Op.assign (Operand.tmp 139), none⟩, []⟩]) (.seq (.reg [⟨⟨some 140, Op.move (Operand.tmp 0), none⟩, []⟩,
  ⟨⟨some 141, Op.move (Operand.tmp 16), none⟩, []⟩,
  ⟨⟨some 142, Op.binOp BinOp.add 3 (Operand.tmp 141) (Operand.const (Value.int IntKind.i64 1)) 3, none⟩, []⟩,
  ⟨⟨some 143, Op.move (Operand.tmp 2), none⟩, []⟩,
  ⟨⟨some 144, Op.move (Operand.tmp 3), none⟩, []⟩,
  ⟨⟨some 145, Op.move (Operand.tmp 4), none⟩, []⟩,
  ⟨⟨some 146, Op.call { callee := (Callee.value (Operand.func 128)), args := #[(Operand.tmp 140), (Operand.tmp 142), (Operand.tmp 143), (Operand.tmp 144), (Operand.tmp 145)], argTypes := #[26, 3, 3, 3, 105] }, none⟩, []⟩]) (.reg [⟨⟨some 147, Op.move (Operand.tmp 16), none⟩, []⟩,
  ⟨⟨some 2, Op.assign (Operand.tmp 147), none⟩, []⟩]))))))))))))))))))))))
theorem sl128 : slim Tryz.f128.ntmps ords128 (Tryz.f128.body.getD .skip) = some cd128 := by kernel_rfl
theorem in128 {args : List Value} {H : AH} {R : Value → AH → Prop} (hl : args.length = 5) (h : ∀ (Q : Exit → Sl → AH → Prop), (∀ e s H, endA Tryz.prog [] R e s H → Q e s H) → wpC Tryz.prog cd128 Q (enterA args) H) : ACalls Tryz.prog 128 args H R :=
  ACalls.intro (by kernel_rfl) Tryz.func128 rfl (by kernel_rfl) sl128 hl (of_decide_eq_true (by kernel_rfl)) (by kernel_rfl) h
end Go.Proofs.YtlfongfhbkefmaaGreat.Ai
namespace Go.Proofs.YtlfongfhbkefmaaGreat.Ai
open Go Go.RowKit
set_option linter.unusedVariables false
set_option linter.unusedSimpArgs false
/-- the order of lists -/
def cmpL : List Int → List Int → Int
  | [], [] => 0
  | [], _ :: _ => -1
  | _ :: _, [] => 1
  | a :: xs, b :: ys => if cmpI a b ≠ 0 then cmpI a b else cmpL xs ys
theorem cmpL_nil (ys : List Int) : cmpL [] ys = if 0 < ys.length then -1 else 0 := by
  cases ys with
  | nil => rfl
  | cons b bs => simp [cmpL]
theorem cmpL_step (xs ys : List Int) (i : Nat) (hi : i < xs.length) : cmpL (xs.drop i) (ys.drop i) = if ys.length ≤ i then 1 else if cmpI (xs.getD i 0) (ys.getD i 0) ≠ 0 then cmpI (xs.getD i 0) (ys.getD i 0) else cmpL (xs.drop (i + 1)) (ys.drop (i + 1)) := by
  have hx : xs.getD i 0 = xs[i] := by simp [hi]
  rw [List.drop_eq_getElem_cons hi]
  by_cases hj : ys.length ≤ i
  · rw [if_pos hj, List.drop_of_length_le hj]; rfl
  · have hj' : i < ys.length := by omega
    have hy : ys.getD i 0 = ys[i] := by simp [hj']
    rw [if_neg hj, List.drop_eq_getElem_cons hj', hx, hy]; rfl
abbrev fnCmp : Value := .func (.func 91) #[] (List.toArray [])
set_option maxHeartbeats 1000000 in
theorem CmpL_c (v w : Value) (xs ys : List Int) (H : AH) (hr : Row 3 H v xs) (hr2 : Row 3 H w ys) (hlen : xs.length ≤ 1099511627776) (hlen2 : ys.length ≤ 1099511627776) :
    ACalls Tryz.prog 91 [v, w] H fun r H' => r = .int .i64 (cmpL xs ys) ∧ H = H' := by
  refine in91 rfl ?_
  intro Q hQ
  simp (maxSteps := 1000000) (disch := omega) only [cd91, hr.len Tryz.underlying38, S, S1, S2, S3, S4, S5, ST, eq_self, reduceIte, reduceCtorEq, Nat.reduceEqDiff, Nat.reduceAdd]
  refine LoopH.by (fun m s H' => ∃ i, m + i = xs.length ∧ s 0 = v ∧ s 1 = w ∧ s 9 = v ∧ s 10 = .int .i64 (xs.length : Int) ∧ s 11 = .int .i64 ((i : Nat) : Int) ∧ H = H' ∧ cmpL xs ys = cmpL (xs.drop i) (ys.drop i) ∧ (i ≤ ys.length ∨ i = 0)) xs.length ?_ ?_
  · exact ⟨0, by simp, rfl, rfl, rfl, rfl, rfl, rfl, by simp, .inr rfl⟩
  · rintro m s H' ⟨i, hm, h0, h1, h9, h10, h11, rfl, hc, hy⟩
    simp (maxSteps := 1000000) (disch := omega) only [h0, h1, h9, h10, h11, S, S1, S2, S3, S4, S5, ST, eq_self, reduceIte, reduceCtorEq, Nat.reduceEqDiff, Nat.reduceAdd]
    refine brD.intro (fun g => ?_) (fun g => ?_)
    · have hi : i < xs.length := by omega
      rw [cmpL_step xs ys i hi] at hc
      simp (maxSteps := 1000000) (disch := omega) only [h0, h1, h9, h10, h11, hr.ix Tryz.underlying38 cs3, hr.cell, Int.toNat_natCast, hr2.len Tryz.underlying38, S, S1, S2, S3, S4, S5, ST, eq_self, reduceIte, reduceCtorEq, Nat.reduceEqDiff, Nat.reduceAdd]
      refine brD.intro (fun e => ?_) (fun e => ?_)
      · simp (maxSteps := 1000000) (disch := omega) only [S, S1, S2, S3, S4, S5, ST, eq_self, reduceIte, reduceCtorEq, Nat.reduceEqDiff, Nat.reduceAdd]
        refine hQ _ _ _ ?_
        simp (maxSteps := 1000000) (disch := omega) only [S, S1, S2, S3, S4, S5, ST, eq_self, reduceIte, reduceCtorEq, Nat.reduceEqDiff, Nat.reduceAdd]
        rw [hc, if_pos (by omega)]
      · have hj : i < ys.length := by omega
        rw [if_neg (by omega)] at hc
        simp (maxSteps := 1000000) (disch := omega) only [h0, h1, h9, h10, h11, hr2.ix Tryz.underlying38 cs3, hr2.cell, Int.toNat_natCast, S, S1, S2, S3, S4, S5, ST, eq_self, reduceIte, reduceCtorEq, Nat.reduceEqDiff, Nat.reduceAdd]
        refine CallH.by (Compare_c _ _ H) ?_
        rintro _ _ ⟨rfl, rfl⟩
        simp (maxSteps := 1000000) (disch := omega) only [S, S1, S2, S3, S4, S5, ST, eq_self, reduceIte, reduceCtorEq, Nat.reduceEqDiff, Nat.reduceAdd]
        refine brD.intro (fun e2 => ?_) (fun e2 => ?_) <;> simp (maxSteps := 1000000) (disch := omega) only [h0, h1, h9, h10, h11, wrap64, S, S1, S2, S3, S4, S5, ST, eq_self, reduceIte, reduceCtorEq, Nat.reduceEqDiff, Nat.reduceAdd]
        · refine hQ _ _ _ ?_
          simp (maxSteps := 1000000) (disch := omega) only [S, S1, S2, S3, S4, S5, ST, eq_self, reduceIte, reduceCtorEq, Nat.reduceEqDiff, Nat.reduceAdd]
          rw [hc, if_pos e2]
        · rw [if_neg e2] at hc
          have f1 : i + 1 ≤ ys.length ∨ i + 1 = 0 := .inl hj
          refine ⟨m - 1, by omega, i + 1, ?_⟩
          (repeat' first | exact hc | exact f1 | apply And.intro) <;> first | (simp only [Value.int.injEq, true_and]; omega) | omega | rfl | assumption | (simp; done) | (simp; omega)
    · have hxe : i = xs.length := by omega
      rw [hxe, List.drop_length, cmpL_nil] at hc
      simp (maxSteps := 1000000) (disch := omega) only [h0, h1, hr.len Tryz.underlying38, hr2.len Tryz.underlying38, S, S1, S2, S3, S4, S5, ST, eq_self, reduceIte, reduceCtorEq, Nat.reduceEqDiff, Nat.reduceAdd]
      refine brD.intro (fun e => ?_) (fun e => ?_) <;> simp (maxSteps := 1000000) (disch := omega) only [S, S1, S2, S3, S4, S5, ST, eq_self, reduceIte, reduceCtorEq, Nat.reduceEqDiff, Nat.reduceAdd]
      · refine hQ _ _ _ ?_
        simp (maxSteps := 1000000) (disch := omega) only [S, S1, S2, S3, S4, S5, ST, eq_self, reduceIte, reduceCtorEq, Nat.reduceEqDiff, Nat.reduceAdd]
        rw [hc, if_pos (by simp; omega)]
      · refine hQ _ _ _ ?_
        simp (maxSteps := 1000000) (disch := omega) only [S, S1, S2, S3, S4, S5, ST, eq_self, reduceIte, reduceCtorEq, Nat.reduceEqDiff, Nat.reduceAdd]
        rw [hc, if_neg (by simp; omega)]
/-- in strict order -/
def SrtL (ls : List (List Int)) : Prop := ∀ i j, i < j → j < ls.length → 0 < cmpL (ls.getD j []) (ls.getD i [])
/-- such lists in memory -/
structure Sts (H : AH) (v : Value) (us : List Value) (ls : List (List Int)) : Prop where
  row : RowV 38 H v us
  len : us.length = ls.length
  each : ∀ i, i < ls.length → Row 3 H (us.getD i undef) (ls.getD i [])
  small : ∀ i, i < ls.length → (ls.getD i []).length ≤ 1099511627776
  bnd : ls.length ≤ 60000
  srt : SrtL ls
theorem Sts.pre {H H' : AH} {v : Value} {us : List Value} {ls : List (List Int)} (h : Sts H v us ls) (hp : H <+: H') : Sts H' v us ls := ⟨h.row.pre hp, h.len, fun i hi => (h.each i hi).pre hp, h.small, h.bnd, h.srt⟩
theorem cmpL_self : ∀ xs : List Int, cmpL xs xs = 0
  | [] => rfl
  | a :: xs => by
    have : cmpI a a = 0 := by unfold cmpI; rw [if_neg (by omega), if_neg (by omega)]
    rw [cmpL, if_neg (by rw [this]; decide)]; exact cmpL_self xs
theorem Sts.le {H : AH} {v : Value} {us : List Value} {ls : List (List Int)} (h : Sts H v us ls) {i j : Nat} (hij : i ≤ j) (hj : j < ls.length) : ¬ cmpL (ls.getD j []) (ls.getD i []) < 0 := by
  by_cases e : i = j
  · subst e; rw [cmpL_self]; omega
  · have := h.srt i j (by omega) hj; omega
section
variable {v : Value} {us : List Value} {ls : List (List Int)} {H : AH}
theorem Sts.cell (h : Sts H v us ls) {i : Nat} (hi : i < ls.length) : cellA H (rowO v) (rowK v + i) = some (us.getD i undef) := h.row.cell (by have := h.len; omega)
theorem Sts.cmp (h : Sts H v us ls) {i j : Nat} (hi : i < ls.length) (hj : j < ls.length) :
    ACalls Tryz.prog 91 [us.getD i undef, us.getD j undef] H fun r H' => r = .int .i64 (cmpL (ls.getD i []) (ls.getD j [])) ∧ H = H' := CmpL_c _ _ _ _ H (h.each i hi) (h.each j hj) (h.small i hi) (h.small j hj)
theorem order2_c (h : Sts H v us ls) (a b : Nat) (p : Value) (hab : a ≤ b) (hb : b < ls.length) :
    ACalls Tryz.prog 197 [v, .int .i64 (a : Int), .int .i64 (b : Int), p, fnCmp] H fun r H' => r = .tuple (List.toArray [.int .i64 (a : Int), .int .i64 (b : Int)]) ∧ H = H' := by
  refine in197 rfl ?_
  intro Q hQ
  have hl := h.len
  have hca := h.cell (show a < ls.length by omega)
  have hcb := h.cell hb
  simp (maxSteps := 1000000) (disch := omega) only [cd197, h.row.ix Tryz.underlying26 cs38, Int.toNat_natCast, hca, hcb, S, S1, S2, S3, S4, S5, ST, eq_self, reduceIte, reduceCtorEq, Nat.reduceEqDiff, Nat.reduceAdd]
  refine CallH.by (h.cmp hb (show a < ls.length by omega)) ?_
  rintro _ _ ⟨rfl, rfl⟩
  simp (maxSteps := 1000000) (disch := omega) only [S, S1, S2, S3, S4, S5, ST, eq_self, reduceIte, reduceCtorEq, Nat.reduceEqDiff, Nat.reduceAdd]
  refine brD.intro (fun e => absurd e (h.le hab hb)) (fun e => ?_)
  simp (maxSteps := 1000000) (disch := omega) only [S, S1, S2, S3, S4, S5, ST, eq_self, reduceIte, reduceCtorEq, Nat.reduceEqDiff, Nat.reduceAdd]
  refine hQ _ _ _ ?_
  simp (maxSteps := 1000000) (disch := omega) only [S, S1, S2, S3, S4, S5, ST, eq_self, reduceIte, reduceCtorEq, Nat.reduceEqDiff, Nat.reduceAdd]
theorem median_c (h : Sts H v us ls) (a b c : Nat) (p : Value) (hab : a ≤ b) (hbc : b ≤ c) (hc : c < ls.length) :
    ACalls Tryz.prog 182 [v, .int .i64 (a : Int), .int .i64 (b : Int), .int .i64 (c : Int), p, fnCmp] H fun r H' => r = .int .i64 (b : Int) ∧ H = H' := by
  refine in182 rfl ?_
  intro Q hQ
  simp (maxSteps := 1000000) (disch := omega) only [cd182, S, S1, S2, S3, S4, S5, ST, eq_self, reduceIte, reduceCtorEq, Nat.reduceEqDiff, Nat.reduceAdd]
  refine CallH.by (order2_c h a b p hab (by omega)) ?_
  rintro _ _ ⟨rfl, rfl⟩
  simp (maxSteps := 1000000) (disch := omega) only [S, S1, S2, S3, S4, S5, ST, eq_self, reduceIte, reduceCtorEq, Nat.reduceEqDiff, Nat.reduceAdd]
  refine CallH.by (order2_c h b c p hbc hc) ?_
  rintro _ _ ⟨rfl, rfl⟩
  simp (maxSteps := 1000000) (disch := omega) only [S, S1, S2, S3, S4, S5, ST, eq_self, reduceIte, reduceCtorEq, Nat.reduceEqDiff, Nat.reduceAdd]
  refine CallH.by (order2_c h a b p hab (by omega)) ?_
  rintro _ _ ⟨rfl, rfl⟩
  simp (maxSteps := 1000000) (disch := omega) only [S, S1, S2, S3, S4, S5, ST, eq_self, reduceIte, reduceCtorEq, Nat.reduceEqDiff, Nat.reduceAdd]
  refine hQ _ _ _ ?_
  simp (maxSteps := 1000000) (disch := omega) only [S, S1, S2, S3, S4, S5, ST, eq_self, reduceIte, reduceCtorEq, Nat.reduceEqDiff, Nat.reduceAdd]
theorem medianAdj_c (h : Sts H v us ls) (a : Nat) (p : Value) (ha : 1 ≤ a) (hc : a + 1 < ls.length) :
    ACalls Tryz.prog 181 [v, .int .i64 (a : Int), p, fnCmp] H fun r H' => r = .int .i64 (a : Int) ∧ H = H' := by
  refine in181 rfl ?_
  intro Q hQ
  have hb := h.bnd
  have e1 : (a : Int) - 1 = ((a - 1 : Nat) : Int) := by omega
  have e2 : (a : Int) + 1 = ((a + 1 : Nat) : Int) := by omega
  simp (maxSteps := 1000000) (disch := omega) only [cd181, wrap64, e1, e2, S, S1, S2, S3, S4, S5, ST, eq_self, reduceIte, reduceCtorEq, Nat.reduceEqDiff, Nat.reduceAdd]
  refine CallH.by (median_c h (a - 1) a (a + 1) p (by omega) (by omega) hc) ?_
  rintro _ _ ⟨rfl, rfl⟩
  simp (maxSteps := 1000000) (disch := omega) only [S, S1, S2, S3, S4, S5, ST, eq_self, reduceIte, reduceCtorEq, Nat.reduceEqDiff, Nat.reduceAdd]
  refine hQ _ _ _ ?_
  simp (maxSteps := 1000000) (disch := omega) only [S, S1, S2, S3, S4, S5, ST, eq_self, reduceIte, reduceCtorEq, Nat.reduceEqDiff, Nat.reduceAdd]
set_option maxRecDepth 20000 in
set_option maxHeartbeats 1000000 in
theorem partialIns_c (h : Sts H v us ls) (h1 : 1 ≤ ls.length) :
    ACalls Tryz.prog 162 [v, .int .i64 0, .int .i64 (ls.length : Int), fnCmp] H fun r H' => r = .bool true ∧ H = H' := by
  refine in162 rfl ?_
  intro Q hQ
  have hb := h.bnd
  have hl := h.len
  simp (maxSteps := 1000000) (disch := omega) only [cd162, wrap64, S, S1, S2, S3, S4, S5, ST, eq_self, reduceIte, reduceCtorEq, Nat.reduceEqDiff, Nat.reduceAdd]
  refine LoopH.by (fun m s H' => s 0 = v ∧ s 2 = .int .i64 (ls.length : Int) ∧ s 3 = fnCmp ∧ s 9 = .int .i64 1 ∧ s 10 = .int .i64 0 ∧ H = H') 0 ?_ ?_
  · exact ⟨rfl, rfl, rfl, rfl, rfl, rfl⟩
  · rintro m s H' ⟨h0, h2, h3, h9, h10, rfl⟩
    simp (maxSteps := 1000000) (disch := omega) only [h0, h2, h3, h9, h10, S, S1, S2, S3, S4, S5, ST, eq_self, reduceIte, reduceCtorEq, Nat.reduceEqDiff, Nat.reduceAdd]
    refine brD.intro (fun _ => ?_) (fun g => absurd (by decide) g)
    simp (maxSteps := 1000000) (disch := omega) only [h0, h2, h3, h9, h10, S, S1, S2, S3, S4, S5, ST, eq_self, reduceIte, reduceCtorEq, Nat.reduceEqDiff, Nat.reduceAdd]
    refine LoopH.by (fun m' s' H' => ∃ i, m' + i = ls.length ∧ 1 ≤ i ∧ s' 0 = v ∧ s' 2 = .int .i64 (ls.length : Int) ∧ s' 3 = fnCmp ∧ s' 9 = .int .i64 ((i : Nat) : Int) ∧ H = H') (ls.length - 1) ?_ ?_
    · exact ⟨1, by omega, by omega, by simp [S, S1, S2, S3, S4, S5, ST, eq_self, reduceIte, reduceCtorEq, Nat.reduceEqDiff, Nat.reduceAdd, h0], by simp [S, S1, S2, S3, S4, S5, ST, eq_self, reduceIte, reduceCtorEq, Nat.reduceEqDiff, Nat.reduceAdd, h2], by simp [S, S1, S2, S3, S4, S5, ST, eq_self, reduceIte, reduceCtorEq, Nat.reduceEqDiff, Nat.reduceAdd, h3], by simp [S, S1, S2, S3, S4, S5, ST, eq_self, reduceIte, reduceCtorEq, Nat.reduceEqDiff, Nat.reduceAdd, h9], rfl⟩
    · rintro m' s' H' ⟨i, hm, hi1, g0, g2, g3, g9, rfl⟩
      have e1 : (i : Int) - 1 = ((i - 1 : Nat) : Int) := by omega
      simp (maxSteps := 1000000) (disch := omega) only [g0, g2, g3, g9, S, S1, S2, S3, S4, S5, ST, eq_self, reduceIte, reduceCtorEq, Nat.reduceEqDiff, Nat.reduceAdd]
      refine brD.intro (fun g => ?_) (fun g => ?_)
      · have hi : i < ls.length := by omega
        have hc1 := h.cell hi
        have hc2 := h.cell (show i - 1 < ls.length by omega)
        simp (maxSteps := 1000000) (disch := omega) only [g, g0, g2, g3, g9, wrap64, e1, h.row.ix Tryz.underlying26 cs38, Int.toNat_natCast, hc1, hc2, S, S1, S2, S3, S4, S5, ST, eq_self, reduceIte, reduceCtorEq, Nat.reduceEqDiff, Nat.reduceAdd]
        refine CallH.by (h.cmp hi (show i - 1 < ls.length by omega)) ?_
        rintro _ _ ⟨rfl, rfl⟩
        simp (maxSteps := 1000000) (disch := omega) only [g, S, S1, S2, S3, S4, S5, ST, eq_self, reduceIte, reduceCtorEq, Nat.reduceEqDiff, Nat.reduceAdd]
        refine brD.intro (fun e => absurd e (h.le (by omega) hi)) (fun e => ?_)
        simp (maxSteps := 1000000) (disch := omega) only [g, e, g0, g2, g3, g9, wrap64, S, S1, S2, S3, S4, S5, ST, eq_self, reduceIte, reduceCtorEq, Nat.reduceEqDiff, Nat.reduceAdd]
        refine ⟨m' - 1, by omega, i + 1, ?_⟩
        (repeat' apply And.intro) <;> first | (simp only [Value.int.injEq, true_and]; omega) | omega | rfl | assumption | (simp; done) | (simp; omega)
      · have hi : i = ls.length := by omega
        subst hi
        simp (maxSteps := 1000000) (disch := omega) only [g, g0, g2, g3, g9, S, S1, S2, S3, S4, S5, ST, eq_self, reduceIte, reduceCtorEq, Nat.reduceEqDiff, Nat.reduceAdd]
        refine hQ _ _ _ ?_
        simp (maxSteps := 1000000) (disch := omega) only [S, S1, S2, S3, S4, S5, ST, eq_self, reduceIte, reduceCtorEq, Nat.reduceEqDiff, Nat.reduceAdd]
set_option maxRecDepth 20000 in
set_option maxHeartbeats 1000000 in
theorem insCmp_c (h : Sts H v us ls) :
    ACalls Tryz.prog 157 [v, .int .i64 0, .int .i64 (ls.length : Int), fnCmp] H fun r H' => H = H' := by
  refine in157 rfl ?_
  intro Q hQ
  have hb := h.bnd
  have hl := h.len
  simp (maxSteps := 1000000) (disch := omega) only [cd157, wrap64, S, S1, S2, S3, S4, S5, ST, eq_self, reduceIte, reduceCtorEq, Nat.reduceEqDiff, Nat.reduceAdd]
  refine LoopH.by (fun m s H' => ∃ i, m + i = ls.length + 1 ∧ 1 ≤ i ∧ s 0 = v ∧ s 1 = .int .i64 0 ∧ s 2 = .int .i64 (ls.length : Int) ∧ s 3 = fnCmp ∧ s 8 = .int .i64 ((i : Nat) : Int) ∧ H = H') ls.length ?_ ?_
  · exact ⟨1, by omega, by omega, rfl, rfl, rfl, rfl, rfl, rfl⟩
  · rintro m s H' ⟨i, hm, hi1, h0, h1, h2, h3, h8, rfl⟩
    simp (maxSteps := 1000000) (disch := omega) only [h0, h1, h2, h3, h8, S, S1, S2, S3, S4, S5, ST, eq_self, reduceIte, reduceCtorEq, Nat.reduceEqDiff, Nat.reduceAdd]
    refine brD.intro (fun g => ?_) (fun g => ?_)
    · have hi : i < ls.length := by omega
      have e1 : (i : Int) - 1 = ((i - 1 : Nat) : Int) := by omega
      have hc1 := h.cell hi
      have hc2 := h.cell (show i - 1 < ls.length by omega)
      simp (maxSteps := 1000000) (disch := omega) only [h0, h1, h2, h3, h8, S, S1, S2, S3, S4, S5, ST, eq_self, reduceIte, reduceCtorEq, Nat.reduceEqDiff, Nat.reduceAdd]
      refine LoopH.by (fun m' s' H' => s' 0 = v ∧ s' 1 = .int .i64 0 ∧ s' 2 = .int .i64 (ls.length : Int) ∧ s' 3 = fnCmp ∧ s' 8 = .int .i64 ((i : Nat) : Int) ∧ s' 9 = .int .i64 ((i : Nat) : Int) ∧ H = H') 0 ?_ ?_
      · simp only [S, S1, S2, S3, S4, S5, ST, eq_self, reduceIte, reduceCtorEq, Nat.reduceEqDiff, Nat.reduceAdd, h0, h1, h2, h3, h8]
      · rintro m' s' H' ⟨g0, g1, g2, g3, g8, g9, rfl⟩
        have hgt : (i : Int) > 0 := by omega
        simp (maxSteps := 1000000) (disch := omega) only [g0, g1, g2, g3, g8, g9, S, S1, S2, S3, S4, S5, ST, eq_self, reduceIte, reduceCtorEq, Nat.reduceEqDiff, Nat.reduceAdd]
        refine brD.intro (fun q => ?_) (fun q => absurd hgt q)
        simp (maxSteps := 1000000) (disch := omega) only [q, g0, g1, g2, g3, g8, g9, wrap64, e1, h.row.ix Tryz.underlying26 cs38, Int.toNat_natCast, hc1, hc2, S, S1, S2, S3, S4, S5, ST, eq_self, reduceIte, reduceCtorEq, Nat.reduceEqDiff, Nat.reduceAdd]
        refine CallH.by (h.cmp hi (show i - 1 < ls.length by omega)) ?_
        rintro _ _ ⟨rfl, rfl⟩
        simp (maxSteps := 1000000) (disch := omega) only [q, S, S1, S2, S3, S4, S5, ST, eq_self, reduceIte, reduceCtorEq, Nat.reduceEqDiff, Nat.reduceAdd]
        refine brD.intro (fun e => absurd e (h.le (by omega) hi)) (fun e => ?_)
        simp (maxSteps := 1000000) (disch := omega) only [q, e, g0, g1, g2, g3, g8, g9, wrap64, S, S1, S2, S3, S4, S5, ST, eq_self, reduceIte, reduceCtorEq, Nat.reduceEqDiff, Nat.reduceAdd]
        refine ⟨m - 1, by omega, i + 1, ?_⟩
        (repeat' apply And.intro) <;> first | (simp only [Value.int.injEq, true_and]; omega) | omega | rfl | assumption | (simp; done) | (simp; omega)
    · simp (maxSteps := 1000000) (disch := omega) only [S, S1, S2, S3, S4, S5, ST, eq_self, reduceIte, reduceCtorEq, Nat.reduceEqDiff, Nat.reduceAdd]
      refine hQ _ _ _ ?_
      simp (maxSteps := 1000000) (disch := omega) only [S, S1, S2, S3, S4, S5, ST, eq_self, reduceIte, reduceCtorEq, Nat.reduceEqDiff, Nat.reduceAdd]
theorem alloc_int (H : AH) : allocA Tryz.prog 3 H = some (.pointer (some ⟨H.length, 0, none⟩), H ++ [.cells [.int .i64 0] 3 false]) := by kernel_rfl
set_option maxRecDepth 20000 in
set_option maxHeartbeats 1000000 in
theorem choosePivot_c (h : Sts H v us ls) (h1 : 13 ≤ ls.length) :
    ACalls Tryz.prog 160 [v, .int .i64 0, .int .i64 (ls.length : Int), fnCmp] H fun r H' => (∃ j : Int, r = .tuple (List.toArray [.int .i64 j, .int .i64 1])) ∧ H <+: H' := by
  refine in160 rfl ?_
  intro Q hQ
  have hb := h.bnd
  have hl := h.len
  obtain ⟨q, hqd⟩ : ∃ q, ls.length / 4 = q := ⟨_, rfl⟩
  have hq : IntKind.i64.wrap ((ls.length : Int).tdiv 4) = (q : Int) := by
    rw [Int.tdiv_eq_ediv_of_nonneg (by omega), wrap64 (by omega) (by omega)]
    omega
  have e1 : (0 : Int) + (q : Int) * 1 = (q : Int) := by omega
  have e2 : (0 : Int) + (q : Int) * 2 = ((2 * q : Nat) : Int) := by omega
  have e3 : (0 : Int) + (q : Int) * 3 = ((3 * q : Nat) : Int) := by omega
  have e0 : (ls.length : Int) - 0 = (ls.length : Int) := by omega
  simp (maxSteps := 1000000) (disch := omega) only [cd160, alloc_int, wrap64, e0, hq, e1, e2, e3, S, S1, S2, S3, S4, S5, ST, eq_self, reduceIte, reduceCtorEq, Nat.reduceEqDiff, Nat.reduceAdd]
  generalize hA : H ++ [AObj.cells [.int .i64 0] 3 false] = A
  have pA : H <+: A := by rw [← hA]; exact List.prefix_append _ _
  have cA : A[H.length]? = some (.cells [.int .i64 0] 3 false) := by rw [← hA]; exact at_new ..
  have hA2 := h.pre pA
  refine brD.intro (fun g => ?_) (fun g => absurd (show (ls.length : Int) ≥ 8 by omega) g)
  simp (maxSteps := 1000000) (disch := omega) only [S, S1, S2, S3, S4, S5, ST, eq_self, reduceIte, reduceCtorEq, Nat.reduceEqDiff, Nat.reduceAdd]
  refine brD.intro (fun g2 => ?_) (fun g2 => ?_)
  · simp (maxSteps := 1000000) (disch := omega) only [S, S1, S2, S3, S4, S5, ST, eq_self, reduceIte, reduceCtorEq, Nat.reduceEqDiff, Nat.reduceAdd]
    refine CallH.by (medianAdj_c hA2 q _ (by omega) (by omega)) ?_
    rintro _ _ ⟨rfl, rfl⟩
    simp (maxSteps := 1000000) (disch := omega) only [S, S1, S2, S3, S4, S5, ST, eq_self, reduceIte, reduceCtorEq, Nat.reduceEqDiff, Nat.reduceAdd]
    refine CallH.by (medianAdj_c hA2 (2 * q) _ (by omega) (by omega)) ?_
    rintro _ _ ⟨rfl, rfl⟩
    simp (maxSteps := 1000000) (disch := omega) only [S, S1, S2, S3, S4, S5, ST, eq_self, reduceIte, reduceCtorEq, Nat.reduceEqDiff, Nat.reduceAdd]
    refine CallH.by (medianAdj_c hA2 (3 * q) _ (by omega) (by omega)) ?_
    rintro _ _ ⟨rfl, rfl⟩
    simp (maxSteps := 1000000) (disch := omega) only [S, S1, S2, S3, S4, S5, ST, eq_self, reduceIte, reduceCtorEq, Nat.reduceEqDiff, Nat.reduceAdd]
    refine CallH.by (median_c hA2 q (2 * q) (3 * q) _ (by omega) (by omega) (by omega)) ?_
    rintro _ _ ⟨rfl, rfl⟩
    simp (maxSteps := 1000000) (disch := omega) only [cell_of cA, S, S1, S2, S3, S4, S5, ST, eq_self, reduceIte, reduceCtorEq, Nat.reduceEqDiff, Nat.reduceAdd]
    first
      | (refine brD.intro (fun _ => ?_) (fun g3 => absurd rfl g3)
         simp (maxSteps := 1000000) (disch := omega) only [S, S1, S2, S3, S4, S5, ST, eq_self, reduceIte, reduceCtorEq, Nat.reduceEqDiff, Nat.reduceAdd])
      | skip
    refine hQ _ _ _ ?_
    simp (maxSteps := 1000000) (disch := omega) only [S, S1, S2, S3, S4, S5, ST, eq_self, reduceIte, reduceCtorEq, Nat.reduceEqDiff, Nat.reduceAdd]
    exact ⟨⟨_, rfl⟩, pA⟩
  · simp (maxSteps := 1000000) (disch := omega) only [S, S1, S2, S3, S4, S5, ST, eq_self, reduceIte, reduceCtorEq, Nat.reduceEqDiff, Nat.reduceAdd]
    refine CallH.by (median_c hA2 q (2 * q) (3 * q) _ (by omega) (by omega) (by omega)) ?_
    rintro _ _ ⟨rfl, rfl⟩
    simp (maxSteps := 1000000) (disch := omega) only [cell_of cA, S, S1, S2, S3, S4, S5, ST, eq_self, reduceIte, reduceCtorEq, Nat.reduceEqDiff, Nat.reduceAdd]
    first
      | (refine brD.intro (fun _ => ?_) (fun g3 => absurd rfl g3)
         simp (maxSteps := 1000000) (disch := omega) only [S, S1, S2, S3, S4, S5, ST, eq_self, reduceIte, reduceCtorEq, Nat.reduceEqDiff, Nat.reduceAdd])
      | skip
    refine hQ _ _ _ ?_
    simp (maxSteps := 1000000) (disch := omega) only [S, S1, S2, S3, S4, S5, ST, eq_self, reduceIte, reduceCtorEq, Nat.reduceEqDiff, Nat.reduceAdd]
    exact ⟨⟨_, rfl⟩, pA⟩
set_option maxRecDepth 20000 in
set_option maxHeartbeats 1000000 in
theorem pdqCmp_c (h : Sts H v us ls) (lim : Int) (hlim : lim ≠ 0 ∨ ls.length ≤ 12) :
    ACalls Tryz.prog 128 [v, .int .i64 0, .int .i64 (ls.length : Int), .int .i64 lim, fnCmp] H fun r H' => H <+: H' := by
  refine in128 rfl ?_
  intro Q hQ
  have hb := h.bnd
  have e0 : (ls.length : Int) - 0 = (ls.length : Int) := by omega
  simp (maxSteps := 1000000) (disch := omega) only [cd128, S, S1, S2, S3, S4, S5, ST, eq_self, reduceIte, reduceCtorEq, Nat.reduceEqDiff, Nat.reduceAdd]
  refine LoopH.by (fun m s H' => s 0 = v ∧ s 1 = .int .i64 0 ∧ s 2 = .int .i64 (ls.length : Int) ∧ s 3 = .int .i64 lim ∧ s 4 = fnCmp ∧ s 10 = .bool true ∧ s 11 = .bool true ∧ H = H') 0 ?_ ?_
  · exact ⟨rfl, rfl, rfl, rfl, rfl, rfl, rfl, rfl⟩
  · rintro m s H' ⟨h0, h1, h2, h3, h4, h10, h11, rfl⟩
    simp (maxSteps := 1000000) (disch := omega) only [h0, h1, h2, h3, h4, h10, h11, wrap64, e0, S, S1, S2, S3, S4, S5, ST, eq_self, reduceIte, reduceCtorEq, Nat.reduceEqDiff, Nat.reduceAdd]
    refine brD.intro (fun g => ?_) (fun g => ?_)
    · simp (maxSteps := 1000000) (disch := omega) only [h0, h1, h2, h3, h4, h10, h11, S, S1, S2, S3, S4, S5, ST, eq_self, reduceIte, reduceCtorEq, Nat.reduceEqDiff, Nat.reduceAdd]
      refine CallH.by (insCmp_c h) ?_
      rintro _ _ rfl
      simp (maxSteps := 1000000) (disch := omega) only [S, S1, S2, S3, S4, S5, ST, eq_self, reduceIte, reduceCtorEq, Nat.reduceEqDiff, Nat.reduceAdd]
      refine hQ _ _ _ ?_
      simp (maxSteps := 1000000) (disch := omega) only [S, S1, S2, S3, S4, S5, ST, eq_self, reduceIte, reduceCtorEq, Nat.reduceEqDiff, Nat.reduceAdd]
      exact List.prefix_refl _
    · have hlim' : lim ≠ 0 := hlim.resolve_right (by omega)
      simp (maxSteps := 1000000) (disch := omega) only [h0, h1, h2, h3, h4, h10, h11, S, S1, S2, S3, S4, S5, ST, eq_self, reduceIte, reduceCtorEq, Nat.reduceEqDiff, Nat.reduceAdd]
      refine brD.intro (fun g2 => absurd g2 hlim') (fun g2 => ?_)
      simp (maxSteps := 1000000) (disch := omega) only [h0, h1, h2, h3, h4, h10, h11, S, S1, S2, S3, S4, S5, ST, eq_self, reduceIte, reduceCtorEq, Nat.reduceEqDiff, Nat.reduceAdd]
      refine CallH.by (choosePivot_c h (by omega)) ?_
      rintro _ A ⟨⟨j, rfl⟩, pA⟩
      simp (maxSteps := 1000000) (disch := omega) only [h0, h1, h2, h3, h4, h10, h11, S, S1, S2, S3, S4, S5, ST, eq_self, reduceIte, reduceCtorEq, Nat.reduceEqDiff, Nat.reduceAdd]
      refine brD.intro (fun g3 => absurd g3 (by decide)) (fun g3 => ?_)
      simp (maxSteps := 1000000) (disch := omega) only [h0, h1, h2, h3, h4, h10, h11, S, S1, S2, S3, S4, S5, ST, eq_self, reduceIte, reduceCtorEq, Nat.reduceEqDiff, Nat.reduceAdd]
      refine CallH.by (partialIns_c (h.pre pA) (by omega)) ?_
      rintro _ _ ⟨rfl, rfl⟩
      simp (maxSteps := 1000000) (disch := omega) only [S, S1, S2, S3, S4, S5, ST, eq_self, reduceIte, reduceCtorEq, Nat.reduceEqDiff, Nat.reduceAdd]
      refine hQ _ _ _ ?_
      simp (maxSteps := 1000000) (disch := omega) only [S, S1, S2, S3, S4, S5, ST, eq_self, reduceIte, reduceCtorEq, Nat.reduceEqDiff, Nat.reduceAdd]
      exact pA
end
end Go.Proofs.YtlfongfhbkefmaaGreat.Ai
namespace Go.Proofs.YtlfongfhbkefmaaGreat.Ai
open Go
def ords90 : List (Nat × List (Nat × Bool)) := []
def cd90 : Cd := (.seq (.reg [⟨⟨some 5, Op.move (Operand.tmp 0), none⟩, []⟩,
  ⟨⟨some 6, Op.call { callee := (Callee.builtin Builtin.len), args := #[(Operand.tmp 5)], argTypes := #[26] }, none⟩, []⟩,
  ⟨⟨some 4, Op.assign (Operand.tmp 6), none⟩, []⟩]) (.reg [⟨⟨some 7, Op.move (Operand.tmp 0), none⟩, []⟩,
  ⟨⟨some 8, Op.move (Operand.tmp 4), none⟩, []⟩,
  ⟨⟨some 9, Op.move (Operand.tmp 4), none⟩, []⟩,
  ⟨⟨some 10, Op.convert 3 108 (Operand.tmp 9), none⟩, []⟩,
  ⟨⟨some 11, Op.call { callee := (Callee.value (Operand.func 129)), args := #[(Operand.tmp 10)], argTypes := #[108] }, none⟩, []⟩,
  ⟨⟨some 12, Op.move (Operand.tmp 1), none⟩, []⟩,
  ⟨⟨some 13, Op.call { callee := (Callee.value (Operand.func 128)), args := #[(Operand.tmp 7), (Operand.const (Value.int IntKind.i64 0)), (Operand.tmp 8), (Operand.tmp 11), (Operand.tmp 12)], argTypes := #[26, 3, 3, 3, 105] }, none⟩, []⟩]))
theorem sl90 : slim Tryz.f90.ntmps ords90 (Tryz.f90.body.getD .skip) = some cd90 := by kernel_rfl
theorem in90 {args : List Value} {H : AH} {R : Value → AH → Prop} (hl : args.length = 2) (h : ∀ (Q : Exit → Sl → AH → Prop), (∀ e s H, endA Tryz.prog [] R e s H → Q e s H) → wpC Tryz.prog cd90 Q (enterA args) H) : ACalls Tryz.prog 90 args H R :=
  ACalls.intro (by kernel_rfl) Tryz.func90 rfl (by kernel_rfl) sl90 hl (of_decide_eq_true (by kernel_rfl)) (by kernel_rfl) h
end Go.Proofs.YtlfongfhbkefmaaGreat.Ai
namespace Go.Proofs.YtlfongfhbkefmaaGreat.Ai
open Go Go.RowKit
set_option linter.unusedVariables false
set_option linter.unusedSimpArgs false
theorem str_at {P : Program} {t : TypeId} (hu : P.underlying t = some .string) (s : ByteArray) (hz : s.size = 256) (hp : ∀ i : Fin 256, 0 < i.1 → 1 ≤ (s.data.getD i.1 0).toNat) (k : IntKind) (n : Nat) (h0 : 0 < n) (h1 : n < 256) : ∃ b : Nat, 1 ≤ b ∧ b < 256 ∧ indexA P t (.string s) (.int k (n : Int)) = some (.int .u8 (b : Int)) := by
  have hl : n < s.data.size := by have : s.data.size = 256 := hz; omega
  have hlt : n < s.size := by omega
  have e1 : s[(n : Int).toNat]? = some s[n] := by rw [Int.toNat_natCast]; simp [hlt]
  have e2 := hp ⟨n, h1⟩ h0
  have e3 : s.data.getD n 0 = s[n] := by
    rw [Array.getD_eq_getD_getElem?, Array.getElem?_eq_getElem hl]; rfl
  refine ⟨s[n].toNat, ?_, UInt8.toNat_lt _, ?_⟩
  · rw [← e3]; exact e2
  · simp only [indexA, hu, if_pos (show (0 : Int) ≤ n by omega), e1]
set_option maxRecDepth 20000 in
theorem Len64b_c (n : Nat) (H : AH) (h0 : 0 < n) (hn : n < 65536) : ACalls Tryz.prog 166 [.int .u64 (n : Int)] H fun r H' => (∃ k : Int, r = .int .i64 k ∧ 1 ≤ k) ∧ H = H' := by
  refine in166 rfl ?_
  intro Q hQ
  have k8 : binA Tryz.prog .shr 86 (.int .u64 (n : Int)) (.int .u64 8) = some (.int .u64 ((n / 256 : Nat) : Int)) := by
    simp only [binA, shiftA]
    rw [if_pos (.inr trivial), if_neg (by decide)]
    congr 2
    have : (2 ^ min (8 : Int).toNat IntKind.u64.bits : Int) = 256 := by decide
    rw [this, Int.fdiv_eq_ediv_of_nonneg _ (by decide)]
    omega
  simp (maxSteps := 1000000) (disch := omega) only [cd166, S, S1, S2, S3, S4, S5, ST, eq_self, reduceIte, reduceCtorEq, Nat.reduceEqDiff, Nat.reduceAdd]
  refine brD.intro (fun h => absurd h (by omega)) (fun _ => ?_)
  simp (maxSteps := 1000000) (disch := omega) only [S, S1, S2, S3, S4, S5, ST, eq_self, reduceIte, reduceCtorEq, Nat.reduceEqDiff, Nat.reduceAdd]
  refine brD.intro (fun h => absurd h (by omega)) (fun _ => ?_)
  simp (maxSteps := 1000000) (disch := omega) only [S, S1, S2, S3, S4, S5, ST, eq_self, reduceIte, reduceCtorEq, Nat.reduceEqDiff, Nat.reduceAdd]
  refine brD.intro (fun h => ?_) (fun h => ?_)
  · have hw : IntKind.u8.wrap ((n / 256 : Nat) : Int) = ((n / 256 : Nat) : Int) := wrapU8 (by omega) (by omega)
    simp (maxSteps := 1000000) (disch := omega) only [k8, hw, wrap64, S, S1, S2, S3, S4, S5, ST, eq_self, reduceIte, reduceCtorEq, Nat.reduceEqDiff, Nat.reduceAdd]
    generalize hs : (ByteArray.mk _) = s
    have hz : s.size = 256 := by rw [← hs]; rfl
    have hp : ∀ i : Fin 256, 0 < i.1 → 1 ≤ (s.data.getD i.1 0).toNat := by rw [← hs]; decide +kernel
    obtain ⟨b, hb1, hb2, hb⟩ := str_at (P := Tryz.prog) Tryz.underlying9 s hz hp .u8 (n / 256) (by omega) (by omega)
    simp (maxSteps := 1000000) (disch := omega) only [hb, wrap64, S, S1, S2, S3, S4, S5, ST, eq_self, reduceIte, reduceCtorEq, Nat.reduceEqDiff, Nat.reduceAdd]
    refine hQ _ _ _ ?_
    simp (maxSteps := 1000000) (disch := omega) only [S, S1, S2, S3, S4, S5, ST, eq_self, reduceIte, reduceCtorEq, Nat.reduceEqDiff, Nat.reduceAdd]
    exact ⟨_, rfl, by omega⟩
  · have hw : IntKind.u8.wrap (n : Int) = (n : Int) := wrapU8 (by omega) (by omega)
    simp (maxSteps := 1000000) (disch := omega) only [hw, wrap64, S, S1, S2, S3, S4, S5, ST, eq_self, reduceIte, reduceCtorEq, Nat.reduceEqDiff, Nat.reduceAdd]
    generalize hs : (ByteArray.mk _) = s
    have hz : s.size = 256 := by rw [← hs]; rfl
    have hp : ∀ i : Fin 256, 0 < i.1 → 1 ≤ (s.data.getD i.1 0).toNat := by rw [← hs]; decide +kernel
    obtain ⟨b, hb1, hb2, hb⟩ := str_at (P := Tryz.prog) Tryz.underlying9 s hz hp .u8 n (by omega) (by omega)
    simp (maxSteps := 1000000) (disch := omega) only [hb, wrap64, S, S1, S2, S3, S4, S5, ST, eq_self, reduceIte, reduceCtorEq, Nat.reduceEqDiff, Nat.reduceAdd]
    refine hQ _ _ _ ?_
    simp (maxSteps := 1000000) (disch := omega) only [S, S1, S2, S3, S4, S5, ST, eq_self, reduceIte, reduceCtorEq, Nat.reduceEqDiff, Nat.reduceAdd]
    exact ⟨_, rfl, by omega⟩
theorem Lenb_c (n : Nat) (H : AH) (h0 : 0 < n) (hn : n < 65536) : ACalls Tryz.prog 129 [.int .u64 (n : Int)] H fun r H' => (∃ k : Int, r = .int .i64 k ∧ 1 ≤ k) ∧ H = H' := by
  refine in129 rfl ?_
  intro Q hQ
  simp (maxSteps := 1000000) (disch := omega) only [cd129, S, S1, S2, S3, S4, S5, ST, eq_self, reduceIte, reduceCtorEq, Nat.reduceEqDiff, Nat.reduceAdd]
  refine CallH.by (Len64b_c n H h0 hn) ?_
  rintro _ _ ⟨⟨k, rfl, hk⟩, rfl⟩
  simp (maxSteps := 1000000) (disch := omega) only [S, S1, S2, S3, S4, S5, ST, eq_self, reduceIte, reduceCtorEq, Nat.reduceEqDiff, Nat.reduceAdd]
  refine hQ _ _ _ ?_
  simp (maxSteps := 1000000) (disch := omega) only [S, S1, S2, S3, S4, S5, ST, eq_self, reduceIte, reduceCtorEq, Nat.reduceEqDiff, Nat.reduceAdd]
  exact ⟨_, rfl, hk⟩
theorem str_z {P : Program} {t : TypeId} (hu : P.underlying t = some .string) (s : ByteArray) (hz : s.size = 256) (k : IntKind) (n : Nat) (h1 : n < 256) : ∃ b : Nat, b < 256 ∧ indexA P t (.string s) (.int k (n : Int)) = some (.int .u8 (b : Int)) := by
  have hlt : n < s.size := by omega
  have e1 : s[(n : Int).toNat]? = some s[n] := by rw [Int.toNat_natCast]; simp [hlt]
  refine ⟨s[n].toNat, UInt8.toNat_lt _, ?_⟩
  simp only [indexA, hu, if_pos (show (0 : Int) ≤ n by omega), e1]
set_option maxRecDepth 20000 in
theorem Len64z_c (n : Nat) (H : AH) (h0 : n = 0) : ACalls Tryz.prog 166 [.int .u64 (n : Int)] H fun r H' => (∃ k : Int, r = .int .i64 k) ∧ H = H' := by
  refine in166 rfl ?_
  intro Q hQ
  simp (maxSteps := 1000000) (disch := omega) only [cd166, S, S1, S2, S3, S4, S5, ST, eq_self, reduceIte, reduceCtorEq, Nat.reduceEqDiff, Nat.reduceAdd]
  refine brD.intro (fun h => absurd h (by omega)) (fun _ => ?_)
  simp (maxSteps := 1000000) (disch := omega) only [S, S1, S2, S3, S4, S5, ST, eq_self, reduceIte, reduceCtorEq, Nat.reduceEqDiff, Nat.reduceAdd]
  refine brD.intro (fun h => absurd h (by omega)) (fun _ => ?_)
  simp (maxSteps := 1000000) (disch := omega) only [S, S1, S2, S3, S4, S5, ST, eq_self, reduceIte, reduceCtorEq, Nat.reduceEqDiff, Nat.reduceAdd]
  refine brD.intro (fun h => absurd h (by omega)) (fun _ => ?_)
  have hw : IntKind.u8.wrap (n : Int) = (n : Int) := wrapU8 (by omega) (by omega)
  simp (maxSteps := 1000000) (disch := omega) only [hw, wrap64, S, S1, S2, S3, S4, S5, ST, eq_self, reduceIte, reduceCtorEq, Nat.reduceEqDiff, Nat.reduceAdd]
  generalize hs : (ByteArray.mk _) = s
  have hz : s.size = 256 := by rw [← hs]; rfl
  obtain ⟨b, hb2, hb⟩ := str_z (P := Tryz.prog) Tryz.underlying9 s hz .u8 n (by omega)
  simp (maxSteps := 1000000) (disch := omega) only [hb, wrap64, S, S1, S2, S3, S4, S5, ST, eq_self, reduceIte, reduceCtorEq, Nat.reduceEqDiff, Nat.reduceAdd]
  refine hQ _ _ _ ?_
  simp (maxSteps := 1000000) (disch := omega) only [S, S1, S2, S3, S4, S5, ST, eq_self, reduceIte, reduceCtorEq, Nat.reduceEqDiff, Nat.reduceAdd]
  exact ⟨_, rfl⟩
theorem Lenz_c (n : Nat) (H : AH) (h0 : n = 0) : ACalls Tryz.prog 129 [.int .u64 (n : Int)] H fun r H' => (∃ k : Int, r = .int .i64 k) ∧ H = H' := by
  refine in129 rfl ?_
  intro Q hQ
  simp (maxSteps := 1000000) (disch := omega) only [cd129, S, S1, S2, S3, S4, S5, ST, eq_self, reduceIte, reduceCtorEq, Nat.reduceEqDiff, Nat.reduceAdd]
  refine CallH.by (Len64z_c n H h0) ?_
  rintro _ _ ⟨⟨k, rfl⟩, rfl⟩
  simp (maxSteps := 1000000) (disch := omega) only [S, S1, S2, S3, S4, S5, ST, eq_self, reduceIte, reduceCtorEq, Nat.reduceEqDiff, Nat.reduceAdd]
  refine hQ _ _ _ ?_
  simp (maxSteps := 1000000) (disch := omega) only [S, S1, S2, S3, S4, S5, ST, eq_self, reduceIte, reduceCtorEq, Nat.reduceEqDiff, Nat.reduceAdd]
  exact ⟨_, rfl⟩
theorem SortFunc_c {H : AH} {v : Value} {us : List Value} {ls : List (List Int)} (h : Sts H v us ls) :
    ACalls Tryz.prog 90 [v, fnCmp] H fun r H' => H <+: H' := by
  refine in90 rfl ?_
  intro Q hQ
  have hb := h.bnd
  have hl := h.len
  have hU : IntKind.u64.wrap (ls.length : Int) = (ls.length : Int) := by rw [IntKind.wrap_u64]; omega
  simp (maxSteps := 1000000) (disch := omega) only [cd90, h.row.len Tryz.underlying26, hl, hU, S, S1, S2, S3, S4, S5, ST, eq_self, reduceIte, reduceCtorEq, Nat.reduceEqDiff, Nat.reduceAdd]
  by_cases h1 : 1 ≤ ls.length
  rotate_left
  · refine CallH.by (Lenz_c ls.length H (by omega)) ?_
    rintro _ _ ⟨⟨k, rfl⟩, rfl⟩
    simp (maxSteps := 1000000) (disch := omega) only [S, S1, S2, S3, S4, S5, ST, eq_self, reduceIte, reduceCtorEq, Nat.reduceEqDiff, Nat.reduceAdd]
    refine CallH.by (pdqCmp_c h k (.inr (by omega))) ?_
    rintro _ B hB
    simp (maxSteps := 1000000) (disch := omega) only [S, S1, S2, S3, S4, S5, ST, eq_self, reduceIte, reduceCtorEq, Nat.reduceEqDiff, Nat.reduceAdd]
    refine hQ _ _ _ ?_
    simp (maxSteps := 1000000) (disch := omega) only [S, S1, S2, S3, S4, S5, ST, eq_self, reduceIte, reduceCtorEq, Nat.reduceEqDiff, Nat.reduceAdd]
    exact hB
  refine CallH.by (Lenb_c ls.length H (by omega) (by omega)) ?_
  rintro _ _ ⟨⟨k, rfl, hk⟩, rfl⟩
  simp (maxSteps := 1000000) (disch := omega) only [S, S1, S2, S3, S4, S5, ST, eq_self, reduceIte, reduceCtorEq, Nat.reduceEqDiff, Nat.reduceAdd]
  refine CallH.by (pdqCmp_c h k (.inl (by omega))) ?_
  rintro _ B hB
  simp (maxSteps := 1000000) (disch := omega) only [S, S1, S2, S3, S4, S5, ST, eq_self, reduceIte, reduceCtorEq, Nat.reduceEqDiff, Nat.reduceAdd]
  refine hQ _ _ _ ?_
  simp (maxSteps := 1000000) (disch := omega) only [S, S1, S2, S3, S4, S5, ST, eq_self, reduceIte, reduceCtorEq, Nat.reduceEqDiff, Nat.reduceAdd]
  exact hB
end Go.Proofs.YtlfongfhbkefmaaGreat.Ai
namespace Go.Proofs.YtlfongfhbkefmaaGreat.Ai
open Go
set_option linter.unusedVariables false
theorem cmpL_pre : ∀ (p a b : List Int), cmpL (p ++ a) (p ++ b) = cmpL a b
  | [], a, b => rfl
  | x :: p, a, b => by
    show cmpL (x :: (p ++ a)) (x :: (p ++ b)) = _
    rw [cmpL]
    have : cmpI x x = 0 := by unfold cmpI; simp
    simp only [this]
    simpa using cmpL_pre p a b
theorem srtL_of {ls : List (List Int)} (h : ls.Pairwise fun x y => 0 < cmpL y x) : SrtL ls := by
  intro i j hij hj
  rw [List.pairwise_iff_getElem] at h
  have := h i j (by omega) hj hij
  have e1 : ls.getD i [] = ls[i] := by simp [show i < ls.length by omega]
  have e2 : ls.getD j [] = ls[j] := by simp [hj]
  rw [e1, e2]; exact this
theorem cmpL_head (p r q : List Int) {e f : Int} (h : e < f) : 0 < cmpL (p ++ f :: q) (p ++ e :: r) := by
  rw [cmpL_pre, cmpL]
  have h1 : cmpI f e = 1 := by
    unfold cmpI
    have a : ¬ f < e := by omega
    simp [a, h]
  rw [h1, if_pos (by decide)]; decide
end Go.Proofs.YtlfongfhbkefmaaGreat.Ai
namespace Go.Proofs.YtlfongfhbkefmaaGreat.Ai
open Go
set_option linter.unusedVariables false
/-- the places of one list, met from a place at the distance d - 1 -/
def bfsIn (d : Int) : List Int → List Int × List Int → List Int × List Int
  | [], st => st
  | j :: r, st => if st.1.getD j.toNat 0 < 0 then bfsIn d r (st.1.set j.toNat d, st.2 ++ [j]) else bfsIn d r st
/-- from the k-th place of the queue on -/
def bfsF (L : List (List Int)) : Nat → List Int × List Int → Nat → List Int
  | 0, st, _ => st.1
  | f + 1, st, k => if k < st.2.length then bfsF L f (bfsIn (st.1.getD (st.2.getD k 0).toNat 0 + 1) (L.getD (st.2.getD k 0).toNat []) st) (k + 1) else st.1
def bfs0 (N i : Nat) : List Int := (List.replicate N (-1)).set i 0
/-- the distances from a place -/
def bfs (L : List (List Int)) (i : Nat) : List Int := bfsF L (L.length + 1) (bfs0 L.length i, [(i : Int)]) 0
/-- lists of places -/
def LOk (N : Nat) (L : List (List Int)) : Prop := ∀ i, ∀ y ∈ L.getD i [], 0 ≤ y ∧ y < N
/-- what holds all along -/
structure BI (N : Nat) (st : List Int × List Int) : Prop where
  len : st.1.length = N
  q : ∀ x ∈ st.2, (0 ≤ x ∧ x < N) ∧ 0 ≤ st.1.getD x.toNat 0
  lo : ∀ v, v < N → -1 ≤ st.1.getD v 0 ∧ st.1.getD v 0 < st.2.length
  cnt : st.2.length + st.1.countP (· < 0) = N
theorem countP_set_neg (xs : List Int) (j : Nat) (d : Int) (hj : j < xs.length) (h : xs.getD j 0 < 0) (hd : 0 ≤ d) : (xs.set j d).countP (· < 0) + 1 = xs.countP (· < 0) := by
  induction xs generalizing j with
  | nil => simp at hj
  | cons x xs ih =>
    cases j with
    | zero =>
      have hx : x < 0 := by simpa using h
      simp only [List.set_cons_zero, List.countP_cons]
      simp only [decide_eq_true_eq]
      rw [if_neg (by omega), if_pos hx]
    | succ j =>
      have := ih j (by simpa using hj) (by simpa using h)
      simp only [List.set_cons_succ, List.countP_cons]
      omega
theorem BI.len_le {N : Nat} {st : List Int × List Int} (h : BI N st) : st.2.length ≤ N := by have := h.cnt; omega
theorem getD_setB (xs : List Int) (j v : Nat) (d : Int) (hv : v < xs.length) : (xs.set j d).getD v 0 = if j = v then d else xs.getD v 0 := by
  rw [List.getD_eq_getElem?_getD, List.getD_eq_getElem?_getD, List.getElem?_set]
  by_cases h : j = v
  · subst h; rw [if_pos rfl, if_pos rfl, if_pos hv]; rfl
  · rw [if_neg h, if_neg h]
theorem BI.put {N : Nat} {st : List Int × List Int} (h : BI N st) {j d : Int} (hj : 0 ≤ j ∧ j < N) (hn : st.1.getD j.toNat 0 < 0) (hd : 0 ≤ d ∧ d ≤ st.2.length) : BI N (st.1.set j.toNat d, st.2 ++ [j]) := by
  have hl := h.len
  refine ⟨by simp [hl], ?_, ?_, ?_⟩
  · intro x hx
    simp only [List.mem_append, List.mem_cons, List.not_mem_nil, or_false] at hx
    rcases hx with hx | rfl
    · obtain ⟨h1, h2⟩ := h.q x hx
      refine ⟨h1, ?_⟩
      show 0 ≤ (st.1.set j.toNat d).getD x.toNat 0
      rw [getD_setB _ _ _ _ (by omega)]
      split <;> omega
    · refine ⟨hj, ?_⟩
      show 0 ≤ (st.1.set x.toNat d).getD x.toNat 0
      rw [getD_setB _ _ _ _ (by omega), if_pos rfl]; omega
  · intro v hv
    have := h.lo v hv
    show -1 ≤ (st.1.set j.toNat d).getD v 0 ∧ (st.1.set j.toNat d).getD v 0 < ((st.2 ++ [j]).length : Nat)
    rw [getD_setB _ _ _ _ (by omega)]
    simp only [List.length_append, List.length_cons, List.length_nil]
    split <;> omega
  · have := countP_set_neg st.1 j.toNat d (by omega) hn hd.1
    have := h.cnt
    show (st.2 ++ [j]).length + (st.1.set j.toNat d).countP (· < 0) = N
    simp only [List.length_append, List.length_cons, List.length_nil]
    omega
theorem bfs0_BI (N i : Nat) (hi : i < N) : BI N (bfs0 N i, [(i : Int)]) := by
  have hat : ∀ v, v < N → (bfs0 N i).getD v 0 = if i = v then 0 else -1 := by
    intro v hv
    unfold bfs0
    rw [getD_setB _ _ _ _ (by simpa using hv)]
    split
    · rfl
    · rw [List.getD_eq_getElem?_getD, List.getElem?_replicate, if_pos hv]; rfl
  refine ⟨by simp [bfs0], ?_, ?_, ?_⟩
  · intro x hx
    simp only [List.mem_cons, List.not_mem_nil, or_false] at hx
    subst hx
    refine ⟨by omega, ?_⟩
    show 0 ≤ (bfs0 N i).getD (i : Int).toNat 0
    rw [Int.toNat_natCast, hat i hi, if_pos rfl]; omega
  · intro v hv
    show -1 ≤ (bfs0 N i).getD v 0 ∧ (bfs0 N i).getD v 0 < _
    rw [hat v hv]
    simp only [List.length_cons, List.length_nil]
    split <;> omega
  · show [(i : Int)].length + (bfs0 N i).countP (· < 0) = N
    have := countP_set_neg (List.replicate N (-1)) i 0 (by simpa using hi) (by rw [List.getD_eq_getElem?_getD, List.getElem?_replicate, if_pos hi]; decide) (by omega)
    have h2 : (List.replicate N (-1 : Int)).countP (· < 0) = N := by rw [List.countP_replicate]; simp
    unfold bfs0
    simp only [List.length_cons, List.length_nil]
    omega
theorem BI.inn {N : Nat} {d : Int} : ∀ (l : List Int) {st : List Int × List Int}, BI N st → (∀ y ∈ l, 0 ≤ y ∧ y < N) → (0 ≤ d ∧ d ≤ st.2.length) → BI N (bfsIn d l st)
  | [], st, h, _, _ => h
  | j :: r, st, h, hl, hd => by
    simp only [bfsIn]
    split
    · rename_i hn
      refine BI.inn r (h.put (hl j (by simp)) hn hd) (fun y hy => hl y (by simp [hy])) ?_
      simp only [List.length_append, List.length_cons, List.length_nil]
      omega
    · exact BI.inn r h (fun y hy => hl y (by simp [hy])) hd
theorem bfsF_done (L : List (List Int)) (f : Nat) (st : List Int × List Int) (k : Nat) (h : st.2.length ≤ k) : bfsF L f st k = st.1 := by
  cases f with
  | zero => rfl
  | succ f => simp only [bfsF]; rw [if_neg (by omega)]
theorem bfsF_step (L : List (List Int)) (f : Nat) (st : List Int × List Int) (k : Nat) (h : k < st.2.length) : bfsF L (f + 1) st k = bfsF L f (bfsIn (st.1.getD (st.2.getD k 0).toNat 0 + 1) (L.getD (st.2.getD k 0).toNat []) st) (k + 1) := by
  simp only [bfsF]; rw [if_pos h]
/-- the inner loop keeps the beginning of the queue and what is known -/
theorem bfsIn_pre (d : Int) : ∀ (l : List Int) (st : List Int × List Int), st.2 <+: (bfsIn d l st).2
  | [], st => List.prefix_refl _
  | j :: r, st => by
    simp only [bfsIn]
    split
    · exact (List.prefix_append st.2 [j]).trans (bfsIn_pre d r (st.1.set j.toNat d, st.2 ++ [j]))
    · exact bfsIn_pre d r st
end Go.Proofs.YtlfongfhbkefmaaGreat.Ai
namespace Go.Proofs.YtlfongfhbkefmaaGreat.Ai
open Go
set_option linter.unusedVariables false
structure DI (L : List (List Int)) (i : Nat) (st : List Int × List Int) (k : Nat) : Prop where
  bi : BI L.length st
  iff : ∀ v, v < L.length → (0 ≤ st.1.getD v 0 ↔ (v : Int) ∈ st.2)
  src : ∀ v, v < L.length → 0 ≤ st.1.getD v 0 → (v = i ∧ st.1.getD v 0 = 0) ∨ ∃ u, u < L.length ∧ 0 ≤ st.1.getD u 0 ∧ (v : Int) ∈ L.getD u [] ∧ st.1.getD v 0 = st.1.getD u 0 + 1
  cl : ∀ j, j < k → ∀ y ∈ L.getD (st.2.getD j 0).toNat [], 0 ≤ st.1.getD y.toNat 0
  le : k ≤ st.2.length
  at_ : 0 ≤ st.1.getD i 0
theorem bfsIn_keep (d : Int) (v : Nat) : ∀ (l : List Int) (st : List Int × List Int), (∀ y ∈ l, 0 ≤ y ∧ y < st.1.length) → 0 ≤ st.1.getD v 0 → (bfsIn d l st).1.getD v 0 = st.1.getD v 0
  | [], st, _, _ => rfl
  | j :: r, st, hl, h => by
    simp only [bfsIn]
    have hj := hl j (by simp)
    split
    · rename_i hn
      have hvj : j.toNat ≠ v := fun e => by rw [e] at hn; omega
      have e1 : (st.1.set j.toNat d).getD v 0 = st.1.getD v 0 := by
        rw [List.getD_eq_getElem?_getD, List.getD_eq_getElem?_getD, List.getElem?_set_ne hvj]
      rw [bfsIn_keep d v r _ (fun y hy => by simpa using hl y (by simp [hy])) (by show 0 ≤ (st.1.set j.toNat d).getD v 0; rw [e1]; exact h)]
      exact e1
    · exact bfsIn_keep d v r st (fun y hy => hl y (by simp [hy])) h
theorem bfsIn_new (d : Int) (hd : 0 ≤ d) (v : Nat) : ∀ (l : List Int) (st : List Int × List Int), (∀ y ∈ l, 0 ≤ y ∧ y < st.1.length) → v < st.1.length → st.1.getD v 0 < 0 →
    (((v : Int) ∈ l ∧ (bfsIn d l st).1.getD v 0 = d ∧ (v : Int) ∈ (bfsIn d l st).2) ∨ ((v : Int) ∉ l ∧ (bfsIn d l st).1.getD v 0 = st.1.getD v 0 ∧ ((v : Int) ∈ (bfsIn d l st).2 → (v : Int) ∈ st.2)))
  | [], st, _, _, h => .inr ⟨by simp, rfl, id⟩
  | j :: r, st, hl, hv, h => by
    have hj := hl j (by simp)
    simp only [bfsIn]
    by_cases e : j = (v : Int)
    · subst e
      rw [Int.toNat_natCast, if_pos h]
      have e1 : (st.1.set v d).getD v 0 = d := by rw [getD_setB _ _ _ _ hv, if_pos rfl]
      refine .inl ⟨by simp, ?_, ?_⟩
      · rw [bfsIn_keep d v r _ (fun y hy => by simpa using hl y (by simp [hy])) (by show 0 ≤ (st.1.set v d).getD v 0; rw [e1]; exact hd)]
        exact e1
      · exact (bfsIn_pre d r _).subset (by simp)
    · have hne : ¬ (v : Int) = j := fun h => e h.symm
      split
      · rename_i hn
        have e1 : (st.1.set j.toNat d).getD v 0 = st.1.getD v 0 := by
          rw [getD_setB _ _ _ _ hv, if_neg (by omega)]
        rcases bfsIn_new d hd v r (st.1.set j.toNat d, st.2 ++ [j]) (fun y hy => by simpa using hl y (by simp [hy])) (by simpa using hv) (by show (st.1.set j.toNat d).getD v 0 < 0; rw [e1]; exact h) with ⟨h1, h2, h3⟩ | ⟨h1, h2, h3⟩
        · exact .inl ⟨by simp [h1], h2, h3⟩
        · refine .inr ⟨by simp [hne, h1], by rw [h2]; exact e1, fun h4 => ?_⟩
          have := h3 h4
          simpa [hne] using this
      · rcases bfsIn_new d hd v r st (fun y hy => hl y (by simp [hy])) hv h with ⟨h1, h2, h3⟩ | ⟨h1, h2, h3⟩
        · exact .inl ⟨by simp [h1], h2, h3⟩
        · exact .inr ⟨by simp [hne, h1], h2, h3⟩
theorem DI.step {L : List (List Int)} (hL : LOk L.length L) {i : Nat} {st : List Int × List Int} {k : Nat} (h : DI L i st k) (hk : k < st.2.length) :
    DI L i (bfsIn (st.1.getD (st.2.getD k 0).toNat 0 + 1) (L.getD (st.2.getD k 0).toNat []) st) (k + 1) := by
  have hm : st.2.getD k 0 ∈ st.2 := by simp [hk]
  obtain ⟨hxr, hx0⟩ := h.bi.q _ hm
  have hlo := h.bi.lo (st.2.getD k 0).toNat (by omega)
  have hlen := h.bi.len
  generalize hx : (st.2.getD k 0).toNat = x at *
  generalize hd : st.1.getD x 0 + 1 = d at *
  have hl := hL x
  have hl' : ∀ y ∈ L.getD x [], 0 ≤ y ∧ y < (st.1.length : Int) := by rw [hlen]; exact hl
  have hbi := BI.inn (d := d) _ h.bi hl (by omega)
  have hpre := bfsIn_pre d (L.getD x []) st
  have keep : ∀ v, 0 ≤ st.1.getD v 0 → _ := fun v hv => bfsIn_keep d v (L.getD x []) st hl' hv
  have new : ∀ v, v < L.length → st.1.getD v 0 < 0 → _ := fun v hv hn => bfsIn_new d (by omega) v (L.getD x []) st hl' (by omega) hn
  refine ⟨hbi, ?_, ?_, ?_, ?_, ?_⟩
  · intro v hv
    by_cases hn : 0 ≤ st.1.getD v 0
    · rw [keep v hn]
      exact ⟨fun _ => hpre.subset ((h.iff v hv).1 hn), fun _ => hn⟩
    · rcases new v hv (by omega) with ⟨h1, h2, h3⟩ | ⟨h1, h2, h3⟩
      · rw [h2]; exact ⟨fun _ => h3, fun _ => by omega⟩
      · rw [h2]; exact ⟨fun g => absurd g hn, fun g => (h.iff v hv).2 (h3 g)⟩
  · intro v hv hp
    by_cases hn : 0 ≤ st.1.getD v 0
    · rw [keep v hn]
      rcases h.src v hv hn with h1 | ⟨u, u1, u2, u3, u4⟩
      · exact .inl h1
      · exact .inr ⟨u, u1, by rw [keep u u2]; exact u2, u3, by rw [keep u u2]; exact u4⟩
    · rcases new v hv (by omega) with ⟨h1, h2, h3⟩ | ⟨h1, h2, h3⟩
      · refine .inr ⟨x, by omega, by rw [keep x hx0]; exact hx0, h1, ?_⟩
        rw [h2, keep x hx0, ← hd]
      · rw [h2] at hp; exact absurd hp hn
  · intro j hj y hy
    have hg : (bfsIn d (L.getD x []) st).2.getD j 0 = st.2.getD j 0 := by
      obtain ⟨t, ht⟩ := hpre
      rw [← ht, List.getD_eq_getElem?_getD, List.getElem?_append_left (by omega), ← List.getD_eq_getElem?_getD]
    rw [hg] at hy
    by_cases hn : 0 ≤ st.1.getD y.toNat 0
    · rw [keep _ hn]; exact hn
    · by_cases e : j = k
      · subst e
        rw [hx] at hy
        have hr := hl y hy
        rcases new y.toNat (by omega) (by omega) with ⟨h1, h2, h3⟩ | ⟨h1, h2, h3⟩
        · rw [h2]; omega
        · rw [Int.toNat_of_nonneg hr.1] at h1; exact absurd hy h1
      · exact absurd (h.cl j (by omega) y hy) hn
  · have := hpre.length_le
    omega
  · rw [keep i h.at_]; exact h.at_
theorem DI.run {L : List (List Int)} (hL : LOk L.length L) {i : Nat} : ∀ (f : Nat) (st : List Int × List Int) (k : Nat), f + k = L.length + 1 → DI L i st k → ∃ q, DI L i (bfsF L f st k, q) q.length
  | 0, st, k, hf, h => by have := h.bi.len_le; have := h.le; omega
  | f + 1, st, k, hf, h => by
    simp only [bfsF]
    split
    · rename_i hk
      exact DI.run hL f _ _ (by omega) (h.step hL hk)
    · have e : k = st.2.length := by have := h.le; omega
      exact ⟨st.2, by rw [← e]; exact h⟩
theorem DI.zero {L : List (List Int)} {i : Nat} (hi : i < L.length) : DI L i (bfs0 L.length i, [(i : Int)]) 0 := by
  have hat : ∀ v, v < L.length → (bfs0 L.length i).getD v 0 = if i = v then 0 else -1 := by
    intro v hv
    unfold bfs0
    rw [getD_setB _ _ _ _ (by simpa using hv)]
    split
    · rfl
    · rw [List.getD_eq_getElem?_getD, List.getElem?_replicate, if_pos hv]; rfl
  refine ⟨bfs0_BI _ i hi, ?_, ?_, fun j hj => absurd hj (Nat.not_lt_zero j), Nat.zero_le _, ?_⟩
  · intro v hv
    show 0 ≤ (bfs0 L.length i).getD v 0 ↔ (v : Int) ∈ [(i : Int)]
    rw [hat v hv, List.mem_singleton]
    split <;> omega
  · intro v hv h
    left
    have h' : 0 ≤ (bfs0 L.length i).getD v 0 := h
    rw [hat v hv] at h'
    show v = i ∧ (bfs0 L.length i).getD v 0 = 0
    rw [hat v hv]
    by_cases e : i = v
    · exact ⟨e.symm, by rw [if_pos e]⟩
    · rw [if_neg e] at h'; omega
  · show 0 ≤ (bfs0 L.length i).getD i 0
    rw [hat i hi, if_pos rfl]; omega
theorem bfs_DI {L : List (List Int)} (hL : LOk L.length L) {i : Nat} (hi : i < L.length) : ∃ q, DI L i (bfs L i, q) q.length := DI.run hL _ _ _ (by omega) (DI.zero hi)
/-- the distance of a place in the queue -/
def dq (st : List Int × List Int) (a : Nat) : Int := st.1.getD (st.2.getD a 0).toNat 0
theorem bfsIn_mono (d : Int) (hd : 0 ≤ d) : ∀ (l : List Int) (st : List Int × List Int), (∀ y ∈ l, 0 ≤ y ∧ y < st.1.length) → (∀ x ∈ st.2, (0 ≤ x ∧ x < st.1.length) ∧ 0 ≤ st.1.getD x.toNat 0) →
    (∀ a b, a ≤ b → b < st.2.length → dq st a ≤ dq st b) → (∀ b, b < st.2.length → dq st b ≤ d) →
    (∀ a b, a ≤ b → b < (bfsIn d l st).2.length → dq (bfsIn d l st) a ≤ dq (bfsIn d l st) b) ∧ ∀ b, b < (bfsIn d l st).2.length → dq (bfsIn d l st) b ≤ d
  | [], st, _, _, h1, h2 => ⟨h1, h2⟩
  | j :: r, st, hl, hq, h1, h2 => by
    have hj := hl j (by simp)
    simp only [bfsIn]
    split
    · rename_i hn
      have keep : ∀ a, a < st.2.length → dq (st.1.set j.toNat d, st.2 ++ [j]) a = dq st a := by
        intro a ha
        have hm : st.2.getD a 0 ∈ st.2 := by simp [ha]
        have hx := hq _ hm
        unfold dq
        have e1 : (st.2 ++ [j]).getD a 0 = st.2.getD a 0 := by
          rw [List.getD_eq_getElem?_getD, List.getElem?_append_left ha, ← List.getD_eq_getElem?_getD]
        show (st.1.set j.toNat d).getD ((st.2 ++ [j]).getD a 0).toNat 0 = _
        rw [e1, getD_setB _ _ _ _ (by omega), if_neg (fun e => by rw [e] at hn; omega)]
      have last : dq (st.1.set j.toNat d, st.2 ++ [j]) st.2.length = d := by
        unfold dq
        show (st.1.set j.toNat d).getD ((st.2 ++ [j]).getD st.2.length 0).toNat 0 = d
        rw [show (st.2 ++ [j]).getD st.2.length 0 = j by simp, getD_setB _ _ _ _ (by omega), if_pos rfl]
      refine bfsIn_mono d hd r _ (fun y hy => by simpa using hl y (by simp [hy])) ?_ ?_ ?_
      · intro x hx
        rcases List.mem_append.1 hx with hx | hx
        · have := hq x hx
          refine ⟨by simpa using this.1, ?_⟩
          show 0 ≤ (st.1.set j.toNat d).getD x.toNat 0
          rw [getD_setB _ _ _ _ (by omega)]
          split <;> omega
        · rw [List.mem_singleton] at hx; subst hx
          refine ⟨by simpa using hj, ?_⟩
          show 0 ≤ (st.1.set x.toNat d).getD x.toNat 0
          rw [getD_setB _ _ _ _ (by omega), if_pos rfl]; exact hd
      · intro a b hab hb
        have hb' : b < st.2.length + 1 := by simpa using hb
        by_cases eb : b = st.2.length
        · subst eb
          rw [last]
          by_cases ea : a = st.2.length
          · subst ea; rw [last]; exact Int.le_refl _
          · rw [keep a (by omega)]; exact h2 a (by omega)
        · rw [keep b (by omega), keep a (by omega)]; exact h1 a b hab (by omega)
      · intro b hb
        have hb' : b < st.2.length + 1 := by simpa using hb
        by_cases eb : b = st.2.length
        · subst eb; rw [last]; exact Int.le_refl _
        · rw [keep b (by omega)]; exact h2 b (by omega)
    · exact bfsIn_mono d hd r st (fun y hy => hl y (by simp [hy])) hq h1 h2
structure DS (L : List (List Int)) (i : Nat) (st : List Int × List Int) (k : Nat) : Prop where
  di : DI L i st k
  zero : st.1.getD i 0 = 0
  mono : ∀ a b, a ≤ b → b < st.2.length → dq st a ≤ dq st b
  near : ∀ a b, k ≤ a → a < st.2.length → b < st.2.length → dq st b ≤ dq st a + 1
  ed : ∀ a, a < k → ∀ y ∈ L.getD (st.2.getD a 0).toNat [], 0 ≤ st.1.getD y.toNat 0 ∧ st.1.getD y.toNat 0 ≤ dq st a + 1
theorem DS.step {L : List (List Int)} (hL : LOk L.length L) {i : Nat} (hi : i < L.length) {st : List Int × List Int} {k : Nat} (h : DS L i st k) (hk : k < st.2.length) :
    DS L i (bfsIn (st.1.getD (st.2.getD k 0).toNat 0 + 1) (L.getD (st.2.getD k 0).toNat []) st) (k + 1) := by
  have hd1 := h.di.step hL hk
  have hm : st.2.getD k 0 ∈ st.2 := by simp [hk]
  obtain ⟨hxr, hx0⟩ := h.di.bi.q _ hm
  have hlen := h.di.bi.len
  have hl := hL (st.2.getD k 0).toNat
  have hdk : dq st k + 1 = st.1.getD (st.2.getD k 0).toNat 0 + 1 := rfl
  have hl' : ∀ y ∈ L.getD (st.2.getD k 0).toNat [], 0 ≤ y ∧ y < (st.1.length : Int) := by rw [hlen]; exact hl
  have hmono := bfsIn_mono (dq st k + 1) (by unfold dq; omega) _ st hl' (fun x hx => by have := h.di.bi.q x hx; rw [hlen]; exact this) h.mono (fun b hb => h.near k b (Nat.le_refl _) hk hb)
  have hpre := bfsIn_pre (dq st k + 1) (L.getD (st.2.getD k 0).toNat []) st
  have keep : ∀ v, 0 ≤ st.1.getD v 0 → _ := fun v hv => bfsIn_keep (dq st k + 1) v (L.getD (st.2.getD k 0).toNat []) st hl' hv
  have gq : ∀ a, a < st.2.length → (bfsIn (dq st k + 1) (L.getD (st.2.getD k 0).toNat []) st).2.getD a 0 = st.2.getD a 0 := by
    intro a ha
    obtain ⟨t, ht⟩ := hpre
    rw [← ht, List.getD_eq_getElem?_getD, List.getElem?_append_left ha, ← List.getD_eq_getElem?_getD]
  have kq : ∀ a, a < st.2.length → dq (bfsIn (dq st k + 1) (L.getD (st.2.getD k 0).toNat []) st) a = dq st a := by
    intro a ha
    have hma : st.2.getD a 0 ∈ st.2 := by simp [ha]
    unfold dq at *
    rw [gq a ha]
    exact keep _ (h.di.bi.q _ hma).2
  have hpl := hpre.length_le
  rw [← hdk] at hd1 ⊢
  refine ⟨hd1, ?_, hmono.1, ?_, ?_⟩
  · rw [keep i (by rw [h.zero]; exact Int.le_refl _)]; exact h.zero
  · intro a b ha hal hb
    have h1 := hmono.2 b hb
    have h2 := hmono.1 k a (by omega) hal
    rw [kq k hk] at h2
    omega
  · intro a ha y hy
    rw [gq a (by omega)] at hy
    by_cases e : a = k
    · subst e
      rw [kq a hk]
      have hyr := hl y hy
      by_cases hn : 0 ≤ st.1.getD y.toNat 0
      · rw [keep _ hn]
        refine ⟨hn, ?_⟩
        have hin := (h.di.iff y.toNat (by omega)).1 hn
        rw [Int.toNat_of_nonneg hyr.1] at hin
        obtain ⟨b, hb, eb⟩ := List.mem_iff_getElem.1 hin
        have e2 : st.2.getD b 0 = y := by simp [hb, eb]
        have := h.near a b (Nat.le_refl _) hk hb
        have e3 : dq st b = st.1.getD y.toNat 0 := by unfold dq; rw [e2]
        rw [e3] at this; exact this
      · rcases bfsIn_new (dq st a + 1) (by unfold dq; omega) y.toNat _ st hl' (by omega) (by omega) with ⟨_, g2, _⟩ | ⟨g1, _⟩
        · rw [g2]; exact ⟨by unfold dq; omega, Int.le_refl _⟩
        · rw [Int.toNat_of_nonneg hyr.1] at g1; exact absurd hy g1
    · rw [kq a (by omega)]
      have h1 := h.ed a (by omega) y hy
      rw [keep _ h1.1]; exact h1
theorem DS.run {L : List (List Int)} (hL : LOk L.length L) {i : Nat} (hi : i < L.length) : ∀ (f : Nat) (st : List Int × List Int) (k : Nat), f + k = L.length + 1 → DS L i st k → ∃ q, DS L i (bfsF L f st k, q) q.length
  | 0, st, k, hf, h => by have := h.di.bi.len_le; have := h.di.le; omega
  | f + 1, st, k, hf, h => by
    simp only [bfsF]
    split
    · rename_i hk
      exact DS.run hL hi f _ _ (by omega) (h.step hL hi hk)
    · have e : k = st.2.length := by have := h.di.le; omega
      exact ⟨st.2, by rw [← e]; exact h⟩
theorem bfs_DS {L : List (List Int)} (hL : LOk L.length L) {i : Nat} (hi : i < L.length) : ∃ q, DS L i (bfs L i, q) q.length := by
  refine DS.run hL hi _ _ _ (by omega) ⟨DI.zero hi, ?_, ?_, ?_, fun a ha => absurd ha (Nat.not_lt_zero a)⟩
  · show (bfs0 L.length i).getD i 0 = 0
    unfold bfs0
    rw [getD_setB _ _ _ _ (by simpa using hi), if_pos rfl]
  · intro a b hab hb
    have hb' : b < 1 := hb
    have e1 : a = 0 := by omega
    have e2 : b = 0 := by omega
    rw [e1, e2]; exact Int.le_refl _
  · intro a b _ ha hb
    have ha' : a < 1 := ha
    have hb' : b < 1 := hb
    have e1 : a = 0 := by omega
    have e2 : b = 0 := by omega
    rw [e1, e2]; omega
theorem bfs_zero {L : List (List Int)} (hL : LOk L.length L) {i : Nat} (hi : i < L.length) : (bfs L i).getD i 0 = 0 := by
  obtain ⟨q, h⟩ := bfs_DS hL hi
  exact h.zero
/-- roads lead both ways -/
def Sym (L : List (List Int)) : Prop := ∀ u v : Nat, u < L.length → v < L.length → (v : Int) ∈ L.getD u [] → (u : Int) ∈ L.getD v []
end Go.Proofs.YtlfongfhbkefmaaGreat.Ai
namespace Go.Proofs.YtlfongfhbkefmaaGreat.Ai
open Go
def ords175 : List (Nat × List (Nat × Bool)) := []
def cd175 : Cd := (.seq (.reg [⟨⟨some 4, Op.alloc 83, none⟩, []⟩]) (.seq (.reg [⟨⟨some 5, Op.move (Operand.tmp 0), none⟩, []⟩,
  ⟨⟨some 6, Op.move (Operand.tmp 1), none⟩, []⟩,
  ⟨⟨some 7, Op.call { callee := (Callee.builtin Builtin.min), args := #[(Operand.tmp 5), (Operand.tmp 6)], argTypes := #[3, 3] }, none⟩, []⟩,
  ⟨⟨some 8, Op.move (Operand.tmp 0), none⟩, []⟩,
  ⟨⟨some 9, Op.move (Operand.tmp 1), none⟩, []⟩,
  ⟨⟨some 10, Op.call { callee := (Callee.builtin Builtin.max), args := #[(Operand.tmp 8), (Operand.tmp 9)], argTypes := #[3, 3] }, none⟩, []⟩,
  ⟨⟨some 11, Op.build 83 #[(0, (Operand.tmp 7)), (1, (Operand.tmp 10))], none⟩, []⟩,
  ⟨⟨none, Op.store 83 (Operand.tmp 4) (Operand.tmp 11), none⟩, []⟩]) .ret))
theorem sl175 : slim Tryz.f175.ntmps ords175 (Tryz.f175.body.getD .skip) = some cd175 := by kernel_rfl
set_option maxRecDepth 20000 in
theorem in175 {args : List Value} {H : AH} {R : Value → AH → Prop} (hl : args.length = 2) (h : ∀ (Q : Exit → Sl → AH → Prop), (∀ e s H, endA Tryz.prog [ResultVar.cell 4 83] R e s H → Q e s H) → wpC Tryz.prog cd175 Q (enterA args) H) : ACalls Tryz.prog 175 args H R :=
  ACalls.intro (by kernel_rfl) Tryz.func175 rfl (by kernel_rfl) sl175 hl (of_decide_eq_true (by kernel_rfl)) (by kernel_rfl) h
end Go.Proofs.YtlfongfhbkefmaaGreat.Ai
namespace Go.Proofs.YtlfongfhbkefmaaGreat.Ai
open Go Go.RowKit
set_option linter.unusedVariables false
set_option linter.unusedSimpArgs false
theorem pair_c (a b : Int) (H : AH) : ACalls Tryz.prog 175 [.int .i64 a, .int .i64 b] H fun r H' => r = .agg (List.toArray [.int .i64 (minI a b), .int .i64 (maxI a b)]) ∧ H <+: H' := by
  refine in175 rfl ?_
  intro Q hQ
  have st := store_a2 H [.int .i64 0, .int .i64 0] rfl
  simp (maxSteps := 1000000) (disch := omega) only [cd175, alloc_a2, build_a2, st, S, S1, S2, S3, S4, S5, ST, eq_self, reduceIte, reduceCtorEq, Nat.reduceEqDiff, Nat.reduceAdd]
  refine hQ _ _ _ (end_cell _ _ _ _ _ _ (.agg (List.toArray [.int .i64 (minI a b), .int .i64 (maxI a b)])) ?_ rfl ⟨rfl, List.prefix_append _ _⟩)
  simp only [S, S1, S2, S3, S4, S5, ST, eq_self, reduceIte, reduceCtorEq, Nat.reduceEqDiff, Nat.reduceAdd]
  exact load_a2 ..
end Go.Proofs.YtlfongfhbkefmaaGreat.Ai
namespace Go.Proofs.YtlfongfhbkefmaaGreat.Ai
open Go
def ords196 : List (Nat × List (Nat × Bool)) := [(4, [(0, false), (1, false), (2, false), (3, false), (4, false), (5, false)])]
def cd196 : Cd := (.seq (.reg [⟨⟨some 3, Op.box 83 (Operand.tmp 1), none⟩, []⟩,
  ⟨⟨some 4, Op.assign (Operand.const (Value.int IntKind.i64 0)), none⟩, []⟩]) (.seq (.seq (.reg [⟨⟨some 6, Op.move (Operand.tmp 0), none⟩, []⟩,
  ⟨⟨some 7, Op.call { callee := (Callee.builtin Builtin.len), args := #[(Operand.tmp 6)], argTypes := #[22] }, none⟩, []⟩,
  ⟨⟨some 8, Op.move (Operand.const (Value.int IntKind.i64 0)), none⟩, []⟩]) (.block 0 (.loop (.seq (.reg [⟨⟨some 9, Op.binOp BinOp.lss 3 (Operand.tmp 8) (Operand.tmp 7) 3, none⟩, []⟩]) (.seq (.cond (Operand.tmp 9) .skip (.exit 0)) (.seq (.block 1 (.seq (.reg [⟨⟨some 10, Op.move (Operand.tmp 8), none⟩, []⟩,
  ⟨⟨some 5, Op.assign (Operand.tmp 10), none⟩, []⟩]) (.seq (.reg [⟨⟨some 11, Op.load 83 (Operand.tmp 3), none⟩, []⟩,
  ⟨⟨some 12, Op.move (Operand.tmp 0), none⟩, []⟩,
  ⟨⟨some 13, Op.move (Operand.tmp 5), none⟩, []⟩,
  ⟨⟨some 14, Op.indexAddr 22 (Operand.tmp 12) (Operand.tmp 13), none⟩, []⟩,
  ⟨⟨some 15, Op.load 83 (Operand.tmp 14), none⟩, []⟩,
  ⟨⟨some 16, Op.binOp BinOp.eql 83 (Operand.tmp 11) (Operand.tmp 15) 83, none⟩, []⟩]) (.cond (Operand.tmp 16) (.seq (.reg [⟨⟨some 17, Op.move (Operand.tmp 5), none⟩, []⟩,
  ⟨⟨some 4, Op.assign (Operand.tmp 17), none⟩, []⟩]) .ret) .skip)))) (.reg [⟨⟨some 18, Op.binOp BinOp.add 3 (Operand.tmp 8) (Operand.const (Value.int IntKind.i64 1)) 3, none⟩, []⟩,
  ⟨⟨some 8, Op.move (Operand.tmp 18), none⟩, []⟩]))))))) (.seq (.reg [⟨⟨some 4, Op.assign (Operand.const (Value.int IntKind.i64 (-1))), none⟩, []⟩]) .ret)))
theorem sl196 : slim Tryz.f196.ntmps ords196 (Tryz.f196.body.getD .skip) = some cd196 := by kernel_rfl
theorem in196 {args : List Value} {H : AH} {R : Value → AH → Prop} (hl : args.length = 2) (h : ∀ (Q : Exit → Sl → AH → Prop), (∀ e s H, endA Tryz.prog [ResultVar.tmp 4] R e s H → Q e s H) → wpC Tryz.prog cd196 Q (enterA args) H) : ACalls Tryz.prog 196 args H R :=
  ACalls.intro (by kernel_rfl) Tryz.func196 rfl (by kernel_rfl) sl196 hl (of_decide_eq_true (by kernel_rfl)) (by kernel_rfl) h
def ords174 : List (Nat × List (Nat × Bool)) := []
def cd174 : Cd := (.seq (.reg [⟨⟨some 3, Op.box 83 (Operand.tmp 1), none⟩, []⟩,
  ⟨⟨some 4, Op.assign (Operand.const (Value.bool false)), none⟩, []⟩]) (.seq (.reg [⟨⟨some 5, Op.move (Operand.tmp 0), none⟩, []⟩,
  ⟨⟨some 6, Op.load 83 (Operand.tmp 3), none⟩, []⟩,
  ⟨⟨some 7, Op.call { callee := (Callee.value (Operand.func 196)), args := #[(Operand.tmp 5), (Operand.tmp 6)], argTypes := #[22, 83] }, none⟩, []⟩,
  ⟨⟨some 8, Op.binOp BinOp.geq 3 (Operand.tmp 7) (Operand.const (Value.int IntKind.i64 0)) 3, none⟩, []⟩,
  ⟨⟨some 4, Op.assign (Operand.tmp 8), none⟩, []⟩]) .ret))
theorem sl174 : slim Tryz.f174.ntmps ords174 (Tryz.f174.body.getD .skip) = some cd174 := by kernel_rfl
theorem in174 {args : List Value} {H : AH} {R : Value → AH → Prop} (hl : args.length = 2) (h : ∀ (Q : Exit → Sl → AH → Prop), (∀ e s H, endA Tryz.prog [ResultVar.tmp 4] R e s H → Q e s H) → wpC Tryz.prog cd174 Q (enterA args) H) : ACalls Tryz.prog 174 args H R :=
  ACalls.intro (by kernel_rfl) Tryz.func174 rfl (by kernel_rfl) sl174 hl (of_decide_eq_true (by kernel_rfl)) (by kernel_rfl) h
def ords145 : List (Nat × List (Nat × Bool)) := [(1, [(0, false), (1, false), (2, false), (3, false), (4, true), (5, true), (6, false)])]
def cd145 : Cd := (.seq (.reg [⟨⟨some 3, Op.box 31 (Operand.tmp 0), none⟩, []⟩,
  ⟨⟨some 6, Op.assign (Operand.const (Value.bool false)), none⟩, []⟩]) (.seq (.reg [⟨⟨some 7, Op.fieldAddr 31 (Operand.tmp 3) 1, none⟩, []⟩,
  ⟨⟨some 8, Op.load 22 (Operand.tmp 7), none⟩, []⟩,
  ⟨⟨some 9, Op.move (Operand.tmp 1), none⟩, []⟩,
  ⟨⟨some 10, Op.move (Operand.tmp 2), none⟩, []⟩,
  ⟨⟨some 11, Op.call { callee := (Callee.value (Operand.func 175)), args := #[(Operand.tmp 9), (Operand.tmp 10)], argTypes := #[3, 3] }, none⟩, [⟨some 8, Op.load 22 (Operand.tmp 7), none⟩]⟩,
  ⟨⟨some 12, Op.call { callee := (Callee.value (Operand.func 174)), args := #[(Operand.tmp 8), (Operand.tmp 11)], argTypes := #[22, 83] }, none⟩, []⟩,
  ⟨⟨some 6, Op.assign (Operand.tmp 12), none⟩, []⟩]) .ret))
theorem sl145 : slim Tryz.f145.ntmps ords145 (Tryz.f145.body.getD .skip) = some cd145 := by kernel_rfl
theorem in145 {args : List Value} {H : AH} {R : Value → AH → Prop} (hl : args.length = 3) (h : ∀ (Q : Exit → Sl → AH → Prop), (∀ e s H, endA Tryz.prog [ResultVar.tmp 6] R e s H → Q e s H) → wpC Tryz.prog cd145 Q (enterA args) H) : ACalls Tryz.prog 145 args H R :=
  ACalls.intro (by kernel_rfl) Tryz.func145 rfl (by kernel_rfl) sl145 hl (of_decide_eq_true (by kernel_rfl)) (by kernel_rfl) h
def ords80 : List (Nat × List (Nat × Bool)) := []
def cd80 : Cd := (.seq (.reg [⟨⟨some 3, Op.box 31 (Operand.tmp 0), none⟩, []⟩,
  ⟨⟨some 6, Op.assign (Operand.const (Value.bool false)), none⟩, []⟩]) (.seq (.seq (.reg [⟨⟨some 7, Op.assign (Operand.const (Value.int IntKind.i64 0)), none⟩, []⟩]) (.block 0 (.loop (.seq (.seq (.reg [⟨⟨some 9, Op.move (Operand.tmp 7), none⟩, []⟩,
  ⟨⟨some 10, Op.fieldAddr 31 (Operand.tmp 3) 1, none⟩, []⟩,
  ⟨⟨some 11, Op.load 22 (Operand.tmp 10), none⟩, []⟩,
  ⟨⟨some 12, Op.call { callee := (Callee.builtin Builtin.len), args := #[(Operand.tmp 11)], argTypes := #[22] }, none⟩, []⟩,
  ⟨⟨some 13, Op.binOp BinOp.lss 3 (Operand.tmp 9) (Operand.tmp 12) 3, none⟩, []⟩]) (.cond (Operand.tmp 13) .skip (.exit 0))) (.seq (.block 1 (.seq (.reg [⟨⟨some 16, Op.fieldAddr 31 (Operand.tmp 3) 1, none⟩, []⟩,
  ⟨⟨some 17, Op.load 22 (Operand.tmp 16), none⟩, []⟩,
  ⟨⟨some 18, Op.move (Operand.tmp 7), none⟩, []⟩,
  ⟨⟨some 19, Op.indexAddr 22 (Operand.tmp 17) (Operand.tmp 18), none⟩, []⟩,
  ⟨⟨some 20, Op.load 83 (Operand.tmp 19), none⟩, []⟩,
  ⟨⟨some 8, Op.alloc 83, none⟩, []⟩,
  ⟨⟨none, Op.store 83 (Operand.tmp 8) (Operand.tmp 20), none⟩, []⟩]) (.seq (.reg [⟨⟨some 21, Op.indexAddr 83 (Operand.tmp 8) (Operand.const (Value.int IntKind.i64 0)), none⟩, []⟩,
  ⟨⟨some 22, Op.load 3 (Operand.tmp 21), none⟩, []⟩,
  ⟨⟨some 23, Op.move (Operand.tmp 1), none⟩, []⟩,
  ⟨⟨some 24, Op.binOp BinOp.eql 3 (Operand.tmp 22) (Operand.tmp 23) 3, none⟩, []⟩,
  ⟨⟨some 25, Op.move (Operand.tmp 24), none⟩, []⟩,
  ⟨⟨some 26, Op.indexAddr 83 (Operand.tmp 8) (Operand.const (Value.int IntKind.i64 1)), some (25, true)⟩, []⟩,
  ⟨⟨some 27, Op.load 3 (Operand.tmp 26), some (25, true)⟩, []⟩,
  ⟨⟨some 28, Op.move (Operand.tmp 2), some (25, true)⟩, []⟩,
  ⟨⟨some 29, Op.binOp BinOp.eql 3 (Operand.tmp 27) (Operand.tmp 28) 3, some (25, true)⟩, []⟩,
  ⟨⟨some 30, Op.pick (Operand.tmp 25) (Operand.tmp 29) (Operand.const (Value.bool false)), none⟩, []⟩,
  ⟨⟨some 31, Op.move (Operand.tmp 30), none⟩, []⟩,
  ⟨⟨some 32, Op.indexAddr 83 (Operand.tmp 8) (Operand.const (Value.int IntKind.i64 0)), some (31, false)⟩, []⟩,
  ⟨⟨some 33, Op.load 3 (Operand.tmp 32), some (31, false)⟩, []⟩,
  ⟨⟨some 34, Op.move (Operand.tmp 2), some (31, false)⟩, []⟩,
  ⟨⟨some 35, Op.binOp BinOp.eql 3 (Operand.tmp 33) (Operand.tmp 34) 3, some (31, false)⟩, []⟩,
  ⟨⟨some 36, Op.move (Operand.tmp 35), some (31, false)⟩, []⟩,
  ⟨⟨some 37, Op.indexAddr 83 (Operand.tmp 8) (Operand.const (Value.int IntKind.i64 1)), some (36, true)⟩, []⟩,
  ⟨⟨some 38, Op.load 3 (Operand.tmp 37), some (36, true)⟩, []⟩,
  ⟨⟨some 39, Op.move (Operand.tmp 1), some (36, true)⟩, []⟩,
  ⟨⟨some 40, Op.binOp BinOp.eql 3 (Operand.tmp 38) (Operand.tmp 39) 3, some (36, true)⟩, []⟩,
  ⟨⟨some 41, Op.pick (Operand.tmp 36) (Operand.tmp 40) (Operand.const (Value.bool false)), some (31, false)⟩, []⟩,
  ⟨⟨some 42, Op.pick (Operand.tmp 31) (Operand.const (Value.bool true)) (Operand.tmp 41), none⟩, []⟩]) (.cond (Operand.tmp 42) (.seq (.reg [⟨⟨some 6, Op.assign (Operand.const (Value.bool true)), none⟩, []⟩]) .ret) .skip)))) (.reg [⟨⟨some 14, Op.move (Operand.tmp 7), none⟩, []⟩,
  ⟨⟨some 15, Op.binOp BinOp.add 3 (Operand.tmp 14) (Operand.const (Value.int IntKind.i64 1)) 3, none⟩, []⟩,
  ⟨⟨some 7, Op.assign (Operand.tmp 15), none⟩, []⟩])))))) (.seq (.reg [⟨⟨some 6, Op.assign (Operand.const (Value.bool false)), none⟩, []⟩]) .ret)))
theorem sl80 : slim Tryz.f80.ntmps ords80 (Tryz.f80.body.getD .skip) = some cd80 := by kernel_rfl
theorem in80 {args : List Value} {H : AH} {R : Value → AH → Prop} (hl : args.length = 3) (h : ∀ (Q : Exit → Sl → AH → Prop), (∀ e s H, endA Tryz.prog [ResultVar.tmp 6] R e s H → Q e s H) → wpC Tryz.prog cd80 Q (enterA args) H) : ACalls Tryz.prog 80 args H R :=
  ACalls.intro (by kernel_rfl) Tryz.func80 rfl (by kernel_rfl) sl80 hl (of_decide_eq_true (by kernel_rfl)) (by kernel_rfl) h
def ords112 : List (Nat × List (Nat × Bool)) := []
def cd112 : Cd := (.seq (.reg [⟨⟨some 2, Op.box 31 (Operand.tmp 0), none⟩, []⟩,
  ⟨⟨some 4, Op.assign (Operand.const (Value.slice none 0 0)), none⟩, []⟩]) (.seq (.reg [⟨⟨some 7, Op.buildSlice 38 0 #[], none⟩, []⟩,
  ⟨⟨some 5, Op.assign (Operand.tmp 7), none⟩, []⟩]) (.seq (.seq (.reg [⟨⟨some 8, Op.fieldAddr 31 (Operand.tmp 2) 0, none⟩, []⟩,
  ⟨⟨some 9, Op.load 3 (Operand.tmp 8), none⟩, []⟩,
  ⟨⟨some 10, Op.move (Operand.const (Value.int IntKind.i64 0)), none⟩, []⟩]) (.block 0 (.loop (.seq (.reg [⟨⟨some 11, Op.binOp BinOp.lss 3 (Operand.tmp 10) (Operand.tmp 9) 3, none⟩, []⟩]) (.seq (.cond (Operand.tmp 11) .skip (.exit 0)) (.seq (.block 1 (.seq (.reg [⟨⟨some 12, Op.move (Operand.tmp 10), none⟩, []⟩,
  ⟨⟨some 6, Op.assign (Operand.tmp 12), none⟩, []⟩]) (.seq (.reg [⟨⟨some 13, Op.move (Operand.tmp 6), none⟩, []⟩,
  ⟨⟨some 14, Op.move (Operand.tmp 1), none⟩, []⟩,
  ⟨⟨some 15, Op.binOp BinOp.neq 3 (Operand.tmp 13) (Operand.tmp 14) 3, none⟩, []⟩,
  ⟨⟨some 16, Op.move (Operand.tmp 15), none⟩, []⟩,
  ⟨⟨some 17, Op.load 31 (Operand.tmp 2), some (16, true)⟩, []⟩,
  ⟨⟨some 18, Op.move (Operand.tmp 1), some (16, true)⟩, []⟩,
  ⟨⟨some 19, Op.move (Operand.tmp 6), some (16, true)⟩, []⟩,
  ⟨⟨some 20, Op.call { callee := (Callee.value (Operand.func 145)), args := #[(Operand.tmp 17), (Operand.tmp 18), (Operand.tmp 19)], argTypes := #[31, 3, 3] }, some (16, true)⟩, []⟩,
  ⟨⟨some 21, Op.pick (Operand.tmp 16) (Operand.tmp 20) (Operand.const (Value.bool false)), none⟩, []⟩]) (.cond (Operand.tmp 21) (.reg [⟨⟨some 22, Op.move (Operand.tmp 5), none⟩, []⟩,
  ⟨⟨some 23, Op.move (Operand.tmp 6), none⟩, []⟩,
  ⟨⟨some 24, Op.buildSlice 38 1 #[(0, (Operand.tmp 23))], none⟩, []⟩,
  ⟨⟨some 25, Op.call { callee := (Callee.builtin Builtin.append), args := #[(Operand.tmp 22), (Operand.tmp 24)], argTypes := #[38, 38] }, none⟩, []⟩,
  ⟨⟨some 5, Op.assign (Operand.tmp 25), none⟩, []⟩]) .skip)))) (.reg [⟨⟨some 26, Op.binOp BinOp.add 3 (Operand.tmp 10) (Operand.const (Value.int IntKind.i64 1)) 3, none⟩, []⟩,
  ⟨⟨some 10, Op.move (Operand.tmp 26), none⟩, []⟩]))))))) (.seq (.reg [⟨⟨some 27, Op.move (Operand.tmp 5), none⟩, []⟩,
  ⟨⟨some 4, Op.assign (Operand.tmp 27), none⟩, []⟩]) .ret))))
theorem sl112 : slim Tryz.f112.ntmps ords112 (Tryz.f112.body.getD .skip) = some cd112 := by kernel_rfl
theorem in112 {args : List Value} {H : AH} {R : Value → AH → Prop} (hl : args.length = 2) (h : ∀ (Q : Exit → Sl → AH → Prop), (∀ e s H, endA Tryz.prog [ResultVar.tmp 4] R e s H → Q e s H) → wpC Tryz.prog cd112 Q (enterA args) H) : ACalls Tryz.prog 112 args H R :=
  ACalls.intro (by kernel_rfl) Tryz.func112 rfl (by kernel_rfl) sl112 hl (of_decide_eq_true (by kernel_rfl)) (by kernel_rfl) h
end Go.Proofs.YtlfongfhbkefmaaGreat.Ai
namespace Go.Proofs.YtlfongfhbkefmaaGreat.Ai
open Go Go.RowKit
set_option linter.unusedVariables false
set_option linter.unusedSimpArgs false
def hitB (a b : Int) (e : Int × Int) : Bool := decide (e.1 = a ∧ e.2 = b ∨ e.1 = b ∧ e.2 = a)
/-- are two nodes neighbors -/
def nearB (es : List (Int × Int)) (a b : Int) : Bool := es.any (hitB a b)
theorem any_step {α : Type} (p : α → Bool) (xs : List α) (d : α) (i : Nat) (hi : i < xs.length) : (xs.drop i).any p = (p (xs.getD i d) || (xs.drop (i + 1)).any p) := by
  have : xs.getD i d = xs[i] := by simp [hi]
  rw [List.drop_eq_getElem_cons hi, List.any_cons, this]
theorem nearB_iff (es : List (Int × Int)) (a b : Int) : nearB es a b = true ↔ ((a, b) ∈ es ∨ (b, a) ∈ es) := by
  unfold nearB hitB
  rw [List.any_eq_true]
  constructor
  · rintro ⟨⟨x, y⟩, hm, h⟩
    rcases of_decide_eq_true h with h | h
    · obtain ⟨h1, h2⟩ := h
      simp only at h1 h2
      subst h1; subst h2; exact .inl hm
    · obtain ⟨h1, h2⟩ := h
      simp only at h1 h2
      subst h1; subst h2; exact .inr hm
  · rintro (h | h)
    · exact ⟨_, h, by simp⟩
    · exact ⟨_, h, by simp⟩
theorem grd_mem {n : Int} {es : List (Int × Int)} (hg : Grd n es) {e : Int × Int} (he : e ∈ es) : 0 ≤ e.1 ∧ e.1 < e.2 ∧ e.2 < n := by
  obtain ⟨i, hi, rfl⟩ := List.mem_iff_getElem.1 he
  obtain ⟨h1, h2, h3, _⟩ := hg.2 i hi
  have : es.getD i (0, 0) = es[i] := by simp [hi]
  rw [this] at h1 h2 h3
  exact ⟨h1, h2, h3⟩
theorem near_rng {n : Int} {es : List (Int × Int)} (hg : Grd n es) {a b : Int} (h : nearB es a b = true) : (0 ≤ a ∧ a < n) ∧ (0 ≤ b ∧ b < n) ∧ a ≠ b := by
  rcases (nearB_iff es a b).1 h with h | h <;> have := grd_mem hg h <;> simp only at this <;> omega
theorem near_has {n : Int} {es : List (Int × Int)} (hg : Grd n es) (a b : Int) (hab : b ≠ a) : decide ((minI a b, maxI a b) ∈ es) = nearB es a b := by
  rw [Bool.eq_iff_iff, decide_eq_true_iff, nearB_iff]
  by_cases h : a ≤ b
  · have e1 : minI a b = a := by unfold minI; split <;> omega
    have e2 : maxI a b = b := by unfold maxI; split <;> omega
    rw [e1, e2]
    exact ⟨.inl, fun h' => h'.resolve_right fun h'' => by have := grd_mem hg h''; simp only at this; omega⟩
  · have e1 : minI a b = b := by unfold minI; split <;> omega
    have e2 : maxI a b = a := by unfold maxI; split <;> omega
    rw [e1, e2]
    exact ⟨.inr, fun h' => h'.resolve_left fun h'' => by have := grd_mem hg h''; simp only at this; omega⟩
/-- the neighbors of a node below k -/
def nbsU (es : List (Int × Int)) (x : Int) : Nat → List Int
  | 0 => []
  | k + 1 => nbsU es x k ++ if nearB es x k = true then [(k : Int)] else []
theorem nbsU_len (es : List (Int × Int)) (x : Int) (k : Nat) : (nbsU es x k).length ≤ k := by
  induction k with
  | zero => simp [nbsU]
  | succ k ih => simp only [nbsU, List.length_append]; split <;> simp <;> omega
theorem nbsU_mem (es : List (Int × Int)) (x : Int) (k : Nat) (y : Int) : y ∈ nbsU es x k ↔ (0 ≤ y ∧ y < k) ∧ nearB es x y = true := by
  induction k with
  | zero => simp [nbsU]; intro h1 h2; omega
  | succ k ih =>
    simp only [nbsU, List.mem_append, ih]
    constructor
    · rintro (⟨h1, h2⟩ | h)
      · exact ⟨by omega, h2⟩
      · split at h
        · rename_i hn
          simp only [List.mem_cons, List.not_mem_nil, or_false] at h
          subst h; exact ⟨by omega, hn⟩
        · simp at h
    · rintro ⟨h1, h2⟩
      by_cases h : y < k
      · exact .inl ⟨by omega, h2⟩
      · obtain rfl : y = k := by omega
        right; rw [if_pos h2]; simp
theorem eq_a2 (a b c d : Int) : binA Tryz.prog .eql 83 (.agg (List.toArray [.int .i64 a, .int .i64 b])) (.agg (List.toArray [.int .i64 c, .int .i64 d])) = some (.bool (decide ((a, b) = (c, d)))) := by
  have h : binA Tryz.prog .eql 83 (.agg (List.toArray [.int .i64 a, .int .i64 b])) (.agg (List.toArray [.int .i64 c, .int .i64 d])) = some (.bool (a == c && b == d)) := by kernel_rfl
  have h2 : (a == c && b == d) = decide ((a, b) = (c, d)) := by
    rw [Bool.eq_iff_iff]
    simp
  rw [h, h2]
set_option maxRecDepth 20000 in
theorem IndexP_c (v : Value) (ps : List (Int × Int)) (p : Int × Int) (H : AH) (hr : RowP 83 H v ps) (hlen : ps.length ≤ 1099511627776) :
    ACalls Tryz.prog 196 [v, .agg (List.toArray [.int .i64 p.1, .int .i64 p.2])] H fun r H' => (∃ k : Int, r = .int .i64 k ∧ (0 ≤ k ↔ p ∈ ps)) ∧ H <+: H' := by
  refine in196 rfl ?_
  intro Q hQ
  simp (maxSteps := 1000000) (disch := omega) only [cd196, box_a2, hr.len Tryz.underlying22, S, S1, S2, S3, S4, S5, ST, eq_self, reduceIte, reduceCtorEq, Nat.reduceEqDiff, Nat.reduceAdd]
  generalize hA : H ++ [AObj.cells [.int .i64 p.1, .int .i64 p.2] 83 false] = A
  have pA : H <+: A := by rw [← hA]; exact List.prefix_append _ _
  have cA : A[H.length]? = some (.cells [.int .i64 p.1, .int .i64 p.2] 83 false) := by rw [← hA]; exact at_new ..
  have rA := hr.pre pA
  refine LoopH.by (fun m s H' => ∃ i, m + i = ps.length ∧ s 0 = v ∧ s 3 = .pointer (some ⟨H.length, 0, none⟩) ∧ s 7 = .int .i64 (ps.length : Int) ∧ s 8 = .int .i64 ((i : Nat) : Int) ∧ A = H' ∧ ∀ j, j < i → ps.getD j (0, 0) ≠ p) ps.length ?_ ?_
  · exact ⟨0, by simp, rfl, rfl, rfl, rfl, rfl, fun j hj => absurd hj (Nat.not_lt_zero j)⟩
  · rintro m s H' ⟨i, hm, h0, h3, h7, h8, rfl, hn⟩
    simp (maxSteps := 1000000) (disch := omega) only [h0, h3, h7, h8, S, S1, S2, S3, S4, S5, ST, eq_self, reduceIte, reduceCtorEq, Nat.reduceEqDiff, Nat.reduceAdd]
    refine brD.intro (fun g => ?_) (fun g => ?_)
    · have hi : i < ps.length := by omega
      simp (maxSteps := 1000000) (disch := omega) only [h0, h3, h7, h8, ld_a2 cA, rA.ix Tryz.underlying22 cs83, Int.toNat_natCast, rA.ld ag83 cs83 hi, eq_a2, S, S1, S2, S3, S4, S5, ST, eq_self, reduceIte, reduceCtorEq, Nat.reduceEqDiff, Nat.reduceAdd]
      refine brD.intro (fun e => ?_) (fun e => ?_) <;> simp (maxSteps := 1000000) (disch := omega) only [h0, h3, h7, h8, wrap64, S, S1, S2, S3, S4, S5, ST, eq_self, reduceIte, reduceCtorEq, Nat.reduceEqDiff, Nat.reduceAdd]
      · refine hQ _ _ _ ?_
        simp (maxSteps := 1000000) (disch := omega) only [S, S1, S2, S3, S4, S5, ST, eq_self, reduceIte, reduceCtorEq, Nat.reduceEqDiff, Nat.reduceAdd]
        have e' : p = ps.getD i (0, 0) := e
        have hm : p ∈ ps := by rw [e']; simp [hi]
        exact ⟨⟨i, rfl, ⟨fun _ => hm, fun _ => by omega⟩⟩, pA⟩
      · have f1 : ∀ j, j < i + 1 → ps.getD j (0, 0) ≠ p := by
          intro j hj
          rcases Nat.lt_succ_iff_lt_or_eq.1 hj with h | h
          · exact hn j h
          · rw [h]; intro h'; exact e h'.symm
        refine ⟨m - 1, by omega, i + 1, ?_⟩
        (repeat' apply And.intro) <;> first | exact f1 | (simp only [Value.int.injEq, true_and]; omega) | omega | rfl | assumption | (simp; done) | (simp; omega)
    · simp (maxSteps := 1000000) (disch := omega) only [S, S1, S2, S3, S4, S5, ST, eq_self, reduceIte, reduceCtorEq, Nat.reduceEqDiff, Nat.reduceAdd]
      refine hQ _ _ _ ?_
      simp (maxSteps := 1000000) (disch := omega) only [S, S1, S2, S3, S4, S5, ST, eq_self, reduceIte, reduceCtorEq, Nat.reduceEqDiff, Nat.reduceAdd]
      refine ⟨⟨-1, rfl, ⟨fun h => absurd h (by omega), fun h => ?_⟩⟩, pA⟩
      obtain ⟨j, hj, e⟩ := List.mem_iff_getElem.1 h
      exact absurd (by simp [hj, e]) (hn j (by omega))
theorem ContainsP_c (v : Value) (ps : List (Int × Int)) (p : Int × Int) (H : AH) (hr : RowP 83 H v ps) (hlen : ps.length ≤ 1099511627776) :
    ACalls Tryz.prog 174 [v, .agg (List.toArray [.int .i64 p.1, .int .i64 p.2])] H fun r H' => r = .bool (decide (p ∈ ps)) ∧ H <+: H' := by
  refine in174 rfl ?_
  intro Q hQ
  simp (maxSteps := 1000000) (disch := omega) only [cd174, box_a2, S, S1, S2, S3, S4, S5, ST, eq_self, reduceIte, reduceCtorEq, Nat.reduceEqDiff, Nat.reduceAdd]
  generalize hA : H ++ [AObj.cells [.int .i64 p.1, .int .i64 p.2] 83 false] = A
  have pA : H <+: A := by rw [← hA]; exact List.prefix_append _ _
  have cA : A[H.length]? = some (.cells [.int .i64 p.1, .int .i64 p.2] 83 false) := by rw [← hA]; exact at_new ..
  simp (maxSteps := 1000000) (disch := omega) only [ld_a2 cA, S, S1, S2, S3, S4, S5, ST, eq_self, reduceIte, reduceCtorEq, Nat.reduceEqDiff, Nat.reduceAdd]
  refine CallH.by (IndexP_c v ps p A (hr.pre pA) hlen) ?_
  rintro _ B ⟨⟨k, rfl, hk⟩, pB⟩
  simp (maxSteps := 1000000) (disch := omega) only [S, S1, S2, S3, S4, S5, ST, eq_self, reduceIte, reduceCtorEq, Nat.reduceEqDiff, Nat.reduceAdd]
  refine hQ _ _ _ ?_
  simp (maxSteps := 1000000) (disch := omega) only [S, S1, S2, S3, S4, S5, ST, eq_self, reduceIte, reduceCtorEq, Nat.reduceEqDiff, Nat.reduceAdd]
  refine ⟨?_, pA.trans pB⟩
  rw [Value.bool.injEq, decide_eq_decide]; exact hk
theorem has_G (n : Int) (v : Value) (es : List (Int × Int)) (a b : Int) (H : AH) (hr : RowP 83 H v es) (hlen : es.length ≤ 1099511627776) :
    ACalls Tryz.prog 145 [.agg (List.toArray [.int .i64 n, v]), .int .i64 a, .int .i64 b] H fun r H' => r = .bool (decide ((minI a b, maxI a b) ∈ es)) ∧ H <+: H' := by
  refine in145 rfl ?_
  intro Q hQ
  simp (maxSteps := 1000000) (disch := omega) only [cd145, hr.boxG, S, S1, S2, S3, S4, S5, ST, eq_self, reduceIte, reduceCtorEq, Nat.reduceEqDiff, Nat.reduceAdd]
  generalize hA : H ++ [AObj.cells [.int .i64 n, v] 31 false] = A
  have pA : H <+: A := by rw [← hA]; exact List.prefix_append _ _
  have cA : A[H.length]? = some (.cells [.int .i64 n, v] 31 false) := by rw [← hA]; exact at_new ..
  have rA := hr.pre pA
  simp (maxSteps := 1000000) (disch := omega) only [cell_of cA, S, S1, S2, S3, S4, S5, ST, eq_self, reduceIte, reduceCtorEq, Nat.reduceEqDiff, Nat.reduceAdd]
  refine CallH.by (pair_c a b A) ?_
  rintro _ B ⟨rfl, pB⟩
  have cB := pre_at pB cA
  simp (maxSteps := 1000000) (disch := omega) only [cell_of cB, S, S1, S2, S3, S4, S5, ST, eq_self, reduceIte, reduceCtorEq, Nat.reduceEqDiff, Nat.reduceAdd]
  refine CallH.by (ContainsP_c v es (minI a b, maxI a b) B (rA.pre pB) hlen) ?_
  rintro _ C ⟨rfl, pC⟩
  simp (maxSteps := 1000000) (disch := omega) only [S, S1, S2, S3, S4, S5, ST, eq_self, reduceIte, reduceCtorEq, Nat.reduceEqDiff, Nat.reduceAdd]
  refine hQ _ _ _ ?_
  simp (maxSteps := 1000000) (disch := omega) only [S, S1, S2, S3, S4, S5, ST, eq_self, reduceIte, reduceCtorEq, Nat.reduceEqDiff, Nat.reduceAdd]
  exact pA.trans (pB.trans pC)
set_option maxRecDepth 20000 in
set_option maxHeartbeats 1000000 in
theorem l2Near_c (n : Int) (v : Value) (es : List (Int × Int)) (a b : Int) (H : AH) (hr : RowP 83 H v es) (hlen : es.length ≤ 1099511627776) :
    ACalls Tryz.prog 80 [.agg (List.toArray [.int .i64 n, v]), .int .i64 a, .int .i64 b] H fun r H' => r = .bool (nearB es a b) ∧ H <+: H' := by
  refine in80 rfl ?_
  intro Q hQ
  simp (maxSteps := 1000000) (disch := omega) only [cd80, hr.boxG, S, S1, S2, S3, S4, S5, ST, eq_self, reduceIte, reduceCtorEq, Nat.reduceEqDiff, Nat.reduceAdd]
  generalize hA : H ++ [AObj.cells [.int .i64 n, v] 31 false] = A
  have pA : H <+: A := by rw [← hA]; exact List.prefix_append _ _
  have cA : A[H.length]? = some (.cells [.int .i64 n, v] 31 false) := by rw [← hA]; exact at_new ..
  have rA := hr.pre pA
  try simp (maxSteps := 1000000) (disch := omega) only [S, S1, S2, S3, S4, S5, ST, eq_self, reduceIte, reduceCtorEq, Nat.reduceEqDiff, Nat.reduceAdd]
  refine LoopH.by (fun m s H' => ∃ i, m + i = es.length ∧ s 1 = .int .i64 a ∧ s 2 = .int .i64 b ∧ s 3 = .pointer (some ⟨H.length, 0, none⟩) ∧ s 7 = .int .i64 ((i : Nat) : Int) ∧ nearB es a b = (es.drop i).any (hitB a b) ∧ A <+: H') es.length ?_ ?_
  · exact ⟨0, by simp, rfl, rfl, rfl, rfl, by rw [List.drop_zero]; rfl, List.prefix_refl _⟩
  · rintro m s H' ⟨i, hm, h1, h2, h3, h7, hn, hp⟩
    have hr' := rA.pre hp
    have cH := pre_at hp cA
    have hpp := pA.trans hp
    simp (maxSteps := 1000000) (disch := omega) only [h1, h2, h3, h7, cell_of cH, hr'.len Tryz.underlying22, S, S1, S2, S3, S4, S5, ST, eq_self, reduceIte, reduceCtorEq, Nat.reduceEqDiff, Nat.reduceAdd]
    refine brD.intro (fun g => ?_) (fun g => ?_)
    · have hi : i < es.length := by omega
      have hst0 := store_a2 H' [.int .i64 0, .int .i64 0] rfl
      rw [any_step _ es (0, 0) i hi] at hn
      simp (maxSteps := 1000000) (disch := omega) only [h1, h2, h3, h7, cell_of cH, hr'.ix Tryz.underlying22 cs83, Int.toNat_natCast, hr'.ld ag83 cs83 hi, alloc_a2, hst0, cell_new, wrap64, S, S1, S2, S3, S4, S5, ST, eq_self, reduceIte, reduceCtorEq, Nat.reduceEqDiff, Nat.reduceAdd]
      generalize hx : es.getD i (0, 0) = x at *
      have pB : A <+: H' ++ [AObj.cells [.int .i64 x.1, .int .i64 x.2] 83 false] := pre_app hp _
      have yes : hitB a b x = true → nearB es a b = true := fun h => by rw [hn, h]; rfl
      have no : hitB a b x = false → nearB es a b = (es.drop (i + 1)).any (hitB a b) := fun h => by rw [hn, h]; rfl
      unfold hitB at yes no
      rw [decide_eq_true_iff] at yes
      rw [decide_eq_false_iff_not] at no
      have second : ¬ (x.1 = a ∧ x.2 = b) → True := fun _ => trivial
      refine brD.intro (fun e1 => ?_) (fun e1 => ?_) <;> (first | have de1 := decide_eq_false e1 | have de1 := decide_eq_true e1) <;> simp (maxSteps := 1000000) (disch := omega) only [de1, h1, h2, h3, h7, cell_new, wrap64, S, S1, S2, S3, S4, S5, ST, eq_self, reduceIte, reduceCtorEq, Nat.reduceEqDiff, Nat.reduceAdd]
      · refine brD.intro (fun e2 => ?_) (fun e2 => ?_) <;> (first | have de2 := decide_eq_false e2 | have de2 := decide_eq_true e2) <;> simp (maxSteps := 1000000) (disch := omega) only [de1, de2, h1, h2, h3, h7, cell_new, wrap64, S, S1, S2, S3, S4, S5, ST, eq_self, reduceIte, reduceCtorEq, Nat.reduceEqDiff, Nat.reduceAdd]
        · refine hQ _ _ _ ?_
          simp (maxSteps := 1000000) (disch := omega) only [S, S1, S2, S3, S4, S5, ST, eq_self, reduceIte, reduceCtorEq, Nat.reduceEqDiff, Nat.reduceAdd]
          exact ⟨by rw [yes (by omega)], pA.trans pB⟩
        · refine brD.intro (fun e3 => ?_) (fun e3 => ?_) <;> (first | have de3 := decide_eq_false e3 | have de3 := decide_eq_true e3) <;> simp (maxSteps := 1000000) (disch := omega) only [de1, de2, de3, h1, h2, h3, h7, cell_new, wrap64, S, S1, S2, S3, S4, S5, ST, eq_self, reduceIte, reduceCtorEq, Nat.reduceEqDiff, Nat.reduceAdd]
          · refine brD.intro (fun e4 => ?_) (fun e4 => ?_) <;> (first | have de4 := decide_eq_false e4 | have de4 := decide_eq_true e4) <;> simp (maxSteps := 1000000) (disch := omega) only [de1, de2, de3, de4, h1, h2, h3, h7, cell_new, wrap64, S, S1, S2, S3, S4, S5, ST, eq_self, reduceIte, reduceCtorEq, Nat.reduceEqDiff, Nat.reduceAdd]
            · refine hQ _ _ _ ?_
              simp (maxSteps := 1000000) (disch := omega) only [S, S1, S2, S3, S4, S5, ST, eq_self, reduceIte, reduceCtorEq, Nat.reduceEqDiff, Nat.reduceAdd]
              exact ⟨by rw [yes (by omega)], pA.trans pB⟩
            · have f1 := no (by omega)
              refine ⟨m - 1, by omega, i + 1, ?_⟩
              (repeat' first | exact f1 | exact pB | apply And.intro) <;> first | (simp only [Value.int.injEq, true_and]; omega) | omega | rfl | assumption | (simp; done) | (simp; omega)
          · have f1 := no (by omega)
            refine ⟨m - 1, by omega, i + 1, ?_⟩
            (repeat' first | exact f1 | exact pB | apply And.intro) <;> first | (simp only [Value.int.injEq, true_and]; omega) | omega | rfl | assumption | (simp; done) | (simp; omega)
      · refine brD.intro (fun e3 => ?_) (fun e3 => ?_) <;> (first | have de3 := decide_eq_false e3 | have de3 := decide_eq_true e3) <;> simp (maxSteps := 1000000) (disch := omega) only [de1, de3, h1, h2, h3, h7, cell_new, wrap64, S, S1, S2, S3, S4, S5, ST, eq_self, reduceIte, reduceCtorEq, Nat.reduceEqDiff, Nat.reduceAdd]
        · refine brD.intro (fun e4 => ?_) (fun e4 => ?_) <;> (first | have de4 := decide_eq_false e4 | have de4 := decide_eq_true e4) <;> simp (maxSteps := 1000000) (disch := omega) only [de1, de3, de4, h1, h2, h3, h7, cell_new, wrap64, S, S1, S2, S3, S4, S5, ST, eq_self, reduceIte, reduceCtorEq, Nat.reduceEqDiff, Nat.reduceAdd]
          · refine hQ _ _ _ ?_
            simp (maxSteps := 1000000) (disch := omega) only [S, S1, S2, S3, S4, S5, ST, eq_self, reduceIte, reduceCtorEq, Nat.reduceEqDiff, Nat.reduceAdd]
            exact ⟨by rw [yes (by omega)], pA.trans pB⟩
          · have f1 := no (by omega)
            refine ⟨m - 1, by omega, i + 1, ?_⟩
            (repeat' first | exact f1 | exact pB | apply And.intro) <;> first | (simp only [Value.int.injEq, true_and]; omega) | omega | rfl | assumption | (simp; done) | (simp; omega)
        · have f1 := no (by omega)
          refine ⟨m - 1, by omega, i + 1, ?_⟩
          (repeat' first | exact f1 | exact pB | apply And.intro) <;> first | (simp only [Value.int.injEq, true_and]; omega) | omega | rfl | assumption | (simp; done) | (simp; omega)
    · simp (maxSteps := 1000000) (disch := omega) only [h1, h2, h3, h7, S, S1, S2, S3, S4, S5, ST, eq_self, reduceIte, reduceCtorEq, Nat.reduceEqDiff, Nat.reduceAdd]
      refine hQ _ _ _ ?_
      simp (maxSteps := 1000000) (disch := omega) only [S, S1, S2, S3, S4, S5, ST, eq_self, reduceIte, reduceCtorEq, Nat.reduceEqDiff, Nat.reduceAdd]
      rw [hn, List.drop_of_length_le (by omega)]
      exact ⟨rfl, hpp⟩
set_option maxRecDepth 20000 in
set_option maxHeartbeats 1000000 in
theorem neighbors_c (n : Int) (v : Value) (es : List (Int × Int)) (x : Int) (H : AH) (hr : RowP 83 H v es) (hlen : es.length ≤ 1099511627776) (hg : Grd n es) :
    ACalls Tryz.prog 112 [.agg (List.toArray [.int .i64 n, v]), .int .i64 x] H fun r H' => Own 3 H H' r (nbsU es x n.toNat) ∧ H <+: H' := by
  have hn := hg.1
  refine in112 rfl ?_
  intro Q hQ
  simp (maxSteps := 1000000) (disch := omega) only [cd112, hr.boxG, S, S1, S2, S3, S4, S5, ST, eq_self, reduceIte, reduceCtorEq, Nat.reduceEqDiff, Nat.reduceAdd]
  generalize hA : H ++ [AObj.cells [.int .i64 n, v] 31 false] = A
  have pA : H <+: A := by rw [← hA]; exact List.prefix_append _ _
  have cA : A[H.length]? = some (.cells [.int .i64 n, v] 31 false) := by rw [← hA]; exact at_new ..
  have rA := hr.pre pA
  simp (maxSteps := 1000000) (disch := omega) only [cell_of (at_app cA _), S, S1, S2, S3, S4, S5, ST, eq_self, reduceIte, reduceCtorEq, Nat.reduceEqDiff, Nat.reduceAdd]
  refine LoopH.by (fun m s H' => ∃ i, m + i = n.toNat ∧ s 1 = .int .i64 x ∧ s 2 = .pointer (some ⟨H.length, 0, none⟩) ∧ s 9 = .int .i64 n ∧ s 10 = .int .i64 ((i : Nat) : Int) ∧ Own 3 A H' (s 5) (nbsU es x i) ∧ A <+: H') n.toNat ?_ ?_
  · exact ⟨0, by simp, rfl, rfl, rfl, rfl, .inr ⟨A.length, rfl, Nat.le_refl _, at_new ..⟩, List.prefix_append _ _⟩
  · rintro m s H' ⟨i, hm, h1, h2, h9, h10, ho, hp⟩
    have hr' := rA.pre hp
    have cH := pre_at hp cA
    have hl := nbsU_len es x i
    have hst : nbsU es x (i + 1) = nbsU es x i ++ if nearB es x i = true then [(i : Int)] else [] := rfl
    generalize hw : s 5 = w at *
    simp (maxSteps := 1000000) (disch := omega) only [h1, h2, h9, h10, hw, S, S1, S2, S3, S4, S5, ST, eq_self, reduceIte, reduceCtorEq, Nat.reduceEqDiff, Nat.reduceAdd]
    refine brD.intro (fun g => ?_) (fun g => ?_)
    · simp (maxSteps := 1000000) (disch := omega) only [h1, h2, h9, h10, hw, S, S1, S2, S3, S4, S5, ST, eq_self, reduceIte, reduceCtorEq, Nat.reduceEqDiff, Nat.reduceAdd]
      refine brD.intro (fun e1 => ?_) (fun e1 => ?_) <;> simp (maxSteps := 1000000) (disch := omega) only [e1, h1, h2, h9, h10, hw, ld_agg ag31 cs31 cH, wrap64, S, S1, S2, S3, S4, S5, ST, eq_self, reduceIte, reduceCtorEq, Nat.reduceEqDiff, Nat.reduceAdd]
      · refine CallH.by (has_G n v es x i H' hr' hlen) ?_
        rintro _ B ⟨rfl, pB⟩
        rw [near_has hg x i (by omega)]
        have hoB := ho.pre pB
        have hpB := hp.trans pB
        simp (maxSteps := 1000000) (disch := omega) only [e1, S, S1, S2, S3, S4, S5, ST, eq_self, reduceIte, reduceCtorEq, Nat.reduceEqDiff, Nat.reduceAdd]
        refine brH.intro (fun e2 => ?_) (fun e2 => ?_)
        · obtain ⟨w', H2, k1, k2, k3, k4, k5, k6⟩ := own1_38 hoB hpB (by omega) (i : Int)
          simp (maxSteps := 1000000) (disch := omega) only [e1, e2, h1, h2, h9, h10, hw, k1, wrap64, S, S1, S2, S3, S4, S5, ST, eq_self, reduceIte, reduceCtorEq, Nat.reduceEqDiff, Nat.reduceAdd]
          rw [if_pos e2] at hst
          rw [← hst] at k2
          refine ⟨m - 1, by omega, i + 1, ?_⟩
          (repeat' first | exact k2 | exact k3 | apply And.intro) <;> first | (simp only [Value.int.injEq, true_and]; omega) | omega | rfl | assumption | (simp; done) | (simp; omega)
        · simp (maxSteps := 1000000) (disch := omega) only [e1, e2, h1, h2, h9, h10, hw, wrap64, S, S1, S2, S3, S4, S5, ST, eq_self, reduceIte, reduceCtorEq, Nat.reduceEqDiff, Nat.reduceAdd]
          rw [if_neg (by simpa using e2), List.append_nil] at hst
          rw [← hst] at hoB
          refine ⟨m - 1, by omega, i + 1, ?_⟩
          (repeat' first | exact hoB | exact hpB | apply And.intro) <;> first | (simp only [Value.int.injEq, true_and]; omega) | omega | rfl | assumption | (simp; done) | (simp; omega)
      · have e2 : nearB es x i ≠ true := by
          intro h
          have := (near_rng hg h).2.2
          omega
        rw [if_neg e2, List.append_nil] at hst
        rw [← hst] at ho
        refine ⟨m - 1, by omega, i + 1, ?_⟩
        (repeat' first | exact ho | exact hp | apply And.intro) <;> first | (simp only [Value.int.injEq, true_and]; omega) | omega | rfl | assumption | (simp; done) | (simp; omega)
    · simp (maxSteps := 1000000) (disch := omega) only [hw, S, S1, S2, S3, S4, S5, ST, eq_self, reduceIte, reduceCtorEq, Nat.reduceEqDiff, Nat.reduceAdd]
      refine hQ _ _ _ ?_
      simp (maxSteps := 1000000) (disch := omega) only [hw, ho.row.tup, S, S1, S2, S3, S4, S5, ST, eq_self, reduceIte, reduceCtorEq, Nat.reduceEqDiff, Nat.reduceAdd]
      have : i = n.toNat := by omega
      subst this
      exact ⟨ho.base pA, pA.trans hp⟩
end Go.Proofs.YtlfongfhbkefmaaGreat.Ai
namespace Go.Proofs.YtlfongfhbkefmaaGreat.Ai
open Go
end Go.Proofs.YtlfongfhbkefmaaGreat.Ai
namespace Go.Proofs.YtlfongfhbkefmaaGreat.Ai
open Go Go.RowKit
set_option linter.unusedVariables false
set_option linter.unusedSimpArgs false
theorem ofInt_nat (n : Nat) (h : n < 2 ^ 64) : (BitVec.ofInt 64 (n : Int)).toNat = n := by
  rw [BitVec.ofInt_natCast, BitVec.toNat_ofNat, Nat.mod_eq_of_lt h]
theorem and_nat (a b : Nat) (ha : a < 2 ^ 64) (hb : b < 2 ^ 64) : bitsA .and .u64 (a : Int) (b : Int) = ((a &&& b : Nat) : Int) := by
  have h : a &&& b < 2 ^ 64 := Nat.lt_of_le_of_lt Nat.and_le_left ha
  have e : (BitVec.ofInt 64 (a : Int) &&& BitVec.ofInt 64 (b : Int)).toNat = a &&& b := by rw [BitVec.toNat_and, ofInt_nat a ha, ofInt_nat b hb]
  show IntKind.u64.wrap (((BitVec.ofInt 64 (a : Int) &&& BitVec.ofInt 64 (b : Int)).toNat : Nat) : Int) = _
  rw [e, IntKind.wrap_u64]; omega
theorem bin_and (P : Program) (t : TypeId) (a b : Nat) (ha : a < 2 ^ 64) (hb : b < 2 ^ 64) : binA P .and t (.int .u64 (a : Int)) (.int .u64 (b : Int)) = some (.int .u64 ((a &&& b : Nat) : Int)) := by
  simp only [binA, intA, and_nat a b ha hb]
  simp
/-- a word that is a set of numbers below L -/
def Bits (b : Nat) (L : Nat) (s : List Int) : Prop := b < 256 ∧ ∀ z, z < L → b.testBit z = decide ((z : Int) ∈ s)
theorem Bits.or {b L y : Nat} {s : List Int} (h : Bits b L s) (hy : y < 8) : Bits (b ||| 2 ^ y) L (s ++ [(y : Int)]) := by
  refine ⟨?_, fun z hz => ?_⟩
  · have h1 : 2 ^ y < 2 ^ 8 := Nat.pow_lt_pow_right (by decide) hy
    exact Nat.or_lt_two_pow (n := 8) h.1 h1
  · rw [Nat.testBit_or, h.2 z hz, Nat.testBit_two_pow]
    have e : (y = z) ↔ ((z : Int) = y) := by omega
    by_cases hm : (z : Int) ∈ s <;> by_cases hz2 : y = z <;> simp [hm, hz2, e]
    · intro hh; exact hz2 (by omega)
theorem Bits.no {b L x y : Nat} {s : List Int} (h : Bits b L s) (hx : x < L) (hy : y < L) : (b &&& (2 ^ x ||| 2 ^ y) ≠ 0) ↔ ((x : Int) ∈ s ∨ (y : Int) ∈ s) := by
  have hbx := h.2 x hx
  have hby := h.2 y hy
  constructor
  · intro hne
    apply Decidable.byContradiction
    intro hno
    rw [not_or] at hno
    rw [decide_eq_false hno.1] at hbx
    rw [decide_eq_false hno.2] at hby
    apply hne
    apply Nat.eq_of_testBit_eq
    intro z
    rw [Nat.testBit_and, Nat.testBit_or, Nat.testBit_two_pow, Nat.testBit_two_pow, Nat.zero_testBit]
    by_cases e1 : x = z
    · subst e1; rw [hbx]; rfl
    · by_cases e2 : y = z
      · subst e2; rw [hby]; rfl
      · simp [e1, e2]
  · rintro h' h0
    rcases h' with g | g
    · rw [decide_eq_true g] at hbx
      have := congrArg (fun n => Nat.testBit n x) h0
      simp only [Nat.testBit_and, Nat.testBit_or, Nat.testBit_two_pow, Nat.zero_testBit, hbx] at this
      simp at this
    · rw [decide_eq_true g] at hby
      have := congrArg (fun n => Nat.testBit n y) h0
      simp only [Nat.testBit_and, Nat.testBit_or, Nat.testBit_two_pow, Nat.zero_testBit, hby] at this
      simp at this
end Go.Proofs.YtlfongfhbkefmaaGreat.Ai
namespace Go.Proofs.YtlfongfhbkefmaaGreat.Ai
open Go
def ords202 : List (Nat × List (Nat × Bool)) := []
def cd202 : Cd := (.seq (.reg [⟨⟨some 4, Op.assign (Operand.const (Value.int IntKind.u64 0)), none⟩, []⟩,
  ⟨⟨some 5, Op.assign (Operand.const (Value.int IntKind.u64 0)), none⟩, []⟩]) (.seq (.reg [⟨⟨some 14, Op.move (Operand.tmp 0), none⟩, []⟩,
  ⟨⟨some 15, Op.binOp BinOp.and 86 (Operand.tmp 14) (Operand.const (Value.int IntKind.u64 4294967295)) 86, none⟩, []⟩,
  ⟨⟨some 6, Op.assign (Operand.tmp 15), none⟩, []⟩]) (.seq (.reg [⟨⟨some 16, Op.move (Operand.tmp 0), none⟩, []⟩,
  ⟨⟨some 17, Op.binOp BinOp.shr 86 (Operand.tmp 16) (Operand.const (Value.int IntKind.u64 32)) 108, none⟩, []⟩,
  ⟨⟨some 7, Op.assign (Operand.tmp 17), none⟩, []⟩]) (.seq (.reg [⟨⟨some 18, Op.move (Operand.tmp 1), none⟩, []⟩,
  ⟨⟨some 19, Op.binOp BinOp.and 86 (Operand.tmp 18) (Operand.const (Value.int IntKind.u64 4294967295)) 86, none⟩, []⟩,
  ⟨⟨some 8, Op.assign (Operand.tmp 19), none⟩, []⟩]) (.seq (.reg [⟨⟨some 20, Op.move (Operand.tmp 1), none⟩, []⟩,
  ⟨⟨some 21, Op.binOp BinOp.shr 86 (Operand.tmp 20) (Operand.const (Value.int IntKind.u64 32)) 108, none⟩, []⟩,
  ⟨⟨some 9, Op.assign (Operand.tmp 21), none⟩, []⟩]) (.seq (.reg [⟨⟨some 22, Op.move (Operand.tmp 6), none⟩, []⟩,
  ⟨⟨some 23, Op.move (Operand.tmp 8), none⟩, []⟩,
  ⟨⟨some 24, Op.binOp BinOp.mul 86 (Operand.tmp 22) (Operand.tmp 23) 86, none⟩, []⟩,
  ⟨⟨some 10, Op.assign (Operand.tmp 24), none⟩, []⟩]) (.seq (.reg [⟨⟨some 25, Op.move (Operand.tmp 7), none⟩, []⟩,
  ⟨⟨some 26, Op.move (Operand.tmp 8), none⟩, []⟩,
  ⟨⟨some 27, Op.binOp BinOp.mul 86 (Operand.tmp 25) (Operand.tmp 26) 86, none⟩, []⟩,
  ⟨⟨some 28, Op.move (Operand.tmp 10), none⟩, []⟩,
  ⟨⟨some 29, Op.binOp BinOp.shr 86 (Operand.tmp 28) (Operand.const (Value.int IntKind.u64 32)) 108, none⟩, []⟩,
  ⟨⟨some 30, Op.binOp BinOp.add 86 (Operand.tmp 27) (Operand.tmp 29) 86, none⟩, []⟩,
  ⟨⟨some 11, Op.assign (Operand.tmp 30), none⟩, []⟩]) (.seq (.reg [⟨⟨some 31, Op.move (Operand.tmp 11), none⟩, []⟩,
  ⟨⟨some 32, Op.binOp BinOp.and 86 (Operand.tmp 31) (Operand.const (Value.int IntKind.u64 4294967295)) 86, none⟩, []⟩,
  ⟨⟨some 12, Op.assign (Operand.tmp 32), none⟩, []⟩]) (.seq (.reg [⟨⟨some 33, Op.move (Operand.tmp 11), none⟩, []⟩,
  ⟨⟨some 34, Op.binOp BinOp.shr 86 (Operand.tmp 33) (Operand.const (Value.int IntKind.u64 32)) 108, none⟩, []⟩,
  ⟨⟨some 13, Op.assign (Operand.tmp 34), none⟩, []⟩]) (.seq (.reg [⟨⟨some 35, Op.move (Operand.tmp 12), none⟩, []⟩,
  ⟨⟨some 36, Op.move (Operand.tmp 6), none⟩, []⟩,
  ⟨⟨some 37, Op.move (Operand.tmp 9), none⟩, []⟩,
  ⟨⟨some 38, Op.binOp BinOp.mul 86 (Operand.tmp 36) (Operand.tmp 37) 86, none⟩, []⟩,
  ⟨⟨some 39, Op.binOp BinOp.add 86 (Operand.tmp 35) (Operand.tmp 38) 86, none⟩, []⟩,
  ⟨⟨some 12, Op.assign (Operand.tmp 39), none⟩, []⟩]) (.seq (.reg [⟨⟨some 40, Op.move (Operand.tmp 7), none⟩, []⟩,
  ⟨⟨some 41, Op.move (Operand.tmp 9), none⟩, []⟩,
  ⟨⟨some 42, Op.binOp BinOp.mul 86 (Operand.tmp 40) (Operand.tmp 41) 86, none⟩, []⟩,
  ⟨⟨some 43, Op.move (Operand.tmp 13), none⟩, []⟩,
  ⟨⟨some 44, Op.binOp BinOp.add 86 (Operand.tmp 42) (Operand.tmp 43) 86, none⟩, []⟩,
  ⟨⟨some 45, Op.move (Operand.tmp 12), none⟩, []⟩,
  ⟨⟨some 46, Op.binOp BinOp.shr 86 (Operand.tmp 45) (Operand.const (Value.int IntKind.u64 32)) 108, none⟩, []⟩,
  ⟨⟨some 47, Op.binOp BinOp.add 86 (Operand.tmp 44) (Operand.tmp 46) 86, none⟩, []⟩,
  ⟨⟨some 4, Op.assign (Operand.tmp 47), none⟩, []⟩]) (.seq (.reg [⟨⟨some 48, Op.move (Operand.tmp 0), none⟩, []⟩,
  ⟨⟨some 49, Op.move (Operand.tmp 1), none⟩, []⟩,
  ⟨⟨some 50, Op.binOp BinOp.mul 86 (Operand.tmp 48) (Operand.tmp 49) 86, none⟩, []⟩,
  ⟨⟨some 5, Op.assign (Operand.tmp 50), none⟩, []⟩]) .ret))))))))))))
theorem sl202 : slim Tryz.f202.ntmps ords202 (Tryz.f202.body.getD .skip) = some cd202 := by kernel_rfl
theorem in202 {args : List Value} {H : AH} {R : Value → AH → Prop} (hl : args.length = 2) (h : ∀ (Q : Exit → Sl → AH → Prop), (∀ e s H, endA Tryz.prog [ResultVar.tmp 4, ResultVar.tmp 5] R e s H → Q e s H) → wpC Tryz.prog cd202 Q (enterA args) H) : ACalls Tryz.prog 202 args H R :=
  ACalls.intro (by kernel_rfl) Tryz.func202 rfl (by kernel_rfl) sl202 hl (of_decide_eq_true (by kernel_rfl)) (by kernel_rfl) h
def ords192 : List (Nat × List (Nat × Bool)) := []
def cd192 : Cd := (.seq (.reg [⟨⟨some 4, Op.assign (Operand.const (Value.int IntKind.u64 0)), none⟩, []⟩,
  ⟨⟨some 5, Op.assign (Operand.const (Value.int IntKind.u64 0)), none⟩, []⟩]) (.seq (.cond (Operand.const (Value.bool false)) (.seq (.reg [⟨⟨some 11, Op.move (Operand.tmp 0), none⟩, []⟩,
  ⟨⟨some 12, Op.convert 108 159 (Operand.tmp 11), none⟩, []⟩,
  ⟨⟨some 13, Op.move (Operand.tmp 1), none⟩, []⟩,
  ⟨⟨some 14, Op.convert 108 159 (Operand.tmp 13), none⟩, []⟩,
  ⟨⟨some 15, Op.call { callee := (Callee.value (Operand.func 201)), args := #[(Operand.tmp 12), (Operand.tmp 14)], argTypes := #[159, 159] }, none⟩, []⟩,
  ⟨⟨some 10, Op.move (Operand.tmp 15), none⟩, []⟩,
  ⟨⟨some 16, Op.extract (Operand.tmp 10) 0, none⟩, []⟩,
  ⟨⟨some 17, Op.extract (Operand.tmp 10) 1, none⟩, []⟩,
  ⟨⟨some 6, Op.assign (Operand.tmp 16), none⟩, []⟩,
  ⟨⟨some 7, Op.assign (Operand.tmp 17), none⟩, []⟩]) (.seq (.reg [⟨⟨some 18, Op.move (Operand.tmp 6), none⟩, []⟩,
  ⟨⟨some 19, Op.convert 159 108 (Operand.tmp 18), none⟩, []⟩,
  ⟨⟨some 20, Op.move (Operand.tmp 7), none⟩, []⟩,
  ⟨⟨some 21, Op.convert 159 108 (Operand.tmp 20), none⟩, []⟩,
  ⟨⟨some 4, Op.assign (Operand.tmp 19), none⟩, []⟩,
  ⟨⟨some 5, Op.assign (Operand.tmp 21), none⟩, []⟩]) .ret)) .skip) (.seq (.reg [⟨⟨some 23, Op.move (Operand.tmp 0), none⟩, []⟩,
  ⟨⟨some 24, Op.move (Operand.tmp 1), none⟩, []⟩,
  ⟨⟨some 25, Op.call { callee := (Callee.value (Operand.func 202)), args := #[(Operand.tmp 23), (Operand.tmp 24)], argTypes := #[86, 86] }, none⟩, []⟩,
  ⟨⟨some 22, Op.move (Operand.tmp 25), none⟩, []⟩,
  ⟨⟨some 26, Op.extract (Operand.tmp 22) 0, none⟩, []⟩,
  ⟨⟨some 27, Op.extract (Operand.tmp 22) 1, none⟩, []⟩,
  ⟨⟨some 8, Op.assign (Operand.tmp 26), none⟩, []⟩,
  ⟨⟨some 9, Op.assign (Operand.tmp 27), none⟩, []⟩]) (.seq (.reg [⟨⟨some 28, Op.move (Operand.tmp 8), none⟩, []⟩,
  ⟨⟨some 29, Op.move (Operand.tmp 9), none⟩, []⟩,
  ⟨⟨some 4, Op.assign (Operand.tmp 28), none⟩, []⟩,
  ⟨⟨some 5, Op.assign (Operand.tmp 29), none⟩, []⟩]) .ret))))
theorem sl192 : slim Tryz.f192.ntmps ords192 (Tryz.f192.body.getD .skip) = some cd192 := by kernel_rfl
theorem in192 {args : List Value} {H : AH} {R : Value → AH → Prop} (hl : args.length = 2) (h : ∀ (Q : Exit → Sl → AH → Prop), (∀ e s H, endA Tryz.prog [ResultVar.tmp 4, ResultVar.tmp 5] R e s H → Q e s H) → wpC Tryz.prog cd192 Q (enterA args) H) : ACalls Tryz.prog 192 args H R :=
  ACalls.intro (by kernel_rfl) Tryz.func192 rfl (by kernel_rfl) sl192 hl (of_decide_eq_true (by kernel_rfl)) (by kernel_rfl) h
def ords172 : List (Nat × List (Nat × Bool)) := [(9, [(0, false), (1, false), (2, false), (3, false), (4, false), (5, false), (6, false), (7, true), (8, false), (9, true)])]
def cd172 : Cd := (.seq (.reg [⟨⟨some 4, Op.assign (Operand.const (Value.slice none 0 0)), none⟩, []⟩]) (.seq (.seq (.reg [⟨⟨some 9, Op.move (Operand.tmp 1), none⟩, []⟩,
  ⟨⟨some 10, Op.binOp BinOp.lss 3 (Operand.tmp 9) (Operand.const (Value.int IntKind.i64 0)) 3, none⟩, []⟩]) (.cond (Operand.tmp 10) (.reg [⟨⟨some 11, Op.makeInterface 9 (Operand.const (Value.string { data := #[99, 97, 110, 110, 111, 116, 32, 98, 101, 32, 110, 101, 103, 97, 116, 105, 118, 101] })), none⟩, []⟩,
  ⟨⟨none, Op.panic (Operand.tmp 11), none⟩, []⟩]) .skip)) (.seq (.reg [⟨⟨some 13, Op.move (Operand.tmp 0), none⟩, []⟩,
  ⟨⟨some 14, Op.call { callee := (Callee.builtin Builtin.len), args := #[(Operand.tmp 13)], argTypes := #[38] }, none⟩, []⟩,
  ⟨⟨some 15, Op.convert 3 108 (Operand.tmp 14), none⟩, []⟩,
  ⟨⟨some 16, Op.move (Operand.tmp 1), none⟩, []⟩,
  ⟨⟨some 17, Op.convert 3 108 (Operand.tmp 16), none⟩, []⟩,
  ⟨⟨some 18, Op.call { callee := (Callee.value (Operand.func 192)), args := #[(Operand.tmp 15), (Operand.tmp 17)], argTypes := #[108, 108] }, none⟩, []⟩,
  ⟨⟨some 12, Op.move (Operand.tmp 18), none⟩, []⟩,
  ⟨⟨some 19, Op.extract (Operand.tmp 12) 0, none⟩, []⟩,
  ⟨⟨some 20, Op.extract (Operand.tmp 12) 1, none⟩, []⟩,
  ⟨⟨some 5, Op.assign (Operand.tmp 19), none⟩, []⟩,
  ⟨⟨some 6, Op.assign (Operand.tmp 20), none⟩, []⟩]) (.seq (.seq (.reg [⟨⟨some 21, Op.move (Operand.tmp 5), none⟩, []⟩,
  ⟨⟨some 22, Op.binOp BinOp.gtr 108 (Operand.tmp 21) (Operand.const (Value.int IntKind.u64 0)) 108, none⟩, []⟩,
  ⟨⟨some 23, Op.move (Operand.tmp 22), none⟩, []⟩,
  ⟨⟨some 24, Op.move (Operand.tmp 6), some (23, false)⟩, []⟩,
  ⟨⟨some 25, Op.binOp BinOp.gtr 108 (Operand.tmp 24) (Operand.const (Value.int IntKind.u64 9223372036854775807)) 108, some (23, false)⟩, []⟩,
  ⟨⟨some 26, Op.pick (Operand.tmp 23) (Operand.const (Value.bool true)) (Operand.tmp 25), none⟩, []⟩]) (.cond (Operand.tmp 26) (.reg [⟨⟨some 27, Op.makeInterface 9 (Operand.const (Value.string { data := #[116, 104, 101, 32, 114, 101, 115, 117, 108, 116, 32, 111, 102, 32, 40, 108, 101, 110, 40, 120, 41, 32, 42, 32, 99, 111, 117, 110, 116, 41, 32, 111, 118, 101, 114, 102, 108, 111, 119, 115] })), none⟩, []⟩,
  ⟨⟨none, Op.panic (Operand.tmp 27), none⟩, []⟩]) .skip)) (.seq (.reg [⟨⟨some 28, Op.move (Operand.tmp 6), none⟩, []⟩,
  ⟨⟨some 29, Op.convert 108 3 (Operand.tmp 28), none⟩, []⟩,
  ⟨⟨some 30, Op.makeSlice 38 (Operand.tmp 29) (Operand.tmp 29), none⟩, []⟩,
  ⟨⟨some 7, Op.assign (Operand.tmp 30), none⟩, []⟩]) (.seq (.reg [⟨⟨some 31, Op.move (Operand.tmp 7), none⟩, []⟩,
  ⟨⟨some 32, Op.move (Operand.tmp 0), none⟩, []⟩,
  ⟨⟨some 33, Op.call { callee := (Callee.builtin Builtin.copy), args := #[(Operand.tmp 31), (Operand.tmp 32)], argTypes := #[38, 38] }, none⟩, []⟩,
  ⟨⟨some 8, Op.assign (Operand.tmp 33), none⟩, []⟩]) (.seq (.block 0 (.loop (.seq (.seq (.reg [⟨⟨some 34, Op.move (Operand.tmp 8), none⟩, []⟩,
  ⟨⟨some 35, Op.move (Operand.tmp 7), none⟩, []⟩,
  ⟨⟨some 36, Op.call { callee := (Callee.builtin Builtin.len), args := #[(Operand.tmp 35)], argTypes := #[38] }, none⟩, []⟩,
  ⟨⟨some 37, Op.binOp BinOp.lss 3 (Operand.tmp 34) (Operand.tmp 36) 3, none⟩, []⟩]) (.cond (Operand.tmp 37) .skip (.exit 0))) (.block 1 (.reg [⟨⟨some 38, Op.move (Operand.tmp 8), none⟩, []⟩,
  ⟨⟨some 39, Op.move (Operand.tmp 7), none⟩, []⟩,
  ⟨⟨some 40, Op.move (Operand.tmp 8), none⟩, []⟩,
  ⟨⟨some 41, Op.slice 38 (Operand.tmp 39) (some (Operand.tmp 40)) none none, none⟩, []⟩,
  ⟨⟨some 42, Op.move (Operand.tmp 7), none⟩, []⟩,
  ⟨⟨some 43, Op.move (Operand.tmp 8), none⟩, []⟩,
  ⟨⟨some 44, Op.slice 38 (Operand.tmp 42) none (some (Operand.tmp 43)) none, none⟩, []⟩,
  ⟨⟨some 45, Op.call { callee := (Callee.builtin Builtin.copy), args := #[(Operand.tmp 41), (Operand.tmp 44)], argTypes := #[38, 38] }, none⟩, []⟩,
  ⟨⟨some 46, Op.binOp BinOp.add 3 (Operand.tmp 38) (Operand.tmp 45) 3, none⟩, []⟩,
  ⟨⟨some 8, Op.assign (Operand.tmp 46), none⟩, []⟩]))))) (.seq (.reg [⟨⟨some 47, Op.move (Operand.tmp 7), none⟩, []⟩,
  ⟨⟨some 4, Op.assign (Operand.tmp 47), none⟩, []⟩]) .ret))))))))
theorem sl172 : slim Tryz.f172.ntmps ords172 (Tryz.f172.body.getD .skip) = some cd172 := by kernel_rfl
theorem in172 {args : List Value} {H : AH} {R : Value → AH → Prop} (hl : args.length = 2) (h : ∀ (Q : Exit → Sl → AH → Prop), (∀ e s H, endA Tryz.prog [ResultVar.tmp 4] R e s H → Q e s H) → wpC Tryz.prog cd172 Q (enterA args) H) : ACalls Tryz.prog 172 args H R :=
  ACalls.intro (by kernel_rfl) Tryz.func172 rfl (by kernel_rfl) sl172 hl (of_decide_eq_true (by kernel_rfl)) (by kernel_rfl) h
end Go.Proofs.YtlfongfhbkefmaaGreat.Ai
namespace Go.Proofs.YtlfongfhbkefmaaGreat.Ai
open Go Go.RowKit
set_option linter.unusedVariables false
set_option linter.unusedSimpArgs false
/-- a part of an object -/
theorem sl_own {P : Program} {t e : TypeId} (hu : P.underlying t = some (.slice e)) (hc : P.cellsOf e = 1) {H : AH} {o k n c : Nat} {vs : List Value} {ro : Bool} (ho : H[o]? = some (.cells vs e ro)) {lo hi : Option Value} {l r : Nat} (h1 : boundA lo 0 = some l) (h2 : boundA hi n = some r) (hl : l ≤ r) (hr : r ≤ n) :
    sliceA P t (.slice (some ⟨o, k, none⟩) n c) lo hi none H = some (.slice (some ⟨o, k + l, none⟩) (r - l) (r - l)) := by
  simp only [sliceA, hu, h1, h2, ho, hc, Nat.mul_one]
  rw [if_pos ⟨hl, hr, trivial, Nat.one_pos⟩]
/-- a row, copied into one's own -/
theorem cp_ints {P : Program} {t e : TypeId} (hu : P.underlying t = some (.slice e)) (hc : P.cellsOf e = 1) {H : AH} {o k n c : Nat} {xs ys : List Int} {x : Value} (ho : H[o]? = some (.cells (ints xs) e false)) (hr : Row e H x ys) (hm : 0 < ys.length) (hn : 0 < n) (hb : k + n ≤ xs.length) :
    copyA P t (.slice (some ⟨o, k, none⟩) n c) x H = some (.int .i64 ((min ys.length n : Nat) : Int), H.set o (.cells (ints (xs.take k ++ ys.take (min ys.length n) ++ xs.drop (k + min ys.length n))) e false)) := by
  have hs := hr.cells (P := P) hc
  simp only [copyA, hu, ho, hs, hc, Nat.mul_one]
  rw [if_pos ⟨trivial, Nat.one_pos, hm, hn, by rw [ints_len]; exact hb⟩]
  have : putAt (ints xs) k ((ints ys).take (min ys.length n)) = ints (xs.take k ++ ys.take (min ys.length n) ++ xs.drop (k + min ys.length n)) := by
    unfold putAt
    have e1 : ((ints ys).take (min ys.length n)).length = min ys.length n := by rw [List.length_take, ints_len]; omega
    rw [e1]
    simp [ints, List.map_take, List.map_drop]
  rw [this]
theorem mul_one_u (P : Program) (t : TypeId) (n : Nat) (h : n < 18446744073709551616) : binA P .mul t (.int .u64 1) (.int .u64 (n : Int)) = some (.int .u64 (n : Int)) := by
  simp only [binA, intA, Int.one_mul, IntKind.wrap_u64]
  simp
  omega
theorem mul_zero_u (P : Program) (t : TypeId) (n : Nat) : binA P .mul t (.int .u64 0) (.int .u64 (n : Int)) = some (.int .u64 0) := by
  simp only [binA, intA, Int.zero_mul, IntKind.wrap_u64]
  simp
theorem shr32 (P : Program) (t : TypeId) (n : Nat) (h : n < 4294967296) : binA P .shr t (.int .u64 (n : Int)) (.int .u64 32) = some (.int .u64 0) := by
  simp only [binA, shiftA]
  rw [if_pos (.inr trivial), if_neg (by decide)]
  congr 2
  have : (2 ^ min (32 : Int).toNat IntKind.u64.bits : Int) = 4294967296 := by decide
  rw [this, Int.fdiv_eq_ediv_of_nonneg _ (by decide)]
  omega
theorem and32 (P : Program) (t : TypeId) (n : Nat) (h : n < 4294967296) : binA P .and t (.int .u64 (n : Int)) (.int .u64 4294967295) = some (.int .u64 (n : Int)) := by
  have := bin_and P t n 4294967295 (by omega) (by decide)
  have e : n &&& 4294967295 = n := by
    rw [show 4294967295 = 2 ^ 32 - 1 from rfl, Nat.and_two_pow_sub_one_eq_mod]
    exact Nat.mod_eq_of_lt h
  rw [e] at this
  exact this
set_option maxRecDepth 20000 in
theorem Mul64_c (n : Nat) (H : AH) (hn : n < 4294967296) : ACalls Tryz.prog 202 [.int .u64 1, .int .u64 (n : Int)] H fun r H' => r = .tuple (List.toArray [.int .u64 0, .int .u64 (n : Int)]) ∧ H = H' := by
  refine in202 rfl ?_
  intro Q hQ
  have k1 : binA Tryz.prog .and 86 (.int .u64 1) (.int .u64 4294967295) = some (.int .u64 1) := by kernel_rfl
  have k2 : binA Tryz.prog .shr 86 (.int .u64 1) (.int .u64 32) = some (.int .u64 0) := by kernel_rfl
  have k3 := and32 Tryz.prog 86 n hn
  have k4 := shr32 Tryz.prog 86 n hn
  have k5 := mul_one_u Tryz.prog 86 n (by omega)
  have k6 := mul_zero_u Tryz.prog 86 n
  have k7 : binA Tryz.prog .add 86 (.int .u64 0) (.int .u64 0) = some (.int .u64 0) := by kernel_rfl
  have k8 : binA Tryz.prog .and 86 (.int .u64 0) (.int .u64 4294967295) = some (.int .u64 0) := by kernel_rfl
  have k9 : binA Tryz.prog .shr 86 (.int .u64 0) (.int .u64 32) = some (.int .u64 0) := by kernel_rfl
  have k10 : binA Tryz.prog .mul 86 (.int .u64 1) (.int .u64 0) = some (.int .u64 0) := by kernel_rfl
  have k11 : binA Tryz.prog .mul 86 (.int .u64 0) (.int .u64 0) = some (.int .u64 0) := by kernel_rfl
  simp (maxSteps := 1000000) (disch := omega) only [cd202, k1, k2, k3, k4, k5, k6, k7, k8, k9, k10, k11, S, S1, S2, S3, S4, S5, ST, eq_self, reduceIte, reduceCtorEq, Nat.reduceEqDiff, Nat.reduceAdd]
  refine hQ _ _ _ ?_
  simp (maxSteps := 1000000) (disch := omega) only [S, S1, S2, S3, S4, S5, ST, eq_self, reduceIte, reduceCtorEq, Nat.reduceEqDiff, Nat.reduceAdd]
theorem Mul_c (n : Nat) (H : AH) (hn : n < 4294967296) : ACalls Tryz.prog 192 [.int .u64 1, .int .u64 (n : Int)] H fun r H' => r = .tuple (List.toArray [.int .u64 0, .int .u64 (n : Int)]) ∧ H = H' := by
  refine in192 rfl ?_
  intro Q hQ
  simp (maxSteps := 1000000) (disch := omega) only [cd192, S, S1, S2, S3, S4, S5, ST, eq_self, reduceIte, reduceCtorEq, Nat.reduceEqDiff, Nat.reduceAdd]
  refine CallH.by (Mul64_c n H hn) ?_
  rintro _ _ ⟨rfl, rfl⟩
  simp (maxSteps := 1000000) (disch := omega) only [S, S1, S2, S3, S4, S5, ST, eq_self, reduceIte, reduceCtorEq, Nat.reduceEqDiff, Nat.reduceAdd]
  refine hQ _ _ _ ?_
  simp (maxSteps := 1000000) (disch := omega) only [S, S1, S2, S3, S4, S5, ST, eq_self, reduceIte, reduceCtorEq, Nat.reduceEqDiff, Nat.reduceAdd]
def rpN (N k : Nat) : List Int := List.replicate k (-1) ++ List.replicate (N - k) 0
theorem rpN_step (N k : Nat) (hk : k ≤ N) : (rpN N k).take k ++ (List.replicate k (-1 : Int)).take (min k (N - k)) ++ (rpN N k).drop (k + min k (N - k)) = rpN N (k + min k (N - k)) := by
  unfold rpN
  rw [List.take_left' (by simp), List.take_replicate, ← List.drop_drop, List.drop_left' (by simp), List.drop_replicate, List.replicate_append_replicate]
  congr 2 <;> omega
theorem rpN_take (N k : Nat) : (rpN N k).take k = List.replicate k (-1) := by
  unfold rpN
  rw [List.take_left' (by simp)]
theorem rpN_len (N k : Nat) (h : k ≤ N) : (rpN N k).length = N := by simp [rpN]; omega
set_option maxRecDepth 20000 in
set_option maxHeartbeats 1000000 in
theorem Repeat_c (v : Value) (N : Nat) (H : AH) (hr : Row 3 H v [-1]) (hN : 1 ≤ N ∧ N ≤ 1000000000) : ACalls Tryz.prog 172 [v, .int .i64 (N : Int)] H fun r H' => Own 3 H H' r (List.replicate N (-1)) ∧ H <+: H' := by
  refine in172 rfl ?_
  intro Q hQ
  have hU : IntKind.u64.wrap (N : Int) = (N : Int) := by rw [IntKind.wrap_u64]; omega
  have hU1 : IntKind.u64.wrap 1 = 1 := by decide
  simp (maxSteps := 1000000) (disch := omega) only [cd172, hr.len Tryz.underlying38, S, S1, S2, S3, S4, S5, ST, eq_self, reduceIte, reduceCtorEq, Nat.reduceEqDiff, Nat.reduceAdd]
  refine brD.intro (fun g => absurd g (by omega)) (fun g => ?_)
  have hl1 : (([-1] : List Int).length : Int) = 1 := rfl
  simp (maxSteps := 1000000) (disch := omega) only [hr.len Tryz.underlying38, hU, hl1, hU1, S, S1, S2, S3, S4, S5, ST, eq_self, reduceIte, reduceCtorEq, Nat.reduceEqDiff, Nat.reduceAdd]
  refine CallH.by (Mul_c N H (by omega)) ?_
  rintro _ _ ⟨rfl, rfl⟩
  have d0 : ¬ ((0 : Int) > 0) := by decide
  simp (maxSteps := 1000000) (disch := omega) only [d0, S, S1, S2, S3, S4, S5, ST, eq_self, reduceIte, reduceCtorEq, Nat.reduceEqDiff, Nat.reduceAdd]
  refine brD.intro (fun g => absurd g (by omega)) (fun g2 => ?_)
  simp (maxSteps := 1000000) (disch := omega) only [wrap64, mks38, Int.toNat_natCast, S, S1, S2, S3, S4, S5, ST, eq_self, reduceIte, reduceCtorEq, Nat.reduceEqDiff, Nat.reduceAdd]
  generalize hz : H ++ [AObj.cells (ints (List.replicate N 0)) 3 false] = Z
  have pZ : H <+: Z := by rw [← hz]; exact List.prefix_append _ _
  have cZ : Z[H.length]? = some (.cells (ints (List.replicate N 0)) 3 false) := by rw [← hz]; exact at_new ..
  have c1 := cp_ints (P := Tryz.prog) (t := 38) (k := 0) (n := N) (c := N) Tryz.underlying38 cs3 cZ (hr.pre pZ) (by decide) (by omega) (by simp)
  have e1 : min ([-1] : List Int).length N = 1 := by simp; omega
  have e2 : (List.replicate N (0 : Int)).take 0 ++ ([-1] : List Int).take 1 ++ (List.replicate N (0 : Int)).drop (0 + 1) = rpN N 1 := by simp [rpN, List.drop_replicate]
  rw [e1, e2] at c1
  simp (maxSteps := 1000000) (disch := omega) only [c1, S, S1, S2, S3, S4, S5, ST, eq_self, reduceIte, reduceCtorEq, Nat.reduceEqDiff, Nat.reduceAdd]
  refine LoopH.by (fun m s H' => ∃ k, m + k = N ∧ 1 ≤ k ∧ s 7 = .slice (some ⟨H.length, 0, none⟩) N N ∧ s 8 = .int .i64 ((k : Nat) : Int) ∧ H' = Z.set H.length (.cells (ints (rpN N k)) 3 false)) (N - 1) ?_ ?_
  · exact ⟨1, by omega, by omega, rfl, rfl, rfl⟩
  · rintro m s H' ⟨k, hm, hk1, h7, h8, rfl⟩
    have cK : (Z.set H.length (.cells (ints (rpN N k)) 3 false))[H.length]? = some (.cells (ints (rpN N k)) 3 false) := at_set cZ
    simp (maxSteps := 1000000) (disch := omega) only [h7, h8, S, S1, S2, S3, S4, S5, ST, eq_self, reduceIte, reduceCtorEq, Nat.reduceEqDiff, Nat.reduceAdd]
    refine brD.intro (fun g => ?_) (fun g => ?_)
    · have hk : k < N := by omega
      have s1 := sl_own (P := Tryz.prog) (t := 38) (k := 0) (n := N) (c := N) Tryz.underlying38 cs3 cK (bound_some (k := .i64) (i := (k : Int)) (by omega) 0) (hi_none N) (show ((k : Int)).toNat ≤ N by omega) (Nat.le_refl _)
      have s2 := sl_own (P := Tryz.prog) (t := 38) (k := 0) (n := N) (c := N) Tryz.underlying38 cs3 cK lo_none (bound_some (k := .i64) (i := (k : Int)) (by omega) N) (Nat.zero_le _) (show ((k : Int)).toNat ≤ N by omega)
      simp only [Int.toNat_natCast, Nat.zero_add, Nat.sub_zero] at s1 s2
      have hrk : Row 3 (Z.set H.length (.cells (ints (rpN N k)) 3 false)) (.slice (some ⟨H.length, 0, none⟩) k k) (List.replicate k (-1)) := by
        refine .inr ⟨H.length, 0, ints (rpN N k), false, by simp, cK, by rw [ints_len, rpN_len N k (by omega)]; simp; omega, ?_⟩
        rw [List.length_replicate, List.drop_zero]
        have : (ints (rpN N k)).take k = ints ((rpN N k).take k) := by simp [ints, List.map_take]
        rw [this, rpN_take]
      have c2 := cp_ints (P := Tryz.prog) (t := 38) (k := k) (n := N - k) (c := N - k) Tryz.underlying38 cs3 cK hrk (by simp; omega) (by omega) (by rw [rpN_len N k (by omega)]; omega)
      rw [List.length_replicate, rpN_step N k (by omega), List.set_set] at c2
      simp (maxSteps := 1000000) (disch := omega) only [h7, h8, s1, s2, c2, wrap64, S, S1, S2, S3, S4, S5, ST, eq_self, reduceIte, reduceCtorEq, Nat.reduceEqDiff, Nat.reduceAdd]
      refine ⟨m - min k (N - k), by omega, k + min k (N - k), ?_⟩
      (repeat' apply And.intro) <;> first | (simp only [Value.int.injEq, true_and]; omega) | omega | rfl | assumption | (simp; done) | (simp; omega)
    · simp (maxSteps := 1000000) (disch := omega) only [h7, S, S1, S2, S3, S4, S5, ST, eq_self, reduceIte, reduceCtorEq, Nat.reduceEqDiff, Nat.reduceAdd]
      refine hQ _ _ _ ?_
      simp (maxSteps := 1000000) (disch := omega) only [h7, S, S1, S2, S3, S4, S5, ST, eq_self, reduceIte, reduceCtorEq, Nat.reduceEqDiff, Nat.reduceAdd]
      have : k = N := by omega
      subst this
      have e3 : rpN k k = List.replicate k (-1) := by simp [rpN]
      rw [e3]
      have hZ := at_set (d := .cells (ints (List.replicate k (-1))) 3 false) cZ
      exact ⟨.inr ⟨H.length, by rw [List.length_replicate], Nat.le_refl _, hZ⟩, pre_set pZ (Nat.le_refl _) _⟩
theorem rpN_set (N j : Nat) (hj : j < N) : (rpN N j).set j (-1) = rpN N (j + 1) := by
  unfold rpN
  rw [List.set_append_right _ _ (by simp)]
  obtain ⟨n, hn⟩ : ∃ n, N - j = n + 1 := ⟨N - j - 1, by omega⟩
  rw [hn, List.length_replicate, Nat.sub_self, List.replicate_succ, List.set_cons_zero, List.replicate_succ', List.append_assoc]
  have : N - (j + 1) = n := by omega
  rw [this]; rfl
end Go.Proofs.YtlfongfhbkefmaaGreat.Ai
namespace Go.Proofs.YtlfongfhbkefmaaGreat.Ai
open Go
def ords143 : List (Nat × List (Nat × Bool)) := []
def cd143 : Cd := (.seq (.reg [⟨⟨some 4, Op.assign (Operand.const (Value.slice none 0 0)), none⟩, []⟩]) (.seq (.reg [⟨⟨some 10, Op.buildSlice 38 1 #[(0, (Operand.const (Value.int IntKind.i64 (-1))))], none⟩, []⟩,
  ⟨⟨some 11, Op.move (Operand.tmp 0), none⟩, []⟩,
  ⟨⟨some 12, Op.call { callee := (Callee.builtin Builtin.len), args := #[(Operand.tmp 11)], argTypes := #[26] }, none⟩, []⟩,
  ⟨⟨some 13, Op.call { callee := (Callee.value (Operand.func 172)), args := #[(Operand.tmp 10), (Operand.tmp 12)], argTypes := #[38, 3] }, none⟩, []⟩,
  ⟨⟨some 5, Op.assign (Operand.tmp 13), none⟩, []⟩]) (.seq (.reg [⟨⟨some 14, Op.move (Operand.tmp 5), none⟩, []⟩,
  ⟨⟨some 15, Op.move (Operand.tmp 1), none⟩, []⟩,
  ⟨⟨some 16, Op.indexAddr 38 (Operand.tmp 14) (Operand.tmp 15), none⟩, []⟩,
  ⟨⟨none, Op.store 3 (Operand.tmp 16) (Operand.const (Value.int IntKind.i64 0)), none⟩, []⟩]) (.seq (.reg [⟨⟨some 17, Op.move (Operand.tmp 1), none⟩, []⟩,
  ⟨⟨some 18, Op.buildSlice 38 1 #[(0, (Operand.tmp 17))], none⟩, []⟩,
  ⟨⟨some 6, Op.assign (Operand.tmp 18), none⟩, []⟩]) (.seq (.block 0 (.loop (.seq (.seq (.reg [⟨⟨some 19, Op.move (Operand.tmp 6), none⟩, []⟩,
  ⟨⟨some 20, Op.call { callee := (Callee.builtin Builtin.len), args := #[(Operand.tmp 19)], argTypes := #[38] }, none⟩, []⟩,
  ⟨⟨some 21, Op.binOp BinOp.gtr 3 (Operand.tmp 20) (Operand.const (Value.int IntKind.i64 0)) 3, none⟩, []⟩]) (.cond (Operand.tmp 21) .skip (.exit 0))) (.block 1 (.seq (.reg [⟨⟨some 22, Op.move (Operand.tmp 6), none⟩, []⟩,
  ⟨⟨some 23, Op.indexAddr 38 (Operand.tmp 22) (Operand.const (Value.int IntKind.i64 0)), none⟩, []⟩,
  ⟨⟨some 24, Op.load 3 (Operand.tmp 23), none⟩, []⟩,
  ⟨⟨some 7, Op.assign (Operand.tmp 24), none⟩, []⟩]) (.seq (.reg [⟨⟨some 25, Op.move (Operand.tmp 6), none⟩, []⟩,
  ⟨⟨some 26, Op.slice 38 (Operand.tmp 25) (some (Operand.const (Value.int IntKind.i64 1))) none none, none⟩, []⟩,
  ⟨⟨some 6, Op.assign (Operand.tmp 26), none⟩, []⟩]) (.seq (.reg [⟨⟨some 27, Op.move (Operand.tmp 0), none⟩, []⟩,
  ⟨⟨some 28, Op.move (Operand.tmp 7), none⟩, []⟩,
  ⟨⟨some 29, Op.indexAddr 26 (Operand.tmp 27) (Operand.tmp 28), none⟩, []⟩,
  ⟨⟨some 30, Op.load 38 (Operand.tmp 29), none⟩, []⟩,
  ⟨⟨some 31, Op.call { callee := (Callee.builtin Builtin.len), args := #[(Operand.tmp 30)], argTypes := #[38] }, none⟩, []⟩,
  ⟨⟨some 32, Op.move (Operand.const (Value.int IntKind.i64 0)), none⟩, []⟩]) (.block 2 (.loop (.seq (.reg [⟨⟨some 33, Op.binOp BinOp.lss 3 (Operand.tmp 32) (Operand.tmp 31) 3, none⟩, []⟩]) (.seq (.cond (Operand.tmp 33) .skip (.exit 2)) (.seq (.block 3 (.seq (.reg [⟨⟨some 34, Op.indexAddr 38 (Operand.tmp 30) (Operand.tmp 32), none⟩, []⟩,
  ⟨⟨some 35, Op.load 3 (Operand.tmp 34), none⟩, []⟩,
  ⟨⟨some 9, Op.assign (Operand.tmp 35), none⟩, []⟩]) (.seq (.reg [⟨⟨some 36, Op.move (Operand.tmp 5), none⟩, []⟩,
  ⟨⟨some 37, Op.move (Operand.tmp 9), none⟩, []⟩,
  ⟨⟨some 38, Op.indexAddr 38 (Operand.tmp 36) (Operand.tmp 37), none⟩, []⟩,
  ⟨⟨some 39, Op.load 3 (Operand.tmp 38), none⟩, []⟩,
  ⟨⟨some 40, Op.binOp BinOp.lss 3 (Operand.tmp 39) (Operand.const (Value.int IntKind.i64 0)) 3, none⟩, []⟩]) (.cond (Operand.tmp 40) (.seq (.reg [⟨⟨some 41, Op.move (Operand.tmp 5), none⟩, []⟩,
  ⟨⟨some 42, Op.move (Operand.tmp 9), none⟩, []⟩,
  ⟨⟨some 43, Op.move (Operand.tmp 5), none⟩, []⟩,
  ⟨⟨some 44, Op.move (Operand.tmp 7), none⟩, []⟩,
  ⟨⟨some 45, Op.indexAddr 38 (Operand.tmp 43) (Operand.tmp 44), none⟩, []⟩,
  ⟨⟨some 46, Op.load 3 (Operand.tmp 45), none⟩, []⟩,
  ⟨⟨some 47, Op.binOp BinOp.add 3 (Operand.tmp 46) (Operand.const (Value.int IntKind.i64 1)) 3, none⟩, []⟩,
  ⟨⟨some 48, Op.indexAddr 38 (Operand.tmp 41) (Operand.tmp 42), none⟩, []⟩,
  ⟨⟨none, Op.store 3 (Operand.tmp 48) (Operand.tmp 47), none⟩, []⟩]) (.reg [⟨⟨some 49, Op.move (Operand.tmp 6), none⟩, []⟩,
  ⟨⟨some 50, Op.move (Operand.tmp 9), none⟩, []⟩,
  ⟨⟨some 51, Op.buildSlice 38 1 #[(0, (Operand.tmp 50))], none⟩, []⟩,
  ⟨⟨some 52, Op.call { callee := (Callee.builtin Builtin.append), args := #[(Operand.tmp 49), (Operand.tmp 51)], argTypes := #[38, 38] }, none⟩, []⟩,
  ⟨⟨some 6, Op.assign (Operand.tmp 52), none⟩, []⟩])) .skip)))) (.reg [⟨⟨some 53, Op.binOp BinOp.add 3 (Operand.tmp 32) (Operand.const (Value.int IntKind.i64 1)) 3, none⟩, []⟩,
  ⟨⟨some 32, Op.move (Operand.tmp 53), none⟩, []⟩]))))))))))))) (.seq (.reg [⟨⟨some 54, Op.move (Operand.tmp 5), none⟩, []⟩,
  ⟨⟨some 4, Op.assign (Operand.tmp 54), none⟩, []⟩]) .ret))))))
theorem sl143 : slim Tryz.f143.ntmps ords143 (Tryz.f143.body.getD .skip) = some cd143 := by kernel_rfl
theorem in143 {args : List Value} {H : AH} {R : Value → AH → Prop} (hl : args.length = 2) (h : ∀ (Q : Exit → Sl → AH → Prop), (∀ e s H, endA Tryz.prog [ResultVar.tmp 4] R e s H → Q e s H) → wpC Tryz.prog cd143 Q (enterA args) H) : ACalls Tryz.prog 143 args H R :=
  ACalls.intro (by kernel_rfl) Tryz.func143 rfl (by kernel_rfl) sl143 hl (of_decide_eq_true (by kernel_rfl)) (by kernel_rfl) h
def ords137 : List (Nat × List (Nat × Bool)) := [(16, [(0, false), (1, false), (2, false), (3, false), (4, false), (5, false), (6, false), (7, false), (8, false), (9, false), (10, false), (11, false), (12, false), (13, false), (14, true)])]
def cd137 : Cd := (.seq (.reg [⟨⟨some 4, Op.assign (Operand.const (Value.slice none 0 0)), none⟩, []⟩]) (.seq (.reg [⟨⟨some 11, Op.move (Operand.tmp 0), none⟩, []⟩,
  ⟨⟨some 12, Op.call { callee := (Callee.builtin Builtin.len), args := #[(Operand.tmp 11)], argTypes := #[26] }, none⟩, []⟩,
  ⟨⟨some 13, Op.makeSlice 38 (Operand.tmp 12) (Operand.tmp 12), none⟩, []⟩,
  ⟨⟨some 5, Op.assign (Operand.tmp 13), none⟩, []⟩]) (.seq (.seq (.reg [⟨⟨some 6, Op.assign (Operand.const (Value.int IntKind.i64 0)), none⟩, []⟩]) (.block 0 (.loop (.seq (.seq (.reg [⟨⟨some 14, Op.move (Operand.tmp 6), none⟩, []⟩,
  ⟨⟨some 15, Op.move (Operand.tmp 5), none⟩, []⟩,
  ⟨⟨some 16, Op.call { callee := (Callee.builtin Builtin.len), args := #[(Operand.tmp 15)], argTypes := #[38] }, none⟩, []⟩,
  ⟨⟨some 17, Op.binOp BinOp.lss 3 (Operand.tmp 14) (Operand.tmp 16) 3, none⟩, []⟩]) (.cond (Operand.tmp 17) .skip (.exit 0))) (.seq (.block 1 (.reg [⟨⟨some 20, Op.move (Operand.tmp 5), none⟩, []⟩,
  ⟨⟨some 21, Op.move (Operand.tmp 6), none⟩, []⟩,
  ⟨⟨some 22, Op.indexAddr 38 (Operand.tmp 20) (Operand.tmp 21), none⟩, []⟩,
  ⟨⟨none, Op.store 3 (Operand.tmp 22) (Operand.const (Value.int IntKind.i64 (-1))), none⟩, []⟩])) (.reg [⟨⟨some 18, Op.move (Operand.tmp 6), none⟩, []⟩,
  ⟨⟨some 19, Op.binOp BinOp.add 3 (Operand.tmp 18) (Operand.const (Value.int IntKind.i64 1)) 3, none⟩, []⟩,
  ⟨⟨some 6, Op.assign (Operand.tmp 19), none⟩, []⟩])))))) (.seq (.reg [⟨⟨some 23, Op.move (Operand.tmp 1), none⟩, []⟩,
  ⟨⟨some 24, Op.buildSlice 38 1 #[(0, (Operand.tmp 23))], none⟩, []⟩,
  ⟨⟨some 7, Op.assign (Operand.tmp 24), none⟩, []⟩]) (.seq (.reg [⟨⟨some 25, Op.move (Operand.tmp 5), none⟩, []⟩,
  ⟨⟨some 26, Op.move (Operand.tmp 1), none⟩, []⟩,
  ⟨⟨some 27, Op.indexAddr 38 (Operand.tmp 25) (Operand.tmp 26), none⟩, []⟩,
  ⟨⟨none, Op.store 3 (Operand.tmp 27) (Operand.const (Value.int IntKind.i64 0)), none⟩, []⟩]) (.seq (.seq (.reg [⟨⟨some 8, Op.assign (Operand.const (Value.int IntKind.i64 0)), none⟩, []⟩]) (.block 2 (.loop (.seq (.seq (.reg [⟨⟨some 28, Op.move (Operand.tmp 8), none⟩, []⟩,
  ⟨⟨some 29, Op.move (Operand.tmp 7), none⟩, []⟩,
  ⟨⟨some 30, Op.call { callee := (Callee.builtin Builtin.len), args := #[(Operand.tmp 29)], argTypes := #[38] }, none⟩, []⟩,
  ⟨⟨some 31, Op.binOp BinOp.lss 3 (Operand.tmp 28) (Operand.tmp 30) 3, none⟩, []⟩]) (.cond (Operand.tmp 31) .skip (.exit 2))) (.seq (.block 3 (.seq (.reg [⟨⟨some 34, Op.move (Operand.tmp 0), none⟩, []⟩,
  ⟨⟨some 35, Op.move (Operand.tmp 7), none⟩, []⟩,
  ⟨⟨some 36, Op.move (Operand.tmp 8), none⟩, []⟩,
  ⟨⟨some 37, Op.indexAddr 38 (Operand.tmp 35) (Operand.tmp 36), none⟩, []⟩,
  ⟨⟨some 38, Op.load 3 (Operand.tmp 37), none⟩, []⟩,
  ⟨⟨some 39, Op.indexAddr 26 (Operand.tmp 34) (Operand.tmp 38), none⟩, []⟩,
  ⟨⟨some 40, Op.load 38 (Operand.tmp 39), none⟩, []⟩,
  ⟨⟨some 9, Op.assign (Operand.tmp 40), none⟩, []⟩]) (.seq (.reg [⟨⟨some 10, Op.assign (Operand.const (Value.int IntKind.i64 0)), none⟩, []⟩]) (.block 4 (.loop (.seq (.seq (.reg [⟨⟨some 41, Op.move (Operand.tmp 10), none⟩, []⟩,
  ⟨⟨some 42, Op.move (Operand.tmp 9), none⟩, []⟩,
  ⟨⟨some 43, Op.call { callee := (Callee.builtin Builtin.len), args := #[(Operand.tmp 42)], argTypes := #[38] }, none⟩, []⟩,
  ⟨⟨some 44, Op.binOp BinOp.lss 3 (Operand.tmp 41) (Operand.tmp 43) 3, none⟩, []⟩]) (.cond (Operand.tmp 44) .skip (.exit 4))) (.seq (.block 5 (.seq (.reg [⟨⟨some 47, Op.move (Operand.tmp 5), none⟩, []⟩,
  ⟨⟨some 48, Op.move (Operand.tmp 9), none⟩, []⟩,
  ⟨⟨some 49, Op.move (Operand.tmp 10), none⟩, []⟩,
  ⟨⟨some 50, Op.indexAddr 38 (Operand.tmp 48) (Operand.tmp 49), none⟩, []⟩,
  ⟨⟨some 51, Op.load 3 (Operand.tmp 50), none⟩, []⟩,
  ⟨⟨some 52, Op.indexAddr 38 (Operand.tmp 47) (Operand.tmp 51), none⟩, []⟩,
  ⟨⟨some 53, Op.load 3 (Operand.tmp 52), none⟩, []⟩,
  ⟨⟨some 54, Op.binOp BinOp.lss 3 (Operand.tmp 53) (Operand.const (Value.int IntKind.i64 0)) 3, none⟩, []⟩]) (.cond (Operand.tmp 54) (.seq (.reg [⟨⟨some 55, Op.move (Operand.tmp 5), none⟩, []⟩,
  ⟨⟨some 56, Op.move (Operand.tmp 9), none⟩, []⟩,
  ⟨⟨some 57, Op.move (Operand.tmp 10), none⟩, []⟩,
  ⟨⟨some 58, Op.indexAddr 38 (Operand.tmp 56) (Operand.tmp 57), none⟩, []⟩,
  ⟨⟨some 59, Op.load 3 (Operand.tmp 58), none⟩, []⟩,
  ⟨⟨some 60, Op.move (Operand.tmp 5), none⟩, []⟩,
  ⟨⟨some 61, Op.move (Operand.tmp 7), none⟩, []⟩,
  ⟨⟨some 62, Op.move (Operand.tmp 8), none⟩, []⟩,
  ⟨⟨some 63, Op.indexAddr 38 (Operand.tmp 61) (Operand.tmp 62), none⟩, []⟩,
  ⟨⟨some 64, Op.load 3 (Operand.tmp 63), none⟩, []⟩,
  ⟨⟨some 65, Op.indexAddr 38 (Operand.tmp 60) (Operand.tmp 64), none⟩, []⟩,
  ⟨⟨some 66, Op.load 3 (Operand.tmp 65), none⟩, []⟩,
  ⟨⟨some 67, Op.binOp BinOp.add 3 (Operand.tmp 66) (Operand.const (Value.int IntKind.i64 1)) 3, none⟩, []⟩,
  ⟨⟨some 68, Op.indexAddr 38 (Operand.tmp 55) (Operand.tmp 59), none⟩, []⟩,
  ⟨⟨none, Op.store 3 (Operand.tmp 68) (Operand.tmp 67), none⟩, []⟩]) (.reg [⟨⟨some 69, Op.move (Operand.tmp 7), none⟩, []⟩,
  ⟨⟨some 70, Op.move (Operand.tmp 9), none⟩, []⟩,
  ⟨⟨some 71, Op.move (Operand.tmp 10), none⟩, []⟩,
  ⟨⟨some 72, Op.indexAddr 38 (Operand.tmp 70) (Operand.tmp 71), none⟩, []⟩,
  ⟨⟨some 73, Op.load 3 (Operand.tmp 72), none⟩, []⟩,
  ⟨⟨some 74, Op.buildSlice 38 1 #[(0, (Operand.tmp 73))], none⟩, []⟩,
  ⟨⟨some 75, Op.call { callee := (Callee.builtin Builtin.append), args := #[(Operand.tmp 69), (Operand.tmp 74)], argTypes := #[38, 38] }, none⟩, []⟩,
  ⟨⟨some 7, Op.assign (Operand.tmp 75), none⟩, []⟩])) .skip))) (.reg [⟨⟨some 45, Op.move (Operand.tmp 10), none⟩, []⟩,
  ⟨⟨some 46, Op.binOp BinOp.add 3 (Operand.tmp 45) (Operand.const (Value.int IntKind.i64 1)) 3, none⟩, []⟩,
  ⟨⟨some 10, Op.assign (Operand.tmp 46), none⟩, []⟩])))))))) (.reg [⟨⟨some 32, Op.move (Operand.tmp 8), none⟩, []⟩,
  ⟨⟨some 33, Op.binOp BinOp.add 3 (Operand.tmp 32) (Operand.const (Value.int IntKind.i64 1)) 3, none⟩, []⟩,
  ⟨⟨some 8, Op.assign (Operand.tmp 33), none⟩, []⟩])))))) (.seq (.reg [⟨⟨some 76, Op.move (Operand.tmp 5), none⟩, []⟩,
  ⟨⟨some 4, Op.assign (Operand.tmp 76), none⟩, []⟩]) .ret)))))))
theorem sl137 : slim Tryz.f137.ntmps ords137 (Tryz.f137.body.getD .skip) = some cd137 := by kernel_rfl
theorem in137 {args : List Value} {H : AH} {R : Value → AH → Prop} (hl : args.length = 2) (h : ∀ (Q : Exit → Sl → AH → Prop), (∀ e s H, endA Tryz.prog [ResultVar.tmp 4] R e s H → Q e s H) → wpC Tryz.prog cd137 Q (enterA args) H) : ACalls Tryz.prog 137 args H R :=
  ACalls.intro (by kernel_rfl) Tryz.func137 rfl (by kernel_rfl) sl137 hl (of_decide_eq_true (by kernel_rfl)) (by kernel_rfl) h
end Go.Proofs.YtlfongfhbkefmaaGreat.Ai
namespace Go.Proofs.YtlfongfhbkefmaaGreat.Ai
open Go Go.RowKit
set_option linter.unusedVariables false
set_option linter.unusedSimpArgs false
/-- the list of distances and the queue in the heap -/
def QH (H0 H : AH) (oo : Nat) (out : List Int) (oq kq nq : Nat) (q : List Int) : Prop :=
  (∃ zs, H[oq]? = some (.cells (ints zs) 3 false) ∧ (zs.drop kq).take nq = q ∧ kq + nq ≤ zs.length) ∧ H[oo]? = some (.cells (ints out) 3 false) ∧ H0.length ≤ oo ∧ H0.length ≤ oq ∧ oq ≠ oo ∧ H0 <+: H
/-- appending to a part of an object of ints -/
theorem app_q {P : Program} {t e : TypeId} (hu : P.underlying t = some (.slice e)) (hc : P.cellsOf e = 1) (hby : P.bytesOf e ≤ 64) (hz : zeroOk P e = true) {H : AH} {o k n c : Nat} {zs : List Int} {x : Int} (ho : H[o]? = some (.cells (ints zs) e false)) (hn : k + n ≤ zs.length) (hb : n ≤ 1099511627775) :
    appendA P t t (.slice (some ⟨o, k, none⟩) n c) (.slice (some ⟨H.length, 0, none⟩) 1 1) (H ++ [.cells [.int .i64 x] e false]) = some (.slice (some ⟨H.length + 1, 0, none⟩) (n + 1) (n + 1), H.set o .dead ++ [.cells [.int .i64 x] e false, .cells (ints ((zs.drop k).take n ++ [x])) e false]) := by
  have hlt : o < H.length := at_lt ho
  have hb2 : (n + 1) * P.bytesOf e ≤ 140737488355328 := by
    refine Nat.le_trans (Nat.mul_le_mul_left _ hby) ?_
    omega
  have ho2 : (H ++ [AObj.cells [.int .i64 x] e false])[o]? = some (.cells (ints zs) e false) := at_app ho _
  have hsc : sliceCells P e (.slice (some ⟨H.length, 0, none⟩) 1 1) (H ++ [.cells [.int .i64 x] e false]) = some (1, [.int .i64 x]) := by
    simp only [sliceCells, at_new, hc]; simp
  simp only [appendA, hu, hc, hsc, ho2, hz]
  rw [if_pos (by simp), if_neg (by simp), if_pos ⟨trivial, by rw [ints_len]; omega, hb2, by omega, trivial⟩]
  have : List.take (n * 1) (List.drop k (ints zs)) ++ [Value.int .i64 x] = ints ((zs.drop k).take n ++ [x]) := by
    simp [ints, List.map_take, List.map_drop]
  rw [this, List.length_append, List.set_append_left _ _ hlt]
  simp
theorem QH.push {H0 H : AH} {oo : Nat} {out : List Int} {oq kq nq : Nat} {q : List Int} (h : QH H0 H oo out oq kq nq q) (y : Nat) (d x : Int) (hb : nq ≤ 1099511627775) :
    ∃ H2, appendA Tryz.prog 38 38 (.slice (some ⟨oq, kq, none⟩) nq nq) (.slice (some ⟨(H.set oo (.cells (ints (out.set y d)) 3 false)).length, 0, none⟩) 1 1) (H.set oo (.cells (ints (out.set y d)) 3 false) ++ [.cells [.int .i64 x] 3 false]) = some (.slice (some ⟨(H.set oo (.cells (ints (out.set y d)) 3 false)).length + 1, 0, none⟩) (nq + 1) (nq + 1), H2) ∧
      QH H0 H2 oo (out.set y d) ((H.set oo (.cells (ints (out.set y d)) 3 false)).length + 1) 0 (nq + 1) (q ++ [x]) := by
  obtain ⟨⟨zs, h1, h2, h3⟩, h4, h5, h6, h7, h8⟩ := h
  have hlt := at_lt h4
  generalize hH1 : H.set oo (.cells (ints (out.set y d)) 3 false) = H1
  have l1 : H1.length = H.length := by rw [← hH1]; simp
  have k1 : H1[oq]? = some (.cells (ints zs) 3 false) := by rw [← hH1, List.getElem?_set_ne (fun e => h7 e.symm)]; exact h1
  have k4 : H1[oo]? = some (.cells (ints (out.set y d)) 3 false) := by rw [← hH1]; exact at_set h4
  have hp1 : H0 <+: H1 := by rw [← hH1]; exact pre_set h8 h5 _
  refine ⟨_, app_q Tryz.underlying38 cs3 (by rw [by3]; decide) zk3 k1 h3 hb, ⟨(zs.drop kq).take nq ++ [x], ?_, ?_, ?_⟩, ?_, h5, ?_, ?_, ?_⟩
  · rw [List.getElem?_append_right (by simp)]
    simp
  · rw [List.drop_zero, h2, List.take_of_length_le]
    rw [← h2]; simp; omega
  · simp; omega
  · rw [List.getElem?_append_left (by simp; omega), List.getElem?_set_ne h7]
    exact k4
  · have := h8.length_le; omega
  · omega
  · exact pre_app (pre_set hp1 h6 _) _
theorem QH.tail {H0 H : AH} {oo : Nat} {out : List Int} {oq kq nq : Nat} {x : Int} {q : List Int} (h : QH H0 H oo out oq kq nq (x :: q)) : QH H0 H oo out oq (kq + 1) (nq - 1) q ∧ cellA H oq kq = some (.int .i64 x) ∧ 0 < nq := by
  obtain ⟨⟨zs, h1, h2, h3⟩, h4⟩ := h
  have hl := congrArg List.length h2
  simp only [List.length_take, List.length_drop, List.length_cons] at hl
  have hk : kq < zs.length := by omega
  obtain ⟨n, rfl⟩ : ∃ n, nq = n + 1 := ⟨nq - 1, by omega⟩
  rw [List.drop_eq_getElem_cons hk, List.take_succ_cons] at h2
  injection h2 with e1 e2
  refine ⟨⟨⟨zs, h1, by simpa using e2, by omega⟩, h4⟩, ?_, by omega⟩
  rw [cell_of h1, ints_at zs hk]
  congr 2
  simp [hk, e1]
theorem bfsIn_drop (d : Int) (l : List Int) (j : Nat) (hj : j < l.length) (st : List Int × List Int) : bfsIn d (l.drop j) st = if st.1.getD (l.getD j 0).toNat 0 < 0 then bfsIn d (l.drop (j + 1)) (st.1.set (l.getD j 0).toNat d, st.2 ++ [l.getD j 0]) else bfsIn d (l.drop (j + 1)) st := by
  have e : l.getD j 0 = l[j] := by simp [hj]
  rw [List.drop_eq_getElem_cons hj, e]
  rfl
set_option maxRecDepth 20000 in
set_option maxHeartbeats 4000000 in
theorem spread_c (v : Value) (L : List (List Int)) (i : Nat) (H : AH) {b : Nat} (hr : RowLB b 38 3 H v L) (hL : LOk L.length L) (hN : L.length ≤ 1000000) (hi : i < L.length) (hls : ∀ x, (L.getD x []).length ≤ 1000000000) :
    ACalls Tryz.prog 143 [v, .int .i64 (i : Int)] H fun r H' => Own 3 H H' r (bfs L i) ∧ H <+: H' := by
  refine in143 rfl ?_
  intro Q hQ
  obtain ⟨us, hus, hvb, hul, hin⟩ := hr
  simp (maxSteps := 1000000) (disch := omega) only [cd143, hus.len Tryz.underlying26, S, S1, S2, S3, S4, S5, ST, eq_self, reduceIte, reduceCtorEq, Nat.reduceEqDiff, Nat.reduceAdd]
  generalize hA : H ++ [AObj.cells [.int .i64 (-1)] 3 false] = A
  have pA : H <+: A := by rw [← hA]; exact List.prefix_append _ _
  have rA : Row 3 A (.slice (some ⟨H.length, 0, none⟩) 1 1) [-1] := .inr ⟨H.length, 0, ints [-1], false, rfl, by rw [← hA]; exact at_new .., by decide, rfl⟩
  rw [hul]
  refine CallH.by (Repeat_c _ L.length A rA (by omega)) ?_
  rintro u B ⟨hu, pB⟩
  rcases hu with ⟨_, h0⟩ | ⟨oo, hu, hol, hoc⟩
  · have : L.length = 0 := by simpa using congrArg List.length h0
    omega
  rw [List.length_replicate] at hu
  subst hu
  have hlr : i < (List.replicate L.length (-1 : Int)).length := by simpa using hi
  simp (maxSteps := 1000000) (disch := omega) only [Int.toNat_natCast, Nat.zero_add, st_ints cs3 hoc hlr, S, S1, S2, S3, S4, S5, ST, eq_self, reduceIte, reduceCtorEq, Nat.reduceEqDiff, Nat.reduceAdd]
  have hb0 : (List.replicate L.length (-1 : Int)).set i 0 = bfs0 L.length i := rfl
  rw [hb0]
  generalize hC : B.set oo (.cells (ints (bfs0 L.length i)) 3 false) = C
  have c0 : C[oo]? = some (.cells (ints (bfs0 L.length i)) 3 false) := by rw [← hC]; exact at_set hoc
  have lAH := pA.length_le
  have pC : H <+: C := by rw [← hC]; exact pre_set (pA.trans pB) (by omega) _
  have hlt := at_lt c0
  have q0 : QH H (C ++ [AObj.cells [.int .i64 (i : Int)] 3 false]) oo (bfs0 L.length i) C.length 0 1 [(i : Int)] :=
    ⟨⟨[(i : Int)], at_new .., rfl, by simp⟩, at_app c0 _, by omega, pC.length_le, by omega, pre_app pC _⟩
  refine LoopH.by (fun m s H' => ∃ st k oq kq nq, m + k = L.length ∧ s 0 = v ∧ s 5 = .slice (some ⟨oo, 0, none⟩) L.length L.length ∧ s 6 = .slice (some ⟨oq, kq, none⟩) nq nq ∧ nq + k = st.2.length ∧ QH H H' oo st.1 oq kq nq (st.2.drop k) ∧ BI L.length st ∧ bfsF L (m + 1) st k = bfs L i) L.length ?_ ?_
  · exact ⟨(bfs0 L.length i, [(i : Int)]), 0, C.length, 0, 1, by omega, rfl, rfl, rfl, rfl, q0, bfs0_BI _ i hi, rfl⟩
  · rintro m s H' ⟨st, k, oq, kq, nq, hm, h0, h5, h6, hnq, hq, hb, hF⟩
    have hle := hb.len_le
    simp (maxSteps := 1000000) (disch := omega) only [h0, h5, h6, S, S1, S2, S3, S4, S5, ST, eq_self, reduceIte, reduceCtorEq, Nat.reduceEqDiff, Nat.reduceAdd]
    refine brD.intro (fun g => ?_) (fun g => ?_)
    · have hk : k < st.2.length := by omega
      rw [bfsF_step L m st k hk] at hF
      have hqm : st.2.getD k 0 ∈ st.2 := by simp [hk]
      obtain ⟨hxr, hx0⟩ := hb.q _ hqm
      have hxl := hb.lo (st.2.getD k 0).toNat (by omega)
      rw [List.drop_eq_getElem_cons hk] at hq
      have hge : st.2[k] = st.2.getD k 0 := by simp [hk]
      rw [hge] at hq
      obtain ⟨x, hx⟩ : ∃ x : Nat, st.2.getD k 0 = x := ⟨(st.2.getD k 0).toNat, by omega⟩
      rw [hx] at hq hF hxr hx0 hxl
      rw [Int.toNat_natCast] at hF hx0 hxl
      obtain ⟨hq2, hcell, hnq0⟩ := hq.tail
      have hqo : ∃ zs ro, H'[oq]? = some (.cells (ints zs) 3 ro) := by obtain ⟨⟨zs, g1, _⟩, _⟩ := hq; exact ⟨zs, false, g1⟩
      obtain ⟨zs, ro, hqo⟩ := hqo
      have hsl := sl_own (P := Tryz.prog) (t := 38) (k := kq) (n := nq) (c := nq) Tryz.underlying38 cs3 hqo (bound_some (k := .i64) (i := 1) (by decide) 0) (hi_none nq) (show (1 : Int).toNat ≤ nq from hnq0) (Nat.le_refl _)
      have hpp : H <+: H' := hq.2.2.2.2.2
      have hus' := hus.pre hpp
      have hxu : x < us.length := by omega
      have hinH := (hin x (by omega)).1
      have hin' := hinH.pre hpp
      have hlb := hls x
      have hLx := hL x
      have hz0 : (0 : Int).toNat = 0 := rfl
      simp (maxSteps := 1000000) (disch := omega) only [h0, h5, h6, hz0, hcell, hsl, hus'.ix Tryz.underlying26 cs38, hus'.cell, Int.toNat_natCast, S, S1, S2, S3, S4, S5, ST, eq_self, reduceIte, reduceCtorEq, Nat.reduceEqDiff, Nat.reduceAdd]
      generalize hw : us.getD x undef = w at *
      generalize hl : L.getD x [] = l at *
      simp (maxSteps := 1000000) (disch := omega) only [hin'.len Tryz.underlying38, S, S1, S2, S3, S4, S5, ST, eq_self, reduceIte, reduceCtorEq, Nat.reduceEqDiff, Nat.reduceAdd]
      generalize hd : st.1.getD x 0 + 1 = d at *
      have hone : (1 : Int).toNat = 1 := rfl
      simp only [hone]
      refine LoopH.by (fun m' s' H'' => ∃ j st' oq' kq' nq', m' + j = l.length ∧ s' 0 = v ∧ s' 5 = .slice (some ⟨oo, 0, none⟩) L.length L.length ∧ s' 6 = .slice (some ⟨oq', kq', none⟩) nq' nq' ∧ s' 7 = .int .i64 (x : Int) ∧ s' 30 = w ∧ s' 31 = .int .i64 (l.length : Int) ∧ s' 32 = .int .i64 ((j : Nat) : Int) ∧ nq' + (k + 1) = st'.2.length ∧ QH H H'' oo st'.1 oq' kq' nq' (st'.2.drop (k + 1)) ∧ BI L.length st' ∧ st.2 <+: st'.2 ∧ st'.1.getD x 0 + 1 = d ∧ bfsIn d (l.drop j) st' = bfsIn d l st) l.length ?_ ?_
      · have hd1 : st.2.drop (k + 1) = st.2.drop (k + 1) := rfl
        refine ⟨0, st, oq, kq + 1, nq - 1, by simp, ?_⟩
        simp only [S, S1, S2, S3, S4, S5, ST, eq_self, reduceIte, reduceCtorEq, Nat.reduceEqDiff, Nat.reduceAdd, h0, h5, h6]
        have hd2 : bfsIn d (l.drop 0) st = bfsIn d l st := by rw [List.drop_zero]
        have hpr := List.prefix_refl st.2
        (repeat' first | exact hq2 | exact hb | exact hd | exact hd2 | exact hpr | apply And.intro) <;> first | (simp only [Value.int.injEq, true_and]; omega) | omega | rfl | assumption | (simp; done) | (simp; omega)
      · rintro m' s' H'' ⟨j, st', oq', kq', nq', hm', g0, g5, g6, g7, g30, g31, g32, hnq', hq', hb', hpre, hd', hB⟩
        have hpp' : H <+: H'' := hq'.2.2.2.2.2
        have hw' := hinH.pre hpp'
        have hle' := hb'.len_le
        simp (maxSteps := 1000000) (disch := omega) only [g0, g5, g6, g7, g30, g31, g32, S, S1, S2, S3, S4, S5, ST, eq_self, reduceIte, reduceCtorEq, Nat.reduceEqDiff, Nat.reduceAdd]
        refine brD.intro (fun q => ?_) (fun q => ?_)
        · have hj : j < l.length := by omega
          rw [bfsIn_drop d l j hj] at hB
          have hym : l.getD j 0 ∈ l := by simp [hj]
          obtain ⟨y, hy⟩ : ∃ y : Nat, l.getD j 0 = y := ⟨(l.getD j 0).toNat, by have := hLx _ hym; omega⟩
          have hyr := hLx _ hym
          rw [hy] at hB hyr
          rw [Int.toNat_natCast] at hB
          have hoc' := hq'.2.1
          have hlen' := hb'.len
          have hyl : y < st'.1.length := by omega
          have hxl' : x < st'.1.length := by omega
          have hcw := hw'.cell hj
          rw [hy] at hcw
          simp (maxSteps := 1000000) (disch := omega) only [g0, g5, g6, g7, g30, g31, g32, hw'.ix Tryz.underlying38 cs3, hcw, Int.toNat_natCast, Nat.zero_add, cell_ints hoc' hyl, S, S1, S2, S3, S4, S5, ST, eq_self, reduceIte, reduceCtorEq, Nat.reduceEqDiff, Nat.reduceAdd]
          refine brD.intro (fun e => ?_) (fun e => ?_)
          · rw [if_pos e] at hB
            have hd0 : 0 ≤ d := by omega
            have hdl : d ≤ st'.2.length := by
              have := hb'.lo x (by omega)
              omega
            have hb2 := hb'.put (j := (y : Int)) (d := d) hyr (by rw [Int.toNat_natCast]; exact e) ⟨hd0, hdl⟩
            rw [Int.toNat_natCast] at hb2
            obtain ⟨H2, k1, k2⟩ := hq'.push y d (y : Int) (by omega)
            have hk1 : k + 1 ≤ st'.2.length := by have := hpre.length_le; omega
            rw [← List.drop_append_of_le_length hk1] at k2
            simp (maxSteps := 1000000) (disch := omega) only [g0, g5, g6, g7, g30, g31, g32, hw'.ix Tryz.underlying38 cs3, hcw, Int.toNat_natCast, Nat.zero_add, cell_ints hoc' hxl', hd', st_ints cs3 hoc' hyl, k1, wrap64, S, S1, S2, S3, S4, S5, ST, eq_self, reduceIte, reduceCtorEq, Nat.reduceEqDiff, Nat.reduceAdd]
            have f1 : st.2 <+: st'.2 ++ [(y : Int)] := hpre.trans (List.prefix_append _ _)
            have f2 : (st'.1.set y d).getD x 0 + 1 = d := by
              rw [getD_setB _ _ _ _ hxl']
              split
              · rename_i e2
                subst e2
                have := hb'.lo y (by omega)
                omega
              · exact hd'
            refine ⟨m' - 1, by omega, j + 1, (st'.1.set y d, st'.2 ++ [(y : Int)]), (H''.set oo (AObj.cells (ints (st'.1.set y d)) 3 false)).length + 1, 0, nq' + 1, ?_⟩
            have f3 : (st'.2 ++ [(y : Int)]).length = st'.2.length + 1 := by simp
            (repeat' first | exact k2 | exact hb2 | exact f1 | exact f2 | exact hB | apply And.intro) <;> first | (simp only [Value.int.injEq, true_and]; omega) | omega | rfl | assumption | (simp; done) | (simp; omega)
          · rw [if_neg e] at hB
            simp (maxSteps := 1000000) (disch := omega) only [g0, g5, g6, g7, g30, g31, g32, wrap64, S, S1, S2, S3, S4, S5, ST, eq_self, reduceIte, reduceCtorEq, Nat.reduceEqDiff, Nat.reduceAdd]
            refine ⟨m' - 1, by omega, j + 1, st', oq', kq', nq', ?_⟩
            (repeat' first | exact hq' | exact hb' | exact hpre | exact hd' | exact hB | apply And.intro) <;> first | (simp only [Value.int.injEq, true_and]; omega) | omega | rfl | assumption | (simp; done) | (simp; omega)
        · simp (maxSteps := 1000000) (disch := omega) only [g0, g5, g6, g7, g30, g31, g32, S, S1, S2, S3, S4, S5, ST, eq_self, reduceIte, reduceCtorEq, Nat.reduceEqDiff, Nat.reduceAdd]
          rw [List.drop_of_length_le (by omega)] at hB
          have hB' : st' = bfsIn d l st := hB
          rw [← hB'] at hF
          have hm1 : m - 1 + 1 = m := by omega
          rw [← hm1] at hF
          refine ⟨m - 1, by omega, st', k + 1, oq', kq', nq', ?_⟩
          (repeat' first | exact hq' | exact hb' | exact hF | apply And.intro) <;> first | (simp only [Value.int.injEq, true_and]; omega) | omega | rfl | assumption | (simp; done) | (simp; omega)
    · simp (maxSteps := 1000000) (disch := omega) only [h5, S, S1, S2, S3, S4, S5, ST, eq_self, reduceIte, reduceCtorEq, Nat.reduceEqDiff, Nat.reduceAdd]
      refine hQ _ _ _ ?_
      simp (maxSteps := 1000000) (disch := omega) only [h5, S, S1, S2, S3, S4, S5, ST, eq_self, reduceIte, reduceCtorEq, Nat.reduceEqDiff, Nat.reduceAdd]
      rw [bfsF_done L _ st k (by omega)] at hF
      rw [hF] at hq
      have hbl : (bfs L i).length = L.length := by rw [← hF]; exact hb.len
      exact ⟨.inr ⟨oo, by rw [hbl], hq.2.2.1, hq.2.1⟩, hq.2.2.2.2.2⟩
theorem QH.at {H0 H : AH} {oo : Nat} {out : List Int} {oq kq nq : Nat} {q : List Int} (h : QH H0 H oo out oq kq nq q) {j : Nat} (hj : j < q.length) : cellA H oq (kq + j) = some (.int .i64 (q.getD j 0)) := by
  obtain ⟨⟨zs, h1, h2, h3⟩, _⟩ := h
  have hl := congrArg List.length h2
  simp only [List.length_take, List.length_drop] at hl
  have hk : kq + j < zs.length := by omega
  rw [cell_of h1, ints_at zs hk]
  congr 2
  rw [← h2, List.getD_eq_getElem?_getD, List.getD_eq_getElem?_getD, List.getElem?_take, if_pos (by omega), List.getElem?_drop]
set_option maxRecDepth 20000 in
set_option maxHeartbeats 4000000 in
theorem l2Spread_c (v : Value) (L : List (List Int)) (i : Nat) (H : AH) {b : Nat} (hr : RowLB b 38 3 H v L) (hL : LOk L.length L) (hN : L.length ≤ 1000000) (hi : i < L.length) (hls : ∀ x, (L.getD x []).length ≤ 1000000000) :
    ACalls Tryz.prog 137 [v, .int .i64 (i : Int)] H fun r H' => Own 3 H H' r (bfs L i) ∧ H <+: H' := by
  refine in137 rfl ?_
  intro Q hQ
  obtain ⟨us, hus, hvb, hul, hin⟩ := hr
  simp (maxSteps := 1000000) (disch := omega) only [cd137, hus.len Tryz.underlying26, hul, mks38, Int.toNat_natCast, S, S1, S2, S3, S4, S5, ST, eq_self, reduceIte, reduceCtorEq, Nat.reduceEqDiff, Nat.reduceAdd]
  generalize hZ : H ++ [AObj.cells (ints (List.replicate L.length 0)) 3 false] = Z
  have pZ : H <+: Z := by rw [← hZ]; exact List.prefix_append _ _
  have cZ : Z[H.length]? = some (.cells (ints (List.replicate L.length 0)) 3 false) := by rw [← hZ]; exact at_new ..
  refine LoopH.by (fun m s H' => ∃ j, m + j = L.length ∧ s 0 = v ∧ s 1 = .int .i64 (i : Int) ∧ s 5 = .slice (some ⟨H.length, 0, none⟩) L.length L.length ∧ s 6 = .int .i64 ((j : Nat) : Int) ∧ H' = Z.set H.length (.cells (ints (rpN L.length j)) 3 false)) L.length ?_ ?_
  · refine ⟨0, by omega, rfl, rfl, rfl, rfl, ?_⟩
    have : rpN L.length 0 = List.replicate L.length 0 := by simp [rpN]
    rw [this]
    apply List.ext_getElem?
    intro j
    rw [List.getElem?_set]
    by_cases hj : H.length = j
    · subst hj; rw [if_pos rfl, if_pos (at_lt cZ), cZ]
    · rw [if_neg hj]
  rintro m s H' ⟨j, hm, h0, h1, h5, h6, rfl⟩
  have cJ : (Z.set H.length (.cells (ints (rpN L.length j)) 3 false))[H.length]? = some (.cells (ints (rpN L.length j)) 3 false) := at_set cZ
  simp (maxSteps := 1000000) (disch := omega) only [h0, h1, h5, h6, S, S1, S2, S3, S4, S5, ST, eq_self, reduceIte, reduceCtorEq, Nat.reduceEqDiff, Nat.reduceAdd]
  refine brD.intro (fun g => ?_) (fun g => ?_)
  · have hj : j < (rpN L.length j).length := by rw [rpN_len _ _ (by omega)]; omega
    simp (maxSteps := 1000000) (disch := omega) only [h0, h1, h5, h6, Int.toNat_natCast, Nat.zero_add, st_ints cs3 cJ hj, wrap64, S, S1, S2, S3, S4, S5, ST, eq_self, reduceIte, reduceCtorEq, Nat.reduceEqDiff, Nat.reduceAdd]
    rw [List.set_set, rpN_set _ _ (by omega)]
    refine ⟨m - 1, by omega, j + 1, ?_⟩
    (repeat' apply And.intro) <;> first | (simp only [Value.int.injEq, true_and]; omega) | omega | rfl | assumption | (simp; done) | (simp; omega)
  have hjN : j = L.length := by omega
  subst hjN
  have e3 : rpN L.length L.length = List.replicate L.length (-1) := by simp [rpN]
  rw [e3] at cJ
  rw [e3]
  have pA : H <+: Z.set H.length (.cells (ints (List.replicate L.length (-1))) 3 false) := pre_set pZ (Nat.le_refl _) _
  simp (maxSteps := 1000000) (disch := omega) only [h0, h1, h5, h6, S, S1, S2, S3, S4, S5, ST, eq_self, reduceIte, reduceCtorEq, Nat.reduceEqDiff, Nat.reduceAdd]
  have hlr : i < (List.replicate L.length (-1 : Int)).length := by simpa using hi
  generalize hoo : H.length = oo at *
  generalize hA : Z.set oo (.cells (ints (List.replicate L.length (-1))) 3 false) = A at *
  have cA := at_app cJ [AObj.cells [.int .i64 (i : Int)] 3 false]
  simp (maxSteps := 1000000) (disch := omega) only [h0, h1, h5, h6, Int.toNat_natCast, Nat.zero_add, st_ints cs3 cA hlr, S, S1, S2, S3, S4, S5, ST, eq_self, reduceIte, reduceCtorEq, Nat.reduceEqDiff, Nat.reduceAdd]
  have hb0 : (List.replicate L.length (-1 : Int)).set i 0 = bfs0 L.length i := rfl
  rw [hb0]
  have hltA := at_lt cJ
  have q0 : QH H ((A ++ [AObj.cells [.int .i64 (i : Int)] 3 false]).set oo (.cells (ints (bfs0 L.length i)) 3 false)) oo (bfs0 L.length i) A.length 0 1 [(i : Int)] := by
    refine ⟨⟨[(i : Int)], ?_, rfl, by simp⟩, at_set cA, by omega, pA.length_le, by omega, pre_set (pre_app pA _) (by omega) _⟩
    rw [List.getElem?_set_ne (by omega)]
    exact at_new ..
  refine LoopH.by (fun m s H' => ∃ st k oq, m + k = L.length ∧ s 0 = v ∧ s 5 = .slice (some ⟨oo, 0, none⟩) L.length L.length ∧ s 7 = .slice (some ⟨oq, 0, none⟩) st.2.length st.2.length ∧ s 8 = .int .i64 ((k : Nat) : Int) ∧ k ≤ st.2.length ∧ QH H H' oo st.1 oq 0 st.2.length st.2 ∧ BI L.length st ∧ bfsF L (m + 1) st k = bfs L i) L.length ?_ ?_
  · refine ⟨(bfs0 L.length i, [(i : Int)]), 0, A.length, by omega, ?_⟩
    simp only [S, S1, S2, S3, S4, S5, ST, eq_self, reduceIte, reduceCtorEq, Nat.reduceEqDiff, Nat.reduceAdd, h0, h5]
    have hb0 := bfs0_BI _ i hi
    have hF0 : bfsF L (L.length + 1) (bfs0 L.length i, [(i : Int)]) 0 = bfs L i := rfl
    (repeat' first | exact q0 | exact hb0 | exact hF0 | apply And.intro) <;> first | (simp only [Value.int.injEq, true_and]; omega) | omega | rfl | assumption | (simp; done) | (simp; omega)
  · rintro m s H' ⟨st, k, oq, hm, h0, h5, h7, h8, hkl, hq, hb, hF⟩
    have hle := hb.len_le
    simp (maxSteps := 1000000) (disch := omega) only [h0, h5, h7, h8, S, S1, S2, S3, S4, S5, ST, eq_self, reduceIte, reduceCtorEq, Nat.reduceEqDiff, Nat.reduceAdd]
    refine brD.intro (fun g => ?_) (fun g => ?_)
    · have hk : k < st.2.length := by omega
      rw [bfsF_step L m st k hk] at hF
      have hqm : st.2.getD k 0 ∈ st.2 := by simp [hk]
      obtain ⟨hxr, hx0⟩ := hb.q _ hqm
      have hxl := hb.lo (st.2.getD k 0).toNat (by omega)
      have hcell := hq.at hk
      obtain ⟨x, hx⟩ : ∃ x : Nat, st.2.getD k 0 = x := ⟨(st.2.getD k 0).toNat, by omega⟩
      rw [hx] at hF hxr hx0 hxl hcell
      rw [Int.toNat_natCast] at hF hx0 hxl
      rw [Nat.zero_add] at hcell
      have hpp : H <+: H' := hq.2.2.2.2.2
      have hus' := hus.pre hpp
      have hxu : x < us.length := by omega
      have hinH := (hin x (by omega)).1
      have hlb := hls x
      have hLx := hL x
      simp (maxSteps := 1000000) (disch := omega) only [h0, h5, h7, h8, hcell, hus'.ix Tryz.underlying26 cs38, hus'.cell, Int.toNat_natCast, Nat.zero_add, S, S1, S2, S3, S4, S5, ST, eq_self, reduceIte, reduceCtorEq, Nat.reduceEqDiff, Nat.reduceAdd]
      generalize hw : us.getD x undef = w at *
      generalize hl : L.getD x [] = l at *
      generalize hd : st.1.getD x 0 + 1 = d at *
      refine LoopH.by (fun m' s' H'' => ∃ j st' oq', m' + j = l.length ∧ s' 0 = v ∧ s' 5 = .slice (some ⟨oo, 0, none⟩) L.length L.length ∧ s' 7 = .slice (some ⟨oq', 0, none⟩) st'.2.length st'.2.length ∧ s' 8 = .int .i64 ((k : Nat) : Int) ∧ s' 9 = w ∧ s' 10 = .int .i64 ((j : Nat) : Int) ∧ QH H H'' oo st'.1 oq' 0 st'.2.length st'.2 ∧ BI L.length st' ∧ st.2 <+: st'.2 ∧ st'.1.getD x 0 + 1 = d ∧ bfsIn d (l.drop j) st' = bfsIn d l st) l.length ?_ ?_
      · refine ⟨0, st, oq, by simp, ?_⟩
        simp only [S, S1, S2, S3, S4, S5, ST, eq_self, reduceIte, reduceCtorEq, Nat.reduceEqDiff, Nat.reduceAdd, h0, h5, h7, h8]
        have hd2 : bfsIn d (l.drop 0) st = bfsIn d l st := by rw [List.drop_zero]
        have hpr := List.prefix_refl st.2
        (repeat' first | exact hq | exact hb | exact hd | exact hd2 | exact hpr | apply And.intro) <;> first | (simp only [Value.int.injEq, true_and]; omega) | omega | rfl | assumption | (simp; done) | (simp; omega)
      · rintro m' s' H'' ⟨j, st', oq', hm', g0, g5, g7, g8, g9, g10, hq', hb', hpre, hd', hB⟩
        have hpp' : H <+: H'' := hq'.2.2.2.2.2
        have hw' := hinH.pre hpp'
        have hle' := hb'.len_le
        simp (maxSteps := 1000000) (disch := omega) only [g0, g5, g7, g8, g9, g10, hw'.len Tryz.underlying38, S, S1, S2, S3, S4, S5, ST, eq_self, reduceIte, reduceCtorEq, Nat.reduceEqDiff, Nat.reduceAdd]
        refine brD.intro (fun q => ?_) (fun q => ?_)
        · have hj : j < l.length := by omega
          rw [bfsIn_drop d l j hj] at hB
          have hym : l.getD j 0 ∈ l := by simp [hj]
          obtain ⟨y, hy⟩ : ∃ y : Nat, l.getD j 0 = y := ⟨(l.getD j 0).toNat, by have := hLx _ hym; omega⟩
          have hyr := hLx _ hym
          rw [hy] at hB hyr
          rw [Int.toNat_natCast] at hB
          have hoc' := hq'.2.1
          have hlen' := hb'.len
          have hyl : y < st'.1.length := by omega
          have hxl' : x < st'.1.length := by omega
          have hcw := hw'.cell hj
          rw [hy] at hcw
          have hkl' : k < st'.2.length := by have := hpre.length_le; omega
          have hck := hq'.at hkl'
          have hqk : st'.2.getD k 0 = (x : Int) := by
            obtain ⟨t, ht⟩ := hpre
            rw [← ht, List.getD_eq_getElem?_getD, List.getElem?_append_left hk, ← List.getD_eq_getElem?_getD]; exact hx
          rw [hqk, Nat.zero_add] at hck
          simp (maxSteps := 1000000) (disch := omega) only [g0, g5, g7, g8, g9, g10, hw'.ix Tryz.underlying38 cs3, hcw, Int.toNat_natCast, Nat.zero_add, cell_ints hoc' hyl, S, S1, S2, S3, S4, S5, ST, eq_self, reduceIte, reduceCtorEq, Nat.reduceEqDiff, Nat.reduceAdd]
          refine brD.intro (fun e => ?_) (fun e => ?_)
          · rw [if_pos e] at hB
            have hd0 : 0 ≤ d := by omega
            have hdl : d ≤ st'.2.length := by
              have := hb'.lo x (by omega)
              omega
            have hb2 := hb'.put (j := (y : Int)) (d := d) hyr (by rw [Int.toNat_natCast]; exact e) ⟨hd0, hdl⟩
            rw [Int.toNat_natCast] at hb2
            obtain ⟨H2, k1, k2⟩ := hq'.push y d (y : Int) (by omega)
            have hp2 : H <+: H''.set oo (AObj.cells (ints (st'.1.set y d)) 3 false) := pre_set hpp' (by omega) _
            have hw2 := hinH.pre hp2
            have hcw2 := hw2.cell hj
            rw [hy] at hcw2
            simp (maxSteps := 1000000) (disch := omega) only [g0, g5, g7, g8, g9, g10, hw'.ix Tryz.underlying38 cs3, hw2.ix Tryz.underlying38 cs3, hcw, hcw2, hck, Int.toNat_natCast, Nat.zero_add, cell_ints hoc' hxl', hd', st_ints cs3 hoc' hyl, k1, wrap64, S, S1, S2, S3, S4, S5, ST, eq_self, reduceIte, reduceCtorEq, Nat.reduceEqDiff, Nat.reduceAdd]
            have f1 : st.2 <+: st'.2 ++ [(y : Int)] := hpre.trans (List.prefix_append _ _)
            have f2 : (st'.1.set y d).getD x 0 + 1 = d := by
              rw [getD_setB _ _ _ _ hxl']
              split
              · rename_i e2
                subst e2
                have := hb'.lo y (by omega)
                omega
              · exact hd'
            have f3 : (st'.2 ++ [(y : Int)]).length = st'.2.length + 1 := by simp
            rw [← f3] at k2
            refine ⟨m' - 1, by omega, j + 1, (st'.1.set y d, st'.2 ++ [(y : Int)]), (H''.set oo (AObj.cells (ints (st'.1.set y d)) 3 false)).length + 1, ?_⟩
            simp only [f3]
            rw [f3] at k2
            (repeat' first | exact k2 | exact hb2 | exact f1 | exact f2 | exact hB | apply And.intro) <;> first | (simp only [Value.int.injEq, true_and]; omega) | omega | rfl | assumption | (simp; done) | (simp; omega)
          · rw [if_neg e] at hB
            simp (maxSteps := 1000000) (disch := omega) only [g0, g5, g7, g8, g9, g10, wrap64, S, S1, S2, S3, S4, S5, ST, eq_self, reduceIte, reduceCtorEq, Nat.reduceEqDiff, Nat.reduceAdd]
            refine ⟨m' - 1, by omega, j + 1, st', oq', ?_⟩
            (repeat' first | exact hq' | exact hb' | exact hpre | exact hd' | exact hB | apply And.intro) <;> first | (simp only [Value.int.injEq, true_and]; omega) | omega | rfl | assumption | (simp; done) | (simp; omega)
        · simp (maxSteps := 1000000) (disch := omega) only [g0, g5, g7, g8, g9, g10, wrap64, S, S1, S2, S3, S4, S5, ST, eq_self, reduceIte, reduceCtorEq, Nat.reduceEqDiff, Nat.reduceAdd]
          rw [List.drop_of_length_le (by omega)] at hB
          have hB' : st' = bfsIn d l st := hB
          rw [← hB'] at hF
          have hm1 : m - 1 + 1 = m := by omega
          rw [← hm1] at hF
          have hkl' : k + 1 ≤ st'.2.length := by have := hpre.length_le; omega
          refine ⟨m - 1, by omega, st', k + 1, oq', ?_⟩
          (repeat' first | exact hq' | exact hb' | exact hF | exact hkl' | apply And.intro) <;> first | (simp only [Value.int.injEq, true_and]; omega) | omega | rfl | assumption | (simp; done) | (simp; omega)
    · simp (maxSteps := 1000000) (disch := omega) only [h5, S, S1, S2, S3, S4, S5, ST, eq_self, reduceIte, reduceCtorEq, Nat.reduceEqDiff, Nat.reduceAdd]
      refine hQ _ _ _ ?_
      simp (maxSteps := 1000000) (disch := omega) only [h5, S, S1, S2, S3, S4, S5, ST, eq_self, reduceIte, reduceCtorEq, Nat.reduceEqDiff, Nat.reduceAdd]
      rw [bfsF_done L _ st k (by omega)] at hF
      rw [hF] at hq
      have hbl : (bfs L i).length = L.length := by rw [← hF]; exact hb.len
      exact ⟨.inr ⟨oo, by rw [hbl], hq.2.2.1, hq.2.1⟩, hq.2.2.2.2.2⟩
end Go.Proofs.YtlfongfhbkefmaaGreat.Ai
namespace Go.Proofs.YtlfongfhbkefmaaGreat.Ai
open Go
def ords74 : List (Nat × List (Nat × Bool)) := []
def cd74 : Cd := (.seq (.reg [⟨⟨some 2, Op.box 31 (Operand.tmp 0), none⟩, []⟩,
  ⟨⟨some 4, Op.assign (Operand.const (Value.slice none 0 0)), none⟩, []⟩]) (.seq (.reg [⟨⟨some 7, Op.buildSlice 38 0 #[], none⟩, []⟩,
  ⟨⟨some 5, Op.assign (Operand.tmp 7), none⟩, []⟩]) (.seq (.seq (.reg [⟨⟨some 6, Op.assign (Operand.const (Value.int IntKind.i64 0)), none⟩, []⟩]) (.block 0 (.loop (.seq (.seq (.reg [⟨⟨some 8, Op.move (Operand.tmp 6), none⟩, []⟩,
  ⟨⟨some 9, Op.fieldAddr 31 (Operand.tmp 2) 0, none⟩, []⟩,
  ⟨⟨some 10, Op.load 3 (Operand.tmp 9), none⟩, []⟩,
  ⟨⟨some 11, Op.binOp BinOp.lss 3 (Operand.tmp 8) (Operand.tmp 10) 3, none⟩, []⟩]) (.cond (Operand.tmp 11) .skip (.exit 0))) (.seq (.block 1 (.seq (.reg [⟨⟨some 14, Op.load 31 (Operand.tmp 2), none⟩, []⟩,
  ⟨⟨some 15, Op.move (Operand.tmp 1), none⟩, []⟩,
  ⟨⟨some 16, Op.move (Operand.tmp 6), none⟩, []⟩,
  ⟨⟨some 17, Op.call { callee := (Callee.value (Operand.func 80)), args := #[(Operand.tmp 14), (Operand.tmp 15), (Operand.tmp 16)], argTypes := #[31, 3, 3] }, none⟩, []⟩]) (.cond (Operand.tmp 17) (.reg [⟨⟨some 18, Op.move (Operand.tmp 5), none⟩, []⟩,
  ⟨⟨some 19, Op.move (Operand.tmp 6), none⟩, []⟩,
  ⟨⟨some 20, Op.buildSlice 38 1 #[(0, (Operand.tmp 19))], none⟩, []⟩,
  ⟨⟨some 21, Op.call { callee := (Callee.builtin Builtin.append), args := #[(Operand.tmp 18), (Operand.tmp 20)], argTypes := #[38, 38] }, none⟩, []⟩,
  ⟨⟨some 5, Op.assign (Operand.tmp 21), none⟩, []⟩]) .skip))) (.reg [⟨⟨some 12, Op.move (Operand.tmp 6), none⟩, []⟩,
  ⟨⟨some 13, Op.binOp BinOp.add 3 (Operand.tmp 12) (Operand.const (Value.int IntKind.i64 1)) 3, none⟩, []⟩,
  ⟨⟨some 6, Op.assign (Operand.tmp 13), none⟩, []⟩])))))) (.seq (.reg [⟨⟨some 22, Op.move (Operand.tmp 5), none⟩, []⟩,
  ⟨⟨some 4, Op.assign (Operand.tmp 22), none⟩, []⟩]) .ret))))
theorem sl74 : slim Tryz.f74.ntmps ords74 (Tryz.f74.body.getD .skip) = some cd74 := by kernel_rfl
theorem in74 {args : List Value} {H : AH} {R : Value → AH → Prop} (hl : args.length = 2) (h : ∀ (Q : Exit → Sl → AH → Prop), (∀ e s H, endA Tryz.prog [ResultVar.tmp 4] R e s H → Q e s H) → wpC Tryz.prog cd74 Q (enterA args) H) : ACalls Tryz.prog 74 args H R :=
  ACalls.intro (by kernel_rfl) Tryz.func74 rfl (by kernel_rfl) sl74 hl (of_decide_eq_true (by kernel_rfl)) (by kernel_rfl) h
def ords149 : List (Nat × List (Nat × Bool)) := []
def cd149 : Cd := (.seq (.reg [⟨⟨some 1, Op.box 31 (Operand.tmp 0), none⟩, []⟩,
  ⟨⟨some 2, Op.assign (Operand.const (Value.slice none 0 0)), none⟩, []⟩]) (.seq (.reg [⟨⟨some 5, Op.buildSlice 26 0 #[], none⟩, []⟩,
  ⟨⟨some 3, Op.assign (Operand.tmp 5), none⟩, []⟩]) (.seq (.seq (.reg [⟨⟨some 6, Op.fieldAddr 31 (Operand.tmp 1) 0, none⟩, []⟩,
  ⟨⟨some 7, Op.load 3 (Operand.tmp 6), none⟩, []⟩,
  ⟨⟨some 8, Op.move (Operand.const (Value.int IntKind.i64 0)), none⟩, []⟩]) (.block 0 (.loop (.seq (.reg [⟨⟨some 9, Op.binOp BinOp.lss 3 (Operand.tmp 8) (Operand.tmp 7) 3, none⟩, []⟩]) (.seq (.cond (Operand.tmp 9) .skip (.exit 0)) (.seq (.block 1 (.seq (.reg [⟨⟨some 10, Op.move (Operand.tmp 8), none⟩, []⟩,
  ⟨⟨some 4, Op.assign (Operand.tmp 10), none⟩, []⟩]) (.reg [⟨⟨some 11, Op.move (Operand.tmp 3), none⟩, []⟩,
  ⟨⟨some 12, Op.load 31 (Operand.tmp 1), none⟩, []⟩,
  ⟨⟨some 13, Op.move (Operand.tmp 4), none⟩, []⟩,
  ⟨⟨some 14, Op.call { callee := (Callee.value (Operand.func 112)), args := #[(Operand.tmp 12), (Operand.tmp 13)], argTypes := #[31, 3] }, none⟩, []⟩,
  ⟨⟨some 15, Op.buildSlice 26 1 #[(0, (Operand.tmp 14))], none⟩, []⟩,
  ⟨⟨some 16, Op.call { callee := (Callee.builtin Builtin.append), args := #[(Operand.tmp 11), (Operand.tmp 15)], argTypes := #[26, 26] }, none⟩, []⟩,
  ⟨⟨some 3, Op.assign (Operand.tmp 16), none⟩, []⟩]))) (.reg [⟨⟨some 17, Op.binOp BinOp.add 3 (Operand.tmp 8) (Operand.const (Value.int IntKind.i64 1)) 3, none⟩, []⟩,
  ⟨⟨some 8, Op.move (Operand.tmp 17), none⟩, []⟩]))))))) (.seq (.reg [⟨⟨some 18, Op.move (Operand.tmp 3), none⟩, []⟩,
  ⟨⟨some 2, Op.assign (Operand.tmp 18), none⟩, []⟩]) .ret))))
theorem sl149 : slim Tryz.f149.ntmps ords149 (Tryz.f149.body.getD .skip) = some cd149 := by kernel_rfl
theorem in149 {args : List Value} {H : AH} {R : Value → AH → Prop} (hl : args.length = 1) (h : ∀ (Q : Exit → Sl → AH → Prop), (∀ e s H, endA Tryz.prog [ResultVar.tmp 2] R e s H → Q e s H) → wpC Tryz.prog cd149 Q (enterA args) H) : ACalls Tryz.prog 149 args H R :=
  ACalls.intro (by kernel_rfl) Tryz.func149 rfl (by kernel_rfl) sl149 hl (of_decide_eq_true (by kernel_rfl)) (by kernel_rfl) h
def ords103 : List (Nat × List (Nat × Bool)) := []
def cd103 : Cd := (.seq (.reg [⟨⟨some 2, Op.box 31 (Operand.tmp 0), none⟩, []⟩,
  ⟨⟨some 4, Op.assign (Operand.const (Value.slice none 0 0)), none⟩, []⟩]) (.seq (.reg [⟨⟨some 7, Op.fieldAddr 31 (Operand.tmp 2) 0, none⟩, []⟩,
  ⟨⟨some 8, Op.load 3 (Operand.tmp 7), none⟩, []⟩,
  ⟨⟨some 9, Op.makeSlice 26 (Operand.tmp 8) (Operand.tmp 8), none⟩, []⟩,
  ⟨⟨some 5, Op.assign (Operand.tmp 9), none⟩, []⟩]) (.seq (.seq (.reg [⟨⟨some 6, Op.assign (Operand.const (Value.int IntKind.i64 0)), none⟩, []⟩]) (.block 0 (.loop (.seq (.seq (.reg [⟨⟨some 10, Op.move (Operand.tmp 6), none⟩, []⟩,
  ⟨⟨some 11, Op.fieldAddr 31 (Operand.tmp 2) 0, none⟩, []⟩,
  ⟨⟨some 12, Op.load 3 (Operand.tmp 11), none⟩, []⟩,
  ⟨⟨some 13, Op.binOp BinOp.lss 3 (Operand.tmp 10) (Operand.tmp 12) 3, none⟩, []⟩]) (.cond (Operand.tmp 13) .skip (.exit 0))) (.seq (.block 1 (.reg [⟨⟨some 16, Op.move (Operand.tmp 5), none⟩, []⟩,
  ⟨⟨some 17, Op.move (Operand.tmp 6), none⟩, []⟩,
  ⟨⟨some 18, Op.load 31 (Operand.tmp 2), none⟩, []⟩,
  ⟨⟨some 19, Op.move (Operand.tmp 6), none⟩, []⟩,
  ⟨⟨some 20, Op.call { callee := (Callee.value (Operand.func 74)), args := #[(Operand.tmp 18), (Operand.tmp 19)], argTypes := #[31, 3] }, none⟩, []⟩,
  ⟨⟨some 21, Op.indexAddr 26 (Operand.tmp 16) (Operand.tmp 17), none⟩, []⟩,
  ⟨⟨none, Op.store 38 (Operand.tmp 21) (Operand.tmp 20), none⟩, []⟩])) (.reg [⟨⟨some 14, Op.move (Operand.tmp 6), none⟩, []⟩,
  ⟨⟨some 15, Op.binOp BinOp.add 3 (Operand.tmp 14) (Operand.const (Value.int IntKind.i64 1)) 3, none⟩, []⟩,
  ⟨⟨some 6, Op.assign (Operand.tmp 15), none⟩, []⟩])))))) (.seq (.reg [⟨⟨some 22, Op.move (Operand.tmp 5), none⟩, []⟩,
  ⟨⟨some 23, Op.move (Operand.tmp 1), none⟩, []⟩,
  ⟨⟨some 24, Op.call { callee := (Callee.value (Operand.func 137)), args := #[(Operand.tmp 22), (Operand.tmp 23)], argTypes := #[26, 3] }, none⟩, []⟩,
  ⟨⟨some 4, Op.assign (Operand.tmp 24), none⟩, []⟩]) .ret))))
theorem sl103 : slim Tryz.f103.ntmps ords103 (Tryz.f103.body.getD .skip) = some cd103 := by kernel_rfl
theorem in103 {args : List Value} {H : AH} {R : Value → AH → Prop} (hl : args.length = 2) (h : ∀ (Q : Exit → Sl → AH → Prop), (∀ e s H, endA Tryz.prog [ResultVar.tmp 4] R e s H → Q e s H) → wpC Tryz.prog cd103 Q (enterA args) H) : ACalls Tryz.prog 103 args H R :=
  ACalls.intro (by kernel_rfl) Tryz.func103 rfl (by kernel_rfl) sl103 hl (of_decide_eq_true (by kernel_rfl)) (by kernel_rfl) h
end Go.Proofs.YtlfongfhbkefmaaGreat.Ai
namespace Go.Proofs.YtlfongfhbkefmaaGreat.Ai
open Go Go.RowKit
set_option linter.unusedVariables false
set_option linter.unusedSimpArgs false
theorem mk_nils {P : Program} {t e : TypeId} (hu : P.underlying t = some (.slice e)) (hc : P.cellsOf e = 1) (hby : P.bytesOf e ≤ 64) (hz : zeroA P e = some (.slice none 0 0)) {n : Int} (h0 : 0 ≤ n) (h1 : n ≤ 1099511627776) (H : AH) :
    makeSliceA P t (.int .i64 n) (.int .i64 n) H = some (.slice (some ⟨H.length, 0, none⟩) n.toNat n.toNat, H ++ [.cells (List.replicate n.toNat (.slice none 0 0)) e false]) := by
  have hb2 : n.toNat * P.bytesOf e ≤ 281474976710656 := by
    refine Nat.le_trans (Nat.mul_le_mul_left _ hby) ?_
    omega
  have hzc : (Value.slice none 0 0).cells = #[.slice none 0 0] := rfl
  have hzs : zerosA (.slice none 0 0) (n.toNat * 1) = List.replicate n.toNat (.slice none 0 0) := by
    unfold zerosA
    rw [hzc, Nat.mul_one]
    apply List.ext_getElem
    · simp
    · intro i h1 h2
      simp [Nat.mod_one]
  simp only [makeSliceA, hu, hc, hz]
  rw [if_pos ⟨trivial, h0, by omega, hb2, by omega⟩, if_pos ⟨by simp [plainCs, hzc, plainC], by simp [hzc]⟩, hzs]
/-- the lists of neighbors -/
def roadsL (n : Nat) (es : List (Int × Int)) : List (List Int) := (List.range n).map fun x : Nat => nbsU es (x : Int) n
theorem roadsL_len (n : Nat) (es : List (Int × Int)) : (roadsL n es).length = n := by simp [roadsL]
theorem roadsL_at (n : Nat) (es : List (Int × Int)) (i : Nat) (hi : i < n) : (roadsL n es).getD i [] = nbsU es i n := by
  unfold roadsL
  rw [List.getD_eq_getElem?_getD, List.getElem?_map, List.getElem?_range hi]; rfl
theorem roadsL_out (n : Nat) (es : List (Int × Int)) (i : Nat) (hi : ¬ i < n) : (roadsL n es).getD i [] = [] := by
  rw [List.getD_eq_getElem?_getD, List.getElem?_eq_none (by rw [roadsL_len]; omega)]; rfl
theorem roadsL_ok (n : Nat) (es : List (Int × Int)) : LOk (roadsL n es).length (roadsL n es) := by
  intro i y hy
  rw [roadsL_len]
  by_cases hi : i < n
  · rw [roadsL_at n es i hi] at hy
    exact ((nbsU_mem es i n y).1 hy).1
  · rw [roadsL_out n es i hi] at hy
    simp at hy
theorem roadsL_small (n : Nat) (es : List (Int × Int)) (hn : n ≤ 1000000000) (x : Nat) : ((roadsL n es).getD x []).length ≤ 1000000000 := by
  by_cases hi : x < n
  · rw [roadsL_at n es x hi]
    have := nbsU_len es x n
    omega
  · rw [roadsL_out n es x hi]; simp
set_option maxRecDepth 20000 in
set_option maxHeartbeats 1000000 in
theorem l2Neighbors_c (n : Int) (v : Value) (es : List (Int × Int)) (x : Int) (H : AH) (hr : RowP 83 H v es) (hlen : es.length ≤ 1099511627776) (hn : 0 ≤ n ∧ n ≤ 8) :
    ACalls Tryz.prog 74 [.agg (List.toArray [.int .i64 n, v]), .int .i64 x] H fun r H' => Own 3 H H' r (nbsU es x n.toNat) ∧ H <+: H' := by
  refine in74 rfl ?_
  intro Q hQ
  simp (maxSteps := 1000000) (disch := omega) only [cd74, hr.boxG, S, S1, S2, S3, S4, S5, ST, eq_self, reduceIte, reduceCtorEq, Nat.reduceEqDiff, Nat.reduceAdd]
  generalize hA : H ++ [AObj.cells [.int .i64 n, v] 31 false] = A
  have pA : H <+: A := by rw [← hA]; exact List.prefix_append _ _
  have cA : A[H.length]? = some (.cells [.int .i64 n, v] 31 false) := by rw [← hA]; exact at_new ..
  have rA := hr.pre pA
  try simp (maxSteps := 1000000) (disch := omega) only [S, S1, S2, S3, S4, S5, ST, eq_self, reduceIte, reduceCtorEq, Nat.reduceEqDiff, Nat.reduceAdd]
  refine LoopH.by (fun m s H' => ∃ i, m + i = n.toNat ∧ s 1 = .int .i64 x ∧ s 2 = .pointer (some ⟨H.length, 0, none⟩) ∧ s 6 = .int .i64 ((i : Nat) : Int) ∧ Own 3 A H' (s 5) (nbsU es x i) ∧ A <+: H') n.toNat ?_ ?_
  · exact ⟨0, by simp, rfl, rfl, rfl, .inr ⟨A.length, rfl, Nat.le_refl _, at_new ..⟩, List.prefix_append _ _⟩
  · rintro m s H' ⟨i, hm, h1, h2, h6, ho, hp⟩
    have hr' := rA.pre hp
    have cH := pre_at hp cA
    have hl := nbsU_len es x i
    have hst : nbsU es x (i + 1) = nbsU es x i ++ if nearB es x i = true then [(i : Int)] else [] := rfl
    generalize hw : s 5 = w at *
    simp (maxSteps := 1000000) (disch := omega) only [h1, h2, h6, hw, cell_of cH, S, S1, S2, S3, S4, S5, ST, eq_self, reduceIte, reduceCtorEq, Nat.reduceEqDiff, Nat.reduceAdd]
    refine brD.intro (fun g => ?_) (fun g => ?_)
    · simp (maxSteps := 1000000) (disch := omega) only [h1, h2, h6, hw, ld_agg ag31 cs31 cH, S, S1, S2, S3, S4, S5, ST, eq_self, reduceIte, reduceCtorEq, Nat.reduceEqDiff, Nat.reduceAdd]
      refine CallH.by (l2Near_c n v es x i H' hr' hlen) ?_
      rintro _ B ⟨rfl, pB⟩
      have hoB := ho.pre pB
      have hpB := hp.trans pB
      simp (maxSteps := 1000000) (disch := omega) only [S, S1, S2, S3, S4, S5, ST, eq_self, reduceIte, reduceCtorEq, Nat.reduceEqDiff, Nat.reduceAdd]
      refine brH.intro (fun e2 => ?_) (fun e2 => ?_)
      · obtain ⟨w', H2, k1, k2, k3, k4, k5, k6⟩ := own1_38 hoB hpB (by omega) (i : Int)
        simp (maxSteps := 1000000) (disch := omega) only [e2, h1, h2, h6, hw, k1, wrap64, S, S1, S2, S3, S4, S5, ST, eq_self, reduceIte, reduceCtorEq, Nat.reduceEqDiff, Nat.reduceAdd]
        rw [if_pos e2] at hst
        rw [← hst] at k2
        refine ⟨m - 1, by omega, i + 1, ?_⟩
        (repeat' first | exact k2 | exact k3 | apply And.intro) <;> first | (simp only [Value.int.injEq, true_and]; omega) | omega | rfl | assumption | (simp; done) | (simp; omega)
      · simp (maxSteps := 1000000) (disch := omega) only [e2, h1, h2, h6, hw, wrap64, S, S1, S2, S3, S4, S5, ST, eq_self, reduceIte, reduceCtorEq, Nat.reduceEqDiff, Nat.reduceAdd]
        rw [if_neg (by simpa using e2), List.append_nil] at hst
        rw [← hst] at hoB
        refine ⟨m - 1, by omega, i + 1, ?_⟩
        (repeat' first | exact hoB | exact hpB | apply And.intro) <;> first | (simp only [Value.int.injEq, true_and]; omega) | omega | rfl | assumption | (simp; done) | (simp; omega)
    · simp (maxSteps := 1000000) (disch := omega) only [hw, S, S1, S2, S3, S4, S5, ST, eq_self, reduceIte, reduceCtorEq, Nat.reduceEqDiff, Nat.reduceAdd]
      refine hQ _ _ _ ?_
      simp (maxSteps := 1000000) (disch := omega) only [hw, ho.row.tup, S, S1, S2, S3, S4, S5, ST, eq_self, reduceIte, reduceCtorEq, Nat.reduceEqDiff, Nat.reduceAdd]
      have : i = n.toNat := by omega
      subst this
      exact ⟨ho.base pA, pA.trans hp⟩
set_option maxRecDepth 20000 in
set_option maxHeartbeats 1000000 in
theorem roads_c (n : Int) (v : Value) (es : List (Int × Int)) (H : AH) (hr : RowP 83 H v es) (hlen : es.length ≤ 1099511627776) (hg : Grd n es) :
    ACalls Tryz.prog 149 [.agg (List.toArray [.int .i64 n, v])] H fun r H' => InL H.length H'.length 38 3 H' r (roadsL n.toNat es) ∧ H <+: H' := by
  have hn := hg.1
  refine in149 rfl ?_
  intro Q hQ
  simp (maxSteps := 1000000) (disch := omega) only [cd149, hr.boxG, S, S1, S2, S3, S4, S5, ST, eq_self, reduceIte, reduceCtorEq, Nat.reduceEqDiff, Nat.reduceAdd]
  generalize hA : H ++ [AObj.cells [.int .i64 n, v] 31 false] = A
  have pA : H <+: A := by rw [← hA]; exact List.prefix_append _ _
  have cA : A[H.length]? = some (.cells [.int .i64 n, v] 31 false) := by rw [← hA]; exact at_new ..
  have rA := hr.pre pA
  simp (maxSteps := 1000000) (disch := omega) only [cell_of (at_app cA _), S, S1, S2, S3, S4, S5, ST, eq_self, reduceIte, reduceCtorEq, Nat.reduceEqDiff, Nat.reduceAdd]
  have u0 := InU.new H.length 38 3 A pA.length_le
  refine LoopH.by (fun m s H' => ∃ i o us, m + i = n.toNat ∧ s 1 = .pointer (some ⟨H.length, 0, none⟩) ∧ s 3 = .slice (some ⟨o, 0, none⟩) i i ∧ s 7 = .int .i64 n ∧ s 8 = .int .i64 ((i : Nat) : Int) ∧ A.length ≤ o ∧ InU H.length H'.length 38 3 H' o us ((List.range i).map fun x : Nat => nbsU es (x : Int) n.toNat) ∧ A <+: H') n.toNat ?_ ?_
  · refine ⟨0, A.length, [], by simp, rfl, rfl, rfl, rfl, Nat.le_refl _, ?_, List.prefix_append _ _⟩
    simpa using u0
  · rintro m s H' ⟨i, o, us, hm, h1, h3, h7, h8, hoA, hin, hp⟩
    have hr' := rA.pre hp
    have cH := pre_at hp cA
    have hbl : ((List.range i).map fun x : Nat => nbsU es (x : Int) n.toNat).length = i := by simp
    have hst : ((List.range (i + 1)).map fun x : Nat => nbsU es (x : Int) n.toNat) = ((List.range i).map fun x : Nat => nbsU es (x : Int) n.toNat) ++ [nbsU es i n.toNat] := by rw [List.range_succ, List.map_append]; rfl
    simp (maxSteps := 1000000) (disch := omega) only [h1, h3, h7, h8, S, S1, S2, S3, S4, S5, ST, eq_self, reduceIte, reduceCtorEq, Nat.reduceEqDiff, Nat.reduceAdd]
    refine brD.intro (fun g => ?_) (fun g => ?_)
    · simp (maxSteps := 1000000) (disch := omega) only [h1, h3, h7, h8, ld_agg ag31 cs31 cH, S, S1, S2, S3, S4, S5, ST, eq_self, reduceIte, reduceCtorEq, Nat.reduceEqDiff, Nat.reduceAdd]
      refine CallH.by (neighbors_c n v es i H' hr' hlen hg) ?_
      rintro b D ⟨hb, pD⟩
      have hinw := InI.of hb.mine
      have pHH := pA.trans hp
      obtain ⟨H3, k1, k2, k3, k4⟩ := (hin.pre pD).app1 (P := Tryz.prog) (t2 := 26) Tryz.underlying26 cs38 (by rw [by38]; decide) zk38 hinw pHH.length_le pD.length_le (Nat.le_refl _) (by omega)
      have hbs : buildSliceA Tryz.prog 26 1 [(0, b)] D = some (.slice (some ⟨D.length, 0, none⟩) 1 1, D ++ [.cells [b] 38 false]) := by
        obtain ⟨q, eq⟩ := hb.row.shape
        rw [eq]
        exact bs1 Tryz.underlying26 cs38 ze38 ⟨by kernel_rfl, by kernel_rfl⟩ D rfl
      rw [hbl] at k1 k2
      simp (maxSteps := 1000000) (disch := omega) only [h1, h3, h7, h8, hbs, k1, wrap64, S, S1, S2, S3, S4, S5, ST, eq_self, reduceIte, reduceCtorEq, Nat.reduceEqDiff, Nat.reduceAdd]
      have f1 : A <+: H3 := prefix_of fun j x hx' => k4 j x (by have := at_lt hx'; omega) (pre_at (hp.trans pD) hx')
      have f2 : InU H.length H3.length 38 3 H3 (D.length + 1) (us.take i ++ [b]) ((List.range (i + 1)).map fun x : Nat => nbsU es (x : Int) n.toNat) := by
        rw [k3, hst]; exact k2
      have hDl := (hp.trans pD).length_le
      refine ⟨m - 1, by omega, i + 1, D.length + 1, us.take i ++ [b], by omega, ?_⟩
      (repeat' first | exact f1 | exact f2 | apply And.intro) <;> first | (simp only [Value.int.injEq, true_and]; omega) | omega | rfl | assumption | (simp; done) | (simp; omega)
    · simp (maxSteps := 1000000) (disch := omega) only [h3, S, S1, S2, S3, S4, S5, ST, eq_self, reduceIte, reduceCtorEq, Nat.reduceEqDiff, Nat.reduceAdd]
      refine hQ _ _ _ ?_
      simp (maxSteps := 1000000) (disch := omega) only [h3, S, S1, S2, S3, S4, S5, ST, eq_self, reduceIte, reduceCtorEq, Nat.reduceEqDiff, Nat.reduceAdd]
      have : i = n.toNat := by omega
      subst this
      refine ⟨?_, pA.trans hp⟩
      have := hin.inl
      rwa [hbl] at this
set_option maxRecDepth 20000 in
set_option maxHeartbeats 2000000 in
theorem l3Far_c (n : Int) (v : Value) (es : List (Int × Int)) (i : Nat) (H : AH) (hr : RowP 83 H v es) (hlen : es.length ≤ 1099511627776) (hn : 0 ≤ n ∧ n ≤ 8) (hi : (i : Int) < n) :
    ACalls Tryz.prog 103 [.agg (List.toArray [.int .i64 n, v]), .int .i64 (i : Int)] H fun r H' => Own 3 H H' r (bfs (roadsL n.toNat es) i) ∧ H <+: H' := by
  refine in103 rfl ?_
  intro Q hQ
  simp (maxSteps := 1000000) (disch := omega) only [cd103, hr.boxG, S, S1, S2, S3, S4, S5, ST, eq_self, reduceIte, reduceCtorEq, Nat.reduceEqDiff, Nat.reduceAdd]
  generalize hA : H ++ [AObj.cells [.int .i64 n, v] 31 false] = A
  have pA : H <+: A := by rw [← hA]; exact List.prefix_append _ _
  have cA : A[H.length]? = some (.cells [.int .i64 n, v] 31 false) := by rw [← hA]; exact at_new ..
  have rA := hr.pre pA
  have mk := mk_nils (P := Tryz.prog) (t := 26) Tryz.underlying26 cs38 (by rw [by38]; decide) ze38 hn.1 (by omega)
  simp (maxSteps := 1000000) (disch := omega) only [cell_of cA, mk, S, S1, S2, S3, S4, S5, ST, eq_self, reduceIte, reduceCtorEq, Nat.reduceEqDiff, Nat.reduceAdd]
  have z0 := at_new A (.cells (List.replicate n.toNat (.slice none 0 0)) 38 false)
  refine LoopH.by (fun m s H' => ∃ j us, m + j = n.toNat ∧ s 1 = .int .i64 (i : Int) ∧ s 2 = .pointer (some ⟨H.length, 0, none⟩) ∧ s 5 = .slice (some ⟨A.length, 0, none⟩) n.toNat n.toNat ∧ s 6 = .int .i64 ((j : Nat) : Int) ∧ us.length = n.toNat ∧ H'[A.length]? = some (.cells us 38 false) ∧ (∀ x, x < j → Row 3 H' (us.getD x undef) (nbsU es x n.toNat) ∧ (us.getD x undef = .slice none 0 0 ∨ A.length < rowO (us.getD x undef))) ∧ A <+: H') n.toNat ?_ ?_
  · exact ⟨0, List.replicate n.toNat (.slice none 0 0), by simp, rfl, rfl, rfl, rfl, by simp, z0, fun x hx => absurd hx (Nat.not_lt_zero x), List.prefix_append _ _⟩
  · rintro m s H' ⟨j, us, hm, h1, h2, h5, h6, hul, hc, hrows, hp⟩
    have hr' := rA.pre hp
    have cH := pre_at hp cA
    simp (maxSteps := 1000000) (disch := omega) only [h1, h2, h5, h6, cell_of cH, S, S1, S2, S3, S4, S5, ST, eq_self, reduceIte, reduceCtorEq, Nat.reduceEqDiff, Nat.reduceAdd]
    refine brD.intro (fun g => ?_) (fun g => ?_)
    · simp (maxSteps := 1000000) (disch := omega) only [h1, h2, h5, h6, ld_agg ag31 cs31 cH, S, S1, S2, S3, S4, S5, ST, eq_self, reduceIte, reduceCtorEq, Nat.reduceEqDiff, Nat.reduceAdd]
      refine CallH.by (l2Neighbors_c n v es j H' hr' hlen hn) ?_
      rintro b D ⟨hb, pD⟩
      have hcD := pre_at pD hc
      have hju : j < us.length := by omega
      have hsh := hb.row.shape
      obtain ⟨q, eq⟩ := hsh
      have t1 : isTup b = false := by rw [eq]; rfl
      have t2 : b.cells.toList = [b] := by rw [eq]; rfl
      have hst := st_at (P := Tryz.prog) (t := 38) cs38 hcD hju t1 t2
      simp (maxSteps := 1000000) (disch := omega) only [h1, h2, h5, h6, Int.toNat_natCast, Nat.zero_add, hst, wrap64, S, S1, S2, S3, S4, S5, ST, eq_self, reduceIte, reduceCtorEq, Nat.reduceEqDiff, Nat.reduceAdd]
      have hlt := at_lt hc
      have f0 := at_set (d := .cells (us.set j b) 38 false) hcD
      have f1 : A <+: D.set A.length (.cells (us.set j b) 38 false) := pre_set (hp.trans pD) (Nat.le_refl _) _
      have keep : ∀ {w : Value} {l : List Int}, Row 3 D w l → (w = .slice none 0 0 ∨ A.length < rowO w) → Row 3 (D.set A.length (.cells (us.set j b) 38 false)) w l := by
        intro w l hw ha
        rcases ha with ha | ha
        · rcases hw with hw | ⟨o, k, vs, ro, e1, _⟩
          · exact .inl hw
          · rw [e1] at ha; cases ha
        · exact hw.mono fun y hy => by rw [List.getElem?_set_ne (by omega)]; exact hy
      have hbo : b = .slice none 0 0 ∨ A.length < rowO b := by
        rcases hb with ⟨q, _⟩ | ⟨o, q, ho, _⟩
        · exact .inl q
        · refine .inr ?_
          rw [q]
          show A.length < o
          omega
      have f2 : ∀ x, x < j + 1 → Row 3 (D.set A.length (.cells (us.set j b) 38 false)) ((us.set j b).getD x undef) (nbsU es x n.toNat) ∧ ((us.set j b).getD x undef = .slice none 0 0 ∨ A.length < rowO ((us.set j b).getD x undef)) := by
        intro x hx
        have hsx : (us.set j b).getD x undef = if j = x then b else us.getD x undef := by
          rw [List.getD_eq_getElem?_getD, List.getD_eq_getElem?_getD, List.getElem?_set]
          by_cases h : j = x
          · subst h; rw [if_pos rfl, if_pos rfl, if_pos hju]; rfl
          · rw [if_neg h, if_neg h]
        rw [hsx]
        split
        · rename_i e
          subst e
          exact ⟨keep hb.row hbo, hbo⟩
        · rename_i e
          obtain ⟨q1, q2⟩ := hrows x (by omega)
          exact ⟨keep (q1.pre pD) q2, q2⟩
      have f3 : (us.set j b).length = n.toNat := by simp [hul]
      refine ⟨m - 1, by omega, j + 1, us.set j b, ?_⟩
      (repeat' first | exact f0 | exact f1 | exact f2 | exact f3 | apply And.intro) <;> first | (simp only [Value.int.injEq, true_and]; omega) | omega | rfl | assumption | (simp; done) | (simp; omega)
    · have hj : j = n.toNat := by omega
      have hrow : RowLB H'.length 38 3 H' (.slice (some ⟨A.length, 0, none⟩) n.toNat n.toNat) (roadsL n.toNat es) := by
        refine ⟨us, .inr ⟨A.length, 0, us, false, by rw [hul], hc, by omega, by rw [List.drop_zero, List.take_of_length_le (Nat.le_refl _)]⟩, .inr (at_lt hc), by rw [roadsL_len, hul], fun x hx => ?_⟩
        rw [roadsL_len] at hx
        obtain ⟨q1, q2⟩ := hrows x (by omega)
        rw [roadsL_at _ _ _ hx]
        refine ⟨q1, ?_⟩
        rcases q1.nil with q | q
        · exact .inl q.1
        · exact .inr q
      simp (maxSteps := 1000000) (disch := omega) only [h1, h2, h5, h6, S, S1, S2, S3, S4, S5, ST, eq_self, reduceIte, reduceCtorEq, Nat.reduceEqDiff, Nat.reduceAdd]
      refine CallH.by (l2Spread_c _ (roadsL n.toNat es) i H' hrow (roadsL_ok _ _) (by rw [roadsL_len]; omega) (by rw [roadsL_len]; omega) (roadsL_small _ _ (by omega))) ?_
      rintro u E ⟨hu, pE⟩
      have hpp := pA.trans hp
      simp (maxSteps := 1000000) (disch := omega) only [S, S1, S2, S3, S4, S5, ST, eq_self, reduceIte, reduceCtorEq, Nat.reduceEqDiff, Nat.reduceAdd]
      refine hQ _ _ _ ?_
      simp (maxSteps := 1000000) (disch := omega) only [hu.row.tup, S, S1, S2, S3, S4, S5, ST, eq_self, reduceIte, reduceCtorEq, Nat.reduceEqDiff, Nat.reduceAdd]
      exact ⟨hu.base hpp, hpp.trans pE⟩
end Go.Proofs.YtlfongfhbkefmaaGreat.Ai
namespace Go.Proofs.YtlfongfhbkefmaaGreat.Ai
open Go
set_option linter.unusedVariables false
def dfF (a b : List Int) : Nat → List Int
  | 0 => []
  | k + 1 => dfF a b k ++ (if a.getD k 0 ≠ b.getD k 0 then [(k : Int)] else [])
/-- the places where two lists of one length differ -/
def dfL (a b : List Int) : List Int := dfF a b a.length
theorem dfF_len (a b : List Int) : ∀ k, (dfF a b k).length ≤ k
  | 0 => Nat.le_refl _
  | k + 1 => by
    have := dfF_len a b k
    simp only [dfF, List.length_append]
    split <;> simp <;> omega
end Go.Proofs.YtlfongfhbkefmaaGreat.Ai
