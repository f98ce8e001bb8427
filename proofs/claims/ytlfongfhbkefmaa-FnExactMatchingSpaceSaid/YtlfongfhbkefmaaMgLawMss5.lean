/- Texts of this claim, joined: SrtL, SrtF, AppL, Spc, JmpP, JmpQ, JmpS, BfsP, Rep, Bfs, MatW, Clone. -/
import Derived.Test.YtlfongfhbkefmaaProg
import Derived.KernelRfl
import Derived.Test.YtlfongfhbkefmaaMgLawMss4
namespace Go.Proofs.Ytlfongfhbkefmaa.Ai
open Go
def ords157 : List (Nat × List (Nat × Bool)) := []
def cd157 : Cd := (.seq (.reg [⟨⟨some 4, Op.assign (Operand.const (Value.int IntKind.i64 0)), none⟩, []⟩]) (.seq (.seq (.reg [⟨⟨some 9, Op.move (Operand.tmp 0), none⟩, []⟩,
  ⟨⟨some 10, Op.call { callee := (Callee.builtin Builtin.len), args := #[(Operand.tmp 9)], argTypes := #[38] }, none⟩, []⟩,
  ⟨⟨some 11, Op.move (Operand.const (Value.int IntKind.i64 0)), none⟩, []⟩]) (.block 0 (.loop (.seq (.reg [⟨⟨some 12, Op.binOp BinOp.lss 3 (Operand.tmp 11) (Operand.tmp 10) 3, none⟩, []⟩]) (.seq (.cond (Operand.tmp 12) .skip (.exit 0)) (.seq (.block 1 (.seq (.reg [⟨⟨some 13, Op.move (Operand.tmp 11), none⟩, []⟩,
  ⟨⟨some 14, Op.indexAddr 38 (Operand.tmp 9) (Operand.tmp 11), none⟩, []⟩,
  ⟨⟨some 15, Op.load 3 (Operand.tmp 14), none⟩, []⟩,
  ⟨⟨some 5, Op.assign (Operand.tmp 13), none⟩, []⟩,
  ⟨⟨some 6, Op.assign (Operand.tmp 15), none⟩, []⟩]) (.seq (.seq (.reg [⟨⟨some 16, Op.move (Operand.tmp 5), none⟩, []⟩,
  ⟨⟨some 17, Op.move (Operand.tmp 1), none⟩, []⟩,
  ⟨⟨some 18, Op.call { callee := (Callee.builtin Builtin.len), args := #[(Operand.tmp 17)], argTypes := #[38] }, none⟩, []⟩,
  ⟨⟨some 19, Op.binOp BinOp.geq 3 (Operand.tmp 16) (Operand.tmp 18) 3, none⟩, []⟩]) (.cond (Operand.tmp 19) (.seq (.reg [⟨⟨some 4, Op.assign (Operand.const (Value.int IntKind.i64 1)), none⟩, []⟩]) .ret) .skip)) (.seq (.reg [⟨⟨some 20, Op.move (Operand.tmp 1), none⟩, []⟩,
  ⟨⟨some 21, Op.move (Operand.tmp 5), none⟩, []⟩,
  ⟨⟨some 22, Op.indexAddr 38 (Operand.tmp 20) (Operand.tmp 21), none⟩, []⟩,
  ⟨⟨some 23, Op.load 3 (Operand.tmp 22), none⟩, []⟩,
  ⟨⟨some 7, Op.assign (Operand.tmp 23), none⟩, []⟩]) (.seq (.reg [⟨⟨some 24, Op.move (Operand.tmp 6), none⟩, []⟩,
  ⟨⟨some 25, Op.move (Operand.tmp 7), none⟩, []⟩,
  ⟨⟨some 26, Op.call { callee := (Callee.value (Operand.func 212)), args := #[(Operand.tmp 24), (Operand.tmp 25)], argTypes := #[3, 3] }, none⟩, []⟩,
  ⟨⟨some 8, Op.assign (Operand.tmp 26), none⟩, []⟩]) (.seq (.reg [⟨⟨some 27, Op.move (Operand.tmp 8), none⟩, []⟩,
  ⟨⟨some 28, Op.binOp BinOp.neq 3 (Operand.tmp 27) (Operand.const (Value.int IntKind.i64 0)) 3, none⟩, []⟩]) (.cond (Operand.tmp 28) (.seq (.reg [⟨⟨some 29, Op.move (Operand.tmp 8), none⟩, []⟩,
  ⟨⟨some 4, Op.assign (Operand.tmp 29), none⟩, []⟩]) .ret) .skip))))))) (.reg [⟨⟨some 30, Op.binOp BinOp.add 3 (Operand.tmp 11) (Operand.const (Value.int IntKind.i64 1)) 3, none⟩, []⟩,
  ⟨⟨some 11, Op.move (Operand.tmp 30), none⟩, []⟩]))))))) (.seq (.seq (.reg [⟨⟨some 31, Op.move (Operand.tmp 0), none⟩, []⟩,
  ⟨⟨some 32, Op.call { callee := (Callee.builtin Builtin.len), args := #[(Operand.tmp 31)], argTypes := #[38] }, none⟩, []⟩,
  ⟨⟨some 33, Op.move (Operand.tmp 1), none⟩, []⟩,
  ⟨⟨some 34, Op.call { callee := (Callee.builtin Builtin.len), args := #[(Operand.tmp 33)], argTypes := #[38] }, none⟩, []⟩,
  ⟨⟨some 35, Op.binOp BinOp.lss 3 (Operand.tmp 32) (Operand.tmp 34) 3, none⟩, []⟩]) (.cond (Operand.tmp 35) (.seq (.reg [⟨⟨some 4, Op.assign (Operand.const (Value.int IntKind.i64 (-1))), none⟩, []⟩]) .ret) .skip)) (.seq (.reg [⟨⟨some 4, Op.assign (Operand.const (Value.int IntKind.i64 0)), none⟩, []⟩]) .ret))))
theorem sl157 : slim Try.f157.ntmps ords157 (Try.f157.body.getD .skip) = some cd157 := by kernel_rfl
theorem in157 {args : List Value} {H : AH} {R : Value → AH → Prop} (hl : args.length = 2) (h : ∀ (Q : Exit → Sl → AH → Prop), (∀ e s H, endA Try.prog [ResultVar.tmp 4] R e s H → Q e s H) → wpC Try.prog cd157 Q (enterA args) H) : ACalls Try.prog 157 args H R :=
  ACalls.intro (by kernel_rfl) Try.func157 rfl (by kernel_rfl) sl157 hl (of_decide_eq_true (by kernel_rfl)) (by kernel_rfl) h
def ords273 : List (Nat × List (Nat × Bool)) := [(1, [(0, false), (1, false), (2, false), (3, false), (4, false), (5, false), (6, false), (7, false), (8, false), (9, true), (10, false)])]
def cd273 : Cd := (.seq (.reg [⟨⟨some 10, Op.assign (Operand.const (Value.int IntKind.i64 0)), none⟩, []⟩,
  ⟨⟨some 11, Op.assign (Operand.const (Value.int IntKind.i64 0)), none⟩, []⟩]) (.seq (.seq (.reg [⟨⟨some 12, Op.move (Operand.tmp 4), none⟩, []⟩,
  ⟨⟨some 13, Op.move (Operand.tmp 0), none⟩, []⟩,
  ⟨⟨some 14, Op.move (Operand.tmp 2), none⟩, []⟩,
  ⟨⟨some 15, Op.indexAddr 26 (Operand.tmp 13) (Operand.tmp 14), none⟩, []⟩,
  ⟨⟨some 16, Op.load 38 (Operand.tmp 15), none⟩, []⟩,
  ⟨⟨some 17, Op.move (Operand.tmp 0), none⟩, []⟩,
  ⟨⟨some 18, Op.move (Operand.tmp 1), none⟩, []⟩,
  ⟨⟨some 19, Op.indexAddr 26 (Operand.tmp 17) (Operand.tmp 18), none⟩, []⟩,
  ⟨⟨some 20, Op.load 38 (Operand.tmp 19), none⟩, []⟩,
  ⟨⟨some 21, Op.call { callee := (Callee.value (Operand.tmp 12)), args := #[(Operand.tmp 16), (Operand.tmp 20)], argTypes := #[38, 38] }, none⟩, []⟩,
  ⟨⟨some 22, Op.binOp BinOp.lss 3 (Operand.tmp 21) (Operand.const (Value.int IntKind.i64 0)) 3, none⟩, []⟩]) (.cond (Operand.tmp 22) (.seq (.reg [⟨⟨some 23, Op.move (Operand.tmp 3), none⟩, []⟩,
  ⟨⟨some 24, Op.nilCheck (Operand.tmp 23), none⟩, []⟩,
  ⟨⟨some 25, Op.load 3 (Operand.tmp 24), none⟩, []⟩,
  ⟨⟨some 26, Op.binOp BinOp.add 3 (Operand.tmp 25) (Operand.const (Value.int IntKind.i64 1)) 3, none⟩, []⟩,
  ⟨⟨some 27, Op.nilCheck (Operand.tmp 23), none⟩, []⟩,
  ⟨⟨none, Op.store 3 (Operand.tmp 27) (Operand.tmp 26), none⟩, []⟩]) (.seq (.reg [⟨⟨some 28, Op.move (Operand.tmp 2), none⟩, []⟩,
  ⟨⟨some 29, Op.move (Operand.tmp 1), none⟩, []⟩,
  ⟨⟨some 10, Op.assign (Operand.tmp 28), none⟩, []⟩,
  ⟨⟨some 11, Op.assign (Operand.tmp 29), none⟩, []⟩]) .ret)) .skip)) (.seq (.reg [⟨⟨some 30, Op.move (Operand.tmp 1), none⟩, []⟩,
  ⟨⟨some 31, Op.move (Operand.tmp 2), none⟩, []⟩,
  ⟨⟨some 10, Op.assign (Operand.tmp 30), none⟩, []⟩,
  ⟨⟨some 11, Op.assign (Operand.tmp 31), none⟩, []⟩]) .ret)))
theorem sl273 : slim Try.f273.ntmps ords273 (Try.f273.body.getD .skip) = some cd273 := by kernel_rfl
theorem in273 {args : List Value} {H : AH} {R : Value → AH → Prop} (hl : args.length = 5) (h : ∀ (Q : Exit → Sl → AH → Prop), (∀ e s H, endA Try.prog [ResultVar.tmp 10, ResultVar.tmp 11] R e s H → Q e s H) → wpC Try.prog cd273 Q (enterA args) H) : ACalls Try.prog 273 args H R :=
  ACalls.intro (by kernel_rfl) Try.func273 rfl (by kernel_rfl) sl273 hl (of_decide_eq_true (by kernel_rfl)) (by kernel_rfl) h
def ords269 : List (Nat × List (Nat × Bool)) := []
def cd269 : Cd := (.seq (.reg [⟨⟨some 12, Op.assign (Operand.const (Value.int IntKind.i64 0)), none⟩, []⟩]) (.seq (.reg [⟨⟨some 14, Op.move (Operand.tmp 0), none⟩, []⟩,
  ⟨⟨some 15, Op.move (Operand.tmp 1), none⟩, []⟩,
  ⟨⟨some 16, Op.move (Operand.tmp 2), none⟩, []⟩,
  ⟨⟨some 17, Op.move (Operand.tmp 4), none⟩, []⟩,
  ⟨⟨some 18, Op.move (Operand.tmp 5), none⟩, []⟩,
  ⟨⟨some 19, Op.call { callee := (Callee.value (Operand.func 273)), args := #[(Operand.tmp 14), (Operand.tmp 15), (Operand.tmp 16), (Operand.tmp 17), (Operand.tmp 18)], argTypes := #[26, 3, 3, 199, 105] }, none⟩, []⟩,
  ⟨⟨some 13, Op.move (Operand.tmp 19), none⟩, []⟩,
  ⟨⟨some 20, Op.extract (Operand.tmp 13) 0, none⟩, []⟩,
  ⟨⟨some 21, Op.extract (Operand.tmp 13) 1, none⟩, []⟩,
  ⟨⟨some 1, Op.assign (Operand.tmp 20), none⟩, []⟩,
  ⟨⟨some 2, Op.assign (Operand.tmp 21), none⟩, []⟩]) (.seq (.reg [⟨⟨some 23, Op.move (Operand.tmp 0), none⟩, []⟩,
  ⟨⟨some 24, Op.move (Operand.tmp 2), none⟩, []⟩,
  ⟨⟨some 25, Op.move (Operand.tmp 3), none⟩, []⟩,
  ⟨⟨some 26, Op.move (Operand.tmp 4), none⟩, []⟩,
  ⟨⟨some 27, Op.move (Operand.tmp 5), none⟩, []⟩,
  ⟨⟨some 28, Op.call { callee := (Callee.value (Operand.func 273)), args := #[(Operand.tmp 23), (Operand.tmp 24), (Operand.tmp 25), (Operand.tmp 26), (Operand.tmp 27)], argTypes := #[26, 3, 3, 199, 105] }, none⟩, []⟩,
  ⟨⟨some 22, Op.move (Operand.tmp 28), none⟩, []⟩,
  ⟨⟨some 29, Op.extract (Operand.tmp 22) 0, none⟩, []⟩,
  ⟨⟨some 30, Op.extract (Operand.tmp 22) 1, none⟩, []⟩,
  ⟨⟨some 2, Op.assign (Operand.tmp 29), none⟩, []⟩,
  ⟨⟨some 3, Op.assign (Operand.tmp 30), none⟩, []⟩]) (.seq (.reg [⟨⟨some 32, Op.move (Operand.tmp 0), none⟩, []⟩,
  ⟨⟨some 33, Op.move (Operand.tmp 1), none⟩, []⟩,
  ⟨⟨some 34, Op.move (Operand.tmp 2), none⟩, []⟩,
  ⟨⟨some 35, Op.move (Operand.tmp 4), none⟩, []⟩,
  ⟨⟨some 36, Op.move (Operand.tmp 5), none⟩, []⟩,
  ⟨⟨some 37, Op.call { callee := (Callee.value (Operand.func 273)), args := #[(Operand.tmp 32), (Operand.tmp 33), (Operand.tmp 34), (Operand.tmp 35), (Operand.tmp 36)], argTypes := #[26, 3, 3, 199, 105] }, none⟩, []⟩,
  ⟨⟨some 31, Op.move (Operand.tmp 37), none⟩, []⟩,
  ⟨⟨some 38, Op.extract (Operand.tmp 31) 0, none⟩, []⟩,
  ⟨⟨some 39, Op.extract (Operand.tmp 31) 1, none⟩, []⟩,
  ⟨⟨some 1, Op.assign (Operand.tmp 38), none⟩, []⟩,
  ⟨⟨some 2, Op.assign (Operand.tmp 39), none⟩, []⟩]) (.seq (.reg [⟨⟨some 40, Op.move (Operand.tmp 2), none⟩, []⟩,
  ⟨⟨some 12, Op.assign (Operand.tmp 40), none⟩, []⟩]) .ret)))))
theorem sl269 : slim Try.f269.ntmps ords269 (Try.f269.body.getD .skip) = some cd269 := by kernel_rfl
theorem in269 {args : List Value} {H : AH} {R : Value → AH → Prop} (hl : args.length = 6) (h : ∀ (Q : Exit → Sl → AH → Prop), (∀ e s H, endA Try.prog [ResultVar.tmp 12] R e s H → Q e s H) → wpC Try.prog cd269 Q (enterA args) H) : ACalls Try.prog 269 args H R :=
  ACalls.intro (by kernel_rfl) Try.func269 rfl (by kernel_rfl) sl269 hl (of_decide_eq_true (by kernel_rfl)) (by kernel_rfl) h
def ords268 : List (Nat × List (Nat × Bool)) := []
def cd268 : Cd := (.seq (.reg [⟨⟨some 8, Op.assign (Operand.const (Value.int IntKind.i64 0)), none⟩, []⟩]) (.seq (.reg [⟨⟨some 9, Op.move (Operand.tmp 0), none⟩, []⟩,
  ⟨⟨some 10, Op.move (Operand.tmp 1), none⟩, []⟩,
  ⟨⟨some 11, Op.binOp BinOp.sub 3 (Operand.tmp 10) (Operand.const (Value.int IntKind.i64 1)) 3, none⟩, []⟩,
  ⟨⟨some 12, Op.move (Operand.tmp 1), none⟩, []⟩,
  ⟨⟨some 13, Op.move (Operand.tmp 1), none⟩, []⟩,
  ⟨⟨some 14, Op.binOp BinOp.add 3 (Operand.tmp 13) (Operand.const (Value.int IntKind.i64 1)) 3, none⟩, []⟩,
  ⟨⟨some 15, Op.move (Operand.tmp 2), none⟩, []⟩,
  ⟨⟨some 16, Op.move (Operand.tmp 3), none⟩, []⟩,
  ⟨⟨some 17, Op.call { callee := (Callee.value (Operand.func 269)), args := #[(Operand.tmp 9), (Operand.tmp 11), (Operand.tmp 12), (Operand.tmp 14), (Operand.tmp 15), (Operand.tmp 16)], argTypes := #[26, 3, 3, 3, 199, 105] }, none⟩, []⟩,
  ⟨⟨some 8, Op.assign (Operand.tmp 17), none⟩, []⟩]) .ret))
theorem sl268 : slim Try.f268.ntmps ords268 (Try.f268.body.getD .skip) = some cd268 := by kernel_rfl
theorem in268 {args : List Value} {H : AH} {R : Value → AH → Prop} (hl : args.length = 4) (h : ∀ (Q : Exit → Sl → AH → Prop), (∀ e s H, endA Try.prog [ResultVar.tmp 8] R e s H → Q e s H) → wpC Try.prog cd268 Q (enterA args) H) : ACalls Try.prog 268 args H R :=
  ACalls.intro (by kernel_rfl) Try.func268 rfl (by kernel_rfl) sl268 hl (of_decide_eq_true (by kernel_rfl)) (by kernel_rfl) h
def ords253 : List (Nat × List (Nat × Bool)) := [(5, [(0, false), (1, false), (2, false), (3, false), (4, false), (5, false), (6, false), (7, false), (8, false), (9, false), (10, false), (11, false), (12, false), (13, false), (14, true), (15, false), (16, false), (17, false)]), (11, [(0, false), (1, false), (2, false), (3, false), (4, false), (5, false), (6, false), (7, false), (8, false), (9, false), (10, false), (11, false), (12, false), (13, false), (14, false), (15, true), (16, false), (17, true)]), (16, [(0, false), (1, false), (2, false), (3, false), (4, false), (5, false), (6, false), (7, false), (8, false), (9, false), (10, true), (11, false), (12, false)]), (17, [(0, false), (1, false), (2, false), (3, false), (4, false), (5, false), (6, false), (7, false), (8, false), (9, false), (10, false), (11, false), (12, false), (13, false), (14, false), (15, true), (16, false), (17, true)]), (22, [(0, false), (1, false), (2, false), (3, false), (4, false), (5, false), (6, false), (7, false), (8, false), (9, false), (10, true), (11, false), (12, false)]), (23, [(0, false), (1, false), (2, false), (3, false), (4, false), (5, false), (6, false), (7, false), (8, false), (9, false), (10, false), (11, false), (12, false), (13, false), (14, false), (15, true), (16, false), (17, true)])]
def cd253 : Cd := (.seq (.reg [⟨⟨some 8, Op.assign (Operand.const (Value.bool false)), none⟩, []⟩]) (.seq (.reg [⟨⟨some 13, Op.move (Operand.tmp 1), none⟩, []⟩,
  ⟨⟨some 14, Op.binOp BinOp.add 3 (Operand.tmp 13) (Operand.const (Value.int IntKind.i64 1)) 3, none⟩, []⟩,
  ⟨⟨some 9, Op.assign (Operand.tmp 14), none⟩, []⟩]) (.seq (.seq (.reg [⟨⟨some 10, Op.assign (Operand.const (Value.int IntKind.i64 0)), none⟩, []⟩]) (.block 0 (.loop (.seq (.seq (.reg [⟨⟨some 15, Op.move (Operand.tmp 10), none⟩, []⟩,
  ⟨⟨some 16, Op.binOp BinOp.lss 3 (Operand.tmp 15) (Operand.const (Value.int IntKind.i64 5)) 3, none⟩, []⟩]) (.cond (Operand.tmp 16) .skip (.exit 0))) (.seq (.block 1 (.seq (.block 2 (.loop (.seq (.seq (.reg [⟨⟨some 19, Op.move (Operand.tmp 9), none⟩, []⟩,
  ⟨⟨some 20, Op.move (Operand.tmp 2), none⟩, []⟩,
  ⟨⟨some 21, Op.binOp BinOp.lss 3 (Operand.tmp 19) (Operand.tmp 20) 3, none⟩, []⟩,
  ⟨⟨some 22, Op.move (Operand.tmp 21), none⟩, []⟩,
  ⟨⟨some 23, Op.move (Operand.tmp 3), some (22, true)⟩, []⟩,
  ⟨⟨some 24, Op.move (Operand.tmp 0), some (22, true)⟩, []⟩,
  ⟨⟨some 25, Op.move (Operand.tmp 9), some (22, true)⟩, []⟩,
  ⟨⟨some 26, Op.indexAddr 26 (Operand.tmp 24) (Operand.tmp 25), some (22, true)⟩, []⟩,
  ⟨⟨some 27, Op.load 38 (Operand.tmp 26), some (22, true)⟩, []⟩,
  ⟨⟨some 28, Op.move (Operand.tmp 0), some (22, true)⟩, []⟩,
  ⟨⟨some 29, Op.move (Operand.tmp 9), some (22, true)⟩, []⟩,
  ⟨⟨some 30, Op.binOp BinOp.sub 3 (Operand.tmp 29) (Operand.const (Value.int IntKind.i64 1)) 3, some (22, true)⟩, []⟩,
  ⟨⟨some 31, Op.indexAddr 26 (Operand.tmp 28) (Operand.tmp 30), some (22, true)⟩, []⟩,
  ⟨⟨some 32, Op.load 38 (Operand.tmp 31), some (22, true)⟩, []⟩,
  ⟨⟨some 33, Op.call { callee := (Callee.value (Operand.tmp 23)), args := #[(Operand.tmp 27), (Operand.tmp 32)], argTypes := #[38, 38] }, some (22, true)⟩, []⟩,
  ⟨⟨some 34, Op.binOp BinOp.lss 3 (Operand.tmp 33) (Operand.const (Value.int IntKind.i64 0)) 3, some (22, true)⟩, []⟩,
  ⟨⟨some 35, Op.unOp UnOp.not 4 (Operand.tmp 34), some (22, true)⟩, []⟩,
  ⟨⟨some 36, Op.pick (Operand.tmp 22) (Operand.tmp 35) (Operand.const (Value.bool false)), none⟩, []⟩]) (.cond (Operand.tmp 36) .skip (.exit 2))) (.block 3 (.reg [⟨⟨some 37, Op.move (Operand.tmp 9), none⟩, []⟩,
  ⟨⟨some 38, Op.binOp BinOp.add 3 (Operand.tmp 37) (Operand.const (Value.int IntKind.i64 1)) 3, none⟩, []⟩,
  ⟨⟨some 9, Op.assign (Operand.tmp 38), none⟩, []⟩]))))) (.seq (.seq (.reg [⟨⟨some 39, Op.move (Operand.tmp 9), none⟩, []⟩,
  ⟨⟨some 40, Op.move (Operand.tmp 2), none⟩, []⟩,
  ⟨⟨some 41, Op.binOp BinOp.eql 3 (Operand.tmp 39) (Operand.tmp 40) 3, none⟩, []⟩]) (.cond (Operand.tmp 41) (.seq (.reg [⟨⟨some 8, Op.assign (Operand.const (Value.bool true)), none⟩, []⟩]) .ret) .skip)) (.seq (.seq (.reg [⟨⟨some 42, Op.move (Operand.tmp 2), none⟩, []⟩,
  ⟨⟨some 43, Op.move (Operand.tmp 1), none⟩, []⟩,
  ⟨⟨some 44, Op.binOp BinOp.sub 3 (Operand.tmp 42) (Operand.tmp 43) 3, none⟩, []⟩,
  ⟨⟨some 45, Op.binOp BinOp.lss 3 (Operand.tmp 44) (Operand.const (Value.int IntKind.i64 50)) 3, none⟩, []⟩]) (.cond (Operand.tmp 45) (.seq (.reg [⟨⟨some 8, Op.assign (Operand.const (Value.bool false)), none⟩, []⟩]) .ret) .skip)) (.seq (.reg [⟨⟨some 46, Op.move (Operand.tmp 0), none⟩, []⟩,
  ⟨⟨some 47, Op.move (Operand.tmp 9), none⟩, []⟩,
  ⟨⟨some 48, Op.move (Operand.tmp 0), none⟩, []⟩,
  ⟨⟨some 49, Op.move (Operand.tmp 9), none⟩, []⟩,
  ⟨⟨some 50, Op.binOp BinOp.sub 3 (Operand.tmp 49) (Operand.const (Value.int IntKind.i64 1)) 3, none⟩, []⟩,
  ⟨⟨some 51, Op.move (Operand.tmp 0), none⟩, []⟩,
  ⟨⟨some 52, Op.move (Operand.tmp 9), none⟩, []⟩,
  ⟨⟨some 53, Op.binOp BinOp.sub 3 (Operand.tmp 52) (Operand.const (Value.int IntKind.i64 1)) 3, none⟩, []⟩,
  ⟨⟨some 54, Op.indexAddr 26 (Operand.tmp 51) (Operand.tmp 53), none⟩, []⟩,
  ⟨⟨some 55, Op.load 38 (Operand.tmp 54), none⟩, []⟩,
  ⟨⟨some 56, Op.move (Operand.tmp 0), none⟩, []⟩,
  ⟨⟨some 57, Op.move (Operand.tmp 9), none⟩, []⟩,
  ⟨⟨some 58, Op.indexAddr 26 (Operand.tmp 56) (Operand.tmp 57), none⟩, []⟩,
  ⟨⟨some 59, Op.load 38 (Operand.tmp 58), none⟩, []⟩,
  ⟨⟨some 60, Op.indexAddr 26 (Operand.tmp 46) (Operand.tmp 47), none⟩, []⟩,
  ⟨⟨none, Op.store 38 (Operand.tmp 60) (Operand.tmp 55), none⟩, []⟩,
  ⟨⟨some 61, Op.indexAddr 26 (Operand.tmp 48) (Operand.tmp 50), none⟩, []⟩,
  ⟨⟨none, Op.store 38 (Operand.tmp 61) (Operand.tmp 59), none⟩, []⟩]) (.seq (.seq (.reg [⟨⟨some 62, Op.move (Operand.tmp 9), none⟩, []⟩,
  ⟨⟨some 63, Op.move (Operand.tmp 1), none⟩, []⟩,
  ⟨⟨some 64, Op.binOp BinOp.sub 3 (Operand.tmp 62) (Operand.tmp 63) 3, none⟩, []⟩,
  ⟨⟨some 65, Op.binOp BinOp.geq 3 (Operand.tmp 64) (Operand.const (Value.int IntKind.i64 2)) 3, none⟩, []⟩]) (.cond (Operand.tmp 65) (.seq (.reg [⟨⟨some 66, Op.move (Operand.tmp 9), none⟩, []⟩,
  ⟨⟨some 67, Op.binOp BinOp.sub 3 (Operand.tmp 66) (Operand.const (Value.int IntKind.i64 1)) 3, none⟩, []⟩,
  ⟨⟨some 11, Op.assign (Operand.tmp 67), none⟩, []⟩]) (.block 4 (.loop (.seq (.seq (.reg [⟨⟨some 68, Op.move (Operand.tmp 11), none⟩, []⟩,
  ⟨⟨some 69, Op.binOp BinOp.geq 3 (Operand.tmp 68) (Operand.const (Value.int IntKind.i64 1)) 3, none⟩, []⟩]) (.cond (Operand.tmp 69) .skip (.exit 4))) (.seq (.block 5 (.seq (.seq (.reg [⟨⟨some 72, Op.move (Operand.tmp 3), none⟩, []⟩,
  ⟨⟨some 73, Op.move (Operand.tmp 0), none⟩, []⟩,
  ⟨⟨some 74, Op.move (Operand.tmp 11), none⟩, []⟩,
  ⟨⟨some 75, Op.indexAddr 26 (Operand.tmp 73) (Operand.tmp 74), none⟩, []⟩,
  ⟨⟨some 76, Op.load 38 (Operand.tmp 75), none⟩, []⟩,
  ⟨⟨some 77, Op.move (Operand.tmp 0), none⟩, []⟩,
  ⟨⟨some 78, Op.move (Operand.tmp 11), none⟩, []⟩,
  ⟨⟨some 79, Op.binOp BinOp.sub 3 (Operand.tmp 78) (Operand.const (Value.int IntKind.i64 1)) 3, none⟩, []⟩,
  ⟨⟨some 80, Op.indexAddr 26 (Operand.tmp 77) (Operand.tmp 79), none⟩, []⟩,
  ⟨⟨some 81, Op.load 38 (Operand.tmp 80), none⟩, []⟩,
  ⟨⟨some 82, Op.call { callee := (Callee.value (Operand.tmp 72)), args := #[(Operand.tmp 76), (Operand.tmp 81)], argTypes := #[38, 38] }, none⟩, []⟩,
  ⟨⟨some 83, Op.binOp BinOp.lss 3 (Operand.tmp 82) (Operand.const (Value.int IntKind.i64 0)) 3, none⟩, []⟩,
  ⟨⟨some 84, Op.unOp UnOp.not 4 (Operand.tmp 83), none⟩, []⟩]) (.cond (Operand.tmp 84) (.exit 4) .skip)) (.reg [⟨⟨some 85, Op.move (Operand.tmp 0), none⟩, []⟩,
  ⟨⟨some 86, Op.move (Operand.tmp 11), none⟩, []⟩,
  ⟨⟨some 87, Op.move (Operand.tmp 0), none⟩, []⟩,
  ⟨⟨some 88, Op.move (Operand.tmp 11), none⟩, []⟩,
  ⟨⟨some 89, Op.binOp BinOp.sub 3 (Operand.tmp 88) (Operand.const (Value.int IntKind.i64 1)) 3, none⟩, []⟩,
  ⟨⟨some 90, Op.move (Operand.tmp 0), none⟩, []⟩,
  ⟨⟨some 91, Op.move (Operand.tmp 11), none⟩, []⟩,
  ⟨⟨some 92, Op.binOp BinOp.sub 3 (Operand.tmp 91) (Operand.const (Value.int IntKind.i64 1)) 3, none⟩, []⟩,
  ⟨⟨some 93, Op.indexAddr 26 (Operand.tmp 90) (Operand.tmp 92), none⟩, []⟩,
  ⟨⟨some 94, Op.load 38 (Operand.tmp 93), none⟩, []⟩,
  ⟨⟨some 95, Op.move (Operand.tmp 0), none⟩, []⟩,
  ⟨⟨some 96, Op.move (Operand.tmp 11), none⟩, []⟩,
  ⟨⟨some 97, Op.indexAddr 26 (Operand.tmp 95) (Operand.tmp 96), none⟩, []⟩,
  ⟨⟨some 98, Op.load 38 (Operand.tmp 97), none⟩, []⟩,
  ⟨⟨some 99, Op.indexAddr 26 (Operand.tmp 85) (Operand.tmp 86), none⟩, []⟩,
  ⟨⟨none, Op.store 38 (Operand.tmp 99) (Operand.tmp 94), none⟩, []⟩,
  ⟨⟨some 100, Op.indexAddr 26 (Operand.tmp 87) (Operand.tmp 89), none⟩, []⟩,
  ⟨⟨none, Op.store 38 (Operand.tmp 100) (Operand.tmp 98), none⟩, []⟩]))) (.reg [⟨⟨some 70, Op.move (Operand.tmp 11), none⟩, []⟩,
  ⟨⟨some 71, Op.binOp BinOp.sub 3 (Operand.tmp 70) (Operand.const (Value.int IntKind.i64 1)) 3, none⟩, []⟩,
  ⟨⟨some 11, Op.assign (Operand.tmp 71), none⟩, []⟩])))))) .skip)) (.seq (.reg [⟨⟨some 101, Op.move (Operand.tmp 2), none⟩, []⟩,
  ⟨⟨some 102, Op.move (Operand.tmp 9), none⟩, []⟩,
  ⟨⟨some 103, Op.binOp BinOp.sub 3 (Operand.tmp 101) (Operand.tmp 102) 3, none⟩, []⟩,
  ⟨⟨some 104, Op.binOp BinOp.geq 3 (Operand.tmp 103) (Operand.const (Value.int IntKind.i64 2)) 3, none⟩, []⟩]) (.cond (Operand.tmp 104) (.seq (.reg [⟨⟨some 105, Op.move (Operand.tmp 9), none⟩, []⟩,
  ⟨⟨some 106, Op.binOp BinOp.add 3 (Operand.tmp 105) (Operand.const (Value.int IntKind.i64 1)) 3, none⟩, []⟩,
  ⟨⟨some 12, Op.assign (Operand.tmp 106), none⟩, []⟩]) (.block 6 (.loop (.seq (.seq (.reg [⟨⟨some 107, Op.move (Operand.tmp 12), none⟩, []⟩,
  ⟨⟨some 108, Op.move (Operand.tmp 2), none⟩, []⟩,
  ⟨⟨some 109, Op.binOp BinOp.lss 3 (Operand.tmp 107) (Operand.tmp 108) 3, none⟩, []⟩]) (.cond (Operand.tmp 109) .skip (.exit 6))) (.seq (.block 7 (.seq (.seq (.reg [⟨⟨some 112, Op.move (Operand.tmp 3), none⟩, []⟩,
  ⟨⟨some 113, Op.move (Operand.tmp 0), none⟩, []⟩,
  ⟨⟨some 114, Op.move (Operand.tmp 12), none⟩, []⟩,
  ⟨⟨some 115, Op.indexAddr 26 (Operand.tmp 113) (Operand.tmp 114), none⟩, []⟩,
  ⟨⟨some 116, Op.load 38 (Operand.tmp 115), none⟩, []⟩,
  ⟨⟨some 117, Op.move (Operand.tmp 0), none⟩, []⟩,
  ⟨⟨some 118, Op.move (Operand.tmp 12), none⟩, []⟩,
  ⟨⟨some 119, Op.binOp BinOp.sub 3 (Operand.tmp 118) (Operand.const (Value.int IntKind.i64 1)) 3, none⟩, []⟩,
  ⟨⟨some 120, Op.indexAddr 26 (Operand.tmp 117) (Operand.tmp 119), none⟩, []⟩,
  ⟨⟨some 121, Op.load 38 (Operand.tmp 120), none⟩, []⟩,
  ⟨⟨some 122, Op.call { callee := (Callee.value (Operand.tmp 112)), args := #[(Operand.tmp 116), (Operand.tmp 121)], argTypes := #[38, 38] }, none⟩, []⟩,
  ⟨⟨some 123, Op.binOp BinOp.lss 3 (Operand.tmp 122) (Operand.const (Value.int IntKind.i64 0)) 3, none⟩, []⟩,
  ⟨⟨some 124, Op.unOp UnOp.not 4 (Operand.tmp 123), none⟩, []⟩]) (.cond (Operand.tmp 124) (.exit 6) .skip)) (.reg [⟨⟨some 125, Op.move (Operand.tmp 0), none⟩, []⟩,
  ⟨⟨some 126, Op.move (Operand.tmp 12), none⟩, []⟩,
  ⟨⟨some 127, Op.move (Operand.tmp 0), none⟩, []⟩,
  ⟨⟨some 128, Op.move (Operand.tmp 12), none⟩, []⟩,
  ⟨⟨some 129, Op.binOp BinOp.sub 3 (Operand.tmp 128) (Operand.const (Value.int IntKind.i64 1)) 3, none⟩, []⟩,
  ⟨⟨some 130, Op.move (Operand.tmp 0), none⟩, []⟩,
  ⟨⟨some 131, Op.move (Operand.tmp 12), none⟩, []⟩,
  ⟨⟨some 132, Op.binOp BinOp.sub 3 (Operand.tmp 131) (Operand.const (Value.int IntKind.i64 1)) 3, none⟩, []⟩,
  ⟨⟨some 133, Op.indexAddr 26 (Operand.tmp 130) (Operand.tmp 132), none⟩, []⟩,
  ⟨⟨some 134, Op.load 38 (Operand.tmp 133), none⟩, []⟩,
  ⟨⟨some 135, Op.move (Operand.tmp 0), none⟩, []⟩,
  ⟨⟨some 136, Op.move (Operand.tmp 12), none⟩, []⟩,
  ⟨⟨some 137, Op.indexAddr 26 (Operand.tmp 135) (Operand.tmp 136), none⟩, []⟩,
  ⟨⟨some 138, Op.load 38 (Operand.tmp 137), none⟩, []⟩,
  ⟨⟨some 139, Op.indexAddr 26 (Operand.tmp 125) (Operand.tmp 126), none⟩, []⟩,
  ⟨⟨none, Op.store 38 (Operand.tmp 139) (Operand.tmp 134), none⟩, []⟩,
  ⟨⟨some 140, Op.indexAddr 26 (Operand.tmp 127) (Operand.tmp 129), none⟩, []⟩,
  ⟨⟨none, Op.store 38 (Operand.tmp 140) (Operand.tmp 138), none⟩, []⟩]))) (.reg [⟨⟨some 110, Op.move (Operand.tmp 12), none⟩, []⟩,
  ⟨⟨some 111, Op.binOp BinOp.add 3 (Operand.tmp 110) (Operand.const (Value.int IntKind.i64 1)) 3, none⟩, []⟩,
  ⟨⟨some 12, Op.assign (Operand.tmp 111), none⟩, []⟩])))))) .skip)))))))) (.reg [⟨⟨some 17, Op.move (Operand.tmp 10), none⟩, []⟩,
  ⟨⟨some 18, Op.binOp BinOp.add 3 (Operand.tmp 17) (Operand.const (Value.int IntKind.i64 1)) 3, none⟩, []⟩,
  ⟨⟨some 10, Op.assign (Operand.tmp 18), none⟩, []⟩])))))) (.seq (.reg [⟨⟨some 8, Op.assign (Operand.const (Value.bool false)), none⟩, []⟩]) .ret))))
theorem sl253 : slim Try.f253.ntmps ords253 (Try.f253.body.getD .skip) = some cd253 := by kernel_rfl
theorem in253 {args : List Value} {H : AH} {R : Value → AH → Prop} (hl : args.length = 4) (h : ∀ (Q : Exit → Sl → AH → Prop), (∀ e s H, endA Try.prog [ResultVar.tmp 8] R e s H → Q e s H) → wpC Try.prog cd253 Q (enterA args) H) : ACalls Try.prog 253 args H R :=
  ACalls.intro (by kernel_rfl) Try.func253 rfl (by kernel_rfl) sl253 hl (of_decide_eq_true (by kernel_rfl)) (by kernel_rfl) h
def ords248 : List (Nat × List (Nat × Bool)) := [(4, [(0, false), (1, false), (2, false), (3, false), (4, false), (5, false), (6, false), (7, false), (8, false), (9, false), (10, false), (11, false), (12, false), (13, false), (14, true), (15, false), (16, false)]), (6, [(0, false), (1, false), (2, false), (3, false), (4, false), (5, false), (6, false), (7, false), (8, false), (9, false), (10, false), (11, false), (12, false), (13, false), (14, false), (15, true), (16, false), (17, true)])]
def cd248 : Cd := (.seq (.reg [⟨⟨some 10, Op.move (Operand.tmp 1), none⟩, []⟩,
  ⟨⟨some 11, Op.binOp BinOp.add 3 (Operand.tmp 10) (Operand.const (Value.int IntKind.i64 1)) 3, none⟩, []⟩,
  ⟨⟨some 8, Op.assign (Operand.tmp 11), none⟩, []⟩]) (.block 0 (.loop (.seq (.seq (.reg [⟨⟨some 12, Op.move (Operand.tmp 8), none⟩, []⟩,
  ⟨⟨some 13, Op.move (Operand.tmp 2), none⟩, []⟩,
  ⟨⟨some 14, Op.binOp BinOp.lss 3 (Operand.tmp 12) (Operand.tmp 13) 3, none⟩, []⟩]) (.cond (Operand.tmp 14) .skip (.exit 0))) (.seq (.block 1 (.seq (.reg [⟨⟨some 17, Op.move (Operand.tmp 8), none⟩, []⟩,
  ⟨⟨some 9, Op.assign (Operand.tmp 17), none⟩, []⟩]) (.block 2 (.loop (.seq (.seq (.reg [⟨⟨some 18, Op.move (Operand.tmp 9), none⟩, []⟩,
  ⟨⟨some 19, Op.move (Operand.tmp 1), none⟩, []⟩,
  ⟨⟨some 20, Op.binOp BinOp.gtr 3 (Operand.tmp 18) (Operand.tmp 19) 3, none⟩, []⟩,
  ⟨⟨some 21, Op.move (Operand.tmp 20), none⟩, []⟩,
  ⟨⟨some 22, Op.move (Operand.tmp 3), some (21, true)⟩, []⟩,
  ⟨⟨some 23, Op.move (Operand.tmp 0), some (21, true)⟩, []⟩,
  ⟨⟨some 24, Op.move (Operand.tmp 9), some (21, true)⟩, []⟩,
  ⟨⟨some 25, Op.indexAddr 26 (Operand.tmp 23) (Operand.tmp 24), some (21, true)⟩, []⟩,
  ⟨⟨some 26, Op.load 38 (Operand.tmp 25), some (21, true)⟩, []⟩,
  ⟨⟨some 27, Op.move (Operand.tmp 0), some (21, true)⟩, []⟩,
  ⟨⟨some 28, Op.move (Operand.tmp 9), some (21, true)⟩, []⟩,
  ⟨⟨some 29, Op.binOp BinOp.sub 3 (Operand.tmp 28) (Operand.const (Value.int IntKind.i64 1)) 3, some (21, true)⟩, []⟩,
  ⟨⟨some 30, Op.indexAddr 26 (Operand.tmp 27) (Operand.tmp 29), some (21, true)⟩, []⟩,
  ⟨⟨some 31, Op.load 38 (Operand.tmp 30), some (21, true)⟩, []⟩,
  ⟨⟨some 32, Op.call { callee := (Callee.value (Operand.tmp 22)), args := #[(Operand.tmp 26), (Operand.tmp 31)], argTypes := #[38, 38] }, some (21, true)⟩, []⟩,
  ⟨⟨some 33, Op.binOp BinOp.lss 3 (Operand.tmp 32) (Operand.const (Value.int IntKind.i64 0)) 3, some (21, true)⟩, []⟩,
  ⟨⟨some 34, Op.pick (Operand.tmp 21) (Operand.tmp 33) (Operand.const (Value.bool false)), none⟩, []⟩]) (.cond (Operand.tmp 34) .skip (.exit 2))) (.seq (.block 3 (.reg [⟨⟨some 37, Op.move (Operand.tmp 0), none⟩, []⟩,
  ⟨⟨some 38, Op.move (Operand.tmp 9), none⟩, []⟩,
  ⟨⟨some 39, Op.move (Operand.tmp 0), none⟩, []⟩,
  ⟨⟨some 40, Op.move (Operand.tmp 9), none⟩, []⟩,
  ⟨⟨some 41, Op.binOp BinOp.sub 3 (Operand.tmp 40) (Operand.const (Value.int IntKind.i64 1)) 3, none⟩, []⟩,
  ⟨⟨some 42, Op.move (Operand.tmp 0), none⟩, []⟩,
  ⟨⟨some 43, Op.move (Operand.tmp 9), none⟩, []⟩,
  ⟨⟨some 44, Op.binOp BinOp.sub 3 (Operand.tmp 43) (Operand.const (Value.int IntKind.i64 1)) 3, none⟩, []⟩,
  ⟨⟨some 45, Op.indexAddr 26 (Operand.tmp 42) (Operand.tmp 44), none⟩, []⟩,
  ⟨⟨some 46, Op.load 38 (Operand.tmp 45), none⟩, []⟩,
  ⟨⟨some 47, Op.move (Operand.tmp 0), none⟩, []⟩,
  ⟨⟨some 48, Op.move (Operand.tmp 9), none⟩, []⟩,
  ⟨⟨some 49, Op.indexAddr 26 (Operand.tmp 47) (Operand.tmp 48), none⟩, []⟩,
  ⟨⟨some 50, Op.load 38 (Operand.tmp 49), none⟩, []⟩,
  ⟨⟨some 51, Op.indexAddr 26 (Operand.tmp 37) (Operand.tmp 38), none⟩, []⟩,
  ⟨⟨none, Op.store 38 (Operand.tmp 51) (Operand.tmp 46), none⟩, []⟩,
  ⟨⟨some 52, Op.indexAddr 26 (Operand.tmp 39) (Operand.tmp 41), none⟩, []⟩,
  ⟨⟨none, Op.store 38 (Operand.tmp 52) (Operand.tmp 50), none⟩, []⟩])) (.reg [⟨⟨some 35, Op.move (Operand.tmp 9), none⟩, []⟩,
  ⟨⟨some 36, Op.binOp BinOp.sub 3 (Operand.tmp 35) (Operand.const (Value.int IntKind.i64 1)) 3, none⟩, []⟩,
  ⟨⟨some 9, Op.assign (Operand.tmp 36), none⟩, []⟩]))))))) (.reg [⟨⟨some 15, Op.move (Operand.tmp 8), none⟩, []⟩,
  ⟨⟨some 16, Op.binOp BinOp.add 3 (Operand.tmp 15) (Operand.const (Value.int IntKind.i64 1)) 3, none⟩, []⟩,
  ⟨⟨some 8, Op.assign (Operand.tmp 16), none⟩, []⟩]))))))
theorem sl248 : slim Try.f248.ntmps ords248 (Try.f248.body.getD .skip) = some cd248 := by kernel_rfl
theorem in248 {args : List Value} {H : AH} {R : Value → AH → Prop} (hl : args.length = 4) (h : ∀ (Q : Exit → Sl → AH → Prop), (∀ e s H, endA Try.prog [] R e s H → Q e s H) → wpC Try.prog cd248 Q (enterA args) H) : ACalls Try.prog 248 args H R :=
  ACalls.intro (by kernel_rfl) Try.func248 rfl (by kernel_rfl) sl248 hl (of_decide_eq_true (by kernel_rfl)) (by kernel_rfl) h
def ords251 : List (Nat × List (Nat × Bool)) := []
def cd251 : Cd := (.seq (.reg [⟨⟨some 8, Op.assign (Operand.const (Value.int IntKind.i64 0)), none⟩, []⟩,
  ⟨⟨some 9, Op.assign (Operand.const (Value.int IntKind.i64 0)), none⟩, []⟩]) (.seq (.reg [⟨⟨some 15, Op.move (Operand.tmp 2), none⟩, []⟩,
  ⟨⟨some 16, Op.move (Operand.tmp 1), none⟩, []⟩,
  ⟨⟨some 17, Op.binOp BinOp.sub 3 (Operand.tmp 15) (Operand.tmp 16) 3, none⟩, []⟩,
  ⟨⟨some 10, Op.assign (Operand.tmp 17), none⟩, []⟩]) (.seq (.reg [⟨⟨some 11, Op.alloc 3, none⟩, []⟩]) (.seq (.reg [⟨⟨some 18, Op.move (Operand.tmp 1), none⟩, []⟩,
  ⟨⟨some 19, Op.move (Operand.tmp 10), none⟩, []⟩,
  ⟨⟨some 20, Op.binOp BinOp.quo 3 (Operand.tmp 19) (Operand.const (Value.int IntKind.i64 4)) 3, none⟩, []⟩,
  ⟨⟨some 21, Op.binOp BinOp.mul 3 (Operand.tmp 20) (Operand.const (Value.int IntKind.i64 1)) 3, none⟩, []⟩,
  ⟨⟨some 22, Op.binOp BinOp.add 3 (Operand.tmp 18) (Operand.tmp 21) 3, none⟩, []⟩,
  ⟨⟨some 12, Op.assign (Operand.tmp 22), none⟩, []⟩]) (.seq (.reg [⟨⟨some 23, Op.move (Operand.tmp 1), none⟩, []⟩,
  ⟨⟨some 24, Op.move (Operand.tmp 10), none⟩, []⟩,
  ⟨⟨some 25, Op.binOp BinOp.quo 3 (Operand.tmp 24) (Operand.const (Value.int IntKind.i64 4)) 3, none⟩, []⟩,
  ⟨⟨some 26, Op.binOp BinOp.mul 3 (Operand.tmp 25) (Operand.const (Value.int IntKind.i64 2)) 3, none⟩, []⟩,
  ⟨⟨some 27, Op.binOp BinOp.add 3 (Operand.tmp 23) (Operand.tmp 26) 3, none⟩, []⟩,
  ⟨⟨some 13, Op.assign (Operand.tmp 27), none⟩, []⟩]) (.seq (.reg [⟨⟨some 28, Op.move (Operand.tmp 1), none⟩, []⟩,
  ⟨⟨some 29, Op.move (Operand.tmp 10), none⟩, []⟩,
  ⟨⟨some 30, Op.binOp BinOp.quo 3 (Operand.tmp 29) (Operand.const (Value.int IntKind.i64 4)) 3, none⟩, []⟩,
  ⟨⟨some 31, Op.binOp BinOp.mul 3 (Operand.tmp 30) (Operand.const (Value.int IntKind.i64 3)) 3, none⟩, []⟩,
  ⟨⟨some 32, Op.binOp BinOp.add 3 (Operand.tmp 28) (Operand.tmp 31) 3, none⟩, []⟩,
  ⟨⟨some 14, Op.assign (Operand.tmp 32), none⟩, []⟩]) (.seq (.seq (.reg [⟨⟨some 33, Op.move (Operand.tmp 10), none⟩, []⟩,
  ⟨⟨some 34, Op.binOp BinOp.geq 3 (Operand.tmp 33) (Operand.const (Value.int IntKind.i64 8)) 3, none⟩, []⟩]) (.cond (Operand.tmp 34) (.seq (.seq (.reg [⟨⟨some 35, Op.move (Operand.tmp 10), none⟩, []⟩,
  ⟨⟨some 36, Op.binOp BinOp.geq 3 (Operand.tmp 35) (Operand.const (Value.int IntKind.i64 50)) 3, none⟩, []⟩]) (.cond (Operand.tmp 36) (.seq (.reg [⟨⟨some 37, Op.move (Operand.tmp 0), none⟩, []⟩,
  ⟨⟨some 38, Op.move (Operand.tmp 12), none⟩, []⟩,
  ⟨⟨some 39, Op.move (Operand.tmp 3), none⟩, []⟩,
  ⟨⟨some 40, Op.call { callee := (Callee.value (Operand.func 268)), args := #[(Operand.tmp 37), (Operand.tmp 38), (Operand.tmp 11), (Operand.tmp 39)], argTypes := #[26, 3, 199, 105] }, none⟩, []⟩,
  ⟨⟨some 12, Op.assign (Operand.tmp 40), none⟩, []⟩]) (.seq (.reg [⟨⟨some 41, Op.move (Operand.tmp 0), none⟩, []⟩,
  ⟨⟨some 42, Op.move (Operand.tmp 13), none⟩, []⟩,
  ⟨⟨some 43, Op.move (Operand.tmp 3), none⟩, []⟩,
  ⟨⟨some 44, Op.call { callee := (Callee.value (Operand.func 268)), args := #[(Operand.tmp 41), (Operand.tmp 42), (Operand.tmp 11), (Operand.tmp 43)], argTypes := #[26, 3, 199, 105] }, none⟩, []⟩,
  ⟨⟨some 13, Op.assign (Operand.tmp 44), none⟩, []⟩]) (.reg [⟨⟨some 45, Op.move (Operand.tmp 0), none⟩, []⟩,
  ⟨⟨some 46, Op.move (Operand.tmp 14), none⟩, []⟩,
  ⟨⟨some 47, Op.move (Operand.tmp 3), none⟩, []⟩,
  ⟨⟨some 48, Op.call { callee := (Callee.value (Operand.func 268)), args := #[(Operand.tmp 45), (Operand.tmp 46), (Operand.tmp 11), (Operand.tmp 47)], argTypes := #[26, 3, 199, 105] }, none⟩, []⟩,
  ⟨⟨some 14, Op.assign (Operand.tmp 48), none⟩, []⟩]))) .skip)) (.reg [⟨⟨some 49, Op.move (Operand.tmp 0), none⟩, []⟩,
  ⟨⟨some 50, Op.move (Operand.tmp 12), none⟩, []⟩,
  ⟨⟨some 51, Op.move (Operand.tmp 13), none⟩, []⟩,
  ⟨⟨some 52, Op.move (Operand.tmp 14), none⟩, []⟩,
  ⟨⟨some 53, Op.move (Operand.tmp 3), none⟩, []⟩,
  ⟨⟨some 54, Op.call { callee := (Callee.value (Operand.func 269)), args := #[(Operand.tmp 49), (Operand.tmp 50), (Operand.tmp 51), (Operand.tmp 52), (Operand.tmp 11), (Operand.tmp 53)], argTypes := #[26, 3, 3, 3, 199, 105] }, none⟩, []⟩,
  ⟨⟨some 13, Op.assign (Operand.tmp 54), none⟩, []⟩])) .skip)) (.seq (.reg [⟨⟨some 55, Op.load 3 (Operand.tmp 11), none⟩, []⟩]) (.block 0 (.seq (.reg [⟨⟨some 58, Op.binOp BinOp.eql 3 (Operand.tmp 55) (Operand.const (Value.int IntKind.i64 0)) 3, none⟩, []⟩,
  ⟨⟨some 57, Op.assign (Operand.tmp 58), none⟩, []⟩]) (.cond (Operand.tmp 57) (.seq (.reg [⟨⟨some 59, Op.move (Operand.tmp 13), none⟩, []⟩,
  ⟨⟨some 8, Op.assign (Operand.tmp 59), none⟩, []⟩,
  ⟨⟨some 9, Op.assign (Operand.const (Value.int IntKind.i64 1)), none⟩, []⟩]) .ret) (.seq (.reg [⟨⟨some 61, Op.binOp BinOp.eql 3 (Operand.tmp 55) (Operand.const (Value.int IntKind.i64 12)) 3, none⟩, []⟩,
  ⟨⟨some 60, Op.assign (Operand.tmp 61), none⟩, []⟩]) (.cond (Operand.tmp 60) (.seq (.reg [⟨⟨some 62, Op.move (Operand.tmp 13), none⟩, []⟩,
  ⟨⟨some 8, Op.assign (Operand.tmp 62), none⟩, []⟩,
  ⟨⟨some 9, Op.assign (Operand.const (Value.int IntKind.i64 2)), none⟩, []⟩]) .ret) (.seq (.reg [⟨⟨some 56, Op.move (Operand.tmp 13), none⟩, []⟩,
  ⟨⟨some 8, Op.assign (Operand.tmp 56), none⟩, []⟩,
  ⟨⟨some 9, Op.assign (Operand.const (Value.int IntKind.i64 0)), none⟩, []⟩]) .ret))))))))))))))
theorem sl251 : slim Try.f251.ntmps ords251 (Try.f251.body.getD .skip) = some cd251 := by kernel_rfl
theorem in251 {args : List Value} {H : AH} {R : Value → AH → Prop} (hl : args.length = 4) (h : ∀ (Q : Exit → Sl → AH → Prop), (∀ e s H, endA Try.prog [ResultVar.tmp 8, ResultVar.tmp 9] R e s H → Q e s H) → wpC Try.prog cd251 Q (enterA args) H) : ACalls Try.prog 251 args H R :=
  ACalls.intro (by kernel_rfl) Try.func251 rfl (by kernel_rfl) sl251 hl (of_decide_eq_true (by kernel_rfl)) (by kernel_rfl) h
def ords211 : List (Nat × List (Nat × Bool)) := [(17, [(0, false), (1, false), (2, false), (3, false), (4, false), (5, false), (6, false), (7, false), (8, false), (9, false), (10, false), (11, false), (12, false), (13, true), (14, false), (15, false), (16, false)])]
def cd211 : Cd := (.seq (.reg [⟨⟨some 10, Op.assign (Operand.const (Value.bool true)), none⟩, []⟩]) (.seq (.reg [⟨⟨some 11, Op.assign (Operand.const (Value.bool true)), none⟩, []⟩]) (.block 0 (.loop (.block 1 (.seq (.reg [⟨⟨some 21, Op.move (Operand.tmp 2), none⟩, []⟩,
  ⟨⟨some 22, Op.move (Operand.tmp 1), none⟩, []⟩,
  ⟨⟨some 23, Op.binOp BinOp.sub 3 (Operand.tmp 21) (Operand.tmp 22) 3, none⟩, []⟩,
  ⟨⟨some 12, Op.assign (Operand.tmp 23), none⟩, []⟩]) (.seq (.seq (.reg [⟨⟨some 24, Op.move (Operand.tmp 12), none⟩, []⟩,
  ⟨⟨some 25, Op.binOp BinOp.leq 3 (Operand.tmp 24) (Operand.const (Value.int IntKind.i64 12)) 3, none⟩, []⟩]) (.cond (Operand.tmp 25) (.seq (.reg [⟨⟨some 26, Op.move (Operand.tmp 0), none⟩, []⟩,
  ⟨⟨some 27, Op.move (Operand.tmp 1), none⟩, []⟩,
  ⟨⟨some 28, Op.move (Operand.tmp 2), none⟩, []⟩,
  ⟨⟨some 29, Op.move (Operand.tmp 4), none⟩, []⟩,
  ⟨⟨some 30, Op.call { callee := (Callee.value (Operand.func 248)), args := #[(Operand.tmp 26), (Operand.tmp 27), (Operand.tmp 28), (Operand.tmp 29)], argTypes := #[26, 3, 3, 105] }, none⟩, []⟩]) .ret) .skip)) (.seq (.seq (.reg [⟨⟨some 31, Op.move (Operand.tmp 3), none⟩, []⟩,
  ⟨⟨some 32, Op.binOp BinOp.eql 3 (Operand.tmp 31) (Operand.const (Value.int IntKind.i64 0)) 3, none⟩, []⟩]) (.cond (Operand.tmp 32) (.seq (.reg [⟨⟨some 33, Op.move (Operand.tmp 0), none⟩, []⟩,
  ⟨⟨some 34, Op.move (Operand.tmp 1), none⟩, []⟩,
  ⟨⟨some 35, Op.move (Operand.tmp 2), none⟩, []⟩,
  ⟨⟨some 36, Op.move (Operand.tmp 4), none⟩, []⟩,
  ⟨⟨some 37, Op.call { callee := (Callee.value (Operand.func 249)), args := #[(Operand.tmp 33), (Operand.tmp 34), (Operand.tmp 35), (Operand.tmp 36)], argTypes := #[26, 3, 3, 105] }, none⟩, []⟩]) .ret) .skip)) (.seq (.seq (.reg [⟨⟨some 38, Op.move (Operand.tmp 10), none⟩, []⟩,
  ⟨⟨some 39, Op.unOp UnOp.not 4 (Operand.tmp 38), none⟩, []⟩]) (.cond (Operand.tmp 39) (.seq (.reg [⟨⟨some 40, Op.move (Operand.tmp 0), none⟩, []⟩,
  ⟨⟨some 41, Op.move (Operand.tmp 1), none⟩, []⟩,
  ⟨⟨some 42, Op.move (Operand.tmp 2), none⟩, []⟩,
  ⟨⟨some 43, Op.move (Operand.tmp 4), none⟩, []⟩,
  ⟨⟨some 44, Op.call { callee := (Callee.value (Operand.func 250)), args := #[(Operand.tmp 40), (Operand.tmp 41), (Operand.tmp 42), (Operand.tmp 43)], argTypes := #[26, 3, 3, 105] }, none⟩, []⟩]) (.reg [⟨⟨some 45, Op.move (Operand.tmp 3), none⟩, []⟩,
  ⟨⟨some 46, Op.binOp BinOp.sub 3 (Operand.tmp 45) (Operand.const (Value.int IntKind.i64 1)) 3, none⟩, []⟩,
  ⟨⟨some 3, Op.assign (Operand.tmp 46), none⟩, []⟩])) .skip)) (.seq (.reg [⟨⟨some 48, Op.move (Operand.tmp 0), none⟩, []⟩,
  ⟨⟨some 49, Op.move (Operand.tmp 1), none⟩, []⟩,
  ⟨⟨some 50, Op.move (Operand.tmp 2), none⟩, []⟩,
  ⟨⟨some 51, Op.move (Operand.tmp 4), none⟩, []⟩,
  ⟨⟨some 52, Op.call { callee := (Callee.value (Operand.func 251)), args := #[(Operand.tmp 48), (Operand.tmp 49), (Operand.tmp 50), (Operand.tmp 51)], argTypes := #[26, 3, 3, 105] }, none⟩, []⟩,
  ⟨⟨some 47, Op.move (Operand.tmp 52), none⟩, []⟩,
  ⟨⟨some 53, Op.extract (Operand.tmp 47) 0, none⟩, []⟩,
  ⟨⟨some 54, Op.extract (Operand.tmp 47) 1, none⟩, []⟩,
  ⟨⟨some 13, Op.assign (Operand.tmp 53), none⟩, []⟩,
  ⟨⟨some 14, Op.assign (Operand.tmp 54), none⟩, []⟩]) (.seq (.seq (.reg [⟨⟨some 55, Op.move (Operand.tmp 14), none⟩, []⟩,
  ⟨⟨some 56, Op.binOp BinOp.eql 175 (Operand.tmp 55) (Operand.const (Value.int IntKind.i64 2)) 175, none⟩, []⟩]) (.cond (Operand.tmp 56) (.seq (.reg [⟨⟨some 57, Op.move (Operand.tmp 0), none⟩, []⟩,
  ⟨⟨some 58, Op.move (Operand.tmp 1), none⟩, []⟩,
  ⟨⟨some 59, Op.move (Operand.tmp 2), none⟩, []⟩,
  ⟨⟨some 60, Op.move (Operand.tmp 4), none⟩, []⟩,
  ⟨⟨some 61, Op.call { callee := (Callee.value (Operand.func 252)), args := #[(Operand.tmp 57), (Operand.tmp 58), (Operand.tmp 59), (Operand.tmp 60)], argTypes := #[26, 3, 3, 105] }, none⟩, []⟩]) (.seq (.reg [⟨⟨some 62, Op.move (Operand.tmp 2), none⟩, []⟩,
  ⟨⟨some 63, Op.binOp BinOp.sub 3 (Operand.tmp 62) (Operand.const (Value.int IntKind.i64 1)) 3, none⟩, []⟩,
  ⟨⟨some 64, Op.move (Operand.tmp 13), none⟩, []⟩,
  ⟨⟨some 65, Op.move (Operand.tmp 1), none⟩, []⟩,
  ⟨⟨some 66, Op.binOp BinOp.sub 3 (Operand.tmp 64) (Operand.tmp 65) 3, none⟩, []⟩,
  ⟨⟨some 67, Op.binOp BinOp.sub 3 (Operand.tmp 63) (Operand.tmp 66) 3, none⟩, []⟩,
  ⟨⟨some 13, Op.assign (Operand.tmp 67), none⟩, []⟩]) (.reg [⟨⟨some 14, Op.assign (Operand.const (Value.int IntKind.i64 1)), none⟩, []⟩]))) .skip)) (.seq (.seq (.reg [⟨⟨some 68, Op.move (Operand.tmp 10), none⟩, []⟩,
  ⟨⟨some 69, Op.move (Operand.tmp 68), none⟩, []⟩,
  ⟨⟨some 70, Op.move (Operand.tmp 11), some (69, true)⟩, []⟩,
  ⟨⟨some 71, Op.pick (Operand.tmp 69) (Operand.tmp 70) (Operand.const (Value.bool false)), none⟩, []⟩,
  ⟨⟨some 72, Op.move (Operand.tmp 71), none⟩, []⟩,
  ⟨⟨some 73, Op.move (Operand.tmp 14), some (72, true)⟩, []⟩,
  ⟨⟨some 74, Op.binOp BinOp.eql 175 (Operand.tmp 73) (Operand.const (Value.int IntKind.i64 1)) 175, some (72, true)⟩, []⟩,
  ⟨⟨some 75, Op.pick (Operand.tmp 72) (Operand.tmp 74) (Operand.const (Value.bool false)), none⟩, []⟩]) (.cond (Operand.tmp 75) (.seq (.reg [⟨⟨some 76, Op.move (Operand.tmp 0), none⟩, []⟩,
  ⟨⟨some 77, Op.move (Operand.tmp 1), none⟩, []⟩,
  ⟨⟨some 78, Op.move (Operand.tmp 2), none⟩, []⟩,
  ⟨⟨some 79, Op.move (Operand.tmp 4), none⟩, []⟩,
  ⟨⟨some 80, Op.call { callee := (Callee.value (Operand.func 253)), args := #[(Operand.tmp 76), (Operand.tmp 77), (Operand.tmp 78), (Operand.tmp 79)], argTypes := #[26, 3, 3, 105] }, none⟩, []⟩]) (.cond (Operand.tmp 80) .ret .skip)) .skip)) (.seq (.seq (.reg [⟨⟨some 81, Op.move (Operand.tmp 1), none⟩, []⟩,
  ⟨⟨some 82, Op.binOp BinOp.gtr 3 (Operand.tmp 81) (Operand.const (Value.int IntKind.i64 0)) 3, none⟩, []⟩,
  ⟨⟨some 83, Op.move (Operand.tmp 82), none⟩, []⟩,
  ⟨⟨some 84, Op.move (Operand.tmp 4), some (83, true)⟩, []⟩,
  ⟨⟨some 85, Op.move (Operand.tmp 0), some (83, true)⟩, []⟩,
  ⟨⟨some 86, Op.move (Operand.tmp 1), some (83, true)⟩, []⟩,
  ⟨⟨some 87, Op.binOp BinOp.sub 3 (Operand.tmp 86) (Operand.const (Value.int IntKind.i64 1)) 3, some (83, true)⟩, []⟩,
  ⟨⟨some 88, Op.indexAddr 26 (Operand.tmp 85) (Operand.tmp 87), some (83, true)⟩, []⟩,
  ⟨⟨some 89, Op.load 38 (Operand.tmp 88), some (83, true)⟩, []⟩,
  ⟨⟨some 90, Op.move (Operand.tmp 0), some (83, true)⟩, []⟩,
  ⟨⟨some 91, Op.move (Operand.tmp 13), some (83, true)⟩, []⟩,
  ⟨⟨some 92, Op.indexAddr 26 (Operand.tmp 90) (Operand.tmp 91), some (83, true)⟩, []⟩,
  ⟨⟨some 93, Op.load 38 (Operand.tmp 92), some (83, true)⟩, []⟩,
  ⟨⟨some 94, Op.call { callee := (Callee.value (Operand.tmp 84)), args := #[(Operand.tmp 89), (Operand.tmp 93)], argTypes := #[38, 38] }, some (83, true)⟩, []⟩,
  ⟨⟨some 95, Op.binOp BinOp.lss 3 (Operand.tmp 94) (Operand.const (Value.int IntKind.i64 0)) 3, some (83, true)⟩, []⟩,
  ⟨⟨some 96, Op.unOp UnOp.not 4 (Operand.tmp 95), some (83, true)⟩, []⟩,
  ⟨⟨some 97, Op.pick (Operand.tmp 83) (Operand.tmp 96) (Operand.const (Value.bool false)), none⟩, []⟩]) (.cond (Operand.tmp 97) (.seq (.reg [⟨⟨some 98, Op.move (Operand.tmp 0), none⟩, []⟩,
  ⟨⟨some 99, Op.move (Operand.tmp 1), none⟩, []⟩,
  ⟨⟨some 100, Op.move (Operand.tmp 2), none⟩, []⟩,
  ⟨⟨some 101, Op.move (Operand.tmp 13), none⟩, []⟩,
  ⟨⟨some 102, Op.move (Operand.tmp 4), none⟩, []⟩,
  ⟨⟨some 103, Op.call { callee := (Callee.value (Operand.func 254)), args := #[(Operand.tmp 98), (Operand.tmp 99), (Operand.tmp 100), (Operand.tmp 101), (Operand.tmp 102)], argTypes := #[26, 3, 3, 3, 105] }, none⟩, []⟩,
  ⟨⟨some 15, Op.assign (Operand.tmp 103), none⟩, []⟩]) (.seq (.reg [⟨⟨some 104, Op.move (Operand.tmp 15), none⟩, []⟩,
  ⟨⟨some 1, Op.assign (Operand.tmp 104), none⟩, []⟩]) (.exit 1))) .skip)) (.seq (.reg [⟨⟨some 106, Op.move (Operand.tmp 0), none⟩, []⟩,
  ⟨⟨some 107, Op.move (Operand.tmp 1), none⟩, []⟩,
  ⟨⟨some 108, Op.move (Operand.tmp 2), none⟩, []⟩,
  ⟨⟨some 109, Op.move (Operand.tmp 13), none⟩, []⟩,
  ⟨⟨some 110, Op.move (Operand.tmp 4), none⟩, []⟩,
  ⟨⟨some 111, Op.call { callee := (Callee.value (Operand.func 255)), args := #[(Operand.tmp 106), (Operand.tmp 107), (Operand.tmp 108), (Operand.tmp 109), (Operand.tmp 110)], argTypes := #[26, 3, 3, 3, 105] }, none⟩, []⟩,
  ⟨⟨some 105, Op.move (Operand.tmp 111), none⟩, []⟩,
  ⟨⟨some 112, Op.extract (Operand.tmp 105) 0, none⟩, []⟩,
  ⟨⟨some 113, Op.extract (Operand.tmp 105) 1, none⟩, []⟩,
  ⟨⟨some 16, Op.assign (Operand.tmp 112), none⟩, []⟩,
  ⟨⟨some 17, Op.assign (Operand.tmp 113), none⟩, []⟩]) (.seq (.reg [⟨⟨some 114, Op.move (Operand.tmp 17), none⟩, []⟩,
  ⟨⟨some 11, Op.assign (Operand.tmp 114), none⟩, []⟩]) (.seq (.reg [⟨⟨some 115, Op.move (Operand.tmp 16), none⟩, []⟩,
  ⟨⟨some 116, Op.move (Operand.tmp 1), none⟩, []⟩,
  ⟨⟨some 117, Op.binOp BinOp.sub 3 (Operand.tmp 115) (Operand.tmp 116) 3, none⟩, []⟩,
  ⟨⟨some 118, Op.move (Operand.tmp 2), none⟩, []⟩,
  ⟨⟨some 119, Op.move (Operand.tmp 16), none⟩, []⟩,
  ⟨⟨some 120, Op.binOp BinOp.sub 3 (Operand.tmp 118) (Operand.tmp 119) 3, none⟩, []⟩,
  ⟨⟨some 18, Op.assign (Operand.tmp 117), none⟩, []⟩,
  ⟨⟨some 19, Op.assign (Operand.tmp 120), none⟩, []⟩]) (.seq (.reg [⟨⟨some 121, Op.move (Operand.tmp 12), none⟩, []⟩,
  ⟨⟨some 122, Op.binOp BinOp.quo 3 (Operand.tmp 121) (Operand.const (Value.int IntKind.i64 8)) 3, none⟩, []⟩,
  ⟨⟨some 20, Op.assign (Operand.tmp 122), none⟩, []⟩]) (.seq (.reg [⟨⟨some 123, Op.move (Operand.tmp 18), none⟩, []⟩,
  ⟨⟨some 124, Op.move (Operand.tmp 19), none⟩, []⟩,
  ⟨⟨some 125, Op.binOp BinOp.lss 3 (Operand.tmp 123) (Operand.tmp 124) 3, none⟩, []⟩]) (.cond (Operand.tmp 125) (.seq (.reg [⟨⟨some 126, Op.move (Operand.tmp 18), none⟩, []⟩,
  ⟨⟨some 127, Op.move (Operand.tmp 20), none⟩, []⟩,
  ⟨⟨some 128, Op.binOp BinOp.geq 3 (Operand.tmp 126) (Operand.tmp 127) 3, none⟩, []⟩,
  ⟨⟨some 10, Op.assign (Operand.tmp 128), none⟩, []⟩]) (.seq (.reg [⟨⟨some 129, Op.move (Operand.tmp 0), none⟩, []⟩,
  ⟨⟨some 130, Op.move (Operand.tmp 1), none⟩, []⟩,
  ⟨⟨some 131, Op.move (Operand.tmp 16), none⟩, []⟩,
  ⟨⟨some 132, Op.move (Operand.tmp 3), none⟩, []⟩,
  ⟨⟨some 133, Op.move (Operand.tmp 4), none⟩, []⟩,
  ⟨⟨some 134, Op.call { callee := (Callee.value (Operand.func 211)), args := #[(Operand.tmp 129), (Operand.tmp 130), (Operand.tmp 131), (Operand.tmp 132), (Operand.tmp 133)], argTypes := #[26, 3, 3, 3, 105] }, none⟩, []⟩]) (.reg [⟨⟨some 135, Op.move (Operand.tmp 16), none⟩, []⟩,
  ⟨⟨some 136, Op.binOp BinOp.add 3 (Operand.tmp 135) (Operand.const (Value.int IntKind.i64 1)) 3, none⟩, []⟩,
  ⟨⟨some 1, Op.assign (Operand.tmp 136), none⟩, []⟩]))) (.seq (.reg [⟨⟨some 137, Op.move (Operand.tmp 19), none⟩, []⟩,
  ⟨⟨some 138, Op.move (Operand.tmp 20), none⟩, []⟩,
  ⟨⟨some 139, Op.binOp BinOp.geq 3 (Operand.tmp 137) (Operand.tmp 138) 3, none⟩, []⟩,
  ⟨⟨some 10, Op.assign (Operand.tmp 139), none⟩, []⟩]) (.seq (.reg [⟨⟨some 140, Op.move (Operand.tmp 0), none⟩, []⟩,
  ⟨⟨some 141, Op.move (Operand.tmp 16), none⟩, []⟩,
  ⟨⟨some 142, Op.binOp BinOp.add 3 (Operand.tmp 141) (Operand.const (Value.int IntKind.i64 1)) 3, none⟩, []⟩,
  ⟨⟨some 143, Op.move (Operand.tmp 2), none⟩, []⟩,
  ⟨⟨some 144, Op.move (Operand.tmp 3), none⟩, []⟩,
  ⟨⟨some 145, Op.move (Operand.tmp 4), none⟩, []⟩,
  ⟨⟨some 146, Op.call { callee := (Callee.value (Operand.func 211)), args := #[(Operand.tmp 140), (Operand.tmp 142), (Operand.tmp 143), (Operand.tmp 144), (Operand.tmp 145)], argTypes := #[26, 3, 3, 3, 105] }, none⟩, []⟩]) (.reg [⟨⟨some 147, Op.move (Operand.tmp 16), none⟩, []⟩,
  ⟨⟨some 2, Op.assign (Operand.tmp 147), none⟩, []⟩]))))))))))))))))))))))
theorem sl211 : slim Try.f211.ntmps ords211 (Try.f211.body.getD .skip) = some cd211 := by kernel_rfl
theorem in211 {args : List Value} {H : AH} {R : Value → AH → Prop} (hl : args.length = 5) (h : ∀ (Q : Exit → Sl → AH → Prop), (∀ e s H, endA Try.prog [] R e s H → Q e s H) → wpC Try.prog cd211 Q (enterA args) H) : ACalls Try.prog 211 args H R :=
  ACalls.intro (by kernel_rfl) Try.func211 rfl (by kernel_rfl) sl211 hl (of_decide_eq_true (by kernel_rfl)) (by kernel_rfl) h
end Go.Proofs.Ytlfongfhbkefmaa.Ai
namespace Go.Proofs.Ytlfongfhbkefmaa.Ai
open Go Go.RowKit
set_option linter.unusedVariables false
set_option linter.unusedSimpArgs false
/-- the order of lists -/
def cmpL : List Int → List Int → Int
  | [], [] => 0
  | [], _ :: _ => -1
  | _ :: _, [] => 1
  | a :: xs, b :: ys => if cmpI a b ≠ 0 then cmpI a b else cmpL xs ys
theorem cmpL_nil (ys : List Int) : cmpL [] ys = if 0 < ys.length then -1 else 0 := by
  cases ys with
  | nil => rfl
  | cons b bs => simp [cmpL]
theorem cmpL_step (xs ys : List Int) (i : Nat) (hi : i < xs.length) : cmpL (xs.drop i) (ys.drop i) = if ys.length ≤ i then 1 else if cmpI (xs.getD i 0) (ys.getD i 0) ≠ 0 then cmpI (xs.getD i 0) (ys.getD i 0) else cmpL (xs.drop (i + 1)) (ys.drop (i + 1)) := by
  have hx : xs.getD i 0 = xs[i] := by simp [hi]
  rw [List.drop_eq_getElem_cons hi]
  by_cases hj : ys.length ≤ i
  · rw [if_pos hj, List.drop_of_length_le hj]; rfl
  · have hj' : i < ys.length := by omega
    have hy : ys.getD i 0 = ys[i] := by simp [hj']
    rw [if_neg hj, List.drop_eq_getElem_cons hj', hx, hy]; rfl
theorem cmpI_i64 (a b : Int) : -1 ≤ cmpI a b ∧ cmpI a b ≤ 1 := by unfold cmpI; repeat' split <;> omega
abbrev fnCmp : Value := .func (.func 157) #[] (List.toArray [])
set_option maxHeartbeats 1000000 in
theorem CmpL_c (v w : Value) (xs ys : List Int) (H : AH) (hr : Row 3 H v xs) (hr2 : Row 3 H w ys) (hlen : xs.length ≤ 1099511627776) (hlen2 : ys.length ≤ 1099511627776) :
    ACalls Try.prog 157 [v, w] H fun r H' => r = .int .i64 (cmpL xs ys) ∧ H = H' := by
  refine in157 rfl ?_
  intro Q hQ
  simp (maxSteps := 1000000) (disch := omega) only [cd157, hr.len Try.underlying38, S, S1, S2, S3, S4, S5, ST, eq_self, reduceIte, reduceCtorEq, Nat.reduceEqDiff, Nat.reduceAdd]
  refine LoopH.by (fun m s H' => ∃ i, m + i = xs.length ∧ s 0 = v ∧ s 1 = w ∧ s 9 = v ∧ s 10 = .int .i64 (xs.length : Int) ∧ s 11 = .int .i64 ((i : Nat) : Int) ∧ H = H' ∧ cmpL xs ys = cmpL (xs.drop i) (ys.drop i) ∧ (i ≤ ys.length ∨ i = 0)) xs.length ?_ ?_
  · exact ⟨0, by simp, rfl, rfl, rfl, rfl, rfl, rfl, by simp, .inr rfl⟩
  · rintro m s H' ⟨i, hm, h0, h1, h9, h10, h11, rfl, hc, hy⟩
    simp (maxSteps := 1000000) (disch := omega) only [h0, h1, h9, h10, h11, S, S1, S2, S3, S4, S5, ST, eq_self, reduceIte, reduceCtorEq, Nat.reduceEqDiff, Nat.reduceAdd]
    refine brD.intro (fun g => ?_) (fun g => ?_)
    · have hi : i < xs.length := by omega
      rw [cmpL_step xs ys i hi] at hc
      simp (maxSteps := 1000000) (disch := omega) only [h0, h1, h9, h10, h11, hr.ix Try.underlying38 cs3, hr.cell, Int.toNat_natCast, hr2.len Try.underlying38, S, S1, S2, S3, S4, S5, ST, eq_self, reduceIte, reduceCtorEq, Nat.reduceEqDiff, Nat.reduceAdd]
      refine brD.intro (fun e => ?_) (fun e => ?_)
      · simp (maxSteps := 1000000) (disch := omega) only [S, S1, S2, S3, S4, S5, ST, eq_self, reduceIte, reduceCtorEq, Nat.reduceEqDiff, Nat.reduceAdd]
        refine hQ _ _ _ ?_
        simp (maxSteps := 1000000) (disch := omega) only [S, S1, S2, S3, S4, S5, ST, eq_self, reduceIte, reduceCtorEq, Nat.reduceEqDiff, Nat.reduceAdd]
        rw [hc, if_pos (by omega)]
      · have hj : i < ys.length := by omega
        rw [if_neg (by omega)] at hc
        simp (maxSteps := 1000000) (disch := omega) only [h0, h1, h9, h10, h11, hr2.ix Try.underlying38 cs3, hr2.cell, Int.toNat_natCast, S, S1, S2, S3, S4, S5, ST, eq_self, reduceIte, reduceCtorEq, Nat.reduceEqDiff, Nat.reduceAdd]
        refine CallH.by (Compare_c _ _ H) ?_
        rintro _ _ ⟨rfl, rfl⟩
        simp (maxSteps := 1000000) (disch := omega) only [S, S1, S2, S3, S4, S5, ST, eq_self, reduceIte, reduceCtorEq, Nat.reduceEqDiff, Nat.reduceAdd]
        refine brD.intro (fun e2 => ?_) (fun e2 => ?_) <;> simp (maxSteps := 1000000) (disch := omega) only [h0, h1, h9, h10, h11, wrap64, S, S1, S2, S3, S4, S5, ST, eq_self, reduceIte, reduceCtorEq, Nat.reduceEqDiff, Nat.reduceAdd]
        · refine hQ _ _ _ ?_
          simp (maxSteps := 1000000) (disch := omega) only [S, S1, S2, S3, S4, S5, ST, eq_self, reduceIte, reduceCtorEq, Nat.reduceEqDiff, Nat.reduceAdd]
          rw [hc, if_pos e2]
        · rw [if_neg e2] at hc
          have f1 : i + 1 ≤ ys.length ∨ i + 1 = 0 := .inl hj
          refine ⟨m - 1, by omega, i + 1, ?_⟩
          (repeat' first | exact hc | exact f1 | apply And.intro) <;> first | (simp only [Value.int.injEq, true_and]; omega) | omega | rfl | assumption | (simp; done) | (simp; omega)
    · have hxe : i = xs.length := by omega
      rw [hxe, List.drop_length, cmpL_nil] at hc
      simp (maxSteps := 1000000) (disch := omega) only [h0, h1, hr.len Try.underlying38, hr2.len Try.underlying38, S, S1, S2, S3, S4, S5, ST, eq_self, reduceIte, reduceCtorEq, Nat.reduceEqDiff, Nat.reduceAdd]
      refine brD.intro (fun e => ?_) (fun e => ?_) <;> simp (maxSteps := 1000000) (disch := omega) only [S, S1, S2, S3, S4, S5, ST, eq_self, reduceIte, reduceCtorEq, Nat.reduceEqDiff, Nat.reduceAdd]
      · refine hQ _ _ _ ?_
        simp (maxSteps := 1000000) (disch := omega) only [S, S1, S2, S3, S4, S5, ST, eq_self, reduceIte, reduceCtorEq, Nat.reduceEqDiff, Nat.reduceAdd]
        rw [hc, if_pos (by simp; omega)]
      · refine hQ _ _ _ ?_
        simp (maxSteps := 1000000) (disch := omega) only [S, S1, S2, S3, S4, S5, ST, eq_self, reduceIte, reduceCtorEq, Nat.reduceEqDiff, Nat.reduceAdd]
        rw [hc, if_neg (by simp; omega)]
/-- in strict order -/
def SrtL (ls : List (List Int)) : Prop := ∀ i j, i < j → j < ls.length → 0 < cmpL (ls.getD j []) (ls.getD i [])
/-- such lists in memory -/
structure Sts (H : AH) (v : Value) (us : List Value) (ls : List (List Int)) : Prop where
  row : RowV 38 H v us
  len : us.length = ls.length
  each : ∀ i, i < ls.length → Row 3 H (us.getD i undef) (ls.getD i [])
  small : ∀ i, i < ls.length → (ls.getD i []).length ≤ 1099511627776
  bnd : ls.length ≤ 60000
  srt : SrtL ls
theorem Sts.pre {H H' : AH} {v : Value} {us : List Value} {ls : List (List Int)} (h : Sts H v us ls) (hp : H <+: H') : Sts H' v us ls := ⟨h.row.pre hp, h.len, fun i hi => (h.each i hi).pre hp, h.small, h.bnd, h.srt⟩
theorem cmpL_self : ∀ xs : List Int, cmpL xs xs = 0
  | [] => rfl
  | a :: xs => by
    have : cmpI a a = 0 := by unfold cmpI; rw [if_neg (by omega), if_neg (by omega)]
    rw [cmpL, if_neg (by rw [this]; decide)]; exact cmpL_self xs
theorem Sts.le {H : AH} {v : Value} {us : List Value} {ls : List (List Int)} (h : Sts H v us ls) {i j : Nat} (hij : i ≤ j) (hj : j < ls.length) : ¬ cmpL (ls.getD j []) (ls.getD i []) < 0 := by
  by_cases e : i = j
  · subst e; rw [cmpL_self]; omega
  · have := h.srt i j (by omega) hj; omega
section
variable {v : Value} {us : List Value} {ls : List (List Int)} {H : AH}
theorem Sts.cell (h : Sts H v us ls) {i : Nat} (hi : i < ls.length) : cellA H (rowO v) (rowK v + i) = some (us.getD i undef) := h.row.cell (by have := h.len; omega)
theorem Sts.cmp (h : Sts H v us ls) {i j : Nat} (hi : i < ls.length) (hj : j < ls.length) :
    ACalls Try.prog 157 [us.getD i undef, us.getD j undef] H fun r H' => r = .int .i64 (cmpL (ls.getD i []) (ls.getD j [])) ∧ H = H' := CmpL_c _ _ _ _ H (h.each i hi) (h.each j hj) (h.small i hi) (h.small j hj)
theorem order2_c (h : Sts H v us ls) (a b : Nat) (p : Value) (hab : a ≤ b) (hb : b < ls.length) :
    ACalls Try.prog 273 [v, .int .i64 (a : Int), .int .i64 (b : Int), p, fnCmp] H fun r H' => r = .tuple (List.toArray [.int .i64 (a : Int), .int .i64 (b : Int)]) ∧ H = H' := by
  refine in273 rfl ?_
  intro Q hQ
  have hl := h.len
  have hca := h.cell (show a < ls.length by omega)
  have hcb := h.cell hb
  simp (maxSteps := 1000000) (disch := omega) only [cd273, h.row.ix Try.underlying26 cs38, Int.toNat_natCast, hca, hcb, S, S1, S2, S3, S4, S5, ST, eq_self, reduceIte, reduceCtorEq, Nat.reduceEqDiff, Nat.reduceAdd]
  refine CallH.by (h.cmp hb (show a < ls.length by omega)) ?_
  rintro _ _ ⟨rfl, rfl⟩
  simp (maxSteps := 1000000) (disch := omega) only [S, S1, S2, S3, S4, S5, ST, eq_self, reduceIte, reduceCtorEq, Nat.reduceEqDiff, Nat.reduceAdd]
  refine brD.intro (fun e => absurd e (h.le hab hb)) (fun e => ?_)
  simp (maxSteps := 1000000) (disch := omega) only [S, S1, S2, S3, S4, S5, ST, eq_self, reduceIte, reduceCtorEq, Nat.reduceEqDiff, Nat.reduceAdd]
  refine hQ _ _ _ ?_
  simp (maxSteps := 1000000) (disch := omega) only [S, S1, S2, S3, S4, S5, ST, eq_self, reduceIte, reduceCtorEq, Nat.reduceEqDiff, Nat.reduceAdd]
theorem median_c (h : Sts H v us ls) (a b c : Nat) (p : Value) (hab : a ≤ b) (hbc : b ≤ c) (hc : c < ls.length) :
    ACalls Try.prog 269 [v, .int .i64 (a : Int), .int .i64 (b : Int), .int .i64 (c : Int), p, fnCmp] H fun r H' => r = .int .i64 (b : Int) ∧ H = H' := by
  refine in269 rfl ?_
  intro Q hQ
  simp (maxSteps := 1000000) (disch := omega) only [cd269, S, S1, S2, S3, S4, S5, ST, eq_self, reduceIte, reduceCtorEq, Nat.reduceEqDiff, Nat.reduceAdd]
  refine CallH.by (order2_c h a b p hab (by omega)) ?_
  rintro _ _ ⟨rfl, rfl⟩
  simp (maxSteps := 1000000) (disch := omega) only [S, S1, S2, S3, S4, S5, ST, eq_self, reduceIte, reduceCtorEq, Nat.reduceEqDiff, Nat.reduceAdd]
  refine CallH.by (order2_c h b c p hbc hc) ?_
  rintro _ _ ⟨rfl, rfl⟩
  simp (maxSteps := 1000000) (disch := omega) only [S, S1, S2, S3, S4, S5, ST, eq_self, reduceIte, reduceCtorEq, Nat.reduceEqDiff, Nat.reduceAdd]
  refine CallH.by (order2_c h a b p hab (by omega)) ?_
  rintro _ _ ⟨rfl, rfl⟩
  simp (maxSteps := 1000000) (disch := omega) only [S, S1, S2, S3, S4, S5, ST, eq_self, reduceIte, reduceCtorEq, Nat.reduceEqDiff, Nat.reduceAdd]
  refine hQ _ _ _ ?_
  simp (maxSteps := 1000000) (disch := omega) only [S, S1, S2, S3, S4, S5, ST, eq_self, reduceIte, reduceCtorEq, Nat.reduceEqDiff, Nat.reduceAdd]
theorem medianAdj_c (h : Sts H v us ls) (a : Nat) (p : Value) (ha : 1 ≤ a) (hc : a + 1 < ls.length) :
    ACalls Try.prog 268 [v, .int .i64 (a : Int), p, fnCmp] H fun r H' => r = .int .i64 (a : Int) ∧ H = H' := by
  refine in268 rfl ?_
  intro Q hQ
  have hb := h.bnd
  have e1 : (a : Int) - 1 = ((a - 1 : Nat) : Int) := by omega
  have e2 : (a : Int) + 1 = ((a + 1 : Nat) : Int) := by omega
  simp (maxSteps := 1000000) (disch := omega) only [cd268, wrap64, e1, e2, S, S1, S2, S3, S4, S5, ST, eq_self, reduceIte, reduceCtorEq, Nat.reduceEqDiff, Nat.reduceAdd]
  refine CallH.by (median_c h (a - 1) a (a + 1) p (by omega) (by omega) hc) ?_
  rintro _ _ ⟨rfl, rfl⟩
  simp (maxSteps := 1000000) (disch := omega) only [S, S1, S2, S3, S4, S5, ST, eq_self, reduceIte, reduceCtorEq, Nat.reduceEqDiff, Nat.reduceAdd]
  refine hQ _ _ _ ?_
  simp (maxSteps := 1000000) (disch := omega) only [S, S1, S2, S3, S4, S5, ST, eq_self, reduceIte, reduceCtorEq, Nat.reduceEqDiff, Nat.reduceAdd]
set_option maxRecDepth 20000 in
set_option maxHeartbeats 1000000 in
theorem partialIns_c (h : Sts H v us ls) (h1 : 1 ≤ ls.length) :
    ACalls Try.prog 253 [v, .int .i64 0, .int .i64 (ls.length : Int), fnCmp] H fun r H' => r = .bool true ∧ H = H' := by
  refine in253 rfl ?_
  intro Q hQ
  have hb := h.bnd
  have hl := h.len
  simp (maxSteps := 1000000) (disch := omega) only [cd253, wrap64, S, S1, S2, S3, S4, S5, ST, eq_self, reduceIte, reduceCtorEq, Nat.reduceEqDiff, Nat.reduceAdd]
  refine LoopH.by (fun m s H' => s 0 = v ∧ s 2 = .int .i64 (ls.length : Int) ∧ s 3 = fnCmp ∧ s 9 = .int .i64 1 ∧ s 10 = .int .i64 0 ∧ H = H') 0 ?_ ?_
  · exact ⟨rfl, rfl, rfl, rfl, rfl, rfl⟩
  · rintro m s H' ⟨h0, h2, h3, h9, h10, rfl⟩
    simp (maxSteps := 1000000) (disch := omega) only [h0, h2, h3, h9, h10, S, S1, S2, S3, S4, S5, ST, eq_self, reduceIte, reduceCtorEq, Nat.reduceEqDiff, Nat.reduceAdd]
    refine brD.intro (fun _ => ?_) (fun g => absurd (by decide) g)
    simp (maxSteps := 1000000) (disch := omega) only [h0, h2, h3, h9, h10, S, S1, S2, S3, S4, S5, ST, eq_self, reduceIte, reduceCtorEq, Nat.reduceEqDiff, Nat.reduceAdd]
    refine LoopH.by (fun m' s' H' => ∃ i, m' + i = ls.length ∧ 1 ≤ i ∧ s' 0 = v ∧ s' 2 = .int .i64 (ls.length : Int) ∧ s' 3 = fnCmp ∧ s' 9 = .int .i64 ((i : Nat) : Int) ∧ H = H') (ls.length - 1) ?_ ?_
    · exact ⟨1, by omega, by omega, by simp [S, S1, S2, S3, S4, S5, ST, eq_self, reduceIte, reduceCtorEq, Nat.reduceEqDiff, Nat.reduceAdd, h0], by simp [S, S1, S2, S3, S4, S5, ST, eq_self, reduceIte, reduceCtorEq, Nat.reduceEqDiff, Nat.reduceAdd, h2], by simp [S, S1, S2, S3, S4, S5, ST, eq_self, reduceIte, reduceCtorEq, Nat.reduceEqDiff, Nat.reduceAdd, h3], by simp [S, S1, S2, S3, S4, S5, ST, eq_self, reduceIte, reduceCtorEq, Nat.reduceEqDiff, Nat.reduceAdd, h9], rfl⟩
    · rintro m' s' H' ⟨i, hm, hi1, g0, g2, g3, g9, rfl⟩
      have e1 : (i : Int) - 1 = ((i - 1 : Nat) : Int) := by omega
      simp (maxSteps := 1000000) (disch := omega) only [g0, g2, g3, g9, S, S1, S2, S3, S4, S5, ST, eq_self, reduceIte, reduceCtorEq, Nat.reduceEqDiff, Nat.reduceAdd]
      refine brD.intro (fun g => ?_) (fun g => ?_)
      · have hi : i < ls.length := by omega
        have hc1 := h.cell hi
        have hc2 := h.cell (show i - 1 < ls.length by omega)
        simp (maxSteps := 1000000) (disch := omega) only [g, g0, g2, g3, g9, wrap64, e1, h.row.ix Try.underlying26 cs38, Int.toNat_natCast, hc1, hc2, S, S1, S2, S3, S4, S5, ST, eq_self, reduceIte, reduceCtorEq, Nat.reduceEqDiff, Nat.reduceAdd]
        refine CallH.by (h.cmp hi (show i - 1 < ls.length by omega)) ?_
        rintro _ _ ⟨rfl, rfl⟩
        simp (maxSteps := 1000000) (disch := omega) only [g, S, S1, S2, S3, S4, S5, ST, eq_self, reduceIte, reduceCtorEq, Nat.reduceEqDiff, Nat.reduceAdd]
        refine brD.intro (fun e => absurd e (h.le (by omega) hi)) (fun e => ?_)
        simp (maxSteps := 1000000) (disch := omega) only [g, e, g0, g2, g3, g9, wrap64, S, S1, S2, S3, S4, S5, ST, eq_self, reduceIte, reduceCtorEq, Nat.reduceEqDiff, Nat.reduceAdd]
        refine ⟨m' - 1, by omega, i + 1, ?_⟩
        (repeat' apply And.intro) <;> first | (simp only [Value.int.injEq, true_and]; omega) | omega | rfl | assumption | (simp; done) | (simp; omega)
      · have hi : i = ls.length := by omega
        subst hi
        simp (maxSteps := 1000000) (disch := omega) only [g, g0, g2, g3, g9, S, S1, S2, S3, S4, S5, ST, eq_self, reduceIte, reduceCtorEq, Nat.reduceEqDiff, Nat.reduceAdd]
        refine hQ _ _ _ ?_
        simp (maxSteps := 1000000) (disch := omega) only [S, S1, S2, S3, S4, S5, ST, eq_self, reduceIte, reduceCtorEq, Nat.reduceEqDiff, Nat.reduceAdd]
set_option maxRecDepth 20000 in
set_option maxHeartbeats 1000000 in
theorem insCmp_c (h : Sts H v us ls) :
    ACalls Try.prog 248 [v, .int .i64 0, .int .i64 (ls.length : Int), fnCmp] H fun r H' => H = H' := by
  refine in248 rfl ?_
  intro Q hQ
  have hb := h.bnd
  have hl := h.len
  simp (maxSteps := 1000000) (disch := omega) only [cd248, wrap64, S, S1, S2, S3, S4, S5, ST, eq_self, reduceIte, reduceCtorEq, Nat.reduceEqDiff, Nat.reduceAdd]
  refine LoopH.by (fun m s H' => ∃ i, m + i = ls.length + 1 ∧ 1 ≤ i ∧ s 0 = v ∧ s 1 = .int .i64 0 ∧ s 2 = .int .i64 (ls.length : Int) ∧ s 3 = fnCmp ∧ s 8 = .int .i64 ((i : Nat) : Int) ∧ H = H') ls.length ?_ ?_
  · exact ⟨1, by omega, by omega, rfl, rfl, rfl, rfl, rfl, rfl⟩
  · rintro m s H' ⟨i, hm, hi1, h0, h1, h2, h3, h8, rfl⟩
    simp (maxSteps := 1000000) (disch := omega) only [h0, h1, h2, h3, h8, S, S1, S2, S3, S4, S5, ST, eq_self, reduceIte, reduceCtorEq, Nat.reduceEqDiff, Nat.reduceAdd]
    refine brD.intro (fun g => ?_) (fun g => ?_)
    · have hi : i < ls.length := by omega
      have e1 : (i : Int) - 1 = ((i - 1 : Nat) : Int) := by omega
      have hc1 := h.cell hi
      have hc2 := h.cell (show i - 1 < ls.length by omega)
      simp (maxSteps := 1000000) (disch := omega) only [h0, h1, h2, h3, h8, S, S1, S2, S3, S4, S5, ST, eq_self, reduceIte, reduceCtorEq, Nat.reduceEqDiff, Nat.reduceAdd]
      refine LoopH.by (fun m' s' H' => s' 0 = v ∧ s' 1 = .int .i64 0 ∧ s' 2 = .int .i64 (ls.length : Int) ∧ s' 3 = fnCmp ∧ s' 8 = .int .i64 ((i : Nat) : Int) ∧ s' 9 = .int .i64 ((i : Nat) : Int) ∧ H = H') 0 ?_ ?_
      · simp only [S, S1, S2, S3, S4, S5, ST, eq_self, reduceIte, reduceCtorEq, Nat.reduceEqDiff, Nat.reduceAdd, h0, h1, h2, h3, h8]
      · rintro m' s' H' ⟨g0, g1, g2, g3, g8, g9, rfl⟩
        have hgt : (i : Int) > 0 := by omega
        simp (maxSteps := 1000000) (disch := omega) only [g0, g1, g2, g3, g8, g9, S, S1, S2, S3, S4, S5, ST, eq_self, reduceIte, reduceCtorEq, Nat.reduceEqDiff, Nat.reduceAdd]
        refine brD.intro (fun q => ?_) (fun q => absurd hgt q)
        simp (maxSteps := 1000000) (disch := omega) only [q, g0, g1, g2, g3, g8, g9, wrap64, e1, h.row.ix Try.underlying26 cs38, Int.toNat_natCast, hc1, hc2, S, S1, S2, S3, S4, S5, ST, eq_self, reduceIte, reduceCtorEq, Nat.reduceEqDiff, Nat.reduceAdd]
        refine CallH.by (h.cmp hi (show i - 1 < ls.length by omega)) ?_
        rintro _ _ ⟨rfl, rfl⟩
        simp (maxSteps := 1000000) (disch := omega) only [q, S, S1, S2, S3, S4, S5, ST, eq_self, reduceIte, reduceCtorEq, Nat.reduceEqDiff, Nat.reduceAdd]
        refine brD.intro (fun e => absurd e (h.le (by omega) hi)) (fun e => ?_)
        simp (maxSteps := 1000000) (disch := omega) only [q, e, g0, g1, g2, g3, g8, g9, wrap64, S, S1, S2, S3, S4, S5, ST, eq_self, reduceIte, reduceCtorEq, Nat.reduceEqDiff, Nat.reduceAdd]
        refine ⟨m - 1, by omega, i + 1, ?_⟩
        (repeat' apply And.intro) <;> first | (simp only [Value.int.injEq, true_and]; omega) | omega | rfl | assumption | (simp; done) | (simp; omega)
    · simp (maxSteps := 1000000) (disch := omega) only [S, S1, S2, S3, S4, S5, ST, eq_self, reduceIte, reduceCtorEq, Nat.reduceEqDiff, Nat.reduceAdd]
      refine hQ _ _ _ ?_
      simp (maxSteps := 1000000) (disch := omega) only [S, S1, S2, S3, S4, S5, ST, eq_self, reduceIte, reduceCtorEq, Nat.reduceEqDiff, Nat.reduceAdd]
theorem alloc_int (H : AH) : allocA Try.prog 3 H = some (.pointer (some ⟨H.length, 0, none⟩), H ++ [.cells [.int .i64 0] 3 false]) := by kernel_rfl
set_option maxRecDepth 20000 in
set_option maxHeartbeats 1000000 in
theorem choosePivot_c (h : Sts H v us ls) (h1 : 13 ≤ ls.length) :
    ACalls Try.prog 251 [v, .int .i64 0, .int .i64 (ls.length : Int), fnCmp] H fun r H' => (∃ j : Int, r = .tuple (List.toArray [.int .i64 j, .int .i64 1])) ∧ H <+: H' := by
  refine in251 rfl ?_
  intro Q hQ
  have hb := h.bnd
  have hl := h.len
  obtain ⟨q, hqd⟩ : ∃ q, ls.length / 4 = q := ⟨_, rfl⟩
  have hq : IntKind.i64.wrap ((ls.length : Int).tdiv 4) = (q : Int) := by
    rw [Int.tdiv_eq_ediv_of_nonneg (by omega), wrap64 (by omega) (by omega)]
    omega
  have e1 : (0 : Int) + (q : Int) * 1 = (q : Int) := by omega
  have e2 : (0 : Int) + (q : Int) * 2 = ((2 * q : Nat) : Int) := by omega
  have e3 : (0 : Int) + (q : Int) * 3 = ((3 * q : Nat) : Int) := by omega
  have e0 : (ls.length : Int) - 0 = (ls.length : Int) := by omega
  simp (maxSteps := 1000000) (disch := omega) only [cd251, alloc_int, wrap64, e0, hq, e1, e2, e3, S, S1, S2, S3, S4, S5, ST, eq_self, reduceIte, reduceCtorEq, Nat.reduceEqDiff, Nat.reduceAdd]
  generalize hA : H ++ [AObj.cells [.int .i64 0] 3 false] = A
  have pA : H <+: A := by rw [← hA]; exact List.prefix_append _ _
  have cA : A[H.length]? = some (.cells [.int .i64 0] 3 false) := by rw [← hA]; exact at_new ..
  have hA2 := h.pre pA
  refine brD.intro (fun g => ?_) (fun g => absurd (show (ls.length : Int) ≥ 8 by omega) g)
  simp (maxSteps := 1000000) (disch := omega) only [S, S1, S2, S3, S4, S5, ST, eq_self, reduceIte, reduceCtorEq, Nat.reduceEqDiff, Nat.reduceAdd]
  refine brD.intro (fun g2 => ?_) (fun g2 => ?_)
  · simp (maxSteps := 1000000) (disch := omega) only [S, S1, S2, S3, S4, S5, ST, eq_self, reduceIte, reduceCtorEq, Nat.reduceEqDiff, Nat.reduceAdd]
    refine CallH.by (medianAdj_c hA2 q _ (by omega) (by omega)) ?_
    rintro _ _ ⟨rfl, rfl⟩
    simp (maxSteps := 1000000) (disch := omega) only [S, S1, S2, S3, S4, S5, ST, eq_self, reduceIte, reduceCtorEq, Nat.reduceEqDiff, Nat.reduceAdd]
    refine CallH.by (medianAdj_c hA2 (2 * q) _ (by omega) (by omega)) ?_
    rintro _ _ ⟨rfl, rfl⟩
    simp (maxSteps := 1000000) (disch := omega) only [S, S1, S2, S3, S4, S5, ST, eq_self, reduceIte, reduceCtorEq, Nat.reduceEqDiff, Nat.reduceAdd]
    refine CallH.by (medianAdj_c hA2 (3 * q) _ (by omega) (by omega)) ?_
    rintro _ _ ⟨rfl, rfl⟩
    simp (maxSteps := 1000000) (disch := omega) only [S, S1, S2, S3, S4, S5, ST, eq_self, reduceIte, reduceCtorEq, Nat.reduceEqDiff, Nat.reduceAdd]
    refine CallH.by (median_c hA2 q (2 * q) (3 * q) _ (by omega) (by omega) (by omega)) ?_
    rintro _ _ ⟨rfl, rfl⟩
    simp (maxSteps := 1000000) (disch := omega) only [cell_of cA, S, S1, S2, S3, S4, S5, ST, eq_self, reduceIte, reduceCtorEq, Nat.reduceEqDiff, Nat.reduceAdd]
    first
      | (refine brD.intro (fun _ => ?_) (fun g3 => absurd rfl g3)
         simp (maxSteps := 1000000) (disch := omega) only [S, S1, S2, S3, S4, S5, ST, eq_self, reduceIte, reduceCtorEq, Nat.reduceEqDiff, Nat.reduceAdd])
      | skip
    refine hQ _ _ _ ?_
    simp (maxSteps := 1000000) (disch := omega) only [S, S1, S2, S3, S4, S5, ST, eq_self, reduceIte, reduceCtorEq, Nat.reduceEqDiff, Nat.reduceAdd]
    exact ⟨⟨_, rfl⟩, pA⟩
  · simp (maxSteps := 1000000) (disch := omega) only [S, S1, S2, S3, S4, S5, ST, eq_self, reduceIte, reduceCtorEq, Nat.reduceEqDiff, Nat.reduceAdd]
    refine CallH.by (median_c hA2 q (2 * q) (3 * q) _ (by omega) (by omega) (by omega)) ?_
    rintro _ _ ⟨rfl, rfl⟩
    simp (maxSteps := 1000000) (disch := omega) only [cell_of cA, S, S1, S2, S3, S4, S5, ST, eq_self, reduceIte, reduceCtorEq, Nat.reduceEqDiff, Nat.reduceAdd]
    first
      | (refine brD.intro (fun _ => ?_) (fun g3 => absurd rfl g3)
         simp (maxSteps := 1000000) (disch := omega) only [S, S1, S2, S3, S4, S5, ST, eq_self, reduceIte, reduceCtorEq, Nat.reduceEqDiff, Nat.reduceAdd])
      | skip
    refine hQ _ _ _ ?_
    simp (maxSteps := 1000000) (disch := omega) only [S, S1, S2, S3, S4, S5, ST, eq_self, reduceIte, reduceCtorEq, Nat.reduceEqDiff, Nat.reduceAdd]
    exact ⟨⟨_, rfl⟩, pA⟩
set_option maxRecDepth 20000 in
set_option maxHeartbeats 1000000 in
theorem pdqCmp_c (h : Sts H v us ls) (lim : Int) (hlim : lim ≠ 0 ∨ ls.length ≤ 12) :
    ACalls Try.prog 211 [v, .int .i64 0, .int .i64 (ls.length : Int), .int .i64 lim, fnCmp] H fun r H' => H <+: H' := by
  refine in211 rfl ?_
  intro Q hQ
  have hb := h.bnd
  have e0 : (ls.length : Int) - 0 = (ls.length : Int) := by omega
  simp (maxSteps := 1000000) (disch := omega) only [cd211, S, S1, S2, S3, S4, S5, ST, eq_self, reduceIte, reduceCtorEq, Nat.reduceEqDiff, Nat.reduceAdd]
  refine LoopH.by (fun m s H' => s 0 = v ∧ s 1 = .int .i64 0 ∧ s 2 = .int .i64 (ls.length : Int) ∧ s 3 = .int .i64 lim ∧ s 4 = fnCmp ∧ s 10 = .bool true ∧ s 11 = .bool true ∧ H = H') 0 ?_ ?_
  · exact ⟨rfl, rfl, rfl, rfl, rfl, rfl, rfl, rfl⟩
  · rintro m s H' ⟨h0, h1, h2, h3, h4, h10, h11, rfl⟩
    simp (maxSteps := 1000000) (disch := omega) only [h0, h1, h2, h3, h4, h10, h11, wrap64, e0, S, S1, S2, S3, S4, S5, ST, eq_self, reduceIte, reduceCtorEq, Nat.reduceEqDiff, Nat.reduceAdd]
    refine brD.intro (fun g => ?_) (fun g => ?_)
    · simp (maxSteps := 1000000) (disch := omega) only [h0, h1, h2, h3, h4, h10, h11, S, S1, S2, S3, S4, S5, ST, eq_self, reduceIte, reduceCtorEq, Nat.reduceEqDiff, Nat.reduceAdd]
      refine CallH.by (insCmp_c h) ?_
      rintro _ _ rfl
      simp (maxSteps := 1000000) (disch := omega) only [S, S1, S2, S3, S4, S5, ST, eq_self, reduceIte, reduceCtorEq, Nat.reduceEqDiff, Nat.reduceAdd]
      refine hQ _ _ _ ?_
      simp (maxSteps := 1000000) (disch := omega) only [S, S1, S2, S3, S4, S5, ST, eq_self, reduceIte, reduceCtorEq, Nat.reduceEqDiff, Nat.reduceAdd]
      exact List.prefix_refl _
    · have hlim' : lim ≠ 0 := hlim.resolve_right (by omega)
      simp (maxSteps := 1000000) (disch := omega) only [h0, h1, h2, h3, h4, h10, h11, S, S1, S2, S3, S4, S5, ST, eq_self, reduceIte, reduceCtorEq, Nat.reduceEqDiff, Nat.reduceAdd]
      refine brD.intro (fun g2 => absurd g2 hlim') (fun g2 => ?_)
      simp (maxSteps := 1000000) (disch := omega) only [h0, h1, h2, h3, h4, h10, h11, S, S1, S2, S3, S4, S5, ST, eq_self, reduceIte, reduceCtorEq, Nat.reduceEqDiff, Nat.reduceAdd]
      refine CallH.by (choosePivot_c h (by omega)) ?_
      rintro _ A ⟨⟨j, rfl⟩, pA⟩
      simp (maxSteps := 1000000) (disch := omega) only [h0, h1, h2, h3, h4, h10, h11, S, S1, S2, S3, S4, S5, ST, eq_self, reduceIte, reduceCtorEq, Nat.reduceEqDiff, Nat.reduceAdd]
      refine brD.intro (fun g3 => absurd g3 (by decide)) (fun g3 => ?_)
      simp (maxSteps := 1000000) (disch := omega) only [h0, h1, h2, h3, h4, h10, h11, S, S1, S2, S3, S4, S5, ST, eq_self, reduceIte, reduceCtorEq, Nat.reduceEqDiff, Nat.reduceAdd]
      refine CallH.by (partialIns_c (h.pre pA) (by omega)) ?_
      rintro _ _ ⟨rfl, rfl⟩
      simp (maxSteps := 1000000) (disch := omega) only [S, S1, S2, S3, S4, S5, ST, eq_self, reduceIte, reduceCtorEq, Nat.reduceEqDiff, Nat.reduceAdd]
      refine hQ _ _ _ ?_
      simp (maxSteps := 1000000) (disch := omega) only [S, S1, S2, S3, S4, S5, ST, eq_self, reduceIte, reduceCtorEq, Nat.reduceEqDiff, Nat.reduceAdd]
      exact pA
end
end Go.Proofs.Ytlfongfhbkefmaa.Ai
namespace Go.Proofs.Ytlfongfhbkefmaa.Ai
open Go
def ords156 : List (Nat × List (Nat × Bool)) := []
def cd156 : Cd := (.seq (.reg [⟨⟨some 5, Op.move (Operand.tmp 0), none⟩, []⟩,
  ⟨⟨some 6, Op.call { callee := (Callee.builtin Builtin.len), args := #[(Operand.tmp 5)], argTypes := #[26] }, none⟩, []⟩,
  ⟨⟨some 4, Op.assign (Operand.tmp 6), none⟩, []⟩]) (.reg [⟨⟨some 7, Op.move (Operand.tmp 0), none⟩, []⟩,
  ⟨⟨some 8, Op.move (Operand.tmp 4), none⟩, []⟩,
  ⟨⟨some 9, Op.move (Operand.tmp 4), none⟩, []⟩,
  ⟨⟨some 10, Op.convert 3 97 (Operand.tmp 9), none⟩, []⟩,
  ⟨⟨some 11, Op.call { callee := (Callee.value (Operand.func 166)), args := #[(Operand.tmp 10)], argTypes := #[97] }, none⟩, []⟩,
  ⟨⟨some 12, Op.move (Operand.tmp 1), none⟩, []⟩,
  ⟨⟨some 13, Op.call { callee := (Callee.value (Operand.func 211)), args := #[(Operand.tmp 7), (Operand.const (Value.int IntKind.i64 0)), (Operand.tmp 8), (Operand.tmp 11), (Operand.tmp 12)], argTypes := #[26, 3, 3, 3, 105] }, none⟩, []⟩]))
theorem sl156 : slim Try.f156.ntmps ords156 (Try.f156.body.getD .skip) = some cd156 := by kernel_rfl
theorem in156 {args : List Value} {H : AH} {R : Value → AH → Prop} (hl : args.length = 2) (h : ∀ (Q : Exit → Sl → AH → Prop), (∀ e s H, endA Try.prog [] R e s H → Q e s H) → wpC Try.prog cd156 Q (enterA args) H) : ACalls Try.prog 156 args H R :=
  ACalls.intro (by kernel_rfl) Try.func156 rfl (by kernel_rfl) sl156 hl (of_decide_eq_true (by kernel_rfl)) (by kernel_rfl) h
end Go.Proofs.Ytlfongfhbkefmaa.Ai
namespace Go.Proofs.Ytlfongfhbkefmaa.Ai
open Go Go.RowKit
set_option linter.unusedVariables false
set_option linter.unusedSimpArgs false
theorem str_at {P : Program} {t : TypeId} (hu : P.underlying t = some .string) (s : ByteArray) (hz : s.size = 256) (hp : ∀ i : Fin 256, 0 < i.1 → 1 ≤ (s.data.getD i.1 0).toNat) (k : IntKind) (n : Nat) (h0 : 0 < n) (h1 : n < 256) : ∃ b : Nat, 1 ≤ b ∧ b < 256 ∧ indexA P t (.string s) (.int k (n : Int)) = some (.int .u8 (b : Int)) := by
  have hl : n < s.data.size := by have : s.data.size = 256 := hz; omega
  have hlt : n < s.size := by omega
  have e1 : s[(n : Int).toNat]? = some s[n] := by rw [Int.toNat_natCast]; simp [hlt]
  have e2 := hp ⟨n, h1⟩ h0
  have e3 : s.data.getD n 0 = s[n] := by
    rw [Array.getD_eq_getD_getElem?, Array.getElem?_eq_getElem hl]; rfl
  refine ⟨s[n].toNat, ?_, UInt8.toNat_lt _, ?_⟩
  · rw [← e3]; exact e2
  · simp only [indexA, hu, if_pos (show (0 : Int) ≤ n by omega), e1]
set_option maxRecDepth 20000 in
theorem Len64b_c (n : Nat) (H : AH) (h0 : 0 < n) (hn : n < 65536) : ACalls Try.prog 225 [.int .u64 (n : Int)] H fun r H' => (∃ k : Int, r = .int .i64 k ∧ 1 ≤ k) ∧ H = H' := by
  refine in225 rfl ?_
  intro Q hQ
  have k8 : binA Try.prog .shr 122 (.int .u64 (n : Int)) (.int .u64 8) = some (.int .u64 ((n / 256 : Nat) : Int)) := by
    simp only [binA, shiftA]
    rw [if_pos (.inr trivial), if_neg (by decide)]
    congr 2
    have : (2 ^ min (8 : Int).toNat IntKind.u64.bits : Int) = 256 := by decide
    rw [this, Int.fdiv_eq_ediv_of_nonneg _ (by decide)]
    omega
  simp (maxSteps := 1000000) (disch := omega) only [cd225, S, S1, S2, S3, S4, S5, ST, eq_self, reduceIte, reduceCtorEq, Nat.reduceEqDiff, Nat.reduceAdd]
  refine brD.intro (fun h => absurd h (by omega)) (fun _ => ?_)
  simp (maxSteps := 1000000) (disch := omega) only [S, S1, S2, S3, S4, S5, ST, eq_self, reduceIte, reduceCtorEq, Nat.reduceEqDiff, Nat.reduceAdd]
  refine brD.intro (fun h => absurd h (by omega)) (fun _ => ?_)
  simp (maxSteps := 1000000) (disch := omega) only [S, S1, S2, S3, S4, S5, ST, eq_self, reduceIte, reduceCtorEq, Nat.reduceEqDiff, Nat.reduceAdd]
  refine brD.intro (fun h => ?_) (fun h => ?_)
  · have hw : IntKind.u8.wrap ((n / 256 : Nat) : Int) = ((n / 256 : Nat) : Int) := wrapU8 (by omega) (by omega)
    simp (maxSteps := 1000000) (disch := omega) only [k8, hw, wrap64, S, S1, S2, S3, S4, S5, ST, eq_self, reduceIte, reduceCtorEq, Nat.reduceEqDiff, Nat.reduceAdd]
    generalize hs : (ByteArray.mk _) = s
    have hz : s.size = 256 := by rw [← hs]; rfl
    have hp : ∀ i : Fin 256, 0 < i.1 → 1 ≤ (s.data.getD i.1 0).toNat := by rw [← hs]; decide +kernel
    obtain ⟨b, hb1, hb2, hb⟩ := str_at (P := Try.prog) Try.underlying9 s hz hp .u8 (n / 256) (by omega) (by omega)
    simp (maxSteps := 1000000) (disch := omega) only [hb, wrap64, S, S1, S2, S3, S4, S5, ST, eq_self, reduceIte, reduceCtorEq, Nat.reduceEqDiff, Nat.reduceAdd]
    refine hQ _ _ _ ?_
    simp (maxSteps := 1000000) (disch := omega) only [S, S1, S2, S3, S4, S5, ST, eq_self, reduceIte, reduceCtorEq, Nat.reduceEqDiff, Nat.reduceAdd]
    exact ⟨_, rfl, by omega⟩
  · have hw : IntKind.u8.wrap (n : Int) = (n : Int) := wrapU8 (by omega) (by omega)
    simp (maxSteps := 1000000) (disch := omega) only [hw, wrap64, S, S1, S2, S3, S4, S5, ST, eq_self, reduceIte, reduceCtorEq, Nat.reduceEqDiff, Nat.reduceAdd]
    generalize hs : (ByteArray.mk _) = s
    have hz : s.size = 256 := by rw [← hs]; rfl
    have hp : ∀ i : Fin 256, 0 < i.1 → 1 ≤ (s.data.getD i.1 0).toNat := by rw [← hs]; decide +kernel
    obtain ⟨b, hb1, hb2, hb⟩ := str_at (P := Try.prog) Try.underlying9 s hz hp .u8 n (by omega) (by omega)
    simp (maxSteps := 1000000) (disch := omega) only [hb, wrap64, S, S1, S2, S3, S4, S5, ST, eq_self, reduceIte, reduceCtorEq, Nat.reduceEqDiff, Nat.reduceAdd]
    refine hQ _ _ _ ?_
    simp (maxSteps := 1000000) (disch := omega) only [S, S1, S2, S3, S4, S5, ST, eq_self, reduceIte, reduceCtorEq, Nat.reduceEqDiff, Nat.reduceAdd]
    exact ⟨_, rfl, by omega⟩
theorem Lenb_c (n : Nat) (H : AH) (h0 : 0 < n) (hn : n < 65536) : ACalls Try.prog 166 [.int .u64 (n : Int)] H fun r H' => (∃ k : Int, r = .int .i64 k ∧ 1 ≤ k) ∧ H = H' := by
  refine in166 rfl ?_
  intro Q hQ
  simp (maxSteps := 1000000) (disch := omega) only [cd166, S, S1, S2, S3, S4, S5, ST, eq_self, reduceIte, reduceCtorEq, Nat.reduceEqDiff, Nat.reduceAdd]
  refine CallH.by (Len64b_c n H h0 hn) ?_
  rintro _ _ ⟨⟨k, rfl, hk⟩, rfl⟩
  simp (maxSteps := 1000000) (disch := omega) only [S, S1, S2, S3, S4, S5, ST, eq_self, reduceIte, reduceCtorEq, Nat.reduceEqDiff, Nat.reduceAdd]
  refine hQ _ _ _ ?_
  simp (maxSteps := 1000000) (disch := omega) only [S, S1, S2, S3, S4, S5, ST, eq_self, reduceIte, reduceCtorEq, Nat.reduceEqDiff, Nat.reduceAdd]
  exact ⟨_, rfl, hk⟩
theorem str_z {P : Program} {t : TypeId} (hu : P.underlying t = some .string) (s : ByteArray) (hz : s.size = 256) (k : IntKind) (n : Nat) (h1 : n < 256) : ∃ b : Nat, b < 256 ∧ indexA P t (.string s) (.int k (n : Int)) = some (.int .u8 (b : Int)) := by
  have hlt : n < s.size := by omega
  have e1 : s[(n : Int).toNat]? = some s[n] := by rw [Int.toNat_natCast]; simp [hlt]
  refine ⟨s[n].toNat, UInt8.toNat_lt _, ?_⟩
  simp only [indexA, hu, if_pos (show (0 : Int) ≤ n by omega), e1]
set_option maxRecDepth 20000 in
theorem Len64z_c (n : Nat) (H : AH) (h0 : n = 0) : ACalls Try.prog 225 [.int .u64 (n : Int)] H fun r H' => (∃ k : Int, r = .int .i64 k) ∧ H = H' := by
  refine in225 rfl ?_
  intro Q hQ
  simp (maxSteps := 1000000) (disch := omega) only [cd225, S, S1, S2, S3, S4, S5, ST, eq_self, reduceIte, reduceCtorEq, Nat.reduceEqDiff, Nat.reduceAdd]
  refine brD.intro (fun h => absurd h (by omega)) (fun _ => ?_)
  simp (maxSteps := 1000000) (disch := omega) only [S, S1, S2, S3, S4, S5, ST, eq_self, reduceIte, reduceCtorEq, Nat.reduceEqDiff, Nat.reduceAdd]
  refine brD.intro (fun h => absurd h (by omega)) (fun _ => ?_)
  simp (maxSteps := 1000000) (disch := omega) only [S, S1, S2, S3, S4, S5, ST, eq_self, reduceIte, reduceCtorEq, Nat.reduceEqDiff, Nat.reduceAdd]
  refine brD.intro (fun h => absurd h (by omega)) (fun _ => ?_)
  have hw : IntKind.u8.wrap (n : Int) = (n : Int) := wrapU8 (by omega) (by omega)
  simp (maxSteps := 1000000) (disch := omega) only [hw, wrap64, S, S1, S2, S3, S4, S5, ST, eq_self, reduceIte, reduceCtorEq, Nat.reduceEqDiff, Nat.reduceAdd]
  generalize hs : (ByteArray.mk _) = s
  have hz : s.size = 256 := by rw [← hs]; rfl
  obtain ⟨b, hb2, hb⟩ := str_z (P := Try.prog) Try.underlying9 s hz .u8 n (by omega)
  simp (maxSteps := 1000000) (disch := omega) only [hb, wrap64, S, S1, S2, S3, S4, S5, ST, eq_self, reduceIte, reduceCtorEq, Nat.reduceEqDiff, Nat.reduceAdd]
  refine hQ _ _ _ ?_
  simp (maxSteps := 1000000) (disch := omega) only [S, S1, S2, S3, S4, S5, ST, eq_self, reduceIte, reduceCtorEq, Nat.reduceEqDiff, Nat.reduceAdd]
  exact ⟨_, rfl⟩
theorem Lenz_c (n : Nat) (H : AH) (h0 : n = 0) : ACalls Try.prog 166 [.int .u64 (n : Int)] H fun r H' => (∃ k : Int, r = .int .i64 k) ∧ H = H' := by
  refine in166 rfl ?_
  intro Q hQ
  simp (maxSteps := 1000000) (disch := omega) only [cd166, S, S1, S2, S3, S4, S5, ST, eq_self, reduceIte, reduceCtorEq, Nat.reduceEqDiff, Nat.reduceAdd]
  refine CallH.by (Len64z_c n H h0) ?_
  rintro _ _ ⟨⟨k, rfl⟩, rfl⟩
  simp (maxSteps := 1000000) (disch := omega) only [S, S1, S2, S3, S4, S5, ST, eq_self, reduceIte, reduceCtorEq, Nat.reduceEqDiff, Nat.reduceAdd]
  refine hQ _ _ _ ?_
  simp (maxSteps := 1000000) (disch := omega) only [S, S1, S2, S3, S4, S5, ST, eq_self, reduceIte, reduceCtorEq, Nat.reduceEqDiff, Nat.reduceAdd]
  exact ⟨_, rfl⟩
theorem SortFunc_c {H : AH} {v : Value} {us : List Value} {ls : List (List Int)} (h : Sts H v us ls) :
    ACalls Try.prog 156 [v, fnCmp] H fun r H' => H <+: H' := by
  refine in156 rfl ?_
  intro Q hQ
  have hb := h.bnd
  have hl := h.len
  have hU : IntKind.u64.wrap (ls.length : Int) = (ls.length : Int) := by rw [IntKind.wrap_u64]; omega
  simp (maxSteps := 1000000) (disch := omega) only [cd156, h.row.len Try.underlying26, hl, hU, S, S1, S2, S3, S4, S5, ST, eq_self, reduceIte, reduceCtorEq, Nat.reduceEqDiff, Nat.reduceAdd]
  by_cases h1 : 1 ≤ ls.length
  rotate_left
  · refine CallH.by (Lenz_c ls.length H (by omega)) ?_
    rintro _ _ ⟨⟨k, rfl⟩, rfl⟩
    simp (maxSteps := 1000000) (disch := omega) only [S, S1, S2, S3, S4, S5, ST, eq_self, reduceIte, reduceCtorEq, Nat.reduceEqDiff, Nat.reduceAdd]
    refine CallH.by (pdqCmp_c h k (.inr (by omega))) ?_
    rintro _ B hB
    simp (maxSteps := 1000000) (disch := omega) only [S, S1, S2, S3, S4, S5, ST, eq_self, reduceIte, reduceCtorEq, Nat.reduceEqDiff, Nat.reduceAdd]
    refine hQ _ _ _ ?_
    simp (maxSteps := 1000000) (disch := omega) only [S, S1, S2, S3, S4, S5, ST, eq_self, reduceIte, reduceCtorEq, Nat.reduceEqDiff, Nat.reduceAdd]
    exact hB
  refine CallH.by (Lenb_c ls.length H (by omega) (by omega)) ?_
  rintro _ _ ⟨⟨k, rfl, hk⟩, rfl⟩
  simp (maxSteps := 1000000) (disch := omega) only [S, S1, S2, S3, S4, S5, ST, eq_self, reduceIte, reduceCtorEq, Nat.reduceEqDiff, Nat.reduceAdd]
  refine CallH.by (pdqCmp_c h k (.inl (by omega))) ?_
  rintro _ B hB
  simp (maxSteps := 1000000) (disch := omega) only [S, S1, S2, S3, S4, S5, ST, eq_self, reduceIte, reduceCtorEq, Nat.reduceEqDiff, Nat.reduceAdd]
  refine hQ _ _ _ ?_
  simp (maxSteps := 1000000) (disch := omega) only [S, S1, S2, S3, S4, S5, ST, eq_self, reduceIte, reduceCtorEq, Nat.reduceEqDiff, Nat.reduceAdd]
  exact hB
end Go.Proofs.Ytlfongfhbkefmaa.Ai
namespace Go.Proofs.Ytlfongfhbkefmaa.Ai
open Go Go.RowKit
set_option linter.unusedVariables false
theorem InU.appL {P : Program} {t2 e2 e : TypeId} (hu : P.underlying t2 = some (.slice e2)) (hc : P.cellsOf e2 = 1) (hby : P.bytesOf e2 ≤ 64) (hz : zeroOk P e2 = true) {lo hi hi2 : Nat} {H : AH} {o : Nat} {us : List Value} {w : Value} {ls ms : List (List Int)}
    (h : InU lo hi e2 e H o us ls) (hw : InL hi hi2 e2 e H w ms) (hl1 : lo ≤ hi) (hl2 : hi ≤ hi2) (hl3 : hi2 ≤ H.length) (hb : ls.length + ms.length ≤ 1099511627775) :
    ∃ v' H' o' us', appendA P t2 t2 (.slice (some ⟨o, 0, none⟩) ls.length ls.length) w H = some (v', H') ∧ v' = .slice (some ⟨o', 0, none⟩) (ls ++ ms).length (ls ++ ms).length ∧
      InU lo H'.length e2 e H' o' us' (ls ++ ms) ∧ H.length ≤ H'.length ∧ (∀ (j : Nat) (y : AObj), j ≠ o → H[j]? = some y → H'[j]? = some y) ∧ (o' = o ∨ H.length ≤ o') := by
  have bb : ∀ n : Nat, n ≤ 1099511627776 → n * P.bytesOf e2 ≤ 140737488355328 := fun n hn => by
    refine Nat.le_trans (Nat.mul_le_mul_left _ hby) ?_
    omega
  by_cases hm : ms.length = 0
  · have hms : ms = [] := List.eq_nil_of_length_eq_zero hm
    subst hms
    have hsc : ∃ us2, sliceCells P e2 w H = some (0, us2) := by
      rcases hw with ⟨rfl, _⟩ | ⟨o2, us2, rfl, g1, g2, g3, _⟩
      · exact ⟨[], rfl⟩
      · refine ⟨(us2.drop 0).take (0 * P.cellsOf e2), ?_⟩
        simp only [sliceCells, g3, List.length_nil]
        rw [if_pos ⟨by omega, trivial⟩]
    obtain ⟨us2, hsc⟩ := hsc
    refine ⟨_, H, o, us, ?_, by rw [List.append_nil], ?_, Nat.le_refl _, fun j y _ hy => hy, .inl rfl⟩
    · simp only [appendA, hu, hc, hsc, isSl]
      rw [if_pos (by simp), if_pos (by simp), if_pos trivial]
    · rw [List.append_nil]
      obtain ⟨h1, h2, h3, h4, h5, h6⟩ := h
      exact ⟨h1, by omega, h3, h4, fun i hi' => ⟨(h5 i hi').1.wide (Nat.le_refl _) (by omega), (h5 i hi').2⟩, h6⟩
  rcases hw with ⟨_, e0⟩ | ⟨o2, us2, rfl, g1, g2, g3, g4, g5, g6⟩
  · rw [e0] at hm; simp at hm
  have hsc : sliceCells P e2 (.slice (some ⟨o2, 0, none⟩) ms.length ms.length) H = some (ms.length, us2.take ms.length) := by
    simp only [sliceCells, g3, hc, Nat.mul_one, List.drop_zero]
    rw [if_pos ⟨by omega, trivial⟩]
  obtain ⟨h2, h3, h4, h5, h6, h7⟩ := h
  have ho := at_lt h4
  have keep : ∀ (j : Nat) (y : AObj), j ≠ o → H[j]? = some y → (H.set o AObj.dead ++ [AObj.cells (us.take ls.length ++ us2.take ms.length) e2 false])[j]? = some y := by
    intro j y hj hy
    exact at_old hy (fun e => hj e.symm) _
  refine ⟨.slice (some ⟨H.length, 0, none⟩) (ls.length + ms.length) (ls.length + ms.length), H.set o AObj.dead ++ [AObj.cells (us.take ls.length ++ us2.take ms.length) e2 false], H.length, us.take ls.length ++ us2.take ms.length, ?_, by rw [List.length_append], ?_, by simp, keep, .inr (Nat.le_refl _)⟩
  · simp only [appendA, hu, hc, hsc, hz, h4]
    rw [if_pos (by simp), if_neg hm, if_pos ⟨trivial, by omega, bb _ (by omega), by omega, trivial⟩]
    simp
  · have hul : (us.take ls.length).length = ls.length := by simp; omega
    have hul2 : (us2.take ms.length).length = ms.length := by simp; omega
    have uat : ∀ i, i < ls.length → (us.take ls.length ++ us2.take ms.length).getD i undef = us.getD i undef := by
      intro i hi'
      rw [List.getD_eq_getElem?_getD, List.getD_eq_getElem?_getD, List.getElem?_append_left (by omega), List.getElem?_take, if_pos hi']
    have uat2 : ∀ i, i < ms.length → (us.take ls.length ++ us2.take ms.length).getD (ls.length + i) undef = us2.getD i undef := by
      intro i hi'
      rw [List.getD_eq_getElem?_getD, List.getD_eq_getElem?_getD, List.getElem?_append_right (by omega), hul, Nat.add_sub_cancel_left, List.getElem?_take, if_pos hi']
    have lat : ∀ i, i < ls.length → (ls ++ ms).getD i [] = ls.getD i [] := by
      intro i hi'
      rw [List.getD_eq_getElem?_getD, List.getD_eq_getElem?_getD, List.getElem?_append_left hi']
    have lat2 : ∀ i, i < ms.length → (ls ++ ms).getD (ls.length + i) [] = ms.getD i [] := by
      intro i hi'
      rw [List.getD_eq_getElem?_getD, List.getD_eq_getElem?_getD, List.getElem?_append_right (by omega), Nat.add_sub_cancel_left]
    have cross : ∀ i j, i < ls.length → j < ms.length → Apart (us.getD i undef) (us2.getD j undef) := by
      intro i j hi' hj'
      rcases (h6 i hi').1.at_ with g | g
      · exact .inr (.inl g)
      · rcases (g5 j hj').1.at_ with g' | g'
        · exact .inl g'
        · exact .inr (.inr (by omega))
    refine ⟨by omega, by simp, ?_, by simp; omega, ?_, ?_⟩
    · rw [List.getElem?_append_right (by simp)]; simp
    · intro i hi'
      rw [List.length_append] at hi'
      by_cases hc' : i < ls.length
      · rw [uat i hc', lat i hc']
        obtain ⟨k1, k2⟩ := h6 i hc'
        refine ⟨(k1.move fun y hn hy => ?_).wide (Nat.le_refl _) (by simp; omega), ?_⟩
        · rcases k2 with g | g
          · exact absurd g hn
          · exact keep _ _ g hy
        · rcases k1.at_ with g | g
          · exact .inl g
          · exact .inr (by omega)
      · obtain ⟨j, rfl⟩ : ∃ j, i = ls.length + j := ⟨i - ls.length, by omega⟩
        have hj : j < ms.length := by omega
        rw [uat2 j hj, lat2 j hj]
        obtain ⟨k1, k2⟩ := g5 j hj
        refine ⟨(k1.move fun y hn hy => ?_).wide hl1 (by simp; omega), ?_⟩
        · rcases k1.at_ with g | g
          · exact absurd g hn
          · exact keep _ _ (by omega) hy
        · rcases k1.at_ with g | g
          · exact .inl g
          · exact .inr (by omega)
    · intro i j hij hi' hj'
      rw [List.length_append] at hi' hj'
      by_cases ci : i < ls.length <;> by_cases cj : j < ls.length
      · rw [uat i ci, uat j cj]; exact h7 i j hij ci cj
      · obtain ⟨j', rfl⟩ : ∃ j', j = ls.length + j' := ⟨j - ls.length, by omega⟩
        rw [uat i ci, uat2 j' (by omega)]; exact cross i j' ci (by omega)
      · obtain ⟨i', rfl⟩ : ∃ i', i = ls.length + i' := ⟨i - ls.length, by omega⟩
        rw [uat j cj, uat2 i' (by omega)]
        rcases cross j i' cj (by omega) with g | g | g
        · exact .inr (.inl g)
        · exact .inl g
        · exact .inr (.inr fun e => g e.symm)
      · obtain ⟨i', rfl⟩ : ∃ i', i = ls.length + i' := ⟨i - ls.length, by omega⟩
        obtain ⟨j', rfl⟩ : ∃ j', j = ls.length + j' := ⟨j - ls.length, by omega⟩
        rw [uat2 i' (by omega), uat2 j' (by omega)]
        exact g6 i' j' (by omega) (by omega) (by omega)
/-- the lists of a list of lists -/
theorem InL.parts {lo hi : Nat} {e2 e : TypeId} {H : AH} {v : Value} {ls : List (List Int)} (h : InL lo hi e2 e H v ls) : ∃ us : List Value, RowV e2 H v us ∧ us.length = ls.length ∧ ∀ i, i < ls.length → InI lo hi e H (us.getD i undef) (ls.getD i []) := by
  rcases h with ⟨h1, h2⟩ | ⟨o, us, h0, h1, h2, h3, h4, h5, h6⟩
  · subst h1; subst h2; exact ⟨[], .inl ⟨rfl, rfl⟩, rfl, fun i hi => absurd hi (by simp)⟩
  · refine ⟨us.take ls.length, .inr ⟨o, 0, us, false, by simp [h0, Nat.min_eq_left h4], h3, by simp; omega, by simp [Nat.min_eq_left h4]⟩, by simp; omega, fun i hi => ?_⟩
    have : (us.take ls.length).getD i undef = us.getD i undef := by
      rw [List.getD_eq_getElem?_getD, List.getD_eq_getElem?_getD, List.getElem?_take, if_pos hi]
    rw [this]
    exact (h5 i hi).1
end Go.Proofs.Ytlfongfhbkefmaa.Ai
namespace Go.Proofs.Ytlfongfhbkefmaa.Ai
open Go
def ords75 : List (Nat × List (Nat × Bool)) := []
def cd75 : Cd := (.seq (.reg [⟨⟨some 4, Op.alloc 28, none⟩, []⟩]) (.seq (.reg [⟨⟨some 10, Op.move (Operand.tmp 0), none⟩, []⟩,
  ⟨⟨some 11, Op.build 28 #[(0, (Operand.tmp 10))], none⟩, []⟩,
  ⟨⟨some 5, Op.alloc 28, none⟩, []⟩,
  ⟨⟨none, Op.store 28 (Operand.tmp 5) (Operand.tmp 11), none⟩, []⟩]) (.seq (.reg [⟨⟨some 12, Op.fieldAddr 28 (Operand.tmp 5) 0, none⟩, []⟩,
  ⟨⟨some 13, Op.load 26 (Operand.tmp 12), none⟩, []⟩,
  ⟨⟨some 14, Op.call { callee := (Callee.value (Operand.func 156)), args := #[(Operand.tmp 13), (Operand.func 157)], argTypes := #[26, 105] }, none⟩, []⟩]) (.seq (.seq (.reg [⟨⟨some 15, Op.fieldAddr 28 (Operand.tmp 5) 0, none⟩, []⟩,
  ⟨⟨some 16, Op.load 26 (Operand.tmp 15), none⟩, []⟩,
  ⟨⟨some 17, Op.call { callee := (Callee.builtin Builtin.len), args := #[(Operand.tmp 16)], argTypes := #[26] }, none⟩, []⟩,
  ⟨⟨some 18, Op.move (Operand.const (Value.int IntKind.i64 0)), none⟩, []⟩]) (.block 0 (.loop (.seq (.reg [⟨⟨some 19, Op.binOp BinOp.lss 3 (Operand.tmp 18) (Operand.tmp 17) 3, none⟩, []⟩]) (.seq (.cond (Operand.tmp 19) .skip (.exit 0)) (.seq (.block 1 (.seq (.reg [⟨⟨some 20, Op.move (Operand.tmp 18), none⟩, []⟩,
  ⟨⟨some 21, Op.indexAddr 26 (Operand.tmp 16) (Operand.tmp 18), none⟩, []⟩,
  ⟨⟨some 22, Op.load 38 (Operand.tmp 21), none⟩, []⟩,
  ⟨⟨some 6, Op.assign (Operand.tmp 20), none⟩, []⟩,
  ⟨⟨some 7, Op.assign (Operand.tmp 22), none⟩, []⟩]) (.seq (.reg [⟨⟨some 23, Op.fieldAddr 28 (Operand.tmp 5) 0, none⟩, []⟩,
  ⟨⟨some 24, Op.load 26 (Operand.tmp 23), none⟩, []⟩,
  ⟨⟨some 25, Op.move (Operand.tmp 6), none⟩, []⟩,
  ⟨⟨some 26, Op.binOp BinOp.add 3 (Operand.tmp 25) (Operand.const (Value.int IntKind.i64 1)) 3, none⟩, []⟩,
  ⟨⟨some 27, Op.slice 26 (Operand.tmp 24) (some (Operand.tmp 26)) none none, none⟩, []⟩,
  ⟨⟨some 28, Op.call { callee := (Callee.builtin Builtin.len), args := #[(Operand.tmp 27)], argTypes := #[26] }, none⟩, []⟩,
  ⟨⟨some 29, Op.move (Operand.const (Value.int IntKind.i64 0)), none⟩, []⟩]) (.block 2 (.loop (.seq (.reg [⟨⟨some 30, Op.binOp BinOp.lss 3 (Operand.tmp 29) (Operand.tmp 28) 3, none⟩, []⟩]) (.seq (.cond (Operand.tmp 30) .skip (.exit 2)) (.seq (.block 3 (.seq (.reg [⟨⟨some 31, Op.move (Operand.tmp 29), none⟩, []⟩,
  ⟨⟨some 32, Op.indexAddr 26 (Operand.tmp 27) (Operand.tmp 29), none⟩, []⟩,
  ⟨⟨some 33, Op.load 38 (Operand.tmp 32), none⟩, []⟩,
  ⟨⟨some 8, Op.assign (Operand.tmp 31), none⟩, []⟩,
  ⟨⟨some 9, Op.assign (Operand.tmp 33), none⟩, []⟩]) (.seq (.reg [⟨⟨some 34, Op.move (Operand.tmp 1), none⟩, []⟩,
  ⟨⟨some 35, Op.move (Operand.tmp 7), none⟩, []⟩,
  ⟨⟨some 36, Op.move (Operand.tmp 9), none⟩, []⟩,
  ⟨⟨some 37, Op.call { callee := (Callee.value (Operand.tmp 34)), args := #[(Operand.tmp 35), (Operand.tmp 36)], argTypes := #[38, 38] }, none⟩, []⟩]) (.cond (Operand.tmp 37) (.reg [⟨⟨some 38, Op.fieldAddr 28 (Operand.tmp 5) 1, none⟩, []⟩,
  ⟨⟨some 39, Op.load 22 (Operand.tmp 38), none⟩, []⟩,
  ⟨⟨some 40, Op.move (Operand.tmp 6), none⟩, []⟩,
  ⟨⟨some 41, Op.move (Operand.tmp 6), none⟩, []⟩,
  ⟨⟨some 42, Op.binOp BinOp.add 3 (Operand.tmp 41) (Operand.const (Value.int IntKind.i64 1)) 3, none⟩, []⟩,
  ⟨⟨some 43, Op.move (Operand.tmp 8), none⟩, []⟩,
  ⟨⟨some 44, Op.binOp BinOp.add 3 (Operand.tmp 42) (Operand.tmp 43) 3, none⟩, []⟩,
  ⟨⟨some 45, Op.build 81 #[(0, (Operand.tmp 40)), (1, (Operand.tmp 44))], none⟩, []⟩,
  ⟨⟨some 46, Op.buildSlice 22 1 #[(0, (Operand.tmp 45))], none⟩, []⟩,
  ⟨⟨some 47, Op.call { callee := (Callee.builtin Builtin.append), args := #[(Operand.tmp 39), (Operand.tmp 46)], argTypes := #[22, 22] }, none⟩, []⟩,
  ⟨⟨some 48, Op.fieldAddr 28 (Operand.tmp 5) 1, none⟩, []⟩,
  ⟨⟨none, Op.store 22 (Operand.tmp 48) (Operand.tmp 47), none⟩, []⟩]) .skip)))) (.reg [⟨⟨some 49, Op.binOp BinOp.add 3 (Operand.tmp 29) (Operand.const (Value.int IntKind.i64 1)) 3, none⟩, []⟩,
  ⟨⟨some 29, Op.move (Operand.tmp 49), none⟩, []⟩]))))))))) (.reg [⟨⟨some 50, Op.binOp BinOp.add 3 (Operand.tmp 18) (Operand.const (Value.int IntKind.i64 1)) 3, none⟩, []⟩,
  ⟨⟨some 18, Op.move (Operand.tmp 50), none⟩, []⟩]))))))) (.seq (.reg [⟨⟨some 51, Op.load 28 (Operand.tmp 5), none⟩, []⟩,
  ⟨⟨none, Op.store 28 (Operand.tmp 4) (Operand.tmp 51), none⟩, []⟩]) .ret)))))
theorem sl75 : slim Try.f75.ntmps ords75 (Try.f75.body.getD .skip) = some cd75 := by kernel_rfl
set_option maxRecDepth 20000 in
theorem in75 {args : List Value} {H : AH} {R : Value → AH → Prop} (hl : args.length = 2) (h : ∀ (Q : Exit → Sl → AH → Prop), (∀ e s H, endA Try.prog [ResultVar.cell 4 28] R e s H → Q e s H) → wpC Try.prog cd75 Q (enterA args) H) : ACalls Try.prog 75 args H R :=
  ACalls.intro (by kernel_rfl) Try.func75 rfl (by kernel_rfl) sl75 hl (of_decide_eq_true (by kernel_rfl)) (by kernel_rfl) h
end Go.Proofs.Ytlfongfhbkefmaa.Ai
namespace Go.Proofs.Ytlfongfhbkefmaa.Ai
open Go Go.RowKit
set_option linter.unusedVariables false
set_option linter.unusedSimpArgs false
theorem alloc_sp (H : AH) : allocA Try.prog 28 H = some (.pointer (some ⟨H.length, 0, none⟩), H ++ [.cells [.slice none 0 0, .slice none 0 0] 28 false]) := by kernel_rfl
theorem bld_sp1 (p : Option Addr) (n c : Nat) : buildA Try.prog 28 [(0, .slice p n c)] = some (.agg (List.toArray [.slice p n c, .slice none 0 0])) := by kernel_rfl
theorem bld_sp2 (p q : Option Addr) (n c m d : Nat) : buildA Try.prog 28 [(0, .slice p n c), (1, .slice q m d)] = some (.agg (List.toArray [.slice p n c, .slice q m d])) := by kernel_rfl
theorem bld_sp0 : buildA Try.prog 28 [] = some (.agg (List.toArray [.slice none 0 0, .slice none 0 0])) := by kernel_rfl
theorem st_ss {e : TypeId} {H : AH} {o : Nat} {vs : List Value} (ho : H[o]? = some (.cells vs e false)) (hv : vs.length = 2) (p q : Option Addr) (n c m d : Nat) :
    storeA Try.prog 28 (.pointer (some ⟨o, 0, none⟩)) (.agg (List.toArray [.slice p n c, .slice q m d])) H = some (H.set o (.cells [.slice p n c, .slice q m d] e false)) := by
  simp only [storeA, ho, cs28]
  have hcl : (Value.agg (List.toArray [.slice p n c, .slice q m d])).cells.toList = [.slice p n c, .slice q m d] := rfl
  rw [hcl, if_pos ⟨rfl, rfl, by decide, by rw [hv]; exact Nat.le_refl 2⟩]
  have : putAt vs 0 [.slice p n c, .slice q m d] = [.slice p n c, .slice q m d] := by
    unfold putAt
    rw [List.take_zero, List.nil_append, List.drop_of_length_le (by simp; omega), List.append_nil]
  rw [this]
/-- the end of a function with a variable and a value as results -/
theorem end_cell2 (P : Program) (a b : Nat) (t : TypeId) (R : Value → AH → Prop) (s : Sl) (H : AH) (v w : Value) (h : loadA P t (s a) H = some v) (ht : isTup v = false) (hb : s b = w) (hw : isTup w = false) (hr : R (.tuple (List.toArray [v, w])) H) : endA P [.cell a t, .tmp b] R .ret s H := by
  subst hb
  simp only [endA, resA, h, ht]
  simp [hw, outA]
  exact hr
/-- the steps between lists of which something is so -/
def stpI (p : List Int → List Int → Bool) (ls : List (List Int)) (i : Nat) : Nat → List (Int × Int)
  | 0 => []
  | k + 1 => stpI p ls i k ++ if p (ls.getD i []) (ls.getD (i + 1 + k) []) = true then [((i : Int), ((i + 1 + k : Nat) : Int))] else []
def stpO (p : List Int → List Int → Bool) (ls : List (List Int)) : Nat → List (Int × Int)
  | 0 => []
  | i + 1 => stpO p ls i ++ stpI p ls i (ls.length - (i + 1))
theorem stpI_len (p : List Int → List Int → Bool) (ls : List (List Int)) (i k : Nat) : (stpI p ls i k).length ≤ k := by
  induction k with
  | zero => simp [stpI]
  | succ k ih => simp only [stpI, List.length_append]; split <;> simp <;> omega
theorem stpO_len (p : List Int → List Int → Bool) (ls : List (List Int)) (i : Nat) : (stpO p ls i).length ≤ i * ls.length := by
  induction i with
  | zero => simp [stpO]
  | succ i ih =>
    have := stpI_len p ls i (ls.length - (i + 1))
    simp only [stpO, List.length_append, Nat.add_mul, Nat.one_mul]
    omega
abbrev steps (p : List Int → List Int → Bool) (ls : List (List Int)) : List (Int × Int) := stpO p ls ls.length
/-- is a step between two lists: a function of the program's -/
def StepFn (HB : AH) (fS : FuncId) (caps : List Value) (ls : List (List Int)) (p : List Int → List Int → Bool) : Prop :=
  ∀ (a b : Value) (x y : List Int) (H : AH), HB <+: H → Row 3 H a x → Row 3 H b y → x ∈ ls → y ∈ ls → ACalls Try.prog fS (a :: b :: caps) H fun r H' => r = .bool (p x y) ∧ H <+: H'
set_option maxRecDepth 20000 in
set_option maxHeartbeats 4000000 in
theorem spaceOf_c {HB H : AH} {v : Value} {us : List Value} {ls : List (List Int)} (h : Sts H v us ls) (hls : ls.length ≤ 1000) (fS : FuncId) (caps : List Value) (p : List Int → List Int → Bool) (hS : StepFn HB fS caps ls p) (hp : HB <+: H) :
    ACalls Try.prog 75 [v, .func (.func fS) #[] (List.toArray caps)] H fun r H' => ∃ st, r = .agg (List.toArray [v, st]) ∧ MineP 81 H H' st (steps p ls) ∧ H <+: H' := by
  refine in75 rfl ?_
  intro Q hQ
  have hul := h.len
  obtain ⟨pv, hpv⟩ := h.row.shape
  have hb1 := bld_sp1 pv us.length us.length
  rw [← hpv] at hb1
  simp (maxSteps := 1000000) (disch := omega) only [cd75, alloc_sp, hb1, S, S1, S2, S3, S4, S5, ST, eq_self, reduceIte, reduceCtorEq, Nat.reduceEqDiff, Nat.reduceAdd]
  generalize hA : H ++ [AObj.cells [.slice none 0 0, .slice none 0 0] 28 false] = A
  have pA : H <+: A := by rw [← hA]; exact List.prefix_append _ _
  have cA : A[H.length]? = some (.cells [.slice none 0 0, .slice none 0 0] 28 false) := by rw [← hA]; exact at_new ..
  have lA : A.length = H.length + 1 := by rw [← hA]; simp
  have st1 := st_ss (at_new A (.cells [.slice none 0 0, .slice none 0 0] 28 false)) rfl pv none us.length us.length 0 0
  rw [set_new, ← hpv] at st1
  simp (maxSteps := 1000000) (disch := omega) only [st1, cell_new, S, S1, S2, S3, S4, S5, ST, eq_self, reduceIte, reduceCtorEq, Nat.reduceEqDiff, Nat.reduceAdd]
  generalize hB : A ++ [AObj.cells [v, .slice none 0 0] 28 false] = B
  have pB : A <+: B := by rw [← hB]; exact List.prefix_append _ _
  have cB : B[A.length]? = some (.cells [v, .slice none 0 0] 28 false) := by rw [← hB]; exact at_new ..
  have lB : B.length = A.length + 1 := by rw [← hB]; simp
  have pHB := pA.trans pB
  refine CallH.by (SortFunc_c (h.pre pHB)) ?_
  rintro _ C pC
  have pHC := pHB.trans pC
  have lC := pC.length_le
  have cC := pre_at pC cB
  have cC0 := pre_at (pB.trans pC) cA
  simp (maxSteps := 1000000) (disch := omega) only [cell_of cC, h.row.len Try.underlying26, hul, S, S1, S2, S3, S4, S5, ST, eq_self, reduceIte, reduceCtorEq, Nat.reduceEqDiff, Nat.reduceAdd]
  refine LoopH.by (fun m s H' => ∃ i st, m + i = ls.length ∧ s 1 = .func (.func fS) #[] (List.toArray caps) ∧ s 4 = .pointer (some ⟨H.length, 0, none⟩) ∧ s 5 = .pointer (some ⟨A.length, 0, none⟩) ∧ s 16 = v ∧ s 17 = .int .i64 (ls.length : Int) ∧ s 18 = .int .i64 ((i : Nat) : Int) ∧ H'[A.length]? = some (.cells [v, st] 28 false) ∧ H'[H.length]? = some (.cells [.slice none 0 0, .slice none 0 0] 28 false) ∧ (st = .slice none 0 0 ∨ B.length ≤ rowO st) ∧ MineP 81 H H' st (stpO p ls i) ∧ H <+: H') ls.length ?_ ?_
  · exact ⟨0, .slice none 0 0, by simp, rfl, rfl, rfl, rfl, rfl, rfl, cC, cC0, .inl rfl, .inl ⟨rfl, rfl⟩, pHC⟩
  rintro m s H' ⟨i, st, hm, s1, s4, s5, s16, s17, s18, hc5, hc4, hst, hmn, hpp⟩
  simp (maxSteps := 1000000) (disch := omega) only [s1, s4, s5, s16, s17, s18, S, S1, S2, S3, S4, S5, ST, eq_self, reduceIte, reduceCtorEq, Nat.reduceEqDiff, Nat.reduceAdd]
  refine brD.intro (fun g => ?_) (fun g => ?_)
  rotate_left
  · have hi : i = ls.length := by omega
    subst hi
    have hst2 : isTup st = false := hmn.row.tup
    obtain ⟨q, hq⟩ := hmn.row.shape
    have hstA := st_ss hc4 rfl pv q us.length us.length (stpO p ls ls.length).length (stpO p ls ls.length).length
    rw [← hpv, ← hq] at hstA
    simp (maxSteps := 1000000) (disch := omega) only [s4, s5, ld_agg ag28 cs28 hc5, hstA, S, S1, S2, S3, S4, S5, ST, eq_self, reduceIte, reduceCtorEq, Nat.reduceEqDiff, Nat.reduceAdd]
    have d4 := at_set (d := .cells [v, st] 28 false) hc4
    refine hQ _ _ _ (end_cell _ _ _ _ _ _ (.agg (List.toArray [v, st])) ?_ rfl ⟨st, rfl, ?_, ?_⟩)
    · simp (maxSteps := 1000000) (disch := omega) only [s4, ld_agg ag28 cs28 d4, S, S1, S2, S3, S4, S5, ST, eq_self, reduceIte, reduceCtorEq, Nat.reduceEqDiff, Nat.reduceAdd]
    · rcases hst with e | e
      · rcases hmn with hm0 | ⟨o, zs, q1, _⟩
        · exact .inl hm0
        · rw [e] at q1; cases q1
      · refine hmn.keepL ?_
        intro hl y hy
        rw [List.getElem?_set_ne (by omega)]
        exact hy
    · exact pre_set hpp (Nat.le_refl _) _
  have hi : i < ls.length := by omega
  have hH' := h.pre hpp
  have hci := hH'.cell hi
  have hri := hH'.each i hi
  have hmi : ls.getD i [] ∈ ls := by simp [hi]
  have hsl := hH'.row.slice (P := Try.prog) (t := 26) Try.underlying26 cs38 (bound_some (k := .i64) (i := (i : Int) + 1) (by omega) 0) (hi_none us.length) (show ((i : Int) + 1).toNat ≤ us.length by omega) (Nat.le_refl _)
  have hi1 : ((i : Int) + 1).toNat = i + 1 := by omega
  rw [hi1] at hsl
  obtain ⟨hsl1, hsl2, hsl3⟩ := hsl
  have hdl : (us.drop (i + 1)).take (us.length - (i + 1)) = us.drop (i + 1) := by rw [List.take_of_length_le (by simp)]
  rw [hdl] at hsl2
  have hdn : ((us.drop (i + 1)).length : Int) = ((ls.length - (i + 1) : Nat) : Int) := by simp; omega
  simp (maxSteps := 1000000) (disch := omega) only [s1, s4, s5, s16, s17, s18, hH'.row.ix Try.underlying26 cs38, Int.toNat_natCast, hci, cell_of hc5, wrap64, hsl1, hsl2.len Try.underlying26, hdn, S, S1, S2, S3, S4, S5, ST, eq_self, reduceIte, reduceCtorEq, Nat.reduceEqDiff, Nat.reduceAdd]
  refine LoopH.by (fun m' s' H'' => ∃ j st', m' + j = ls.length - (i + 1) ∧ s' 1 = .func (.func fS) #[] (List.toArray caps) ∧ s' 4 = .pointer (some ⟨H.length, 0, none⟩) ∧ s' 5 = .pointer (some ⟨A.length, 0, none⟩) ∧ s' 6 = .int .i64 ((i : Nat) : Int) ∧ s' 7 = us.getD i undef ∧ s' 16 = v ∧ s' 17 = .int .i64 (ls.length : Int) ∧ s' 18 = .int .i64 ((i : Nat) : Int) ∧ s' 27 = subV v (i + 1) us.length ∧ s' 28 = .int .i64 ((ls.length - (i + 1) : Nat) : Int) ∧ s' 29 = .int .i64 ((j : Nat) : Int) ∧ H''[A.length]? = some (.cells [v, st'] 28 false) ∧ H''[H.length]? = some (.cells [.slice none 0 0, .slice none 0 0] 28 false) ∧ (st' = .slice none 0 0 ∨ B.length ≤ rowO st') ∧ MineP 81 H H'' st' (stpO p ls i ++ stpI p ls i j) ∧ H <+: H'') (ls.length - (i + 1)) ?_ ?_
  · refine ⟨0, st, by simp, ?_⟩
    simp only [S, S1, S2, S3, S4, S5, ST, eq_self, reduceIte, reduceCtorEq, Nat.reduceEqDiff, Nat.reduceAdd, s1, s4, s5, s16, s17, s18]
    have f0 : MineP 81 H H' st (stpO p ls i ++ stpI p ls i 0) := by rw [stpI, List.append_nil]; exact hmn
    (repeat' first | exact hc5 | exact hc4 | exact hst | exact f0 | exact hpp | apply And.intro) <;> first | (simp only [Value.int.injEq, true_and]; omega) | omega | rfl | assumption | (simp; done) | (simp; omega)
  · rintro m' s' H'' ⟨j, st', hm', g1, g4, g5, g6, g7, g16, g17, g18, g27, g28, g29, hc5', hc4', hst', hmn', hpp'⟩
    simp (maxSteps := 1000000) (disch := omega) only [g1, g4, g5, g6, g7, g16, g17, g18, g27, g28, g29, S, S1, S2, S3, S4, S5, ST, eq_self, reduceIte, reduceCtorEq, Nat.reduceEqDiff, Nat.reduceAdd]
    refine brD.intro (fun q => ?_) (fun q => ?_)
    · have hj : i + 1 + j < ls.length := by omega
      have hH2 := h.pre hpp'
      have hsl' := hH2.row.slice (P := Try.prog) (t := 26) Try.underlying26 cs38 (bound_some (k := .i64) (i := (i : Int) + 1) (by omega) 0) (hi_none us.length) (show ((i : Int) + 1).toNat ≤ us.length by omega) (Nat.le_refl _)
      rw [hi1, hdl] at hsl'
      obtain ⟨_, hsr, _⟩ := hsl'
      have hjd : j < (us.drop (i + 1)).length := by simp; omega
      have hcj := hsr.cell hjd
      have hdd : (us.drop (i + 1)).getD j undef = us.getD (i + 1 + j) undef := by
        rw [List.getD_eq_getElem?_getD, List.getD_eq_getElem?_getD, List.getElem?_drop]
      rw [hdd] at hcj
      have hmj : ls.getD (i + 1 + j) [] ∈ ls := by simp [hj]
      simp (maxSteps := 1000000) (disch := omega) only [g1, g4, g5, g6, g7, g16, g17, g18, g27, g28, g29, hsr.ix Try.underlying26 cs38, Int.toNat_natCast, hcj, S, S1, S2, S3, S4, S5, ST, eq_self, reduceIte, reduceCtorEq, Nat.reduceEqDiff, Nat.reduceAdd]
      refine CallH.by (hS _ _ _ _ H'' (hp.trans hpp') (hH2.each i hi) (hH2.each (i + 1 + j) hj) hmi hmj) ?_
      rintro _ D ⟨rfl, pD⟩
      have hcD5 := pre_at pD hc5'
      have hcD4 := pre_at pD hc4'
      have hpD := hpp'.trans pD
      have hmD := hmn'.pre pD
      have hsl1 := stpO_len p ls i
      have hsl2 := stpI_len p ls i j
      have hmul : i * ls.length ≤ 1000 * 1000 := Nat.mul_le_mul (by omega) hls
      have lD := hpD.length_le
      have l5 := at_lt hc5'
      simp (maxSteps := 1000000) (disch := omega) only [S, S1, S2, S3, S4, S5, ST, eq_self, reduceIte, reduceCtorEq, Nat.reduceEqDiff, Nat.reduceAdd]
      refine brH.intro (fun e => ?_) (fun e => ?_)
      · have hstep : stpI p ls i (j + 1) = stpI p ls i j ++ [((i : Int), ((i + 1 + j : Nat) : Int))] := by rw [stpI, if_pos e]
        obtain ⟨st2, H3, k1, k2, k3, k4, k5, k6⟩ := own1_22 hmD hpD (by rw [List.length_append]; omega) (i : Int) ((i + 1 + j : Nat) : Int)
        have hne : st' = .slice none 0 0 ∨ ∀ o, o < B.length → o ≠ rowO st' := hst'.imp id fun q o ho => by omega
        have d5 : H3[A.length]? = some (.cells [v, st'] 28 false) := k4 _ _ (hne.imp id fun q => q _ (by omega)) hcD5
        have d4 : H3[H.length]? = some (.cells [.slice none 0 0, .slice none 0 0] 28 false) := k4 _ _ (hne.imp id fun q => q _ (by omega)) hcD4
        obtain ⟨q2, hq2⟩ := k2.row.shape
        have t1 : isTup st2 = false := k6
        have t2 : st2.cells.toList = [st2] := by rw [hq2]; rfl
        have hst3 := st_at (P := Try.prog) (t := 22) (i := 1) (y := st2) cs22 d5 (by show 1 < 2; decide) t1 t2
        have hidx : (i : Int) + 1 + (j : Int) = ((i + 1 + j : Nat) : Int) := by omega
        have lDB : B.length ≤ D.length := by have := hpp'.length_le; have := pD.length_le; omega
        simp (maxSteps := 1000000) (disch := omega) only [e, g1, g4, g5, g6, g7, g16, g17, g18, g27, g28, g29, cell_of hcD5, build_a2, wrap64, hidx, k1, hst3, S, S1, S2, S3, S4, S5, ST, eq_self, reduceIte, reduceCtorEq, Nat.reduceEqDiff, Nat.reduceAdd]
        have f5 : (H3.set A.length (.cells ([v, st'].set 1 st2) 28 false))[A.length]? = some (.cells [v, st2] 28 false) := by
          rw [List.getElem?_set_self (at_lt d5)]; rfl
        have f4 : (H3.set A.length (.cells ([v, st'].set 1 st2) 28 false))[H.length]? = some (.cells [.slice none 0 0, .slice none 0 0] 28 false) := by
          rw [List.getElem?_set_ne (by omega)]; exact d4
        have fs' : st2 = .slice none 0 0 ∨ B.length ≤ rowO st2 := .inr (by omega)
        have fm : MineP 81 H (H3.set A.length (.cells ([v, st'].set 1 st2) 28 false)) st2 (stpO p ls i ++ stpI p ls i (j + 1)) := by
          rw [hstep, ← List.append_assoc]
          exact k2.keepL fun hl y hy => by rw [List.getElem?_set_ne (by omega)]; exact hy
        have fp : H <+: H3.set A.length (.cells ([v, st'].set 1 st2) 28 false) := pre_set k3 (by omega) _
        refine ⟨m' - 1, by omega, j + 1, st2, ?_⟩
        (repeat' first | exact f5 | exact f4 | exact fs' | exact fm | exact fp | apply And.intro) <;> first | (simp only [Value.int.injEq, true_and]; omega) | omega | rfl | assumption | (simp; done) | (simp; omega)
      · have hstep : stpI p ls i (j + 1) = stpI p ls i j := by rw [stpI, if_neg (by rw [e]; decide), List.append_nil]
        rw [← hstep] at hmD
        simp (maxSteps := 1000000) (disch := omega) only [e, g1, g4, g5, g6, g7, g16, g17, g18, g27, g28, g29, wrap64, S, S1, S2, S3, S4, S5, ST, eq_self, reduceIte, reduceCtorEq, Nat.reduceEqDiff, Nat.reduceAdd]
        refine ⟨m' - 1, by omega, j + 1, st', ?_⟩
        (repeat' first | exact hcD5 | exact hcD4 | exact hst' | exact hmD | exact hpD | apply And.intro) <;> first | (simp only [Value.int.injEq, true_and]; omega) | omega | rfl | assumption | (simp; done) | (simp; omega)
    · have hjj : j = ls.length - (i + 1) := by omega
      subst hjj
      have hstO : stpO p ls (i + 1) = stpO p ls i ++ stpI p ls i (ls.length - (i + 1)) := rfl
      rw [← hstO] at hmn'
      simp (maxSteps := 1000000) (disch := omega) only [g1, g4, g5, g6, g7, g16, g17, g18, g27, g28, g29, wrap64, S, S1, S2, S3, S4, S5, ST, eq_self, reduceIte, reduceCtorEq, Nat.reduceEqDiff, Nat.reduceAdd]
      refine ⟨m - 1, by omega, i + 1, st', ?_⟩
      (repeat' first | exact hc5' | exact hc4' | exact hst' | exact hmn' | exact hpp' | apply And.intro) <;> first | (simp only [Value.int.injEq, true_and]; omega) | omega | rfl | assumption | (simp; done) | (simp; omega)
end Go.Proofs.Ytlfongfhbkefmaa.Ai
namespace Go.Proofs.Ytlfongfhbkefmaa.Ai
open Go
set_option linter.unusedVariables false
def cntP (p : List Int → List Int → Bool) : List (List Int) → Nat
  | [] => 0
  | x :: l => l.countP (p x) + cntP p l
theorem cntP_sub (p : List Int → List Int → Bool) {l m : List (List Int)} (h : l.Sublist m) : cntP p l ≤ cntP p m := by
  induction h with
  | slnil => exact Nat.le_refl _
  | cons a h ih => simp only [cntP]; omega
  | cons_cons a h ih =>
    have := h.countP_le (p := p a)
    simp only [cntP]; omega
theorem cntP_map (p q : List Int → List Int → Bool) (f : List Int → List Int) : ∀ (l : List (List Int)), (∀ x ∈ l, ∀ y ∈ l, q x y = p (f x) (f y)) → cntP q l = cntP p (l.map f)
  | [], _ => rfl
  | x :: l, h => by
    simp only [cntP, List.map_cons]
    rw [cntP_map p q f l (fun a ha b hb => h a (by simp [ha]) b (by simp [hb])), List.countP_map]
    congr 1
    exact List.countP_congr fun y hy => by
      rw [h x (by simp) y (by simp [hy])]; rfl
theorem stpI_cnt (p : List Int → List Int → Bool) (ls : List (List Int)) (i : Nat) : ∀ m, i + 1 + m ≤ ls.length → (stpI p ls i m).length = ((ls.drop (i + 1)).take m).countP (p (ls.getD i []))
  | 0, _ => by simp [stpI]
  | m + 1, h => by
    have ih := stpI_cnt p ls i m (by omega)
    have hlt : m < (ls.drop (i + 1)).length := by simp; omega
    simp only [stpI, List.length_append, ih]
    rw [List.take_add_one, List.getElem?_eq_getElem hlt, List.countP_append]
    congr 1
    have e : (ls.drop (i + 1))[m] = ls.getD (i + 1 + m) [] := by simp [show i + 1 + m < ls.length by omega]
    rw [e]
    generalize ls.getD i [] = x
    generalize ls.getD (i + 1 + m) [] = y
    by_cases hp : p x y = true
    · rw [if_pos hp]; simp [hp]
    · rw [if_neg hp]; simp [hp]
theorem stpO_cnt (p : List Int → List Int → Bool) (ls : List (List Int)) : ∀ k, k ≤ ls.length → (stpO p ls k).length + cntP p (ls.drop k) = cntP p ls
  | 0, _ => by simp [stpO]
  | k + 1, h => by
    have ih := stpO_cnt p ls k (by omega)
    have e := List.drop_eq_getElem_cons (show k < ls.length by omega)
    rw [e] at ih
    simp only [cntP] at ih
    simp only [stpO, List.length_append]
    have h1 := stpI_cnt p ls k (ls.length - (k + 1)) (by omega)
    rw [List.take_of_length_le (by simp)] at h1
    have e2 : ls.getD k [] = ls[k] := by simp [show k < ls.length by omega]
    rw [e2] at h1
    omega
theorem steps_cnt (p : List Int → List Int → Bool) (ls : List (List Int)) : (steps p ls).length = cntP p ls := by
  have := stpO_cnt p ls ls.length (Nat.le_refl _)
  rw [List.drop_length] at this
  exact this
def es8 : List (Int × Int) := (List.range 8).flatMap fun a => (List.range (7 - a)).map fun d => ((a : Int), ((a + d + 1 : Nat) : Int))
theorem es8_len : es8.length = 28 := by decide +kernel
theorem es8_at : ∀ a b : Fin 8, a.1 < b.1 → es8.getD (rnkE a.1 b.1) (0, 0) = ((a.1 : Int), (b.1 : Int)) := by decide +kernel
def j8Ok (j : Nat) : Bool := Nat.ble (cntP jmpB (mext es8 28 [] j)) 6000
set_option maxRecDepth 100000 in
theorem j80 : j8Ok 0 = true := by decide +kernel
set_option maxRecDepth 100000 in
theorem j81 : j8Ok 1 = true := by decide +kernel
set_option maxRecDepth 100000 in
theorem j82 : j8Ok 2 = true := by decide +kernel
set_option maxRecDepth 100000 in
theorem j83 : j8Ok 3 = true := by decide +kernel
set_option maxRecDepth 100000 in
theorem j84 : j8Ok 4 = true := by decide +kernel
theorem mall_suf (es : List (Int × Int)) (ed : List Int) : ∀ {k m : Nat}, k ≤ m → (mall es k ed).Sublist (mall es m ed) := by
  intro k m h
  induction m with
  | zero =>
    have : k = 0 := by omega
    subst this
    exact List.Sublist.refl _
  | succ m ih =>
    by_cases e : k = m + 1
    · subst e; exact List.Sublist.refl _
    · refine (ih (by omega)).trans ?_
      conv => rhs; unfold mall
      exact List.sublist_append_right _ _
end Go.Proofs.Ytlfongfhbkefmaa.Ai
namespace Go.Proofs.Ytlfongfhbkefmaa.Ai
open Go
set_option linter.unusedVariables false
/-- the place of an edge among all 28 -/
def rk8 (es : List (Int × Int)) (i : Nat) : Nat := rnkE (es.getD i (0, 0)).1.toNat (es.getD i (0, 0)).2.toNat
def phi (es : List (Int × Int)) (x : Int) : Int := ((rk8 es x.toNat : Nat) : Int)
section
variable {n : Int} {es : List (Int × Int)} (hg : Grd n es)
include hg
theorem rk8_at {i : Nat} (hi : i < es.length) : es8.getD (rk8 es i) (0, 0) = es.getD i (0, 0) ∧ rk8 es i ≤ 27 := by
  obtain ⟨a, b, h1, h2⟩ := grd_nat hg hi
  have e : rk8 es i = rnkE a.1 b.1 := by unfold rk8; rw [h2]; simp
  rw [e, h2]
  exact ⟨es8_at a b h1, rnkE_le a b h1⟩
theorem rk8_lt {i j : Nat} (hij : i < j) (hj : j < es.length) : rk8 es i < rk8 es j := by
  obtain ⟨a, b, h1, h2⟩ := grd_nat hg (show i < es.length by omega)
  obtain ⟨c, d, k1, k2⟩ := grd_nat hg hj
  have hlt := grd_asc hg hij hj
  rw [h2, k2] at hlt
  unfold pairLt at hlt
  simp only at hlt
  have := rnkE_lt a b c d h1 k1 (by omega)
  have e1 : rk8 es i = rnkE a.1 b.1 := by unfold rk8; rw [h2]; simp
  have e2 : rk8 es j = rnkE c.1 d.1 := by unfold rk8; rw [k2]; simp
  omega
theorem phi_inj {x y : Int} (hx : 0 ≤ x ∧ x < es.length) (hy : 0 ≤ y ∧ y < es.length) (h : phi es x = phi es y) : x = y := by
  unfold phi at h
  rcases Nat.lt_trichotomy x.toNat y.toNat with g | g | g
  · have := rk8_lt hg g (by omega); omega
  · omega
  · have := rk8_lt hg g (by omega); omega
theorem ed_phi {x : Int} (hx : 0 ≤ x ∧ x < es.length) : ed1 es8 (phi es x) = ed1 es x ∧ ed2 es8 (phi es x) = ed2 es x := by
  have := (rk8_at hg (show x.toNat < es.length by omega)).1
  unfold phi ed1 ed2
  rw [Int.toNat_natCast, this]
  exact ⟨rfl, rfl⟩
theorem seen_phi : ∀ {xs : List Int}, (∀ x ∈ xs, 0 ≤ x ∧ x < es.length) → seenL es8 (xs.map (phi es)) = seenL es xs
  | [], _ => rfl
  | x :: xs, h => by
    have h1 := ed_phi hg (h x (by simp))
    have h2 := seen_phi (xs := xs) (fun y hy => h y (by simp [hy]))
    show ed1 es8 (phi es x) :: ed2 es8 (phi es x) :: seenL es8 (xs.map (phi es)) = ed1 es x :: ed2 es x :: seenL es xs
    rw [h1.1, h1.2, h2]
theorem frE_phi {xs : List Int} (h : ∀ x ∈ xs, 0 ≤ x ∧ x < es.length) {e : Int} (he : 0 ≤ e ∧ e < es.length) : frE es8 (xs.map (phi es)) (phi es e) ↔ frE es xs e := by
  unfold frE
  rw [seen_phi hg h, (ed_phi hg he).1, (ed_phi hg he).2]
theorem mall_emb : ∀ (k : Nat) (ed : List Int), k ≤ es.length → (∀ x ∈ ed, 0 ≤ x ∧ x < es.length) → ((mall es k ed).map (List.map (phi es))).Sublist (mall es8 (if k = 0 then 0 else 28 - rk8 es (es.length - k)) (ed.map (phi es)))
  | 0, ed, _, _ => by simp [mall]
  | k + 1, ed, hk, hed => by
    have hi : es.length - (k + 1) < es.length := by omega
    have hr := rk8_at hg hi
    have hnext : (if k = 0 then 0 else 28 - rk8 es (es.length - k)) ≤ 27 - rk8 es (es.length - (k + 1)) := by
      split
      · omega
      · have := rk8_lt hg (show es.length - (k + 1) < es.length - k by omega) (by omega)
        omega
    have hei : (0 : Int) ≤ ((es.length - (k + 1) : Nat) : Int) ∧ ((es.length - (k + 1) : Nat) : Int) < es.length := by omega
    have hphi : phi es ((es.length - (k + 1) : Nat) : Int) = ((rk8 es (es.length - (k + 1)) : Nat) : Int) := by unfold phi; rw [Int.toNat_natCast]
    have hfr := frE_phi hg hed hei
    have ih2 := (mall_emb k ed (by omega) hed).trans (mall_suf es8 (ed.map (phi es)) hnext)
    have ih1 := (mall_emb k (ed ++ [((es.length - (k + 1) : Nat) : Int)]) (by omega) (fun x hx => by
      rcases List.mem_append.1 hx with h | h
      · exact hed x h
      · rw [List.mem_singleton.1 h]; exact hei)).trans (mall_suf es8 _ hnext)
    rw [if_neg (by omega), show 28 - rk8 es (es.length - (k + 1)) = 27 - rk8 es (es.length - (k + 1)) + 1 by omega]
    have e8 : es8.length - (27 - rk8 es (es.length - (k + 1)) + 1) = rk8 es (es.length - (k + 1)) := by rw [es8_len]; omega
    have emap : (ed ++ [((es.length - (k + 1) : Nat) : Int)]).map (phi es) = ed.map (phi es) ++ [((rk8 es (es.length - (k + 1)) : Nat) : Int)] := by rw [List.map_append, List.map_singleton, hphi]
    rw [emap] at ih1
    rw [hphi] at hfr
    simp only [mall, List.map_append]
    rw [e8]
    refine List.Sublist.append ?_ ih2
    by_cases h : frE es ed ((es.length - (k + 1) : Nat) : Int)
    · rw [if_pos h, if_pos (hfr.2 h), List.map_cons, emap]
      exact List.Sublist.cons_cons _ ih1
    · rw [if_neg h]
      simp
theorem mext_emb (j : Nat) : ((mext es es.length [] j).map (List.map (phi es))).Sublist (mext es8 28 [] j) := by
  have h1 := mall_emb hg es.length [] (Nat.le_refl _) (by simp)
  have h2 := h1.trans (mall_suf es8 _ (show (if es.length = 0 then 0 else 28 - rk8 es (es.length - es.length)) ≤ 28 by split <;> omega))
  have h3 := List.Sublist.cons_cons ([] : List Int) h2
  have h4 := h3.filter (fun x => decide (x.length = j))
  unfold mext
  have e : (([] : List Int) :: mall es es.length []).map (List.map (phi es)) = [] :: (mall es es.length []).map (List.map (phi es)) := rfl
  rw [List.map_nil] at h4
  rw [← e, List.filter_map] at h4
  have e2 : ((fun x : List Int => decide (x.length = j)) ∘ List.map (phi es)) = fun x => decide (x.length = j) := by
    funext x; simp
  rw [e2] at h4
  exact h4
theorem mext_rng {j : Nat} {x : List Int} (hx : x ∈ mext es es.length [] j) : ∀ e ∈ x, 0 ≤ e ∧ e < es.length := by
  have _ := hg
  unfold mext at hx
  have hx' := (List.mem_filter.1 hx).1
  rcases List.mem_cons.1 hx' with rfl | h
  · simp
  · obtain ⟨r, hr, h2⟩ := mall_new es es.length [] (Nat.le_refl _) x h
    intro e he
    rw [hr, List.nil_append] at he
    have := h2 e he
    omega
theorem filt_phi {x y : List Int} (hx : ∀ e ∈ x, 0 ≤ e ∧ e < es.length) (hy : ∀ e ∈ y, 0 ≤ e ∧ e < es.length) : ((x.map (phi es)).filter fun e => !decide (e ∈ y.map (phi es))).length = (x.filter fun e => !decide (e ∈ y)).length := by
  rw [List.filter_map, List.length_map]
  congr 1
  refine List.filter_congr fun e he => ?_
  have : phi es e ∈ y.map (phi es) ↔ e ∈ y := by
    rw [List.mem_map]
    exact ⟨fun ⟨z, hz, e'⟩ => by rw [← phi_inj hg (hy z hz) (hx e he) e']; exact hz, fun h => ⟨e, h, rfl⟩⟩
  simp only [Function.comp_apply]
  rw [decide_eq_decide.2 this]
theorem jmp_phi {x y : List Int} (hx : ∀ e ∈ x, 0 ≤ e ∧ e < es.length) (hy : ∀ e ∈ y, 0 ≤ e ∧ e < es.length) : jmpB x y = jmpB (x.map (phi es)) (y.map (phi es)) := by
  unfold jmpB
  rw [filt_phi hg hx hy, filt_phi hg hy hx]
/-- at most 6000 jumps -/
theorem jumps_le {j : Nat} (hj : j ≤ 4) : (steps jmpB (mext es es.length [] j)).length ≤ 6000 := by
  rw [steps_cnt, cntP_map jmpB jmpB (List.map (phi es)) _ (fun x hx y hy => jmp_phi hg (mext_rng hg hx) (mext_rng hg hy))]
  refine Nat.le_trans (cntP_sub jmpB (mext_emb hg j)) ?_
  have hk : j8Ok j = true := by
    have : j = 0 ∨ j = 1 ∨ j = 2 ∨ j = 3 ∨ j = 4 := by omega
    rcases this with rfl | rfl | rfl | rfl | rfl
    · exact j80
    · exact j81
    · exact j82
    · exact j83
    · exact j84
  exact Nat.le_of_ble_eq_true hk
end
end Go.Proofs.Ytlfongfhbkefmaa.Ai
namespace Go.Proofs.Ytlfongfhbkefmaa.Ai
open Go
set_option linter.unusedVariables false
theorem cmpL_pre : ∀ (p a b : List Int), cmpL (p ++ a) (p ++ b) = cmpL a b
  | [], a, b => rfl
  | x :: p, a, b => by
    show cmpL (x :: (p ++ a)) (x :: (p ++ b)) = _
    rw [cmpL]
    have : cmpI x x = 0 := by unfold cmpI; simp
    simp only [this]
    simpa using cmpL_pre p a b
theorem srtL_of {ls : List (List Int)} (h : ls.Pairwise fun x y => 0 < cmpL y x) : SrtL ls := by
  intro i j hij hj
  rw [List.pairwise_iff_getElem] at h
  have := h i j (by omega) hj hij
  have e1 : ls.getD i [] = ls[i] := by simp [show i < ls.length by omega]
  have e2 : ls.getD j [] = ls[j] := by simp [hj]
  rw [e1, e2]; exact this
theorem cmpL_head (p r q : List Int) {e f : Int} (h : e < f) : 0 < cmpL (p ++ f :: q) (p ++ e :: r) := by
  rw [cmpL_pre, cmpL]
  have h1 : cmpI f e = 1 := by
    unfold cmpI
    have a : ¬ f < e := by omega
    simp [a, h]
  rw [h1, if_pos (by decide)]; decide
theorem mall_head {es : List (Int × Int)} {k : Nat} {ed M : List Int} (hk : k ≤ es.length) (hM : M ∈ mall es k ed) : ∃ f q, M = ed ++ f :: q ∧ ((es.length - k : Nat) : Int) ≤ f := by
  obtain ⟨r, h1, h2⟩ := mall_new es k ed hk M hM
  have h3 := mall_longer es k ed M hM
  cases r with
  | nil => rw [h1] at h3; simp at h3
  | cons f q => exact ⟨f, q, h1, (h2 f (by simp)).1⟩
theorem mlpE_pw (es : List (Int × Int)) (j : Nat) : ∀ (k : Nat), k ≤ es.length → ∀ ed, (mlpE es k ed j).Pairwise fun x y => 0 < cmpL y x
  | 0, _, ed => by
    have : mlpE es 0 ed j = [] := rfl
    rw [this]; exact .nil
  | k + 1, hk, ed => by
    have ih := mlpE_pw es j k (by omega)
    rw [mlpE_step, List.pairwise_append]
    refine ⟨?_, ih ed, fun x hx y hy => ?_⟩
    · split
      · by_cases e : (ed ++ [((es.length - (k + 1) : Nat) : Int)]).length = j
        · subst e
          rw [mext_done]; simp
        · rw [mext_loop _ _ _ _ e]; exact ih _
      · exact .nil
    · have hx1 : ∃ r, x = ed ++ ((es.length - (k + 1) : Nat) : Int) :: r := by
        split at hx
        · unfold mext at hx
          rcases List.mem_cons.1 (List.mem_filter.1 hx).1 with rfl | h
          · exact ⟨[], rfl⟩
          · obtain ⟨f, q, h1, _⟩ := mall_head (by omega) h
            exact ⟨f :: q, by rw [h1]; simp⟩
        · simp at hx
      obtain ⟨r, rfl⟩ := hx1
      unfold mlpE at hy
      obtain ⟨f, q, rfl, hf⟩ := mall_head (by omega) (List.mem_filter.1 hy).1
      exact cmpL_head ed r q (by omega)
theorem mext_srt (es : List (Int × Int)) (j : Nat) : SrtL (mext es es.length [] j) := by
  refine srtL_of ?_
  by_cases e : ([] : List Int).length = j
  · subst e
    rw [mext_done]; simp
  · rw [mext_loop _ _ _ _ e]; exact mlpE_pw es j es.length (Nat.le_refl _) []
theorem mext_len {n : Int} {es : List (Int × Int)} (hg : Grd n es) {j : Nat} {x : List Int} (hx : x ∈ mext es es.length [] j) : x.length = j ∧ x.length ≤ 4 := by
  unfold mext at hx
  have h := List.mem_filter.1 hx
  refine ⟨by simpa using h.2, ?_⟩
  rcases List.mem_cons.1 h.1 with rfl | h1
  · simp
  · have := (Mgo.all hg es.length [] (Nat.le_refl _) (Mgo.nil n es) _ h1).len hg.1.1
    have := hg.1
    omega
end Go.Proofs.Ytlfongfhbkefmaa.Ai
namespace Go.Proofs.Ytlfongfhbkefmaa.Ai
open Go
set_option linter.unusedVariables false
/-- the places of one list, met from a place at the distance d - 1 -/
def bfsIn (d : Int) : List Int → List Int × List Int → List Int × List Int
  | [], st => st
  | j :: r, st => if st.1.getD j.toNat 0 < 0 then bfsIn d r (st.1.set j.toNat d, st.2 ++ [j]) else bfsIn d r st
/-- from the k-th place of the queue on -/
def bfsF (L : List (List Int)) : Nat → List Int × List Int → Nat → List Int
  | 0, st, _ => st.1
  | f + 1, st, k => if k < st.2.length then bfsF L f (bfsIn (st.1.getD (st.2.getD k 0).toNat 0 + 1) (L.getD (st.2.getD k 0).toNat []) st) (k + 1) else st.1
def bfs0 (N i : Nat) : List Int := (List.replicate N (-1)).set i 0
/-- the distances from a place -/
def bfs (L : List (List Int)) (i : Nat) : List Int := bfsF L (L.length + 1) (bfs0 L.length i, [(i : Int)]) 0
/-- lists of places -/
def LOk (N : Nat) (L : List (List Int)) : Prop := ∀ i, ∀ y ∈ L.getD i [], 0 ≤ y ∧ y < N
/-- what holds all along -/
structure BI (N : Nat) (st : List Int × List Int) : Prop where
  len : st.1.length = N
  q : ∀ x ∈ st.2, (0 ≤ x ∧ x < N) ∧ 0 ≤ st.1.getD x.toNat 0
  lo : ∀ v, v < N → -1 ≤ st.1.getD v 0 ∧ st.1.getD v 0 < st.2.length
  cnt : st.2.length + st.1.countP (· < 0) = N
theorem countP_set_neg (xs : List Int) (j : Nat) (d : Int) (hj : j < xs.length) (h : xs.getD j 0 < 0) (hd : 0 ≤ d) : (xs.set j d).countP (· < 0) + 1 = xs.countP (· < 0) := by
  induction xs generalizing j with
  | nil => simp at hj
  | cons x xs ih =>
    cases j with
    | zero =>
      have hx : x < 0 := by simpa using h
      simp only [List.set_cons_zero, List.countP_cons]
      simp only [decide_eq_true_eq]
      rw [if_neg (by omega), if_pos hx]
    | succ j =>
      have := ih j (by simpa using hj) (by simpa using h)
      simp only [List.set_cons_succ, List.countP_cons]
      omega
theorem BI.len_le {N : Nat} {st : List Int × List Int} (h : BI N st) : st.2.length ≤ N := by have := h.cnt; omega
theorem getD_setB (xs : List Int) (j v : Nat) (d : Int) (hv : v < xs.length) : (xs.set j d).getD v 0 = if j = v then d else xs.getD v 0 := by
  rw [List.getD_eq_getElem?_getD, List.getD_eq_getElem?_getD, List.getElem?_set]
  by_cases h : j = v
  · subst h; rw [if_pos rfl, if_pos rfl, if_pos hv]; rfl
  · rw [if_neg h, if_neg h]
theorem BI.put {N : Nat} {st : List Int × List Int} (h : BI N st) {j d : Int} (hj : 0 ≤ j ∧ j < N) (hn : st.1.getD j.toNat 0 < 0) (hd : 0 ≤ d ∧ d ≤ st.2.length) : BI N (st.1.set j.toNat d, st.2 ++ [j]) := by
  have hl := h.len
  refine ⟨by simp [hl], ?_, ?_, ?_⟩
  · intro x hx
    simp only [List.mem_append, List.mem_cons, List.not_mem_nil, or_false] at hx
    rcases hx with hx | rfl
    · obtain ⟨h1, h2⟩ := h.q x hx
      refine ⟨h1, ?_⟩
      show 0 ≤ (st.1.set j.toNat d).getD x.toNat 0
      rw [getD_setB _ _ _ _ (by omega)]
      split <;> omega
    · refine ⟨hj, ?_⟩
      show 0 ≤ (st.1.set x.toNat d).getD x.toNat 0
      rw [getD_setB _ _ _ _ (by omega), if_pos rfl]; omega
  · intro v hv
    have := h.lo v hv
    show -1 ≤ (st.1.set j.toNat d).getD v 0 ∧ (st.1.set j.toNat d).getD v 0 < ((st.2 ++ [j]).length : Nat)
    rw [getD_setB _ _ _ _ (by omega)]
    simp only [List.length_append, List.length_cons, List.length_nil]
    split <;> omega
  · have := countP_set_neg st.1 j.toNat d (by omega) hn hd.1
    have := h.cnt
    show (st.2 ++ [j]).length + (st.1.set j.toNat d).countP (· < 0) = N
    simp only [List.length_append, List.length_cons, List.length_nil]
    omega
theorem bfs0_BI (N i : Nat) (hi : i < N) : BI N (bfs0 N i, [(i : Int)]) := by
  have hat : ∀ v, v < N → (bfs0 N i).getD v 0 = if i = v then 0 else -1 := by
    intro v hv
    unfold bfs0
    rw [getD_setB _ _ _ _ (by simpa using hv)]
    split
    · rfl
    · rw [List.getD_eq_getElem?_getD, List.getElem?_replicate, if_pos hv]; rfl
  refine ⟨by simp [bfs0], ?_, ?_, ?_⟩
  · intro x hx
    simp only [List.mem_cons, List.not_mem_nil, or_false] at hx
    subst hx
    refine ⟨by omega, ?_⟩
    show 0 ≤ (bfs0 N i).getD (i : Int).toNat 0
    rw [Int.toNat_natCast, hat i hi, if_pos rfl]; omega
  · intro v hv
    show -1 ≤ (bfs0 N i).getD v 0 ∧ (bfs0 N i).getD v 0 < _
    rw [hat v hv]
    simp only [List.length_cons, List.length_nil]
    split <;> omega
  · show [(i : Int)].length + (bfs0 N i).countP (· < 0) = N
    have := countP_set_neg (List.replicate N (-1)) i 0 (by simpa using hi) (by rw [List.getD_eq_getElem?_getD, List.getElem?_replicate, if_pos hi]; decide) (by omega)
    have h2 : (List.replicate N (-1 : Int)).countP (· < 0) = N := by rw [List.countP_replicate]; simp
    unfold bfs0
    simp only [List.length_cons, List.length_nil]
    omega
theorem BI.inn {N : Nat} {d : Int} : ∀ (l : List Int) {st : List Int × List Int}, BI N st → (∀ y ∈ l, 0 ≤ y ∧ y < N) → (0 ≤ d ∧ d ≤ st.2.length) → BI N (bfsIn d l st)
  | [], st, h, _, _ => h
  | j :: r, st, h, hl, hd => by
    simp only [bfsIn]
    split
    · rename_i hn
      refine BI.inn r (h.put (hl j (by simp)) hn hd) (fun y hy => hl y (by simp [hy])) ?_
      simp only [List.length_append, List.length_cons, List.length_nil]
      omega
    · exact BI.inn r h (fun y hy => hl y (by simp [hy])) hd
theorem bfsF_done (L : List (List Int)) (f : Nat) (st : List Int × List Int) (k : Nat) (h : st.2.length ≤ k) : bfsF L f st k = st.1 := by
  cases f with
  | zero => rfl
  | succ f => simp only [bfsF]; rw [if_neg (by omega)]
theorem bfsF_step (L : List (List Int)) (f : Nat) (st : List Int × List Int) (k : Nat) (h : k < st.2.length) : bfsF L (f + 1) st k = bfsF L f (bfsIn (st.1.getD (st.2.getD k 0).toNat 0 + 1) (L.getD (st.2.getD k 0).toNat []) st) (k + 1) := by
  simp only [bfsF]; rw [if_pos h]
/-- the inner loop keeps the beginning of the queue and what is known -/
theorem bfsIn_pre (d : Int) : ∀ (l : List Int) (st : List Int × List Int), st.2 <+: (bfsIn d l st).2
  | [], st => List.prefix_refl _
  | j :: r, st => by
    simp only [bfsIn]
    split
    · exact (List.prefix_append st.2 [j]).trans (bfsIn_pre d r (st.1.set j.toNat d, st.2 ++ [j]))
    · exact bfsIn_pre d r st
/-- all along the outer loop -/
theorem bfs_BI (L : List (List Int)) (hL : LOk L.length L) : ∀ (f : Nat) (st : List Int × List Int) (k : Nat), BI L.length st → ∃ q, BI L.length (bfsF L f st k, q)
  | 0, st, k, h => ⟨st.2, h⟩
  | f + 1, st, k, h => by
    simp only [bfsF]
    split
    · rename_i hk
      have hm : st.2.getD k 0 ∈ st.2 := by simp [hk]
      obtain ⟨h1, h2⟩ := h.q _ hm
      have h3 := h.lo (st.2.getD k 0).toNat (by omega)
      exact bfs_BI L hL f _ _ (BI.inn _ h (hL _) (by omega))
    · exact ⟨st.2, h⟩
theorem bfs_rng (L : List (List Int)) (hL : LOk L.length L) (i : Nat) (hi : i < L.length) : (bfs L i).length = L.length ∧ ∀ v, v < L.length → -1 ≤ (bfs L i).getD v 0 ∧ (bfs L i).getD v 0 < L.length := by
  obtain ⟨q, h⟩ := bfs_BI L hL (L.length + 1) _ 0 (bfs0_BI L.length i hi)
  have := h.len_le
  refine ⟨h.len, fun v hv => ?_⟩
  have := h.lo v hv
  exact ⟨this.1, by have h2 : (bfs L i).getD v 0 < (q.length : Int) := this.2; have h3 : q.length ≤ L.length := h.len_le; omega⟩
end Go.Proofs.Ytlfongfhbkefmaa.Ai
namespace Go.Proofs.Ytlfongfhbkefmaa.Ai
open Go
def ords276 : List (Nat × List (Nat × Bool)) := []
def cd276 : Cd := (.seq (.reg [⟨⟨some 4, Op.assign (Operand.const (Value.int IntKind.u64 0)), none⟩, []⟩,
  ⟨⟨some 5, Op.assign (Operand.const (Value.int IntKind.u64 0)), none⟩, []⟩]) (.seq (.reg [⟨⟨some 14, Op.move (Operand.tmp 0), none⟩, []⟩,
  ⟨⟨some 15, Op.binOp BinOp.and 122 (Operand.tmp 14) (Operand.const (Value.int IntKind.u64 4294967295)) 122, none⟩, []⟩,
  ⟨⟨some 6, Op.assign (Operand.tmp 15), none⟩, []⟩]) (.seq (.reg [⟨⟨some 16, Op.move (Operand.tmp 0), none⟩, []⟩,
  ⟨⟨some 17, Op.binOp BinOp.shr 122 (Operand.tmp 16) (Operand.const (Value.int IntKind.u64 32)) 97, none⟩, []⟩,
  ⟨⟨some 7, Op.assign (Operand.tmp 17), none⟩, []⟩]) (.seq (.reg [⟨⟨some 18, Op.move (Operand.tmp 1), none⟩, []⟩,
  ⟨⟨some 19, Op.binOp BinOp.and 122 (Operand.tmp 18) (Operand.const (Value.int IntKind.u64 4294967295)) 122, none⟩, []⟩,
  ⟨⟨some 8, Op.assign (Operand.tmp 19), none⟩, []⟩]) (.seq (.reg [⟨⟨some 20, Op.move (Operand.tmp 1), none⟩, []⟩,
  ⟨⟨some 21, Op.binOp BinOp.shr 122 (Operand.tmp 20) (Operand.const (Value.int IntKind.u64 32)) 97, none⟩, []⟩,
  ⟨⟨some 9, Op.assign (Operand.tmp 21), none⟩, []⟩]) (.seq (.reg [⟨⟨some 22, Op.move (Operand.tmp 6), none⟩, []⟩,
  ⟨⟨some 23, Op.move (Operand.tmp 8), none⟩, []⟩,
  ⟨⟨some 24, Op.binOp BinOp.mul 122 (Operand.tmp 22) (Operand.tmp 23) 122, none⟩, []⟩,
  ⟨⟨some 10, Op.assign (Operand.tmp 24), none⟩, []⟩]) (.seq (.reg [⟨⟨some 25, Op.move (Operand.tmp 7), none⟩, []⟩,
  ⟨⟨some 26, Op.move (Operand.tmp 8), none⟩, []⟩,
  ⟨⟨some 27, Op.binOp BinOp.mul 122 (Operand.tmp 25) (Operand.tmp 26) 122, none⟩, []⟩,
  ⟨⟨some 28, Op.move (Operand.tmp 10), none⟩, []⟩,
  ⟨⟨some 29, Op.binOp BinOp.shr 122 (Operand.tmp 28) (Operand.const (Value.int IntKind.u64 32)) 97, none⟩, []⟩,
  ⟨⟨some 30, Op.binOp BinOp.add 122 (Operand.tmp 27) (Operand.tmp 29) 122, none⟩, []⟩,
  ⟨⟨some 11, Op.assign (Operand.tmp 30), none⟩, []⟩]) (.seq (.reg [⟨⟨some 31, Op.move (Operand.tmp 11), none⟩, []⟩,
  ⟨⟨some 32, Op.binOp BinOp.and 122 (Operand.tmp 31) (Operand.const (Value.int IntKind.u64 4294967295)) 122, none⟩, []⟩,
  ⟨⟨some 12, Op.assign (Operand.tmp 32), none⟩, []⟩]) (.seq (.reg [⟨⟨some 33, Op.move (Operand.tmp 11), none⟩, []⟩,
  ⟨⟨some 34, Op.binOp BinOp.shr 122 (Operand.tmp 33) (Operand.const (Value.int IntKind.u64 32)) 97, none⟩, []⟩,
  ⟨⟨some 13, Op.assign (Operand.tmp 34), none⟩, []⟩]) (.seq (.reg [⟨⟨some 35, Op.move (Operand.tmp 12), none⟩, []⟩,
  ⟨⟨some 36, Op.move (Operand.tmp 6), none⟩, []⟩,
  ⟨⟨some 37, Op.move (Operand.tmp 9), none⟩, []⟩,
  ⟨⟨some 38, Op.binOp BinOp.mul 122 (Operand.tmp 36) (Operand.tmp 37) 122, none⟩, []⟩,
  ⟨⟨some 39, Op.binOp BinOp.add 122 (Operand.tmp 35) (Operand.tmp 38) 122, none⟩, []⟩,
  ⟨⟨some 12, Op.assign (Operand.tmp 39), none⟩, []⟩]) (.seq (.reg [⟨⟨some 40, Op.move (Operand.tmp 7), none⟩, []⟩,
  ⟨⟨some 41, Op.move (Operand.tmp 9), none⟩, []⟩,
  ⟨⟨some 42, Op.binOp BinOp.mul 122 (Operand.tmp 40) (Operand.tmp 41) 122, none⟩, []⟩,
  ⟨⟨some 43, Op.move (Operand.tmp 13), none⟩, []⟩,
  ⟨⟨some 44, Op.binOp BinOp.add 122 (Operand.tmp 42) (Operand.tmp 43) 122, none⟩, []⟩,
  ⟨⟨some 45, Op.move (Operand.tmp 12), none⟩, []⟩,
  ⟨⟨some 46, Op.binOp BinOp.shr 122 (Operand.tmp 45) (Operand.const (Value.int IntKind.u64 32)) 97, none⟩, []⟩,
  ⟨⟨some 47, Op.binOp BinOp.add 122 (Operand.tmp 44) (Operand.tmp 46) 122, none⟩, []⟩,
  ⟨⟨some 4, Op.assign (Operand.tmp 47), none⟩, []⟩]) (.seq (.reg [⟨⟨some 48, Op.move (Operand.tmp 0), none⟩, []⟩,
  ⟨⟨some 49, Op.move (Operand.tmp 1), none⟩, []⟩,
  ⟨⟨some 50, Op.binOp BinOp.mul 122 (Operand.tmp 48) (Operand.tmp 49) 122, none⟩, []⟩,
  ⟨⟨some 5, Op.assign (Operand.tmp 50), none⟩, []⟩]) .ret))))))))))))
theorem sl276 : slim Try.f276.ntmps ords276 (Try.f276.body.getD .skip) = some cd276 := by kernel_rfl
theorem in276 {args : List Value} {H : AH} {R : Value → AH → Prop} (hl : args.length = 2) (h : ∀ (Q : Exit → Sl → AH → Prop), (∀ e s H, endA Try.prog [ResultVar.tmp 4, ResultVar.tmp 5] R e s H → Q e s H) → wpC Try.prog cd276 Q (enterA args) H) : ACalls Try.prog 276 args H R :=
  ACalls.intro (by kernel_rfl) Try.func276 rfl (by kernel_rfl) sl276 hl (of_decide_eq_true (by kernel_rfl)) (by kernel_rfl) h
def ords272 : List (Nat × List (Nat × Bool)) := []
def cd272 : Cd := (.seq (.reg [⟨⟨some 4, Op.assign (Operand.const (Value.int IntKind.u64 0)), none⟩, []⟩,
  ⟨⟨some 5, Op.assign (Operand.const (Value.int IntKind.u64 0)), none⟩, []⟩]) (.seq (.cond (Operand.const (Value.bool false)) (.seq (.reg [⟨⟨some 11, Op.move (Operand.tmp 0), none⟩, []⟩,
  ⟨⟨some 12, Op.convert 97 182 (Operand.tmp 11), none⟩, []⟩,
  ⟨⟨some 13, Op.move (Operand.tmp 1), none⟩, []⟩,
  ⟨⟨some 14, Op.convert 97 182 (Operand.tmp 13), none⟩, []⟩,
  ⟨⟨some 15, Op.call { callee := (Callee.value (Operand.func 275)), args := #[(Operand.tmp 12), (Operand.tmp 14)], argTypes := #[182, 182] }, none⟩, []⟩,
  ⟨⟨some 10, Op.move (Operand.tmp 15), none⟩, []⟩,
  ⟨⟨some 16, Op.extract (Operand.tmp 10) 0, none⟩, []⟩,
  ⟨⟨some 17, Op.extract (Operand.tmp 10) 1, none⟩, []⟩,
  ⟨⟨some 6, Op.assign (Operand.tmp 16), none⟩, []⟩,
  ⟨⟨some 7, Op.assign (Operand.tmp 17), none⟩, []⟩]) (.seq (.reg [⟨⟨some 18, Op.move (Operand.tmp 6), none⟩, []⟩,
  ⟨⟨some 19, Op.convert 182 97 (Operand.tmp 18), none⟩, []⟩,
  ⟨⟨some 20, Op.move (Operand.tmp 7), none⟩, []⟩,
  ⟨⟨some 21, Op.convert 182 97 (Operand.tmp 20), none⟩, []⟩,
  ⟨⟨some 4, Op.assign (Operand.tmp 19), none⟩, []⟩,
  ⟨⟨some 5, Op.assign (Operand.tmp 21), none⟩, []⟩]) .ret)) .skip) (.seq (.reg [⟨⟨some 23, Op.move (Operand.tmp 0), none⟩, []⟩,
  ⟨⟨some 24, Op.move (Operand.tmp 1), none⟩, []⟩,
  ⟨⟨some 25, Op.call { callee := (Callee.value (Operand.func 276)), args := #[(Operand.tmp 23), (Operand.tmp 24)], argTypes := #[122, 122] }, none⟩, []⟩,
  ⟨⟨some 22, Op.move (Operand.tmp 25), none⟩, []⟩,
  ⟨⟨some 26, Op.extract (Operand.tmp 22) 0, none⟩, []⟩,
  ⟨⟨some 27, Op.extract (Operand.tmp 22) 1, none⟩, []⟩,
  ⟨⟨some 8, Op.assign (Operand.tmp 26), none⟩, []⟩,
  ⟨⟨some 9, Op.assign (Operand.tmp 27), none⟩, []⟩]) (.seq (.reg [⟨⟨some 28, Op.move (Operand.tmp 8), none⟩, []⟩,
  ⟨⟨some 29, Op.move (Operand.tmp 9), none⟩, []⟩,
  ⟨⟨some 4, Op.assign (Operand.tmp 28), none⟩, []⟩,
  ⟨⟨some 5, Op.assign (Operand.tmp 29), none⟩, []⟩]) .ret))))
theorem sl272 : slim Try.f272.ntmps ords272 (Try.f272.body.getD .skip) = some cd272 := by kernel_rfl
theorem in272 {args : List Value} {H : AH} {R : Value → AH → Prop} (hl : args.length = 2) (h : ∀ (Q : Exit → Sl → AH → Prop), (∀ e s H, endA Try.prog [ResultVar.tmp 4, ResultVar.tmp 5] R e s H → Q e s H) → wpC Try.prog cd272 Q (enterA args) H) : ACalls Try.prog 272 args H R :=
  ACalls.intro (by kernel_rfl) Try.func272 rfl (by kernel_rfl) sl272 hl (of_decide_eq_true (by kernel_rfl)) (by kernel_rfl) h
def ords264 : List (Nat × List (Nat × Bool)) := [(9, [(0, false), (1, false), (2, false), (3, false), (4, false), (5, false), (6, false), (7, true), (8, false), (9, true)])]
def cd264 : Cd := (.seq (.reg [⟨⟨some 4, Op.assign (Operand.const (Value.slice none 0 0)), none⟩, []⟩]) (.seq (.seq (.reg [⟨⟨some 9, Op.move (Operand.tmp 1), none⟩, []⟩,
  ⟨⟨some 10, Op.binOp BinOp.lss 3 (Operand.tmp 9) (Operand.const (Value.int IntKind.i64 0)) 3, none⟩, []⟩]) (.cond (Operand.tmp 10) (.reg [⟨⟨some 11, Op.makeInterface 9 (Operand.const (Value.string { data := #[99, 97, 110, 110, 111, 116, 32, 98, 101, 32, 110, 101, 103, 97, 116, 105, 118, 101] })), none⟩, []⟩,
  ⟨⟨none, Op.panic (Operand.tmp 11), none⟩, []⟩]) .skip)) (.seq (.reg [⟨⟨some 13, Op.move (Operand.tmp 0), none⟩, []⟩,
  ⟨⟨some 14, Op.call { callee := (Callee.builtin Builtin.len), args := #[(Operand.tmp 13)], argTypes := #[38] }, none⟩, []⟩,
  ⟨⟨some 15, Op.convert 3 97 (Operand.tmp 14), none⟩, []⟩,
  ⟨⟨some 16, Op.move (Operand.tmp 1), none⟩, []⟩,
  ⟨⟨some 17, Op.convert 3 97 (Operand.tmp 16), none⟩, []⟩,
  ⟨⟨some 18, Op.call { callee := (Callee.value (Operand.func 272)), args := #[(Operand.tmp 15), (Operand.tmp 17)], argTypes := #[97, 97] }, none⟩, []⟩,
  ⟨⟨some 12, Op.move (Operand.tmp 18), none⟩, []⟩,
  ⟨⟨some 19, Op.extract (Operand.tmp 12) 0, none⟩, []⟩,
  ⟨⟨some 20, Op.extract (Operand.tmp 12) 1, none⟩, []⟩,
  ⟨⟨some 5, Op.assign (Operand.tmp 19), none⟩, []⟩,
  ⟨⟨some 6, Op.assign (Operand.tmp 20), none⟩, []⟩]) (.seq (.seq (.reg [⟨⟨some 21, Op.move (Operand.tmp 5), none⟩, []⟩,
  ⟨⟨some 22, Op.binOp BinOp.gtr 97 (Operand.tmp 21) (Operand.const (Value.int IntKind.u64 0)) 97, none⟩, []⟩,
  ⟨⟨some 23, Op.move (Operand.tmp 22), none⟩, []⟩,
  ⟨⟨some 24, Op.move (Operand.tmp 6), some (23, false)⟩, []⟩,
  ⟨⟨some 25, Op.binOp BinOp.gtr 97 (Operand.tmp 24) (Operand.const (Value.int IntKind.u64 9223372036854775807)) 97, some (23, false)⟩, []⟩,
  ⟨⟨some 26, Op.pick (Operand.tmp 23) (Operand.const (Value.bool true)) (Operand.tmp 25), none⟩, []⟩]) (.cond (Operand.tmp 26) (.reg [⟨⟨some 27, Op.makeInterface 9 (Operand.const (Value.string { data := #[116, 104, 101, 32, 114, 101, 115, 117, 108, 116, 32, 111, 102, 32, 40, 108, 101, 110, 40, 120, 41, 32, 42, 32, 99, 111, 117, 110, 116, 41, 32, 111, 118, 101, 114, 102, 108, 111, 119, 115] })), none⟩, []⟩,
  ⟨⟨none, Op.panic (Operand.tmp 27), none⟩, []⟩]) .skip)) (.seq (.reg [⟨⟨some 28, Op.move (Operand.tmp 6), none⟩, []⟩,
  ⟨⟨some 29, Op.convert 97 3 (Operand.tmp 28), none⟩, []⟩,
  ⟨⟨some 30, Op.makeSlice 38 (Operand.tmp 29) (Operand.tmp 29), none⟩, []⟩,
  ⟨⟨some 7, Op.assign (Operand.tmp 30), none⟩, []⟩]) (.seq (.reg [⟨⟨some 31, Op.move (Operand.tmp 7), none⟩, []⟩,
  ⟨⟨some 32, Op.move (Operand.tmp 0), none⟩, []⟩,
  ⟨⟨some 33, Op.call { callee := (Callee.builtin Builtin.copy), args := #[(Operand.tmp 31), (Operand.tmp 32)], argTypes := #[38, 38] }, none⟩, []⟩,
  ⟨⟨some 8, Op.assign (Operand.tmp 33), none⟩, []⟩]) (.seq (.block 0 (.loop (.seq (.seq (.reg [⟨⟨some 34, Op.move (Operand.tmp 8), none⟩, []⟩,
  ⟨⟨some 35, Op.move (Operand.tmp 7), none⟩, []⟩,
  ⟨⟨some 36, Op.call { callee := (Callee.builtin Builtin.len), args := #[(Operand.tmp 35)], argTypes := #[38] }, none⟩, []⟩,
  ⟨⟨some 37, Op.binOp BinOp.lss 3 (Operand.tmp 34) (Operand.tmp 36) 3, none⟩, []⟩]) (.cond (Operand.tmp 37) .skip (.exit 0))) (.block 1 (.reg [⟨⟨some 38, Op.move (Operand.tmp 8), none⟩, []⟩,
  ⟨⟨some 39, Op.move (Operand.tmp 7), none⟩, []⟩,
  ⟨⟨some 40, Op.move (Operand.tmp 8), none⟩, []⟩,
  ⟨⟨some 41, Op.slice 38 (Operand.tmp 39) (some (Operand.tmp 40)) none none, none⟩, []⟩,
  ⟨⟨some 42, Op.move (Operand.tmp 7), none⟩, []⟩,
  ⟨⟨some 43, Op.move (Operand.tmp 8), none⟩, []⟩,
  ⟨⟨some 44, Op.slice 38 (Operand.tmp 42) none (some (Operand.tmp 43)) none, none⟩, []⟩,
  ⟨⟨some 45, Op.call { callee := (Callee.builtin Builtin.copy), args := #[(Operand.tmp 41), (Operand.tmp 44)], argTypes := #[38, 38] }, none⟩, []⟩,
  ⟨⟨some 46, Op.binOp BinOp.add 3 (Operand.tmp 38) (Operand.tmp 45) 3, none⟩, []⟩,
  ⟨⟨some 8, Op.assign (Operand.tmp 46), none⟩, []⟩]))))) (.seq (.reg [⟨⟨some 47, Op.move (Operand.tmp 7), none⟩, []⟩,
  ⟨⟨some 4, Op.assign (Operand.tmp 47), none⟩, []⟩]) .ret))))))))
theorem sl264 : slim Try.f264.ntmps ords264 (Try.f264.body.getD .skip) = some cd264 := by kernel_rfl
theorem in264 {args : List Value} {H : AH} {R : Value → AH → Prop} (hl : args.length = 2) (h : ∀ (Q : Exit → Sl → AH → Prop), (∀ e s H, endA Try.prog [ResultVar.tmp 4] R e s H → Q e s H) → wpC Try.prog cd264 Q (enterA args) H) : ACalls Try.prog 264 args H R :=
  ACalls.intro (by kernel_rfl) Try.func264 rfl (by kernel_rfl) sl264 hl (of_decide_eq_true (by kernel_rfl)) (by kernel_rfl) h
end Go.Proofs.Ytlfongfhbkefmaa.Ai
namespace Go.Proofs.Ytlfongfhbkefmaa.Ai
open Go Go.RowKit
set_option linter.unusedVariables false
set_option linter.unusedSimpArgs false
/-- a part of an object -/
theorem sl_own {P : Program} {t e : TypeId} (hu : P.underlying t = some (.slice e)) (hc : P.cellsOf e = 1) {H : AH} {o k n c : Nat} {vs : List Value} {ro : Bool} (ho : H[o]? = some (.cells vs e ro)) {lo hi : Option Value} {l r : Nat} (h1 : boundA lo 0 = some l) (h2 : boundA hi n = some r) (hl : l ≤ r) (hr : r ≤ n) :
    sliceA P t (.slice (some ⟨o, k, none⟩) n c) lo hi none H = some (.slice (some ⟨o, k + l, none⟩) (r - l) (r - l)) := by
  simp only [sliceA, hu, h1, h2, ho, hc, Nat.mul_one]
  rw [if_pos ⟨hl, hr, trivial, Nat.one_pos⟩]
/-- a row, copied into one's own -/
theorem cp_ints {P : Program} {t e : TypeId} (hu : P.underlying t = some (.slice e)) (hc : P.cellsOf e = 1) {H : AH} {o k n c : Nat} {xs ys : List Int} {x : Value} (ho : H[o]? = some (.cells (ints xs) e false)) (hr : Row e H x ys) (hm : 0 < ys.length) (hn : 0 < n) (hb : k + n ≤ xs.length) :
    copyA P t (.slice (some ⟨o, k, none⟩) n c) x H = some (.int .i64 ((min ys.length n : Nat) : Int), H.set o (.cells (ints (xs.take k ++ ys.take (min ys.length n) ++ xs.drop (k + min ys.length n))) e false)) := by
  have hs := hr.cells (P := P) hc
  simp only [copyA, hu, ho, hs, hc, Nat.mul_one]
  rw [if_pos ⟨trivial, Nat.one_pos, hm, hn, by rw [ints_len]; exact hb⟩]
  have : putAt (ints xs) k ((ints ys).take (min ys.length n)) = ints (xs.take k ++ ys.take (min ys.length n) ++ xs.drop (k + min ys.length n)) := by
    unfold putAt
    have e1 : ((ints ys).take (min ys.length n)).length = min ys.length n := by rw [List.length_take, ints_len]; omega
    rw [e1]
    simp [ints, List.map_take, List.map_drop]
  rw [this]
theorem mul_one_u (P : Program) (t : TypeId) (n : Nat) (h : n < 18446744073709551616) : binA P .mul t (.int .u64 1) (.int .u64 (n : Int)) = some (.int .u64 (n : Int)) := by
  simp only [binA, intA, Int.one_mul, IntKind.wrap_u64]
  simp
  omega
theorem mul_zero_u (P : Program) (t : TypeId) (n : Nat) : binA P .mul t (.int .u64 0) (.int .u64 (n : Int)) = some (.int .u64 0) := by
  simp only [binA, intA, Int.zero_mul, IntKind.wrap_u64]
  simp
theorem shr32 (P : Program) (t : TypeId) (n : Nat) (h : n < 4294967296) : binA P .shr t (.int .u64 (n : Int)) (.int .u64 32) = some (.int .u64 0) := by
  simp only [binA, shiftA]
  rw [if_pos (.inr trivial), if_neg (by decide)]
  congr 2
  have : (2 ^ min (32 : Int).toNat IntKind.u64.bits : Int) = 4294967296 := by decide
  rw [this, Int.fdiv_eq_ediv_of_nonneg _ (by decide)]
  omega
theorem and32 (P : Program) (t : TypeId) (n : Nat) (h : n < 4294967296) : binA P .and t (.int .u64 (n : Int)) (.int .u64 4294967295) = some (.int .u64 (n : Int)) := by
  have := bin_and P t n 4294967295 (by omega) (by decide)
  have e : n &&& 4294967295 = n := by
    rw [show 4294967295 = 2 ^ 32 - 1 from rfl, Nat.and_two_pow_sub_one_eq_mod]
    exact Nat.mod_eq_of_lt h
  rw [e] at this
  exact this
set_option maxRecDepth 20000 in
theorem Mul64_c (n : Nat) (H : AH) (hn : n < 4294967296) : ACalls Try.prog 276 [.int .u64 1, .int .u64 (n : Int)] H fun r H' => r = .tuple (List.toArray [.int .u64 0, .int .u64 (n : Int)]) ∧ H = H' := by
  refine in276 rfl ?_
  intro Q hQ
  have k1 : binA Try.prog .and 122 (.int .u64 1) (.int .u64 4294967295) = some (.int .u64 1) := by kernel_rfl
  have k2 : binA Try.prog .shr 122 (.int .u64 1) (.int .u64 32) = some (.int .u64 0) := by kernel_rfl
  have k3 := and32 Try.prog 122 n hn
  have k4 := shr32 Try.prog 122 n hn
  have k5 := mul_one_u Try.prog 122 n (by omega)
  have k6 := mul_zero_u Try.prog 122 n
  have k7 : binA Try.prog .add 122 (.int .u64 0) (.int .u64 0) = some (.int .u64 0) := by kernel_rfl
  have k8 : binA Try.prog .and 122 (.int .u64 0) (.int .u64 4294967295) = some (.int .u64 0) := by kernel_rfl
  have k9 : binA Try.prog .shr 122 (.int .u64 0) (.int .u64 32) = some (.int .u64 0) := by kernel_rfl
  have k10 : binA Try.prog .mul 122 (.int .u64 1) (.int .u64 0) = some (.int .u64 0) := by kernel_rfl
  have k11 : binA Try.prog .mul 122 (.int .u64 0) (.int .u64 0) = some (.int .u64 0) := by kernel_rfl
  simp (maxSteps := 1000000) (disch := omega) only [cd276, k1, k2, k3, k4, k5, k6, k7, k8, k9, k10, k11, S, S1, S2, S3, S4, S5, ST, eq_self, reduceIte, reduceCtorEq, Nat.reduceEqDiff, Nat.reduceAdd]
  refine hQ _ _ _ ?_
  simp (maxSteps := 1000000) (disch := omega) only [S, S1, S2, S3, S4, S5, ST, eq_self, reduceIte, reduceCtorEq, Nat.reduceEqDiff, Nat.reduceAdd]
theorem Mul_c (n : Nat) (H : AH) (hn : n < 4294967296) : ACalls Try.prog 272 [.int .u64 1, .int .u64 (n : Int)] H fun r H' => r = .tuple (List.toArray [.int .u64 0, .int .u64 (n : Int)]) ∧ H = H' := by
  refine in272 rfl ?_
  intro Q hQ
  simp (maxSteps := 1000000) (disch := omega) only [cd272, S, S1, S2, S3, S4, S5, ST, eq_self, reduceIte, reduceCtorEq, Nat.reduceEqDiff, Nat.reduceAdd]
  refine CallH.by (Mul64_c n H hn) ?_
  rintro _ _ ⟨rfl, rfl⟩
  simp (maxSteps := 1000000) (disch := omega) only [S, S1, S2, S3, S4, S5, ST, eq_self, reduceIte, reduceCtorEq, Nat.reduceEqDiff, Nat.reduceAdd]
  refine hQ _ _ _ ?_
  simp (maxSteps := 1000000) (disch := omega) only [S, S1, S2, S3, S4, S5, ST, eq_self, reduceIte, reduceCtorEq, Nat.reduceEqDiff, Nat.reduceAdd]
def rpN (N k : Nat) : List Int := List.replicate k (-1) ++ List.replicate (N - k) 0
theorem rpN_step (N k : Nat) (hk : k ≤ N) : (rpN N k).take k ++ (List.replicate k (-1 : Int)).take (min k (N - k)) ++ (rpN N k).drop (k + min k (N - k)) = rpN N (k + min k (N - k)) := by
  unfold rpN
  rw [List.take_left' (by simp), List.take_replicate, ← List.drop_drop, List.drop_left' (by simp), List.drop_replicate, List.replicate_append_replicate]
  congr 2 <;> omega
theorem rpN_take (N k : Nat) : (rpN N k).take k = List.replicate k (-1) := by
  unfold rpN
  rw [List.take_left' (by simp)]
theorem rpN_len (N k : Nat) (h : k ≤ N) : (rpN N k).length = N := by simp [rpN]; omega
set_option maxRecDepth 20000 in
set_option maxHeartbeats 1000000 in
theorem Repeat_c (v : Value) (N : Nat) (H : AH) (hr : Row 3 H v [-1]) (hN : 1 ≤ N ∧ N ≤ 1000000000) : ACalls Try.prog 264 [v, .int .i64 (N : Int)] H fun r H' => Own 3 H H' r (List.replicate N (-1)) ∧ H <+: H' := by
  refine in264 rfl ?_
  intro Q hQ
  have hU : IntKind.u64.wrap (N : Int) = (N : Int) := by rw [IntKind.wrap_u64]; omega
  have hU1 : IntKind.u64.wrap 1 = 1 := by decide
  simp (maxSteps := 1000000) (disch := omega) only [cd264, hr.len Try.underlying38, S, S1, S2, S3, S4, S5, ST, eq_self, reduceIte, reduceCtorEq, Nat.reduceEqDiff, Nat.reduceAdd]
  refine brD.intro (fun g => absurd g (by omega)) (fun g => ?_)
  have hl1 : (([-1] : List Int).length : Int) = 1 := rfl
  simp (maxSteps := 1000000) (disch := omega) only [hr.len Try.underlying38, hU, hl1, hU1, S, S1, S2, S3, S4, S5, ST, eq_self, reduceIte, reduceCtorEq, Nat.reduceEqDiff, Nat.reduceAdd]
  refine CallH.by (Mul_c N H (by omega)) ?_
  rintro _ _ ⟨rfl, rfl⟩
  have d0 : ¬ ((0 : Int) > 0) := by decide
  simp (maxSteps := 1000000) (disch := omega) only [d0, S, S1, S2, S3, S4, S5, ST, eq_self, reduceIte, reduceCtorEq, Nat.reduceEqDiff, Nat.reduceAdd]
  refine brD.intro (fun g => absurd g (by omega)) (fun g2 => ?_)
  simp (maxSteps := 1000000) (disch := omega) only [wrap64, mks38, Int.toNat_natCast, S, S1, S2, S3, S4, S5, ST, eq_self, reduceIte, reduceCtorEq, Nat.reduceEqDiff, Nat.reduceAdd]
  generalize hz : H ++ [AObj.cells (ints (List.replicate N 0)) 3 false] = Z
  have pZ : H <+: Z := by rw [← hz]; exact List.prefix_append _ _
  have cZ : Z[H.length]? = some (.cells (ints (List.replicate N 0)) 3 false) := by rw [← hz]; exact at_new ..
  have c1 := cp_ints (P := Try.prog) (t := 38) (k := 0) (n := N) (c := N) Try.underlying38 cs3 cZ (hr.pre pZ) (by decide) (by omega) (by simp)
  have e1 : min ([-1] : List Int).length N = 1 := by simp; omega
  have e2 : (List.replicate N (0 : Int)).take 0 ++ ([-1] : List Int).take 1 ++ (List.replicate N (0 : Int)).drop (0 + 1) = rpN N 1 := by simp [rpN, List.drop_replicate]
  rw [e1, e2] at c1
  simp (maxSteps := 1000000) (disch := omega) only [c1, S, S1, S2, S3, S4, S5, ST, eq_self, reduceIte, reduceCtorEq, Nat.reduceEqDiff, Nat.reduceAdd]
  refine LoopH.by (fun m s H' => ∃ k, m + k = N ∧ 1 ≤ k ∧ s 7 = .slice (some ⟨H.length, 0, none⟩) N N ∧ s 8 = .int .i64 ((k : Nat) : Int) ∧ H' = Z.set H.length (.cells (ints (rpN N k)) 3 false)) (N - 1) ?_ ?_
  · exact ⟨1, by omega, by omega, rfl, rfl, rfl⟩
  · rintro m s H' ⟨k, hm, hk1, h7, h8, rfl⟩
    have cK : (Z.set H.length (.cells (ints (rpN N k)) 3 false))[H.length]? = some (.cells (ints (rpN N k)) 3 false) := at_set cZ
    simp (maxSteps := 1000000) (disch := omega) only [h7, h8, S, S1, S2, S3, S4, S5, ST, eq_self, reduceIte, reduceCtorEq, Nat.reduceEqDiff, Nat.reduceAdd]
    refine brD.intro (fun g => ?_) (fun g => ?_)
    · have hk : k < N := by omega
      have s1 := sl_own (P := Try.prog) (t := 38) (k := 0) (n := N) (c := N) Try.underlying38 cs3 cK (bound_some (k := .i64) (i := (k : Int)) (by omega) 0) (hi_none N) (show ((k : Int)).toNat ≤ N by omega) (Nat.le_refl _)
      have s2 := sl_own (P := Try.prog) (t := 38) (k := 0) (n := N) (c := N) Try.underlying38 cs3 cK lo_none (bound_some (k := .i64) (i := (k : Int)) (by omega) N) (Nat.zero_le _) (show ((k : Int)).toNat ≤ N by omega)
      simp only [Int.toNat_natCast, Nat.zero_add, Nat.sub_zero] at s1 s2
      have hrk : Row 3 (Z.set H.length (.cells (ints (rpN N k)) 3 false)) (.slice (some ⟨H.length, 0, none⟩) k k) (List.replicate k (-1)) := by
        refine .inr ⟨H.length, 0, ints (rpN N k), false, by simp, cK, by rw [ints_len, rpN_len N k (by omega)]; simp; omega, ?_⟩
        rw [List.length_replicate, List.drop_zero]
        have : (ints (rpN N k)).take k = ints ((rpN N k).take k) := by simp [ints, List.map_take]
        rw [this, rpN_take]
      have c2 := cp_ints (P := Try.prog) (t := 38) (k := k) (n := N - k) (c := N - k) Try.underlying38 cs3 cK hrk (by simp; omega) (by omega) (by rw [rpN_len N k (by omega)]; omega)
      rw [List.length_replicate, rpN_step N k (by omega), List.set_set] at c2
      simp (maxSteps := 1000000) (disch := omega) only [h7, h8, s1, s2, c2, wrap64, S, S1, S2, S3, S4, S5, ST, eq_self, reduceIte, reduceCtorEq, Nat.reduceEqDiff, Nat.reduceAdd]
      refine ⟨m - min k (N - k), by omega, k + min k (N - k), ?_⟩
      (repeat' apply And.intro) <;> first | (simp only [Value.int.injEq, true_and]; omega) | omega | rfl | assumption | (simp; done) | (simp; omega)
    · simp (maxSteps := 1000000) (disch := omega) only [h7, S, S1, S2, S3, S4, S5, ST, eq_self, reduceIte, reduceCtorEq, Nat.reduceEqDiff, Nat.reduceAdd]
      refine hQ _ _ _ ?_
      simp (maxSteps := 1000000) (disch := omega) only [h7, S, S1, S2, S3, S4, S5, ST, eq_self, reduceIte, reduceCtorEq, Nat.reduceEqDiff, Nat.reduceAdd]
      have : k = N := by omega
      subst this
      have e3 : rpN k k = List.replicate k (-1) := by simp [rpN]
      rw [e3]
      have hZ := at_set (d := .cells (ints (List.replicate k (-1))) 3 false) cZ
      exact ⟨.inr ⟨H.length, by rw [List.length_replicate], Nat.le_refl _, hZ⟩, pre_set pZ (Nat.le_refl _) _⟩
theorem rpN_set (N j : Nat) (hj : j < N) : (rpN N j).set j (-1) = rpN N (j + 1) := by
  unfold rpN
  rw [List.set_append_right _ _ (by simp)]
  obtain ⟨n, hn⟩ : ∃ n, N - j = n + 1 := ⟨N - j - 1, by omega⟩
  rw [hn, List.length_replicate, Nat.sub_self, List.replicate_succ, List.set_cons_zero, List.replicate_succ', List.append_assoc]
  have : N - (j + 1) = n := by omega
  rw [this]; rfl
end Go.Proofs.Ytlfongfhbkefmaa.Ai
namespace Go.Proofs.Ytlfongfhbkefmaa.Ai
open Go
def ords232 : List (Nat × List (Nat × Bool)) := []
def cd232 : Cd := (.seq (.reg [⟨⟨some 4, Op.assign (Operand.const (Value.slice none 0 0)), none⟩, []⟩]) (.seq (.reg [⟨⟨some 10, Op.buildSlice 38 1 #[(0, (Operand.const (Value.int IntKind.i64 (-1))))], none⟩, []⟩,
  ⟨⟨some 11, Op.move (Operand.tmp 0), none⟩, []⟩,
  ⟨⟨some 12, Op.call { callee := (Callee.builtin Builtin.len), args := #[(Operand.tmp 11)], argTypes := #[26] }, none⟩, []⟩,
  ⟨⟨some 13, Op.call { callee := (Callee.value (Operand.func 264)), args := #[(Operand.tmp 10), (Operand.tmp 12)], argTypes := #[38, 3] }, none⟩, []⟩,
  ⟨⟨some 5, Op.assign (Operand.tmp 13), none⟩, []⟩]) (.seq (.reg [⟨⟨some 14, Op.move (Operand.tmp 5), none⟩, []⟩,
  ⟨⟨some 15, Op.move (Operand.tmp 1), none⟩, []⟩,
  ⟨⟨some 16, Op.indexAddr 38 (Operand.tmp 14) (Operand.tmp 15), none⟩, []⟩,
  ⟨⟨none, Op.store 3 (Operand.tmp 16) (Operand.const (Value.int IntKind.i64 0)), none⟩, []⟩]) (.seq (.reg [⟨⟨some 17, Op.move (Operand.tmp 1), none⟩, []⟩,
  ⟨⟨some 18, Op.buildSlice 38 1 #[(0, (Operand.tmp 17))], none⟩, []⟩,
  ⟨⟨some 6, Op.assign (Operand.tmp 18), none⟩, []⟩]) (.seq (.block 0 (.loop (.seq (.seq (.reg [⟨⟨some 19, Op.move (Operand.tmp 6), none⟩, []⟩,
  ⟨⟨some 20, Op.call { callee := (Callee.builtin Builtin.len), args := #[(Operand.tmp 19)], argTypes := #[38] }, none⟩, []⟩,
  ⟨⟨some 21, Op.binOp BinOp.gtr 3 (Operand.tmp 20) (Operand.const (Value.int IntKind.i64 0)) 3, none⟩, []⟩]) (.cond (Operand.tmp 21) .skip (.exit 0))) (.block 1 (.seq (.reg [⟨⟨some 22, Op.move (Operand.tmp 6), none⟩, []⟩,
  ⟨⟨some 23, Op.indexAddr 38 (Operand.tmp 22) (Operand.const (Value.int IntKind.i64 0)), none⟩, []⟩,
  ⟨⟨some 24, Op.load 3 (Operand.tmp 23), none⟩, []⟩,
  ⟨⟨some 7, Op.assign (Operand.tmp 24), none⟩, []⟩]) (.seq (.reg [⟨⟨some 25, Op.move (Operand.tmp 6), none⟩, []⟩,
  ⟨⟨some 26, Op.slice 38 (Operand.tmp 25) (some (Operand.const (Value.int IntKind.i64 1))) none none, none⟩, []⟩,
  ⟨⟨some 6, Op.assign (Operand.tmp 26), none⟩, []⟩]) (.seq (.reg [⟨⟨some 27, Op.move (Operand.tmp 0), none⟩, []⟩,
  ⟨⟨some 28, Op.move (Operand.tmp 7), none⟩, []⟩,
  ⟨⟨some 29, Op.indexAddr 26 (Operand.tmp 27) (Operand.tmp 28), none⟩, []⟩,
  ⟨⟨some 30, Op.load 38 (Operand.tmp 29), none⟩, []⟩,
  ⟨⟨some 31, Op.call { callee := (Callee.builtin Builtin.len), args := #[(Operand.tmp 30)], argTypes := #[38] }, none⟩, []⟩,
  ⟨⟨some 32, Op.move (Operand.const (Value.int IntKind.i64 0)), none⟩, []⟩]) (.block 2 (.loop (.seq (.reg [⟨⟨some 33, Op.binOp BinOp.lss 3 (Operand.tmp 32) (Operand.tmp 31) 3, none⟩, []⟩]) (.seq (.cond (Operand.tmp 33) .skip (.exit 2)) (.seq (.block 3 (.seq (.reg [⟨⟨some 34, Op.indexAddr 38 (Operand.tmp 30) (Operand.tmp 32), none⟩, []⟩,
  ⟨⟨some 35, Op.load 3 (Operand.tmp 34), none⟩, []⟩,
  ⟨⟨some 9, Op.assign (Operand.tmp 35), none⟩, []⟩]) (.seq (.reg [⟨⟨some 36, Op.move (Operand.tmp 5), none⟩, []⟩,
  ⟨⟨some 37, Op.move (Operand.tmp 9), none⟩, []⟩,
  ⟨⟨some 38, Op.indexAddr 38 (Operand.tmp 36) (Operand.tmp 37), none⟩, []⟩,
  ⟨⟨some 39, Op.load 3 (Operand.tmp 38), none⟩, []⟩,
  ⟨⟨some 40, Op.binOp BinOp.lss 3 (Operand.tmp 39) (Operand.const (Value.int IntKind.i64 0)) 3, none⟩, []⟩]) (.cond (Operand.tmp 40) (.seq (.reg [⟨⟨some 41, Op.move (Operand.tmp 5), none⟩, []⟩,
  ⟨⟨some 42, Op.move (Operand.tmp 9), none⟩, []⟩,
  ⟨⟨some 43, Op.move (Operand.tmp 5), none⟩, []⟩,
  ⟨⟨some 44, Op.move (Operand.tmp 7), none⟩, []⟩,
  ⟨⟨some 45, Op.indexAddr 38 (Operand.tmp 43) (Operand.tmp 44), none⟩, []⟩,
  ⟨⟨some 46, Op.load 3 (Operand.tmp 45), none⟩, []⟩,
  ⟨⟨some 47, Op.binOp BinOp.add 3 (Operand.tmp 46) (Operand.const (Value.int IntKind.i64 1)) 3, none⟩, []⟩,
  ⟨⟨some 48, Op.indexAddr 38 (Operand.tmp 41) (Operand.tmp 42), none⟩, []⟩,
  ⟨⟨none, Op.store 3 (Operand.tmp 48) (Operand.tmp 47), none⟩, []⟩]) (.reg [⟨⟨some 49, Op.move (Operand.tmp 6), none⟩, []⟩,
  ⟨⟨some 50, Op.move (Operand.tmp 9), none⟩, []⟩,
  ⟨⟨some 51, Op.buildSlice 38 1 #[(0, (Operand.tmp 50))], none⟩, []⟩,
  ⟨⟨some 52, Op.call { callee := (Callee.builtin Builtin.append), args := #[(Operand.tmp 49), (Operand.tmp 51)], argTypes := #[38, 38] }, none⟩, []⟩,
  ⟨⟨some 6, Op.assign (Operand.tmp 52), none⟩, []⟩])) .skip)))) (.reg [⟨⟨some 53, Op.binOp BinOp.add 3 (Operand.tmp 32) (Operand.const (Value.int IntKind.i64 1)) 3, none⟩, []⟩,
  ⟨⟨some 32, Op.move (Operand.tmp 53), none⟩, []⟩]))))))))))))) (.seq (.reg [⟨⟨some 54, Op.move (Operand.tmp 5), none⟩, []⟩,
  ⟨⟨some 4, Op.assign (Operand.tmp 54), none⟩, []⟩]) .ret))))))
theorem sl232 : slim Try.f232.ntmps ords232 (Try.f232.body.getD .skip) = some cd232 := by kernel_rfl
theorem in232 {args : List Value} {H : AH} {R : Value → AH → Prop} (hl : args.length = 2) (h : ∀ (Q : Exit → Sl → AH → Prop), (∀ e s H, endA Try.prog [ResultVar.tmp 4] R e s H → Q e s H) → wpC Try.prog cd232 Q (enterA args) H) : ACalls Try.prog 232 args H R :=
  ACalls.intro (by kernel_rfl) Try.func232 rfl (by kernel_rfl) sl232 hl (of_decide_eq_true (by kernel_rfl)) (by kernel_rfl) h
def ords190 : List (Nat × List (Nat × Bool)) := [(16, [(0, false), (1, false), (2, false), (3, false), (4, false), (5, false), (6, false), (7, false), (8, false), (9, false), (10, false), (11, false), (12, false), (13, false), (14, true)])]
def cd190 : Cd := (.seq (.reg [⟨⟨some 4, Op.assign (Operand.const (Value.slice none 0 0)), none⟩, []⟩]) (.seq (.reg [⟨⟨some 11, Op.move (Operand.tmp 0), none⟩, []⟩,
  ⟨⟨some 12, Op.call { callee := (Callee.builtin Builtin.len), args := #[(Operand.tmp 11)], argTypes := #[26] }, none⟩, []⟩,
  ⟨⟨some 13, Op.makeSlice 38 (Operand.tmp 12) (Operand.tmp 12), none⟩, []⟩,
  ⟨⟨some 5, Op.assign (Operand.tmp 13), none⟩, []⟩]) (.seq (.seq (.reg [⟨⟨some 6, Op.assign (Operand.const (Value.int IntKind.i64 0)), none⟩, []⟩]) (.block 0 (.loop (.seq (.seq (.reg [⟨⟨some 14, Op.move (Operand.tmp 6), none⟩, []⟩,
  ⟨⟨some 15, Op.move (Operand.tmp 5), none⟩, []⟩,
  ⟨⟨some 16, Op.call { callee := (Callee.builtin Builtin.len), args := #[(Operand.tmp 15)], argTypes := #[38] }, none⟩, []⟩,
  ⟨⟨some 17, Op.binOp BinOp.lss 3 (Operand.tmp 14) (Operand.tmp 16) 3, none⟩, []⟩]) (.cond (Operand.tmp 17) .skip (.exit 0))) (.seq (.block 1 (.reg [⟨⟨some 20, Op.move (Operand.tmp 5), none⟩, []⟩,
  ⟨⟨some 21, Op.move (Operand.tmp 6), none⟩, []⟩,
  ⟨⟨some 22, Op.indexAddr 38 (Operand.tmp 20) (Operand.tmp 21), none⟩, []⟩,
  ⟨⟨none, Op.store 3 (Operand.tmp 22) (Operand.const (Value.int IntKind.i64 (-1))), none⟩, []⟩])) (.reg [⟨⟨some 18, Op.move (Operand.tmp 6), none⟩, []⟩,
  ⟨⟨some 19, Op.binOp BinOp.add 3 (Operand.tmp 18) (Operand.const (Value.int IntKind.i64 1)) 3, none⟩, []⟩,
  ⟨⟨some 6, Op.assign (Operand.tmp 19), none⟩, []⟩])))))) (.seq (.reg [⟨⟨some 23, Op.move (Operand.tmp 1), none⟩, []⟩,
  ⟨⟨some 24, Op.buildSlice 38 1 #[(0, (Operand.tmp 23))], none⟩, []⟩,
  ⟨⟨some 7, Op.assign (Operand.tmp 24), none⟩, []⟩]) (.seq (.reg [⟨⟨some 25, Op.move (Operand.tmp 5), none⟩, []⟩,
  ⟨⟨some 26, Op.move (Operand.tmp 1), none⟩, []⟩,
  ⟨⟨some 27, Op.indexAddr 38 (Operand.tmp 25) (Operand.tmp 26), none⟩, []⟩,
  ⟨⟨none, Op.store 3 (Operand.tmp 27) (Operand.const (Value.int IntKind.i64 0)), none⟩, []⟩]) (.seq (.seq (.reg [⟨⟨some 8, Op.assign (Operand.const (Value.int IntKind.i64 0)), none⟩, []⟩]) (.block 2 (.loop (.seq (.seq (.reg [⟨⟨some 28, Op.move (Operand.tmp 8), none⟩, []⟩,
  ⟨⟨some 29, Op.move (Operand.tmp 7), none⟩, []⟩,
  ⟨⟨some 30, Op.call { callee := (Callee.builtin Builtin.len), args := #[(Operand.tmp 29)], argTypes := #[38] }, none⟩, []⟩,
  ⟨⟨some 31, Op.binOp BinOp.lss 3 (Operand.tmp 28) (Operand.tmp 30) 3, none⟩, []⟩]) (.cond (Operand.tmp 31) .skip (.exit 2))) (.seq (.block 3 (.seq (.reg [⟨⟨some 34, Op.move (Operand.tmp 0), none⟩, []⟩,
  ⟨⟨some 35, Op.move (Operand.tmp 7), none⟩, []⟩,
  ⟨⟨some 36, Op.move (Operand.tmp 8), none⟩, []⟩,
  ⟨⟨some 37, Op.indexAddr 38 (Operand.tmp 35) (Operand.tmp 36), none⟩, []⟩,
  ⟨⟨some 38, Op.load 3 (Operand.tmp 37), none⟩, []⟩,
  ⟨⟨some 39, Op.indexAddr 26 (Operand.tmp 34) (Operand.tmp 38), none⟩, []⟩,
  ⟨⟨some 40, Op.load 38 (Operand.tmp 39), none⟩, []⟩,
  ⟨⟨some 9, Op.assign (Operand.tmp 40), none⟩, []⟩]) (.seq (.reg [⟨⟨some 10, Op.assign (Operand.const (Value.int IntKind.i64 0)), none⟩, []⟩]) (.block 4 (.loop (.seq (.seq (.reg [⟨⟨some 41, Op.move (Operand.tmp 10), none⟩, []⟩,
  ⟨⟨some 42, Op.move (Operand.tmp 9), none⟩, []⟩,
  ⟨⟨some 43, Op.call { callee := (Callee.builtin Builtin.len), args := #[(Operand.tmp 42)], argTypes := #[38] }, none⟩, []⟩,
  ⟨⟨some 44, Op.binOp BinOp.lss 3 (Operand.tmp 41) (Operand.tmp 43) 3, none⟩, []⟩]) (.cond (Operand.tmp 44) .skip (.exit 4))) (.seq (.block 5 (.seq (.reg [⟨⟨some 47, Op.move (Operand.tmp 5), none⟩, []⟩,
  ⟨⟨some 48, Op.move (Operand.tmp 9), none⟩, []⟩,
  ⟨⟨some 49, Op.move (Operand.tmp 10), none⟩, []⟩,
  ⟨⟨some 50, Op.indexAddr 38 (Operand.tmp 48) (Operand.tmp 49), none⟩, []⟩,
  ⟨⟨some 51, Op.load 3 (Operand.tmp 50), none⟩, []⟩,
  ⟨⟨some 52, Op.indexAddr 38 (Operand.tmp 47) (Operand.tmp 51), none⟩, []⟩,
  ⟨⟨some 53, Op.load 3 (Operand.tmp 52), none⟩, []⟩,
  ⟨⟨some 54, Op.binOp BinOp.lss 3 (Operand.tmp 53) (Operand.const (Value.int IntKind.i64 0)) 3, none⟩, []⟩]) (.cond (Operand.tmp 54) (.seq (.reg [⟨⟨some 55, Op.move (Operand.tmp 5), none⟩, []⟩,
  ⟨⟨some 56, Op.move (Operand.tmp 9), none⟩, []⟩,
  ⟨⟨some 57, Op.move (Operand.tmp 10), none⟩, []⟩,
  ⟨⟨some 58, Op.indexAddr 38 (Operand.tmp 56) (Operand.tmp 57), none⟩, []⟩,
  ⟨⟨some 59, Op.load 3 (Operand.tmp 58), none⟩, []⟩,
  ⟨⟨some 60, Op.move (Operand.tmp 5), none⟩, []⟩,
  ⟨⟨some 61, Op.move (Operand.tmp 7), none⟩, []⟩,
  ⟨⟨some 62, Op.move (Operand.tmp 8), none⟩, []⟩,
  ⟨⟨some 63, Op.indexAddr 38 (Operand.tmp 61) (Operand.tmp 62), none⟩, []⟩,
  ⟨⟨some 64, Op.load 3 (Operand.tmp 63), none⟩, []⟩,
  ⟨⟨some 65, Op.indexAddr 38 (Operand.tmp 60) (Operand.tmp 64), none⟩, []⟩,
  ⟨⟨some 66, Op.load 3 (Operand.tmp 65), none⟩, []⟩,
  ⟨⟨some 67, Op.binOp BinOp.add 3 (Operand.tmp 66) (Operand.const (Value.int IntKind.i64 1)) 3, none⟩, []⟩,
  ⟨⟨some 68, Op.indexAddr 38 (Operand.tmp 55) (Operand.tmp 59), none⟩, []⟩,
  ⟨⟨none, Op.store 3 (Operand.tmp 68) (Operand.tmp 67), none⟩, []⟩]) (.reg [⟨⟨some 69, Op.move (Operand.tmp 7), none⟩, []⟩,
  ⟨⟨some 70, Op.move (Operand.tmp 9), none⟩, []⟩,
  ⟨⟨some 71, Op.move (Operand.tmp 10), none⟩, []⟩,
  ⟨⟨some 72, Op.indexAddr 38 (Operand.tmp 70) (Operand.tmp 71), none⟩, []⟩,
  ⟨⟨some 73, Op.load 3 (Operand.tmp 72), none⟩, []⟩,
  ⟨⟨some 74, Op.buildSlice 38 1 #[(0, (Operand.tmp 73))], none⟩, []⟩,
  ⟨⟨some 75, Op.call { callee := (Callee.builtin Builtin.append), args := #[(Operand.tmp 69), (Operand.tmp 74)], argTypes := #[38, 38] }, none⟩, []⟩,
  ⟨⟨some 7, Op.assign (Operand.tmp 75), none⟩, []⟩])) .skip))) (.reg [⟨⟨some 45, Op.move (Operand.tmp 10), none⟩, []⟩,
  ⟨⟨some 46, Op.binOp BinOp.add 3 (Operand.tmp 45) (Operand.const (Value.int IntKind.i64 1)) 3, none⟩, []⟩,
  ⟨⟨some 10, Op.assign (Operand.tmp 46), none⟩, []⟩])))))))) (.reg [⟨⟨some 32, Op.move (Operand.tmp 8), none⟩, []⟩,
  ⟨⟨some 33, Op.binOp BinOp.add 3 (Operand.tmp 32) (Operand.const (Value.int IntKind.i64 1)) 3, none⟩, []⟩,
  ⟨⟨some 8, Op.assign (Operand.tmp 33), none⟩, []⟩])))))) (.seq (.reg [⟨⟨some 76, Op.move (Operand.tmp 5), none⟩, []⟩,
  ⟨⟨some 4, Op.assign (Operand.tmp 76), none⟩, []⟩]) .ret)))))))
theorem sl190 : slim Try.f190.ntmps ords190 (Try.f190.body.getD .skip) = some cd190 := by kernel_rfl
theorem in190 {args : List Value} {H : AH} {R : Value → AH → Prop} (hl : args.length = 2) (h : ∀ (Q : Exit → Sl → AH → Prop), (∀ e s H, endA Try.prog [ResultVar.tmp 4] R e s H → Q e s H) → wpC Try.prog cd190 Q (enterA args) H) : ACalls Try.prog 190 args H R :=
  ACalls.intro (by kernel_rfl) Try.func190 rfl (by kernel_rfl) sl190 hl (of_decide_eq_true (by kernel_rfl)) (by kernel_rfl) h
end Go.Proofs.Ytlfongfhbkefmaa.Ai
namespace Go.Proofs.Ytlfongfhbkefmaa.Ai
open Go Go.RowKit
set_option linter.unusedVariables false
set_option linter.unusedSimpArgs false
/-- the list of distances and the queue in the heap -/
def QH (H0 H : AH) (oo : Nat) (out : List Int) (oq kq nq : Nat) (q : List Int) : Prop :=
  (∃ zs, H[oq]? = some (.cells (ints zs) 3 false) ∧ (zs.drop kq).take nq = q ∧ kq + nq ≤ zs.length) ∧ H[oo]? = some (.cells (ints out) 3 false) ∧ H0.length ≤ oo ∧ H0.length ≤ oq ∧ oq ≠ oo ∧ H0 <+: H
/-- appending to a part of an object of ints -/
theorem app_q {P : Program} {t e : TypeId} (hu : P.underlying t = some (.slice e)) (hc : P.cellsOf e = 1) (hby : P.bytesOf e ≤ 64) (hz : zeroOk P e = true) {H : AH} {o k n c : Nat} {zs : List Int} {x : Int} (ho : H[o]? = some (.cells (ints zs) e false)) (hn : k + n ≤ zs.length) (hb : n ≤ 1099511627775) :
    appendA P t t (.slice (some ⟨o, k, none⟩) n c) (.slice (some ⟨H.length, 0, none⟩) 1 1) (H ++ [.cells [.int .i64 x] e false]) = some (.slice (some ⟨H.length + 1, 0, none⟩) (n + 1) (n + 1), H.set o .dead ++ [.cells [.int .i64 x] e false, .cells (ints ((zs.drop k).take n ++ [x])) e false]) := by
  have hlt : o < H.length := at_lt ho
  have hb2 : (n + 1) * P.bytesOf e ≤ 140737488355328 := by
    refine Nat.le_trans (Nat.mul_le_mul_left _ hby) ?_
    omega
  have ho2 : (H ++ [AObj.cells [.int .i64 x] e false])[o]? = some (.cells (ints zs) e false) := at_app ho _
  have hsc : sliceCells P e (.slice (some ⟨H.length, 0, none⟩) 1 1) (H ++ [.cells [.int .i64 x] e false]) = some (1, [.int .i64 x]) := by
    simp only [sliceCells, at_new, hc]; simp
  simp only [appendA, hu, hc, hsc, ho2, hz]
  rw [if_pos (by simp), if_neg (by simp), if_pos ⟨trivial, by rw [ints_len]; omega, hb2, by omega, trivial⟩]
  have : List.take (n * 1) (List.drop k (ints zs)) ++ [Value.int .i64 x] = ints ((zs.drop k).take n ++ [x]) := by
    simp [ints, List.map_take, List.map_drop]
  rw [this, List.length_append, List.set_append_left _ _ hlt]
  simp
theorem QH.push {H0 H : AH} {oo : Nat} {out : List Int} {oq kq nq : Nat} {q : List Int} (h : QH H0 H oo out oq kq nq q) (y : Nat) (d x : Int) (hb : nq ≤ 1099511627775) :
    ∃ H2, appendA Try.prog 38 38 (.slice (some ⟨oq, kq, none⟩) nq nq) (.slice (some ⟨(H.set oo (.cells (ints (out.set y d)) 3 false)).length, 0, none⟩) 1 1) (H.set oo (.cells (ints (out.set y d)) 3 false) ++ [.cells [.int .i64 x] 3 false]) = some (.slice (some ⟨(H.set oo (.cells (ints (out.set y d)) 3 false)).length + 1, 0, none⟩) (nq + 1) (nq + 1), H2) ∧
      QH H0 H2 oo (out.set y d) ((H.set oo (.cells (ints (out.set y d)) 3 false)).length + 1) 0 (nq + 1) (q ++ [x]) := by
  obtain ⟨⟨zs, h1, h2, h3⟩, h4, h5, h6, h7, h8⟩ := h
  have hlt := at_lt h4
  generalize hH1 : H.set oo (.cells (ints (out.set y d)) 3 false) = H1
  have l1 : H1.length = H.length := by rw [← hH1]; simp
  have k1 : H1[oq]? = some (.cells (ints zs) 3 false) := by rw [← hH1, List.getElem?_set_ne (fun e => h7 e.symm)]; exact h1
  have k4 : H1[oo]? = some (.cells (ints (out.set y d)) 3 false) := by rw [← hH1]; exact at_set h4
  have hp1 : H0 <+: H1 := by rw [← hH1]; exact pre_set h8 h5 _
  refine ⟨_, app_q Try.underlying38 cs3 (by rw [by3]; decide) zk3 k1 h3 hb, ⟨(zs.drop kq).take nq ++ [x], ?_, ?_, ?_⟩, ?_, h5, ?_, ?_, ?_⟩
  · rw [List.getElem?_append_right (by simp)]
    simp
  · rw [List.drop_zero, h2, List.take_of_length_le]
    rw [← h2]; simp; omega
  · simp; omega
  · rw [List.getElem?_append_left (by simp; omega), List.getElem?_set_ne h7]
    exact k4
  · have := h8.length_le; omega
  · omega
  · exact pre_app (pre_set hp1 h6 _) _
theorem QH.tail {H0 H : AH} {oo : Nat} {out : List Int} {oq kq nq : Nat} {x : Int} {q : List Int} (h : QH H0 H oo out oq kq nq (x :: q)) : QH H0 H oo out oq (kq + 1) (nq - 1) q ∧ cellA H oq kq = some (.int .i64 x) ∧ 0 < nq := by
  obtain ⟨⟨zs, h1, h2, h3⟩, h4⟩ := h
  have hl := congrArg List.length h2
  simp only [List.length_take, List.length_drop, List.length_cons] at hl
  have hk : kq < zs.length := by omega
  obtain ⟨n, rfl⟩ : ∃ n, nq = n + 1 := ⟨nq - 1, by omega⟩
  rw [List.drop_eq_getElem_cons hk, List.take_succ_cons] at h2
  injection h2 with e1 e2
  refine ⟨⟨⟨zs, h1, by simpa using e2, by omega⟩, h4⟩, ?_, by omega⟩
  rw [cell_of h1, ints_at zs hk]
  congr 2
  simp [hk, e1]
theorem bfsIn_drop (d : Int) (l : List Int) (j : Nat) (hj : j < l.length) (st : List Int × List Int) : bfsIn d (l.drop j) st = if st.1.getD (l.getD j 0).toNat 0 < 0 then bfsIn d (l.drop (j + 1)) (st.1.set (l.getD j 0).toNat d, st.2 ++ [l.getD j 0]) else bfsIn d (l.drop (j + 1)) st := by
  have e : l.getD j 0 = l[j] := by simp [hj]
  rw [List.drop_eq_getElem_cons hj, e]
  rfl
set_option maxRecDepth 20000 in
set_option maxHeartbeats 4000000 in
theorem spread_c (v : Value) (L : List (List Int)) (i : Nat) (H : AH) {b : Nat} (hr : RowLB b 38 3 H v L) (hL : LOk L.length L) (hN : L.length ≤ 1000000) (hi : i < L.length) (hls : ∀ x, (L.getD x []).length ≤ 1000000000) :
    ACalls Try.prog 232 [v, .int .i64 (i : Int)] H fun r H' => Own 3 H H' r (bfs L i) ∧ H <+: H' := by
  refine in232 rfl ?_
  intro Q hQ
  obtain ⟨us, hus, hvb, hul, hin⟩ := hr
  simp (maxSteps := 1000000) (disch := omega) only [cd232, hus.len Try.underlying26, S, S1, S2, S3, S4, S5, ST, eq_self, reduceIte, reduceCtorEq, Nat.reduceEqDiff, Nat.reduceAdd]
  generalize hA : H ++ [AObj.cells [.int .i64 (-1)] 3 false] = A
  have pA : H <+: A := by rw [← hA]; exact List.prefix_append _ _
  have rA : Row 3 A (.slice (some ⟨H.length, 0, none⟩) 1 1) [-1] := .inr ⟨H.length, 0, ints [-1], false, rfl, by rw [← hA]; exact at_new .., by decide, rfl⟩
  rw [hul]
  refine CallH.by (Repeat_c _ L.length A rA (by omega)) ?_
  rintro u B ⟨hu, pB⟩
  rcases hu with ⟨_, h0⟩ | ⟨oo, hu, hol, hoc⟩
  · have : L.length = 0 := by simpa using congrArg List.length h0
    omega
  rw [List.length_replicate] at hu
  subst hu
  have hlr : i < (List.replicate L.length (-1 : Int)).length := by simpa using hi
  simp (maxSteps := 1000000) (disch := omega) only [Int.toNat_natCast, Nat.zero_add, st_ints cs3 hoc hlr, S, S1, S2, S3, S4, S5, ST, eq_self, reduceIte, reduceCtorEq, Nat.reduceEqDiff, Nat.reduceAdd]
  have hb0 : (List.replicate L.length (-1 : Int)).set i 0 = bfs0 L.length i := rfl
  rw [hb0]
  generalize hC : B.set oo (.cells (ints (bfs0 L.length i)) 3 false) = C
  have c0 : C[oo]? = some (.cells (ints (bfs0 L.length i)) 3 false) := by rw [← hC]; exact at_set hoc
  have lAH := pA.length_le
  have pC : H <+: C := by rw [← hC]; exact pre_set (pA.trans pB) (by omega) _
  have hlt := at_lt c0
  have q0 : QH H (C ++ [AObj.cells [.int .i64 (i : Int)] 3 false]) oo (bfs0 L.length i) C.length 0 1 [(i : Int)] :=
    ⟨⟨[(i : Int)], at_new .., rfl, by simp⟩, at_app c0 _, by omega, pC.length_le, by omega, pre_app pC _⟩
  refine LoopH.by (fun m s H' => ∃ st k oq kq nq, m + k = L.length ∧ s 0 = v ∧ s 5 = .slice (some ⟨oo, 0, none⟩) L.length L.length ∧ s 6 = .slice (some ⟨oq, kq, none⟩) nq nq ∧ nq + k = st.2.length ∧ QH H H' oo st.1 oq kq nq (st.2.drop k) ∧ BI L.length st ∧ bfsF L (m + 1) st k = bfs L i) L.length ?_ ?_
  · exact ⟨(bfs0 L.length i, [(i : Int)]), 0, C.length, 0, 1, by omega, rfl, rfl, rfl, rfl, q0, bfs0_BI _ i hi, rfl⟩
  · rintro m s H' ⟨st, k, oq, kq, nq, hm, h0, h5, h6, hnq, hq, hb, hF⟩
    have hle := hb.len_le
    simp (maxSteps := 1000000) (disch := omega) only [h0, h5, h6, S, S1, S2, S3, S4, S5, ST, eq_self, reduceIte, reduceCtorEq, Nat.reduceEqDiff, Nat.reduceAdd]
    refine brD.intro (fun g => ?_) (fun g => ?_)
    · have hk : k < st.2.length := by omega
      rw [bfsF_step L m st k hk] at hF
      have hqm : st.2.getD k 0 ∈ st.2 := by simp [hk]
      obtain ⟨hxr, hx0⟩ := hb.q _ hqm
      have hxl := hb.lo (st.2.getD k 0).toNat (by omega)
      rw [List.drop_eq_getElem_cons hk] at hq
      have hge : st.2[k] = st.2.getD k 0 := by simp [hk]
      rw [hge] at hq
      obtain ⟨x, hx⟩ : ∃ x : Nat, st.2.getD k 0 = x := ⟨(st.2.getD k 0).toNat, by omega⟩
      rw [hx] at hq hF hxr hx0 hxl
      rw [Int.toNat_natCast] at hF hx0 hxl
      obtain ⟨hq2, hcell, hnq0⟩ := hq.tail
      have hqo : ∃ zs ro, H'[oq]? = some (.cells (ints zs) 3 ro) := by obtain ⟨⟨zs, g1, _⟩, _⟩ := hq; exact ⟨zs, false, g1⟩
      obtain ⟨zs, ro, hqo⟩ := hqo
      have hsl := sl_own (P := Try.prog) (t := 38) (k := kq) (n := nq) (c := nq) Try.underlying38 cs3 hqo (bound_some (k := .i64) (i := 1) (by decide) 0) (hi_none nq) (show (1 : Int).toNat ≤ nq from hnq0) (Nat.le_refl _)
      have hpp : H <+: H' := hq.2.2.2.2.2
      have hus' := hus.pre hpp
      have hxu : x < us.length := by omega
      have hinH := (hin x (by omega)).1
      have hin' := hinH.pre hpp
      have hlb := hls x
      have hLx := hL x
      have hz0 : (0 : Int).toNat = 0 := rfl
      simp (maxSteps := 1000000) (disch := omega) only [h0, h5, h6, hz0, hcell, hsl, hus'.ix Try.underlying26 cs38, hus'.cell, Int.toNat_natCast, S, S1, S2, S3, S4, S5, ST, eq_self, reduceIte, reduceCtorEq, Nat.reduceEqDiff, Nat.reduceAdd]
      generalize hw : us.getD x undef = w at *
      generalize hl : L.getD x [] = l at *
      simp (maxSteps := 1000000) (disch := omega) only [hin'.len Try.underlying38, S, S1, S2, S3, S4, S5, ST, eq_self, reduceIte, reduceCtorEq, Nat.reduceEqDiff, Nat.reduceAdd]
      generalize hd : st.1.getD x 0 + 1 = d at *
      have hone : (1 : Int).toNat = 1 := rfl
      simp only [hone]
      refine LoopH.by (fun m' s' H'' => ∃ j st' oq' kq' nq', m' + j = l.length ∧ s' 0 = v ∧ s' 5 = .slice (some ⟨oo, 0, none⟩) L.length L.length ∧ s' 6 = .slice (some ⟨oq', kq', none⟩) nq' nq' ∧ s' 7 = .int .i64 (x : Int) ∧ s' 30 = w ∧ s' 31 = .int .i64 (l.length : Int) ∧ s' 32 = .int .i64 ((j : Nat) : Int) ∧ nq' + (k + 1) = st'.2.length ∧ QH H H'' oo st'.1 oq' kq' nq' (st'.2.drop (k + 1)) ∧ BI L.length st' ∧ st.2 <+: st'.2 ∧ st'.1.getD x 0 + 1 = d ∧ bfsIn d (l.drop j) st' = bfsIn d l st) l.length ?_ ?_
      · have hd1 : st.2.drop (k + 1) = st.2.drop (k + 1) := rfl
        refine ⟨0, st, oq, kq + 1, nq - 1, by simp, ?_⟩
        simp only [S, S1, S2, S3, S4, S5, ST, eq_self, reduceIte, reduceCtorEq, Nat.reduceEqDiff, Nat.reduceAdd, h0, h5, h6]
        have hd2 : bfsIn d (l.drop 0) st = bfsIn d l st := by rw [List.drop_zero]
        have hpr := List.prefix_refl st.2
        (repeat' first | exact hq2 | exact hb | exact hd | exact hd2 | exact hpr | apply And.intro) <;> first | (simp only [Value.int.injEq, true_and]; omega) | omega | rfl | assumption | (simp; done) | (simp; omega)
      · rintro m' s' H'' ⟨j, st', oq', kq', nq', hm', g0, g5, g6, g7, g30, g31, g32, hnq', hq', hb', hpre, hd', hB⟩
        have hpp' : H <+: H'' := hq'.2.2.2.2.2
        have hw' := hinH.pre hpp'
        have hle' := hb'.len_le
        simp (maxSteps := 1000000) (disch := omega) only [g0, g5, g6, g7, g30, g31, g32, S, S1, S2, S3, S4, S5, ST, eq_self, reduceIte, reduceCtorEq, Nat.reduceEqDiff, Nat.reduceAdd]
        refine brD.intro (fun q => ?_) (fun q => ?_)
        · have hj : j < l.length := by omega
          rw [bfsIn_drop d l j hj] at hB
          have hym : l.getD j 0 ∈ l := by simp [hj]
          obtain ⟨y, hy⟩ : ∃ y : Nat, l.getD j 0 = y := ⟨(l.getD j 0).toNat, by have := hLx _ hym; omega⟩
          have hyr := hLx _ hym
          rw [hy] at hB hyr
          rw [Int.toNat_natCast] at hB
          have hoc' := hq'.2.1
          have hlen' := hb'.len
          have hyl : y < st'.1.length := by omega
          have hxl' : x < st'.1.length := by omega
          have hcw := hw'.cell hj
          rw [hy] at hcw
          simp (maxSteps := 1000000) (disch := omega) only [g0, g5, g6, g7, g30, g31, g32, hw'.ix Try.underlying38 cs3, hcw, Int.toNat_natCast, Nat.zero_add, cell_ints hoc' hyl, S, S1, S2, S3, S4, S5, ST, eq_self, reduceIte, reduceCtorEq, Nat.reduceEqDiff, Nat.reduceAdd]
          refine brD.intro (fun e => ?_) (fun e => ?_)
          · rw [if_pos e] at hB
            have hd0 : 0 ≤ d := by omega
            have hdl : d ≤ st'.2.length := by
              have := hb'.lo x (by omega)
              omega
            have hb2 := hb'.put (j := (y : Int)) (d := d) hyr (by rw [Int.toNat_natCast]; exact e) ⟨hd0, hdl⟩
            rw [Int.toNat_natCast] at hb2
            obtain ⟨H2, k1, k2⟩ := hq'.push y d (y : Int) (by omega)
            have hk1 : k + 1 ≤ st'.2.length := by have := hpre.length_le; omega
            rw [← List.drop_append_of_le_length hk1] at k2
            simp (maxSteps := 1000000) (disch := omega) only [g0, g5, g6, g7, g30, g31, g32, hw'.ix Try.underlying38 cs3, hcw, Int.toNat_natCast, Nat.zero_add, cell_ints hoc' hxl', hd', st_ints cs3 hoc' hyl, k1, wrap64, S, S1, S2, S3, S4, S5, ST, eq_self, reduceIte, reduceCtorEq, Nat.reduceEqDiff, Nat.reduceAdd]
            have f1 : st.2 <+: st'.2 ++ [(y : Int)] := hpre.trans (List.prefix_append _ _)
            have f2 : (st'.1.set y d).getD x 0 + 1 = d := by
              rw [getD_setB _ _ _ _ hxl']
              split
              · rename_i e2
                subst e2
                have := hb'.lo y (by omega)
                omega
              · exact hd'
            refine ⟨m' - 1, by omega, j + 1, (st'.1.set y d, st'.2 ++ [(y : Int)]), (H''.set oo (AObj.cells (ints (st'.1.set y d)) 3 false)).length + 1, 0, nq' + 1, ?_⟩
            have f3 : (st'.2 ++ [(y : Int)]).length = st'.2.length + 1 := by simp
            (repeat' first | exact k2 | exact hb2 | exact f1 | exact f2 | exact hB | apply And.intro) <;> first | (simp only [Value.int.injEq, true_and]; omega) | omega | rfl | assumption | (simp; done) | (simp; omega)
          · rw [if_neg e] at hB
            simp (maxSteps := 1000000) (disch := omega) only [g0, g5, g6, g7, g30, g31, g32, wrap64, S, S1, S2, S3, S4, S5, ST, eq_self, reduceIte, reduceCtorEq, Nat.reduceEqDiff, Nat.reduceAdd]
            refine ⟨m' - 1, by omega, j + 1, st', oq', kq', nq', ?_⟩
            (repeat' first | exact hq' | exact hb' | exact hpre | exact hd' | exact hB | apply And.intro) <;> first | (simp only [Value.int.injEq, true_and]; omega) | omega | rfl | assumption | (simp; done) | (simp; omega)
        · simp (maxSteps := 1000000) (disch := omega) only [g0, g5, g6, g7, g30, g31, g32, S, S1, S2, S3, S4, S5, ST, eq_self, reduceIte, reduceCtorEq, Nat.reduceEqDiff, Nat.reduceAdd]
          rw [List.drop_of_length_le (by omega)] at hB
          have hB' : st' = bfsIn d l st := hB
          rw [← hB'] at hF
          have hm1 : m - 1 + 1 = m := by omega
          rw [← hm1] at hF
          refine ⟨m - 1, by omega, st', k + 1, oq', kq', nq', ?_⟩
          (repeat' first | exact hq' | exact hb' | exact hF | apply And.intro) <;> first | (simp only [Value.int.injEq, true_and]; omega) | omega | rfl | assumption | (simp; done) | (simp; omega)
    · simp (maxSteps := 1000000) (disch := omega) only [h5, S, S1, S2, S3, S4, S5, ST, eq_self, reduceIte, reduceCtorEq, Nat.reduceEqDiff, Nat.reduceAdd]
      refine hQ _ _ _ ?_
      simp (maxSteps := 1000000) (disch := omega) only [h5, S, S1, S2, S3, S4, S5, ST, eq_self, reduceIte, reduceCtorEq, Nat.reduceEqDiff, Nat.reduceAdd]
      rw [bfsF_done L _ st k (by omega)] at hF
      rw [hF] at hq
      have hbl : (bfs L i).length = L.length := by rw [← hF]; exact hb.len
      exact ⟨.inr ⟨oo, by rw [hbl], hq.2.2.1, hq.2.1⟩, hq.2.2.2.2.2⟩
theorem QH.at {H0 H : AH} {oo : Nat} {out : List Int} {oq kq nq : Nat} {q : List Int} (h : QH H0 H oo out oq kq nq q) {j : Nat} (hj : j < q.length) : cellA H oq (kq + j) = some (.int .i64 (q.getD j 0)) := by
  obtain ⟨⟨zs, h1, h2, h3⟩, _⟩ := h
  have hl := congrArg List.length h2
  simp only [List.length_take, List.length_drop] at hl
  have hk : kq + j < zs.length := by omega
  rw [cell_of h1, ints_at zs hk]
  congr 2
  rw [← h2, List.getD_eq_getElem?_getD, List.getD_eq_getElem?_getD, List.getElem?_take, if_pos (by omega), List.getElem?_drop]
set_option maxRecDepth 20000 in
set_option maxHeartbeats 4000000 in
theorem l2Spread_c (v : Value) (L : List (List Int)) (i : Nat) (H : AH) {b : Nat} (hr : RowLB b 38 3 H v L) (hL : LOk L.length L) (hN : L.length ≤ 1000000) (hi : i < L.length) (hls : ∀ x, (L.getD x []).length ≤ 1000000000) :
    ACalls Try.prog 190 [v, .int .i64 (i : Int)] H fun r H' => Own 3 H H' r (bfs L i) ∧ H <+: H' := by
  refine in190 rfl ?_
  intro Q hQ
  obtain ⟨us, hus, hvb, hul, hin⟩ := hr
  simp (maxSteps := 1000000) (disch := omega) only [cd190, hus.len Try.underlying26, hul, mks38, Int.toNat_natCast, S, S1, S2, S3, S4, S5, ST, eq_self, reduceIte, reduceCtorEq, Nat.reduceEqDiff, Nat.reduceAdd]
  generalize hZ : H ++ [AObj.cells (ints (List.replicate L.length 0)) 3 false] = Z
  have pZ : H <+: Z := by rw [← hZ]; exact List.prefix_append _ _
  have cZ : Z[H.length]? = some (.cells (ints (List.replicate L.length 0)) 3 false) := by rw [← hZ]; exact at_new ..
  refine LoopH.by (fun m s H' => ∃ j, m + j = L.length ∧ s 0 = v ∧ s 1 = .int .i64 (i : Int) ∧ s 5 = .slice (some ⟨H.length, 0, none⟩) L.length L.length ∧ s 6 = .int .i64 ((j : Nat) : Int) ∧ H' = Z.set H.length (.cells (ints (rpN L.length j)) 3 false)) L.length ?_ ?_
  · refine ⟨0, by omega, rfl, rfl, rfl, rfl, ?_⟩
    have : rpN L.length 0 = List.replicate L.length 0 := by simp [rpN]
    rw [this]
    apply List.ext_getElem?
    intro j
    rw [List.getElem?_set]
    by_cases hj : H.length = j
    · subst hj; rw [if_pos rfl, if_pos (at_lt cZ), cZ]
    · rw [if_neg hj]
  rintro m s H' ⟨j, hm, h0, h1, h5, h6, rfl⟩
  have cJ : (Z.set H.length (.cells (ints (rpN L.length j)) 3 false))[H.length]? = some (.cells (ints (rpN L.length j)) 3 false) := at_set cZ
  simp (maxSteps := 1000000) (disch := omega) only [h0, h1, h5, h6, S, S1, S2, S3, S4, S5, ST, eq_self, reduceIte, reduceCtorEq, Nat.reduceEqDiff, Nat.reduceAdd]
  refine brD.intro (fun g => ?_) (fun g => ?_)
  · have hj : j < (rpN L.length j).length := by rw [rpN_len _ _ (by omega)]; omega
    simp (maxSteps := 1000000) (disch := omega) only [h0, h1, h5, h6, Int.toNat_natCast, Nat.zero_add, st_ints cs3 cJ hj, wrap64, S, S1, S2, S3, S4, S5, ST, eq_self, reduceIte, reduceCtorEq, Nat.reduceEqDiff, Nat.reduceAdd]
    rw [List.set_set, rpN_set _ _ (by omega)]
    refine ⟨m - 1, by omega, j + 1, ?_⟩
    (repeat' apply And.intro) <;> first | (simp only [Value.int.injEq, true_and]; omega) | omega | rfl | assumption | (simp; done) | (simp; omega)
  have hjN : j = L.length := by omega
  subst hjN
  have e3 : rpN L.length L.length = List.replicate L.length (-1) := by simp [rpN]
  rw [e3] at cJ
  rw [e3]
  have pA : H <+: Z.set H.length (.cells (ints (List.replicate L.length (-1))) 3 false) := pre_set pZ (Nat.le_refl _) _
  simp (maxSteps := 1000000) (disch := omega) only [h0, h1, h5, h6, S, S1, S2, S3, S4, S5, ST, eq_self, reduceIte, reduceCtorEq, Nat.reduceEqDiff, Nat.reduceAdd]
  have hlr : i < (List.replicate L.length (-1 : Int)).length := by simpa using hi
  generalize hoo : H.length = oo at *
  generalize hA : Z.set oo (.cells (ints (List.replicate L.length (-1))) 3 false) = A at *
  have cA := at_app cJ [AObj.cells [.int .i64 (i : Int)] 3 false]
  simp (maxSteps := 1000000) (disch := omega) only [h0, h1, h5, h6, Int.toNat_natCast, Nat.zero_add, st_ints cs3 cA hlr, S, S1, S2, S3, S4, S5, ST, eq_self, reduceIte, reduceCtorEq, Nat.reduceEqDiff, Nat.reduceAdd]
  have hb0 : (List.replicate L.length (-1 : Int)).set i 0 = bfs0 L.length i := rfl
  rw [hb0]
  have hltA := at_lt cJ
  have q0 : QH H ((A ++ [AObj.cells [.int .i64 (i : Int)] 3 false]).set oo (.cells (ints (bfs0 L.length i)) 3 false)) oo (bfs0 L.length i) A.length 0 1 [(i : Int)] := by
    refine ⟨⟨[(i : Int)], ?_, rfl, by simp⟩, at_set cA, by omega, pA.length_le, by omega, pre_set (pre_app pA _) (by omega) _⟩
    rw [List.getElem?_set_ne (by omega)]
    exact at_new ..
  refine LoopH.by (fun m s H' => ∃ st k oq, m + k = L.length ∧ s 0 = v ∧ s 5 = .slice (some ⟨oo, 0, none⟩) L.length L.length ∧ s 7 = .slice (some ⟨oq, 0, none⟩) st.2.length st.2.length ∧ s 8 = .int .i64 ((k : Nat) : Int) ∧ k ≤ st.2.length ∧ QH H H' oo st.1 oq 0 st.2.length st.2 ∧ BI L.length st ∧ bfsF L (m + 1) st k = bfs L i) L.length ?_ ?_
  · refine ⟨(bfs0 L.length i, [(i : Int)]), 0, A.length, by omega, ?_⟩
    simp only [S, S1, S2, S3, S4, S5, ST, eq_self, reduceIte, reduceCtorEq, Nat.reduceEqDiff, Nat.reduceAdd, h0, h5]
    have hb0 := bfs0_BI _ i hi
    have hF0 : bfsF L (L.length + 1) (bfs0 L.length i, [(i : Int)]) 0 = bfs L i := rfl
    (repeat' first | exact q0 | exact hb0 | exact hF0 | apply And.intro) <;> first | (simp only [Value.int.injEq, true_and]; omega) | omega | rfl | assumption | (simp; done) | (simp; omega)
  · rintro m s H' ⟨st, k, oq, hm, h0, h5, h7, h8, hkl, hq, hb, hF⟩
    have hle := hb.len_le
    simp (maxSteps := 1000000) (disch := omega) only [h0, h5, h7, h8, S, S1, S2, S3, S4, S5, ST, eq_self, reduceIte, reduceCtorEq, Nat.reduceEqDiff, Nat.reduceAdd]
    refine brD.intro (fun g => ?_) (fun g => ?_)
    · have hk : k < st.2.length := by omega
      rw [bfsF_step L m st k hk] at hF
      have hqm : st.2.getD k 0 ∈ st.2 := by simp [hk]
      obtain ⟨hxr, hx0⟩ := hb.q _ hqm
      have hxl := hb.lo (st.2.getD k 0).toNat (by omega)
      have hcell := hq.at hk
      obtain ⟨x, hx⟩ : ∃ x : Nat, st.2.getD k 0 = x := ⟨(st.2.getD k 0).toNat, by omega⟩
      rw [hx] at hF hxr hx0 hxl hcell
      rw [Int.toNat_natCast] at hF hx0 hxl
      rw [Nat.zero_add] at hcell
      have hpp : H <+: H' := hq.2.2.2.2.2
      have hus' := hus.pre hpp
      have hxu : x < us.length := by omega
      have hinH := (hin x (by omega)).1
      have hlb := hls x
      have hLx := hL x
      simp (maxSteps := 1000000) (disch := omega) only [h0, h5, h7, h8, hcell, hus'.ix Try.underlying26 cs38, hus'.cell, Int.toNat_natCast, Nat.zero_add, S, S1, S2, S3, S4, S5, ST, eq_self, reduceIte, reduceCtorEq, Nat.reduceEqDiff, Nat.reduceAdd]
      generalize hw : us.getD x undef = w at *
      generalize hl : L.getD x [] = l at *
      generalize hd : st.1.getD x 0 + 1 = d at *
      refine LoopH.by (fun m' s' H'' => ∃ j st' oq', m' + j = l.length ∧ s' 0 = v ∧ s' 5 = .slice (some ⟨oo, 0, none⟩) L.length L.length ∧ s' 7 = .slice (some ⟨oq', 0, none⟩) st'.2.length st'.2.length ∧ s' 8 = .int .i64 ((k : Nat) : Int) ∧ s' 9 = w ∧ s' 10 = .int .i64 ((j : Nat) : Int) ∧ QH H H'' oo st'.1 oq' 0 st'.2.length st'.2 ∧ BI L.length st' ∧ st.2 <+: st'.2 ∧ st'.1.getD x 0 + 1 = d ∧ bfsIn d (l.drop j) st' = bfsIn d l st) l.length ?_ ?_
      · refine ⟨0, st, oq, by simp, ?_⟩
        simp only [S, S1, S2, S3, S4, S5, ST, eq_self, reduceIte, reduceCtorEq, Nat.reduceEqDiff, Nat.reduceAdd, h0, h5, h7, h8]
        have hd2 : bfsIn d (l.drop 0) st = bfsIn d l st := by rw [List.drop_zero]
        have hpr := List.prefix_refl st.2
        (repeat' first | exact hq | exact hb | exact hd | exact hd2 | exact hpr | apply And.intro) <;> first | (simp only [Value.int.injEq, true_and]; omega) | omega | rfl | assumption | (simp; done) | (simp; omega)
      · rintro m' s' H'' ⟨j, st', oq', hm', g0, g5, g7, g8, g9, g10, hq', hb', hpre, hd', hB⟩
        have hpp' : H <+: H'' := hq'.2.2.2.2.2
        have hw' := hinH.pre hpp'
        have hle' := hb'.len_le
        simp (maxSteps := 1000000) (disch := omega) only [g0, g5, g7, g8, g9, g10, hw'.len Try.underlying38, S, S1, S2, S3, S4, S5, ST, eq_self, reduceIte, reduceCtorEq, Nat.reduceEqDiff, Nat.reduceAdd]
        refine brD.intro (fun q => ?_) (fun q => ?_)
        · have hj : j < l.length := by omega
          rw [bfsIn_drop d l j hj] at hB
          have hym : l.getD j 0 ∈ l := by simp [hj]
          obtain ⟨y, hy⟩ : ∃ y : Nat, l.getD j 0 = y := ⟨(l.getD j 0).toNat, by have := hLx _ hym; omega⟩
          have hyr := hLx _ hym
          rw [hy] at hB hyr
          rw [Int.toNat_natCast] at hB
          have hoc' := hq'.2.1
          have hlen' := hb'.len
          have hyl : y < st'.1.length := by omega
          have hxl' : x < st'.1.length := by omega
          have hcw := hw'.cell hj
          rw [hy] at hcw
          have hkl' : k < st'.2.length := by have := hpre.length_le; omega
          have hck := hq'.at hkl'
          have hqk : st'.2.getD k 0 = (x : Int) := by
            obtain ⟨t, ht⟩ := hpre
            rw [← ht, List.getD_eq_getElem?_getD, List.getElem?_append_left hk, ← List.getD_eq_getElem?_getD]; exact hx
          rw [hqk, Nat.zero_add] at hck
          simp (maxSteps := 1000000) (disch := omega) only [g0, g5, g7, g8, g9, g10, hw'.ix Try.underlying38 cs3, hcw, Int.toNat_natCast, Nat.zero_add, cell_ints hoc' hyl, S, S1, S2, S3, S4, S5, ST, eq_self, reduceIte, reduceCtorEq, Nat.reduceEqDiff, Nat.reduceAdd]
          refine brD.intro (fun e => ?_) (fun e => ?_)
          · rw [if_pos e] at hB
            have hd0 : 0 ≤ d := by omega
            have hdl : d ≤ st'.2.length := by
              have := hb'.lo x (by omega)
              omega
            have hb2 := hb'.put (j := (y : Int)) (d := d) hyr (by rw [Int.toNat_natCast]; exact e) ⟨hd0, hdl⟩
            rw [Int.toNat_natCast] at hb2
            obtain ⟨H2, k1, k2⟩ := hq'.push y d (y : Int) (by omega)
            have hp2 : H <+: H''.set oo (AObj.cells (ints (st'.1.set y d)) 3 false) := pre_set hpp' (by omega) _
            have hw2 := hinH.pre hp2
            have hcw2 := hw2.cell hj
            rw [hy] at hcw2
            simp (maxSteps := 1000000) (disch := omega) only [g0, g5, g7, g8, g9, g10, hw'.ix Try.underlying38 cs3, hw2.ix Try.underlying38 cs3, hcw, hcw2, hck, Int.toNat_natCast, Nat.zero_add, cell_ints hoc' hxl', hd', st_ints cs3 hoc' hyl, k1, wrap64, S, S1, S2, S3, S4, S5, ST, eq_self, reduceIte, reduceCtorEq, Nat.reduceEqDiff, Nat.reduceAdd]
            have f1 : st.2 <+: st'.2 ++ [(y : Int)] := hpre.trans (List.prefix_append _ _)
            have f2 : (st'.1.set y d).getD x 0 + 1 = d := by
              rw [getD_setB _ _ _ _ hxl']
              split
              · rename_i e2
                subst e2
                have := hb'.lo y (by omega)
                omega
              · exact hd'
            have f3 : (st'.2 ++ [(y : Int)]).length = st'.2.length + 1 := by simp
            rw [← f3] at k2
            refine ⟨m' - 1, by omega, j + 1, (st'.1.set y d, st'.2 ++ [(y : Int)]), (H''.set oo (AObj.cells (ints (st'.1.set y d)) 3 false)).length + 1, ?_⟩
            simp only [f3]
            rw [f3] at k2
            (repeat' first | exact k2 | exact hb2 | exact f1 | exact f2 | exact hB | apply And.intro) <;> first | (simp only [Value.int.injEq, true_and]; omega) | omega | rfl | assumption | (simp; done) | (simp; omega)
          · rw [if_neg e] at hB
            simp (maxSteps := 1000000) (disch := omega) only [g0, g5, g7, g8, g9, g10, wrap64, S, S1, S2, S3, S4, S5, ST, eq_self, reduceIte, reduceCtorEq, Nat.reduceEqDiff, Nat.reduceAdd]
            refine ⟨m' - 1, by omega, j + 1, st', oq', ?_⟩
            (repeat' first | exact hq' | exact hb' | exact hpre | exact hd' | exact hB | apply And.intro) <;> first | (simp only [Value.int.injEq, true_and]; omega) | omega | rfl | assumption | (simp; done) | (simp; omega)
        · simp (maxSteps := 1000000) (disch := omega) only [g0, g5, g7, g8, g9, g10, wrap64, S, S1, S2, S3, S4, S5, ST, eq_self, reduceIte, reduceCtorEq, Nat.reduceEqDiff, Nat.reduceAdd]
          rw [List.drop_of_length_le (by omega)] at hB
          have hB' : st' = bfsIn d l st := hB
          rw [← hB'] at hF
          have hm1 : m - 1 + 1 = m := by omega
          rw [← hm1] at hF
          have hkl' : k + 1 ≤ st'.2.length := by have := hpre.length_le; omega
          refine ⟨m - 1, by omega, st', k + 1, oq', ?_⟩
          (repeat' first | exact hq' | exact hb' | exact hF | exact hkl' | apply And.intro) <;> first | (simp only [Value.int.injEq, true_and]; omega) | omega | rfl | assumption | (simp; done) | (simp; omega)
    · simp (maxSteps := 1000000) (disch := omega) only [h5, S, S1, S2, S3, S4, S5, ST, eq_self, reduceIte, reduceCtorEq, Nat.reduceEqDiff, Nat.reduceAdd]
      refine hQ _ _ _ ?_
      simp (maxSteps := 1000000) (disch := omega) only [h5, S, S1, S2, S3, S4, S5, ST, eq_self, reduceIte, reduceCtorEq, Nat.reduceEqDiff, Nat.reduceAdd]
      rw [bfsF_done L _ st k (by omega)] at hF
      rw [hF] at hq
      have hbl : (bfs L i).length = L.length := by rw [← hF]; exact hb.len
      exact ⟨.inr ⟨oo, by rw [hbl], hq.2.2.1, hq.2.1⟩, hq.2.2.2.2.2⟩
end Go.Proofs.Ytlfongfhbkefmaa.Ai
namespace Go.Proofs.Ytlfongfhbkefmaa.Ai
open Go
def ords210 : List (Nat × List (Nat × Bool)) := [(5, [(0, false), (1, false), (2, false), (3, false), (4, false), (5, false), (6, false), (7, false), (8, false), (9, false), (10, false), (11, false), (12, false), (13, false), (14, false), (15, false)])]
def cd210 : Cd := (.seq (.reg [⟨⟨some 8, Op.assign (Operand.const (Value.bool false)), none⟩, []⟩]) (.seq (.seq (.reg [⟨⟨some 10, Op.load 69 (Operand.tmp 2), none⟩, []⟩,
  ⟨⟨some 11, Op.load 38 (Operand.tmp 3), none⟩, []⟩,
  ⟨⟨some 12, Op.call { callee := (Callee.value (Operand.tmp 10)), args := #[(Operand.tmp 11)], argTypes := #[38] }, none⟩, []⟩,
  ⟨⟨some 13, Op.unOp UnOp.not 4 (Operand.tmp 12), none⟩, []⟩]) (.cond (Operand.tmp 13) (.seq (.reg [⟨⟨some 8, Op.assign (Operand.const (Value.bool false)), none⟩, []⟩]) .ret) .skip)) (.seq (.block 0 (.loop (.seq (.seq (.reg [⟨⟨some 14, Op.move (Operand.tmp 0), none⟩, []⟩,
  ⟨⟨some 15, Op.fieldAddr 31 (Operand.tmp 4) 1, none⟩, []⟩,
  ⟨⟨some 16, Op.load 22 (Operand.tmp 15), none⟩, []⟩,
  ⟨⟨some 17, Op.call { callee := (Callee.builtin Builtin.len), args := #[(Operand.tmp 16)], argTypes := #[22] }, none⟩, []⟩,
  ⟨⟨some 18, Op.binOp BinOp.lss 3 (Operand.tmp 14) (Operand.tmp 17) 3, none⟩, []⟩]) (.cond (Operand.tmp 18) .skip (.exit 0))) (.seq (.block 1 (.seq (.reg [⟨⟨some 21, Op.fieldAddr 31 (Operand.tmp 4) 1, none⟩, []⟩,
  ⟨⟨some 22, Op.load 22 (Operand.tmp 21), none⟩, []⟩,
  ⟨⟨some 23, Op.move (Operand.tmp 0), none⟩, []⟩,
  ⟨⟨some 24, Op.indexAddr 22 (Operand.tmp 22) (Operand.tmp 23), none⟩, []⟩,
  ⟨⟨some 25, Op.indexAddr 81 (Operand.tmp 24) (Operand.const (Value.int IntKind.i64 0)), none⟩, []⟩,
  ⟨⟨some 26, Op.load 3 (Operand.tmp 25), none⟩, []⟩,
  ⟨⟨some 27, Op.binOp BinOp.shl 98 (Operand.const (Value.int IntKind.u64 1)) (Operand.tmp 26) 3, none⟩, []⟩,
  ⟨⟨some 28, Op.fieldAddr 31 (Operand.tmp 4) 1, none⟩, []⟩,
  ⟨⟨some 29, Op.load 22 (Operand.tmp 28), none⟩, []⟩,
  ⟨⟨some 30, Op.move (Operand.tmp 0), none⟩, []⟩,
  ⟨⟨some 31, Op.indexAddr 22 (Operand.tmp 29) (Operand.tmp 30), none⟩, []⟩,
  ⟨⟨some 32, Op.indexAddr 81 (Operand.tmp 31) (Operand.const (Value.int IntKind.i64 1)), none⟩, []⟩,
  ⟨⟨some 33, Op.load 3 (Operand.tmp 32), none⟩, []⟩,
  ⟨⟨some 34, Op.binOp BinOp.shl 98 (Operand.const (Value.int IntKind.u64 1)) (Operand.tmp 33) 3, none⟩, []⟩,
  ⟨⟨some 35, Op.binOp BinOp.or 98 (Operand.tmp 27) (Operand.tmp 34) 98, none⟩, []⟩,
  ⟨⟨some 9, Op.assign (Operand.tmp 35), none⟩, []⟩]) (.seq (.seq (.reg [⟨⟨some 36, Op.move (Operand.tmp 1), none⟩, []⟩,
  ⟨⟨some 37, Op.move (Operand.tmp 9), none⟩, []⟩,
  ⟨⟨some 38, Op.binOp BinOp.and 98 (Operand.tmp 36) (Operand.tmp 37) 98, none⟩, []⟩,
  ⟨⟨some 39, Op.binOp BinOp.neq 98 (Operand.tmp 38) (Operand.const (Value.int IntKind.u64 0)) 98, none⟩, []⟩]) (.cond (Operand.tmp 39) (.exit 1) .skip)) (.seq (.reg [⟨⟨some 40, Op.load 38 (Operand.tmp 3), none⟩, []⟩,
  ⟨⟨some 41, Op.move (Operand.tmp 0), none⟩, []⟩,
  ⟨⟨some 42, Op.buildSlice 38 1 #[(0, (Operand.tmp 41))], none⟩, []⟩,
  ⟨⟨some 43, Op.call { callee := (Callee.builtin Builtin.append), args := #[(Operand.tmp 40), (Operand.tmp 42)], argTypes := #[38, 38] }, none⟩, []⟩,
  ⟨⟨none, Op.store 38 (Operand.tmp 3) (Operand.tmp 43), none⟩, []⟩]) (.seq (.seq (.reg [⟨⟨some 44, Op.load 172 (Operand.tmp 5), none⟩, []⟩,
  ⟨⟨some 45, Op.move (Operand.tmp 0), none⟩, []⟩,
  ⟨⟨some 46, Op.binOp BinOp.add 3 (Operand.tmp 45) (Operand.const (Value.int IntKind.i64 1)) 3, none⟩, []⟩,
  ⟨⟨some 47, Op.move (Operand.tmp 1), none⟩, []⟩,
  ⟨⟨some 48, Op.move (Operand.tmp 9), none⟩, []⟩,
  ⟨⟨some 49, Op.binOp BinOp.or 98 (Operand.tmp 47) (Operand.tmp 48) 98, none⟩, []⟩,
  ⟨⟨some 50, Op.call { callee := (Callee.value (Operand.tmp 44)), args := #[(Operand.tmp 46), (Operand.tmp 49)], argTypes := #[3, 98] }, none⟩, []⟩,
  ⟨⟨some 51, Op.unOp UnOp.not 4 (Operand.tmp 50), none⟩, []⟩]) (.cond (Operand.tmp 51) (.seq (.reg [⟨⟨some 8, Op.assign (Operand.const (Value.bool false)), none⟩, []⟩]) .ret) .skip)) (.reg [⟨⟨some 52, Op.load 38 (Operand.tmp 3), none⟩, []⟩,
  ⟨⟨some 53, Op.load 38 (Operand.tmp 3), none⟩, []⟩,
  ⟨⟨some 54, Op.call { callee := (Callee.builtin Builtin.len), args := #[(Operand.tmp 53)], argTypes := #[38] }, none⟩, []⟩,
  ⟨⟨some 55, Op.binOp BinOp.sub 3 (Operand.tmp 54) (Operand.const (Value.int IntKind.i64 1)) 3, none⟩, []⟩,
  ⟨⟨some 56, Op.slice 38 (Operand.tmp 52) none (some (Operand.tmp 55)) none, none⟩, []⟩,
  ⟨⟨none, Op.store 38 (Operand.tmp 3) (Operand.tmp 56), none⟩, []⟩])))))) (.reg [⟨⟨some 19, Op.move (Operand.tmp 0), none⟩, []⟩,
  ⟨⟨some 20, Op.binOp BinOp.add 3 (Operand.tmp 19) (Operand.const (Value.int IntKind.i64 1)) 3, none⟩, []⟩,
  ⟨⟨some 0, Op.assign (Operand.tmp 20), none⟩, []⟩]))))) (.seq (.reg [⟨⟨some 8, Op.assign (Operand.const (Value.bool true)), none⟩, []⟩]) .ret))))
theorem sl210 : slim Try.f210.ntmps ords210 (Try.f210.body.getD .skip) = some cd210 := by kernel_rfl
theorem in210 {args : List Value} {H : AH} {R : Value → AH → Prop} (hl : args.length = 6) (h : ∀ (Q : Exit → Sl → AH → Prop), (∀ e s H, endA Try.prog [ResultVar.tmp 8] R e s H → Q e s H) → wpC Try.prog cd210 Q (enterA args) H) : ACalls Try.prog 210 args H R :=
  ACalls.intro (by kernel_rfl) Try.func210 rfl (by kernel_rfl) sl210 hl (of_decide_eq_true (by kernel_rfl)) (by kernel_rfl) h
def ords154 : List (Nat × List (Nat × Bool)) := []
def cd154 : Cd := (.seq (.reg [⟨⟨some 2, Op.box 31 (Operand.tmp 0), none⟩, []⟩,
  ⟨⟨some 3, Op.box 69 (Operand.tmp 1), none⟩, []⟩]) (.seq (.reg [⟨⟨some 6, Op.buildSlice 38 0 #[], none⟩, []⟩,
  ⟨⟨some 4, Op.alloc 38, none⟩, []⟩,
  ⟨⟨none, Op.store 38 (Operand.tmp 4) (Operand.tmp 6), none⟩, []⟩]) (.seq (.reg [⟨⟨some 5, Op.alloc 172, none⟩, []⟩]) (.seq (.reg [⟨⟨some 7, Op.makeFunc (Fn.func 210) #[] #[(Operand.tmp 3), (Operand.tmp 4), (Operand.tmp 2), (Operand.tmp 5)], none⟩, []⟩,
  ⟨⟨none, Op.store 172 (Operand.tmp 5) (Operand.tmp 7), none⟩, []⟩]) (.reg [⟨⟨some 8, Op.load 172 (Operand.tmp 5), none⟩, []⟩,
  ⟨⟨some 9, Op.call { callee := (Callee.value (Operand.tmp 8)), args := #[(Operand.const (Value.int IntKind.i64 0)), (Operand.const (Value.int IntKind.u64 0))], argTypes := #[3, 98] }, none⟩, []⟩])))))
theorem sl154 : slim Try.f154.ntmps ords154 (Try.f154.body.getD .skip) = some cd154 := by kernel_rfl
theorem in154 {args : List Value} {H : AH} {R : Value → AH → Prop} (hl : args.length = 2) (h : ∀ (Q : Exit → Sl → AH → Prop), (∀ e s H, endA Try.prog [] R e s H → Q e s H) → wpC Try.prog cd154 Q (enterA args) H) : ACalls Try.prog 154 args H R :=
  ACalls.intro (by kernel_rfl) Try.func154 rfl (by kernel_rfl) sl154 hl (of_decide_eq_true (by kernel_rfl)) (by kernel_rfl) h
end Go.Proofs.Ytlfongfhbkefmaa.Ai
namespace Go.Proofs.Ytlfongfhbkefmaa.Ai
open Go Go.RowKit
set_option linter.unusedVariables false
set_option linter.unusedSimpArgs false
/-- a function that is called for each, with what it keeps in memory -/
structure CbOk {σ : Type} (HB : AH) (fW : FuncId) (caps : List Value) (I IF : σ → (Nat → Prop) → AH → Prop) (cb : σ → List Int → σ × Bool) : Prop where
  fin : ∀ {s F H}, I s F H → IF s F H
  live : ∀ {s F H o}, I s F H → F o → o < H.length ∧ HB.length ≤ o
  keep : ∀ {s F H H'}, I s F H → (∀ o y, F o → H[o]? = some y → H'[o]? = some y) → I s F H'
  call : ∀ {s F H w xs}, I s F H → Row 3 H w xs → (w = .slice none 0 0 ∨ ¬ F (rowO w)) → xs.length ≤ 1048576 → HB <+: H →
    ACalls Try.prog fW (w :: caps) H fun r H' => r = .bool (cb s xs).2 ∧ (∃ F', IF (cb s xs).1 F' H' ∧ ((cb s xs).2 = true → I (cb s xs).1 F' H') ∧ ∀ o, F' o → F o ∨ H.length ≤ o) ∧ ∀ o y, ¬ F o → H[o]? = some y → H'[o]? = some y
/-- the variables of the walk: the function, the edges so far, the graph, the walk itself -/
structure WSt (HB : AH) (vW v : Value) (n : Int) (pw pe pg pf : Nat) (F : Nat → Prop) (H : AH) (ed : List Int) : Prop where
  w : H[pw]? = some (.cells [vW] 69 false)
  g : H[pg]? = some (.cells [.int .i64 n, v] 31 false)
  f : H[pf]? = some (.cells [.func (.func 210) #[] (List.toArray [.pointer (some ⟨pw, 0, none⟩), .pointer (some ⟨pe, 0, none⟩), .pointer (some ⟨pg, 0, none⟩), .pointer (some ⟨pf, 0, none⟩)])] 172 false)
  e : ∃ oe zs, H[pe]? = some (.cells [.slice (some ⟨oe, 0, none⟩) ed.length ed.length] 38 false) ∧ H[oe]? = some (.cells (ints zs) 3 false) ∧ zs.take ed.length = ed ∧ ¬ F oe ∧ oe ≠ pw ∧ oe ≠ pg ∧ oe ≠ pf ∧ oe ≠ pe ∧ HB.length ≤ oe
  ne : pe ≠ pw ∧ pe ≠ pg ∧ pe ≠ pf
  out : ¬ F pw ∧ ¬ F pg ∧ ¬ F pf ∧ ¬ F pe
  lo : HB.length ≤ pw ∧ HB.length ≤ pe ∧ HB.length ≤ pg ∧ HB.length ≤ pf
  pre : HB <+: H
section
variable {HB : AH} {vW v : Value} {n : Int} {pw pe pg pf : Nat} {F F' : Nat → Prop} {H H' : AH} {ed : List Int}
/-- a call of the function leaves the variables -/
theorem WSt.cb (h : WSt HB vW v n pw pe pg pf F H ed) (hlive : ∀ o, F o → HB.length ≤ o) (hF : ∀ o, F' o → F o ∨ H.length ≤ o) (hk : ∀ o y, ¬ F o → H[o]? = some y → H'[o]? = some y) : WSt HB vW v n pw pe pg pf F' H' ed := by
  obtain ⟨oe, zs, e1, e2, e3, e4, e5⟩ := h.e
  have no : ∀ {o x}, ¬ F o → H[o]? = some x → ¬ F' o := fun ho hx hf => by
    rcases hF _ hf with g | g
    · exact ho g
    · have := at_lt hx; omega
  refine ⟨hk _ _ h.out.1 h.w, hk _ _ h.out.2.1 h.g, hk _ _ h.out.2.2.1 h.f, ⟨oe, zs, hk _ _ h.out.2.2.2 e1, hk _ _ e4 e2, e3, no e4 e2, e5⟩, h.ne, ⟨no h.out.1 h.w, no h.out.2.1 h.g, no h.out.2.2.1 h.f, no h.out.2.2.2 e1⟩, h.lo, ?_⟩
  exact prefix_of fun o x hx => hk o x (fun hf => by have := hlive o hf; have := at_lt hx; omega) (pre_at h.pre hx)
/-- one edge more -/
theorem WSt.push (h : WSt HB vW v n pw pe pg pf F H ed) (hlive : ∀ o, F o → o < H.length) (hb : ed.length ≤ 1048576) (x : Int) :
    ∃ w H2 H3, cellA H pe 0 = some (.slice (some w) ed.length ed.length) ∧ appendA Try.prog 38 38 (.slice (some w) ed.length ed.length) (.slice (some ⟨H.length, 0, none⟩) 1 1) (H ++ [.cells [.int .i64 x] 3 false]) = some (.slice (some ⟨H.length + 1, 0, none⟩) (ed.length + 1) (ed.length + 1), H2) ∧
      storeA Try.prog 38 (.pointer (some ⟨pe, 0, none⟩)) (.slice (some ⟨H.length + 1, 0, none⟩) (ed.length + 1) (ed.length + 1)) H2 = some H3 ∧ WSt HB vW v n pw pe pg pf F H3 (ed ++ [x]) ∧ (∀ o y, F o → H[o]? = some y → H3[o]? = some y) ∧ H.length ≤ H3.length := by
  obtain ⟨oe, zs, e1, e2, e3, e4, e5, e6, e7, e8, e9⟩ := h.e
  have hzl : ed.length ≤ zs.length := by
    have := congrArg List.length e3
    rw [List.length_take] at this; omega
  have k1 := app_q (P := Try.prog) (t := 38) (k := 0) (n := ed.length) (c := ed.length) (x := x) Try.underlying38 cs3 (by rw [by3]; decide) zk3 e2 (by omega) (by omega)
  rw [List.drop_zero, e3] at k1
  have at_ : ∀ {o y}, o ≠ oe → H[o]? = some y → (H.set oe .dead ++ [AObj.cells [.int .i64 x] 3 false, .cells (ints (ed ++ [x])) 3 false])[o]? = some y := by
    intro o y ho hy
    rw [List.getElem?_append_left (by simpa using at_lt hy), List.getElem?_set_ne (fun e => ho e.symm)]
    exact hy
  have a1 := at_ (fun e => e8 e.symm) e1
  have hst := st_at (P := Try.prog) (t := 38) (i := 0) (y := .slice (some ⟨H.length + 1, 0, none⟩) (ed.length + 1) (ed.length + 1)) cs38 a1 (by show 0 < 1; decide) rfl rfl
  have l1 := at_lt e1
  have l2 := at_lt e2
  have aw : ∀ {o y}, o ≠ oe → o ≠ pe → H[o]? = some y → ((H.set oe .dead ++ [AObj.cells [.int .i64 x] 3 false, .cells (ints (ed ++ [x])) 3 false]).set pe (.cells ([Value.slice (some ⟨oe, 0, none⟩) ed.length ed.length].set 0 (.slice (some ⟨H.length + 1, 0, none⟩) (ed.length + 1) (ed.length + 1))) 38 false))[o]? = some y := by
    intro o y ho1 ho2 hy
    rw [List.getElem?_set_ne (fun e => ho2 e.symm)]
    exact at_ ho1 hy
  have lw := at_lt h.w
  have lg := at_lt h.g
  have lf := at_lt h.f
  have lo := h.lo
  refine ⟨_, _, _, cell_of e1 0, k1, hst, ⟨aw (fun e => e5 e.symm) (fun e => h.ne.1 e.symm) h.w, aw (fun e => e6 e.symm) (fun e => h.ne.2.1 e.symm) h.g, aw (fun e => e7 e.symm) (fun e => h.ne.2.2 e.symm) h.f, ⟨H.length + 1, ed ++ [x], ?_, ?_, ?_, ?_, by omega, by omega, by omega, by omega, by have := h.pre.length_le; omega⟩, h.ne, h.out, h.lo, ?_⟩, ?_, by simp⟩
  · rw [List.getElem?_set_self (by simp; omega)]
    simp
  · rw [List.getElem?_set_ne (by omega), List.getElem?_append_right (by simp)]
    simp
  · rw [List.take_of_length_le (Nat.le_refl _)]
  · intro hf; have := hlive _ hf; omega
  · exact prefix_of fun o y hy => aw (by have := at_lt hy; omega) (by have := at_lt hy; omega) (pre_at h.pre hy)
  · intro o y hf hy
    exact aw (fun e => e4 (e ▸ hf)) (fun e => h.out.2.2.2 (e ▸ hf)) hy
/-- the last edge away -/
theorem WSt.pop {x : Int} (h : WSt HB vW v n pw pe pg pf F H (ed ++ [x])) :
    ∃ w c, cellA H pe 0 = some (.slice (some w) (ed.length + 1) c) ∧ sliceA Try.prog 38 (.slice (some w) (ed.length + 1) c) none (some (.int .i64 (ed.length : Int))) none H = some (.slice (some w) ed.length ed.length) ∧
      ∃ H3, storeA Try.prog 38 (.pointer (some ⟨pe, 0, none⟩)) (.slice (some w) ed.length ed.length) H = some H3 ∧ WSt HB vW v n pw pe pg pf F H3 ed ∧ (∀ o y, F o → H[o]? = some y → H3[o]? = some y) ∧ H3.length = H.length := by
  obtain ⟨oe, zs, e1, e2, e3, e4, e5, e6, e7, e8, e9⟩ := h.e
  have hl : (ed ++ [x]).length = ed.length + 1 := by simp
  rw [hl] at e1 e3
  have hz : zs.take ed.length = ed := by
    have := congrArg (List.take ed.length) e3
    rw [List.take_take, Nat.min_eq_left (by omega)] at this
    simpa using this
  have hsl := sl_own (P := Try.prog) (t := 38) (k := 0) (n := ed.length + 1) (c := ed.length + 1) Try.underlying38 cs3 e2 lo_none (bound_some (k := .i64) (i := (ed.length : Int)) (by omega) (ed.length + 1)) (Nat.zero_le _) (by omega)
  simp only [Int.toNat_natCast, Nat.add_zero, Nat.sub_zero] at hsl
  have hst := st_at (P := Try.prog) (t := 38) (i := 0) (y := .slice (some ⟨oe, 0, none⟩) ed.length ed.length) cs38 e1 (by show 0 < 1; decide) rfl rfl
  have aw : ∀ {o y}, o ≠ pe → H[o]? = some y → (H.set pe (.cells ([Value.slice (some ⟨oe, 0, none⟩) (ed.length + 1) (ed.length + 1)].set 0 (.slice (some ⟨oe, 0, none⟩) ed.length ed.length)) 38 false))[o]? = some y := by
    intro o y ho hy
    rw [List.getElem?_set_ne (fun e => ho e.symm)]; exact hy
  have lo := h.lo
  refine ⟨_, _, cell_of e1 0, hsl, _, hst, ⟨aw (fun e => h.ne.1 e.symm) h.w, aw (fun e => h.ne.2.1 e.symm) h.g, aw (fun e => h.ne.2.2 e.symm) h.f, ⟨oe, zs, ?_, aw e8 e2, hz, e4, e5, e6, e7, e8, e9⟩, h.ne, h.out, h.lo, ?_⟩, fun o y hf hy => aw (fun e => h.out.2.2.2 (e ▸ hf)) hy, by simp⟩
  · rw [List.getElem?_set_self (at_lt e1)]; rfl
  · exact prefix_of fun o y hy => aw (by have := at_lt hy; omega) (pre_at h.pre hy)
end
theorem box_func (H : AH) (f : Fn) (fs caps : Array Value) : boxA Try.prog 69 (.func f fs caps) H = some (.pointer (some ⟨H.length, 0, none⟩), H ++ [.cells [.func f fs caps] 69 false]) := by kernel_rfl
theorem alloc_sl (H : AH) : allocA Try.prog 38 H = some (.pointer (some ⟨H.length, 0, none⟩), H ++ [.cells [.slice none 0 0] 38 false]) := by kernel_rfl
theorem alloc_fn (H : AH) : allocA Try.prog 172 H = some (.pointer (some ⟨H.length, 0, none⟩), H ++ [.cells [.nilFunc] 172 false]) := by kernel_rfl
theorem csF : Try.prog.cellsOf 172 = 1 := by kernel_rfl
theorem csW : Try.prog.cellsOf 69 = 1 := by kernel_rfl
theorem agF : isAggA Try.prog 172 = some false := by kernel_rfl
theorem agW : isAggA Try.prog 69 = some false := by kernel_rfl
theorem mkf_1 (f : Fn) (p : Option Addr) : makeFuncA f [] [.pointer p] = some (.func f #[] (List.toArray [.pointer p])) := rfl
theorem mkf_4 (f : Fn) (p q r t : Option Addr) : makeFuncA f [] [.pointer p, .pointer q, .pointer r, .pointer t] = some (.func f #[] (List.toArray [.pointer p, .pointer q, .pointer r, .pointer t])) := rfl
theorem frE_or {es : List (Int × Int)} {ed : List Int} {e : Int} {x y : Nat} (ex : ed1 es e = x) (ey : ed2 es e = y) : frE es ed e ↔ ¬ ((x : Int) ∈ seenL es ed ∨ (y : Int) ∈ seenL es ed) := by
  unfold frE
  rw [ex, ey, not_or]
set_option maxRecDepth 20000 in
set_option maxHeartbeats 4000000 in
theorem from_c {σ : Type} {HB : AH} {fW : FuncId} {caps : List Value} {I IF : σ → (Nat → Prop) → AH → Prop} {cb : σ → List Int → σ × Bool} (hc : CbOk HB fW caps I IF cb) (v : Value) (n : Int) (es : List (Int × Int)) (hr : RowP 81 HB v es) (hlen : es.length ≤ 1048576) (hg : Grd n es) (pw pe pg pf : Nat) :
    ∀ (k : Nat) (ed : List Int) (s : σ) (F : Nat → Prop) (H : AH) (b : Nat), k ≤ es.length → ed.length + k ≤ es.length → I s F H → WSt HB (.func (.func fW) #[] (List.toArray caps)) v n pw pe pg pf F H ed → Bits b 8 (seenL es ed) →
      ACalls Try.prog 210 [.int .i64 ((es.length - k : Nat) : Int), .int .u64 ((b : Nat) : Int), .pointer (some ⟨pw, 0, none⟩), .pointer (some ⟨pe, 0, none⟩), .pointer (some ⟨pg, 0, none⟩), .pointer (some ⟨pf, 0, none⟩)] H fun r H' =>
        r = .bool (sfold cb (ed :: mall es k ed) s).2 ∧ HB <+: H' ∧ ∃ F', IF (sfold cb (ed :: mall es k ed) s).1 F' H' ∧ ((sfold cb (ed :: mall es k ed) s).2 = true → I (sfold cb (ed :: mall es k ed) s).1 F' H' ∧ WSt HB (.func (.func fW) #[] (List.toArray caps)) v n pw pe pg pf F' H' ed) := by
  intro k
  induction k using Nat.strongRecOn with
  | ind k ih =>
  intro ed s F H b hk hek hI hW hb
  refine in210 rfl ?_
  intro Q hQ
  obtain ⟨oe, zs, e1, e2, e3, e4, e5⟩ := hW.e
  have hrow : Row 3 H (.slice (some ⟨oe, 0, none⟩) ed.length ed.length) ed := by
    have hzl : ed.length ≤ zs.length := by
      have := congrArg List.length e3
      rw [List.length_take] at this; omega
    refine .inr ⟨oe, 0, ints zs, false, rfl, e2, by rw [ints_len]; omega, ?_⟩
    rw [List.drop_zero]
    have : (ints zs).take ed.length = ints (zs.take ed.length) := by simp [ints, List.map_take]
    rw [this, e3]
  have hlv : ∀ o, F o → HB.length ≤ o := fun o ho => (hc.live hI ho).2
  simp (maxSteps := 1000000) (disch := omega) only [cd210, ld_one agW, cell_of hW.w, cell_of e1, S, S1, S2, S3, S4, S5, ST, eq_self, reduceIte, reduceCtorEq, Nat.reduceEqDiff, Nat.reduceAdd]
  refine CallH.by (hc.call hI hrow (.inr e4) (by omega) hW.pre) ?_
  rintro _ H1 ⟨rfl, ⟨F1, hI1, hIt, hF1⟩, hk1⟩
  have hW1 := hW.cb hlv hF1 hk1
  have hfold : sfold cb (ed :: mall es k ed) s = if (cb s ed).2 = true then sfold cb (mall es k ed) (cb s ed).1 else ((cb s ed).1, false) := rfl
  simp (maxSteps := 1000000) (disch := omega) only [S, S1, S2, S3, S4, S5, ST, eq_self, reduceIte, reduceCtorEq, Nat.reduceEqDiff, Nat.reduceAdd]
  refine brH.intro (fun g0 => ?_) (fun g0 => ?_)
  rotate_left
  · simp (maxSteps := 1000000) (disch := omega) only [g0, S, S1, S2, S3, S4, S5, ST, eq_self, reduceIte, reduceCtorEq, Nat.reduceEqDiff, Nat.reduceAdd]
    refine hQ _ _ _ ?_
    simp (maxSteps := 1000000) (disch := omega) only [S, S1, S2, S3, S4, S5, ST, eq_self, reduceIte, reduceCtorEq, Nat.reduceEqDiff, Nat.reduceAdd]
    rw [hfold, if_neg (by rw [g0]; decide)]
    exact ⟨rfl, hW1.pre, F1, hI1, fun h => by cases h⟩
  replace hI1 := hIt g0
  rw [if_pos g0] at hfold
  rw [hfold] at hQ
  generalize hs1 : (cb s ed).1 = s1 at *
  simp (maxSteps := 1000000) (disch := omega) only [g0, S, S1, S2, S3, S4, S5, ST, eq_self, reduceIte, reduceCtorEq, Nat.reduceEqDiff, Nat.reduceAdd]
  refine LoopH.by (fun m st H' => ∃ s' F', m ≤ k ∧ st 0 = .int .i64 ((es.length - m : Nat) : Int) ∧ st 1 = .int .u64 ((b : Nat) : Int) ∧ st 2 = .pointer (some ⟨pw, 0, none⟩) ∧ st 3 = .pointer (some ⟨pe, 0, none⟩) ∧ st 4 = .pointer (some ⟨pg, 0, none⟩) ∧ st 5 = .pointer (some ⟨pf, 0, none⟩) ∧ I s' F' H' ∧ WSt HB (.func (.func fW) #[] (List.toArray caps)) v n pw pe pg pf F' H' ed ∧ sfold cb (mall es k ed) s1 = sfold cb (mall es m ed) s') k ?_ ?_
  · exact ⟨s1, F1, Nat.le_refl _, rfl, rfl, rfl, rfl, rfl, rfl, hI1, hW1, rfl⟩
  rintro m st H' ⟨s', F', hmk, h0, h1, h2, h3, h4, h5, hI', hW', hS⟩
  have hrH := hr.pre hW'.pre
  simp (maxSteps := 1000000) (disch := omega) only [h0, h1, h2, h3, h4, h5, cell_of hW'.g, hrH.len Try.underlying22, S, S1, S2, S3, S4, S5, ST, eq_self, reduceIte, reduceCtorEq, Nat.reduceEqDiff, Nat.reduceAdd]
  refine brD.intro (fun g => ?_) (fun g => ?_)
  rotate_left
  · have hm0 : m = 0 := by omega
    subst hm0
    simp (maxSteps := 1000000) (disch := omega) only [S, S1, S2, S3, S4, S5, ST, eq_self, reduceIte, reduceCtorEq, Nat.reduceEqDiff, Nat.reduceAdd]
    refine hQ _ _ _ ?_
    simp (maxSteps := 1000000) (disch := omega) only [S, S1, S2, S3, S4, S5, ST, eq_self, reduceIte, reduceCtorEq, Nat.reduceEqDiff, Nat.reduceAdd]
    rw [hS]
    exact ⟨rfl, hW'.pre, F', hc.fin hI', fun _ => ⟨hI', hW'⟩⟩
  obtain ⟨i, rfl⟩ : ∃ i, m = i + 1 := ⟨m - 1, by omega⟩
  have hei : es.length - (i + 1) < es.length := by omega
  have he1 : ((es.length - (i + 1) : Nat) : Int) + 1 = ((es.length - i : Nat) : Int) := by omega
  obtain ⟨x, y, ex, ey, hxy, hyn, hy8⟩ := grd_ed hg hei
  have hb64 : b < 2 ^ 64 := Nat.lt_of_lt_of_le hb.1 (by decide)
  have hx64 : 2 ^ x < 2 ^ 64 := Nat.pow_lt_pow_right (by decide) (by omega)
  have hy64 : 2 ^ y < 2 ^ 64 := Nat.pow_lt_pow_right (by decide) (by omega)
  have k1 := bin_shl Try.prog 98 x (by omega)
  have k2 := bin_shl Try.prog 98 y (by omega)
  have k3 := bin_or Try.prog 98 (2 ^ x) (2 ^ y) hx64 hy64
  have k4 := bin_and Try.prog 98 b (2 ^ x ||| 2 ^ y) hb64 (Nat.or_lt_two_pow hx64 hy64)
  have k5 := bin_or Try.prog 98 b (2 ^ x ||| 2 ^ y) hb64 (Nat.or_lt_two_pow hx64 hy64)
  have l0 := hrH.cell0 hei
  have l1 := hrH.cell1 hei
  rw [ex] at l0
  rw [ey] at l1
  have hno := hb.no (x := x) (y := y) (by omega) hy8
  have hor := hb.or2 (x := x) (y := y) (by omega) hy8
  generalize he : es.length - (i + 1) = e at *
  have ex' : ed1 es (e : Int) = x := by unfold ed1; rw [Int.toNat_natCast]; exact ex
  have ey' : ed2 es (e : Int) = y := by unfold ed2; rw [Int.toNat_natCast]; exact ey
  have hfr := frE_or (ed := ed) ex' ey'
  have hst := seenL_snoc es ed (e : Int)
  rw [ex', ey'] at hst
  rw [← hst] at hor
  have hmall : mall es (i + 1) ed = (if frE es ed (e : Int) then (ed ++ [(e : Int)]) :: mall es i (ed ++ [(e : Int)]) else []) ++ mall es i ed := by rw [mall, he]
  simp (maxSteps := 1000000) (disch := omega) only [h0, h1, h2, h3, h4, h5, cell_of hW'.g, hrH.ix Try.underlying22 cs81, Int.toNat_natCast, l0, l1, k1, k2, k3, k4, wrap64, S, S1, S2, S3, S4, S5, ST, eq_self, reduceIte, reduceCtorEq, Nat.reduceEqDiff, Nat.reduceAdd]
  refine brD.intro (fun q => ?_) (fun q => ?_) <;> simp (maxSteps := 1000000) (disch := omega) only [h0, h1, h2, h3, h4, h5, he1, wrap64, S, S1, S2, S3, S4, S5, ST, eq_self, reduceIte, reduceCtorEq, Nat.reduceEqDiff, Nat.reduceAdd]
  · have q' : b &&& (2 ^ x ||| 2 ^ y) ≠ 0 := by intro h; rw [h] at q; exact q rfl
    rw [if_neg (fun h => (hfr.1 h) (hno.1 q')), List.nil_append] at hmall
    rw [hmall] at hS
    refine ⟨i, by omega, s', F', by omega, ?_⟩
    (repeat' first | exact hI' | exact hW' | exact hS | apply And.intro) <;> first | (simp only [Value.int.injEq, true_and]; omega) | omega | rfl | assumption | (simp; done) | (simp; omega)
  · have q' : ¬ (b &&& (2 ^ x ||| 2 ^ y) ≠ 0) := by intro h; apply h; have := Decidable.not_not.1 q; exact_mod_cast this
    have hfr' : frE es ed (e : Int) := hfr.2 (fun h => q' (hno.2 h))
    rw [if_pos hfr'] at hmall
    rw [hmall, sfold_append] at hS
    obtain ⟨w, H2, H3, p1, p2, p3, hW3, hk3, hl3⟩ := hW'.push (fun o ho => (hc.live hI' ho).1) (by omega) (e : Int)
    have hI3 := hc.keep hI' hk3
    simp (maxSteps := 1000000) (disch := omega) only [h0, h1, h2, h3, h4, h5, p1, p2, p3, ld_one agF, cell_of hW3.f, k5, he1, wrap64, S, S1, S2, S3, S4, S5, ST, eq_self, reduceIte, reduceCtorEq, Nat.reduceEqDiff, Nat.reduceAdd]
    refine CallH.by (ih i (by omega) (ed ++ [(e : Int)]) s' F' H3 (b ||| (2 ^ x ||| 2 ^ y)) (by omega) (by simp; omega) hI3 hW3 hor) ?_
    rintro _ H4 ⟨rfl, hp4, F4, hI4, hW4⟩
    generalize hX : sfold cb ((ed ++ [(e : Int)]) :: mall es i (ed ++ [(e : Int)])) s' = X at *
    simp (maxSteps := 1000000) (disch := omega) only [S, S1, S2, S3, S4, S5, ST, eq_self, reduceIte, reduceCtorEq, Nat.reduceEqDiff, Nat.reduceAdd]
    refine brH.intro (fun g2 => ?_) (fun g2 => ?_)
    · obtain ⟨hI4', hW4'⟩ := hW4 g2
      obtain ⟨w4, c4, r1, r2, H5, r3, hW5, hk5, hl5⟩ := hW4'.pop
      have hI5 := hc.keep hI4' hk5
      rw [if_pos g2] at hS
      have hcl : ((ed.length + 1 : Nat) : Int) - 1 = (ed.length : Int) := by omega
      simp (maxSteps := 1000000) (disch := omega) only [g2, h0, h1, h2, h3, h4, h5, r1, hcl, r2, r3, he1, wrap64, S, S1, S2, S3, S4, S5, ST, eq_self, reduceIte, reduceCtorEq, Nat.reduceEqDiff, Nat.reduceAdd]
      refine ⟨i, by omega, X.1, F4, by omega, ?_⟩
      (repeat' first | exact hI5 | exact hW5 | exact hS | apply And.intro) <;> first | (simp only [Value.int.injEq, true_and]; omega) | omega | rfl | assumption | (simp; done) | (simp; omega)
    · simp (maxSteps := 1000000) (disch := omega) only [g2, S, S1, S2, S3, S4, S5, ST, eq_self, reduceIte, reduceCtorEq, Nat.reduceEqDiff, Nat.reduceAdd]
      refine hQ _ _ _ ?_
      simp (maxSteps := 1000000) (disch := omega) only [S, S1, S2, S3, S4, S5, ST, eq_self, reduceIte, reduceCtorEq, Nat.reduceEqDiff, Nat.reduceAdd]
      rw [if_neg (by rw [g2]; decide)] at hS
      rw [hS, g2]
      exact ⟨rfl, hp4, F4, hI4, fun h => by cases h⟩
set_option maxRecDepth 20000 in
set_option maxHeartbeats 1000000 in
theorem matchings_c {σ : Type} {HB : AH} {fW : FuncId} {caps : List Value} {I IF : σ → (Nat → Prop) → AH → Prop} {cb : σ → List Int → σ × Bool} (hc : CbOk HB fW caps I IF cb) (v : Value) (n : Int) (es : List (Int × Int)) (hr : RowP 81 HB v es) (hlen : es.length ≤ 1048576) (hg : Grd n es)
    (s : σ) (F : Nat → Prop) (H : AH) (hI : I s F H) (hp : HB <+: H) :
    ACalls Try.prog 154 [.agg (List.toArray [.int .i64 n, v]), .func (.func fW) #[] (List.toArray caps)] H fun r H' => HB <+: H' ∧ ∃ F', IF (sfold cb ([] :: mall es es.length []) s).1 F' H' := by
  refine in154 rfl ?_
  intro Q hQ
  have hrH := hr.pre hp
  simp (maxSteps := 1000000) (disch := omega) only [cd154, hrH.boxG, box_func, alloc_sl, alloc_fn, S, S1, S2, S3, S4, S5, ST, eq_self, reduceIte, reduceCtorEq, Nat.reduceEqDiff, Nat.reduceAdd]
  generalize hA : H ++ [AObj.cells [.int .i64 n, v] 31 false] = A
  have pA : H <+: A := by rw [← hA]; exact List.prefix_append _ _
  have cA : A[H.length]? = some (.cells [.int .i64 n, v] 31 false) := by rw [← hA]; exact at_new ..
  have rA := hrH.pre pA
  generalize hW0 : A ++ [AObj.cells [.func (.func fW) #[] (List.toArray caps)] 69 false] = W
  have pW : A <+: W := by rw [← hW0]; exact List.prefix_append _ _
  have cW : W[A.length]? = some (.cells [.func (.func fW) #[] (List.toArray caps)] 69 false) := by rw [← hW0]; exact at_new ..
  generalize hZ : W ++ [AObj.cells [] 3 false] = Z
  have pZ : W <+: Z := by rw [← hZ]; exact List.prefix_append _ _
  have cZ : Z[W.length]? = some (.cells (ints []) 3 false) := by rw [← hZ]; exact at_new ..
  have st1 := st_at (P := Try.prog) (t := 38) (i := 0) (y := .slice (some ⟨W.length, 0, none⟩) 0 0) cs38 (at_new Z (.cells [.slice none 0 0] 38 false)) (by show 0 < 1; decide) rfl rfl
  rw [set_new, List.set_cons_zero] at st1
  simp (maxSteps := 1000000) (disch := omega) only [st1, S, S1, S2, S3, S4, S5, ST, eq_self, reduceIte, reduceCtorEq, Nat.reduceEqDiff, Nat.reduceAdd]
  generalize hE : Z ++ [AObj.cells [.slice (some ⟨W.length, 0, none⟩) 0 0] 38 false] = E
  have pE : Z <+: E := by rw [← hE]; exact List.prefix_append _ _
  have cE : E[Z.length]? = some (.cells [.slice (some ⟨W.length, 0, none⟩) 0 0] 38 false) := by rw [← hE]; exact at_new ..
  have st2 := st_at (P := Try.prog) (t := 172) (i := 0) (y := .func (.func 210) #[] (List.toArray [.pointer (some ⟨A.length, 0, none⟩), .pointer (some ⟨Z.length, 0, none⟩), .pointer (some ⟨H.length, 0, none⟩), .pointer (some ⟨E.length, 0, none⟩)])) csF (at_new E (.cells [.nilFunc] 172 false)) (by show 0 < 1; decide) rfl rfl
  rw [set_new, List.set_cons_zero] at st2
  simp (maxSteps := 1000000) (disch := omega) only [alloc_fn, mkf_4, st2, ld_one agF, cell_new, S, S1, S2, S3, S4, S5, ST, eq_self, reduceIte, reduceCtorEq, Nat.reduceEqDiff, Nat.reduceAdd]
  generalize hG : E ++ [AObj.cells [.func (.func 210) #[] (List.toArray [.pointer (some ⟨A.length, 0, none⟩), .pointer (some ⟨Z.length, 0, none⟩), .pointer (some ⟨H.length, 0, none⟩), .pointer (some ⟨E.length, 0, none⟩)])] 172 false] = G
  have pG : E <+: G := by rw [← hG]; exact List.prefix_append _ _
  have cG : G[E.length]? = some (.cells [.func (.func 210) #[] (List.toArray [.pointer (some ⟨A.length, 0, none⟩), .pointer (some ⟨Z.length, 0, none⟩), .pointer (some ⟨H.length, 0, none⟩), .pointer (some ⟨E.length, 0, none⟩)])] 172 false) := by rw [← hG]; exact at_new ..
  have lA : A.length = H.length + 1 := by rw [← hA]; simp
  have lW : W.length = A.length + 1 := by rw [← hW0]; simp
  have lZ : Z.length = W.length + 1 := by rw [← hZ]; simp
  have lE : E.length = Z.length + 1 := by rw [← hE]; simp
  have lHB := hp.length_le
  have pHG := pA.trans (pW.trans (pZ.trans (pE.trans pG)))
  have hI2 := hc.keep hI (fun o y _ hy => pre_at pHG hy)
  have nF : ∀ {o}, H.length ≤ o → ¬ F o := fun ho hf => by have := (hc.live hI hf).1; omega
  have hW2 : WSt HB (.func (.func fW) #[] (List.toArray caps)) v n A.length Z.length H.length E.length F G [] :=
    ⟨pre_at (pZ.trans (pE.trans pG)) cW, pre_at (pW.trans (pZ.trans (pE.trans pG))) cA, cG, ⟨W.length, [], pre_at pG cE, pre_at (pE.trans pG) cZ, rfl, nF (by omega), by omega, by omega, by omega, by omega, by omega⟩, ⟨by omega, by omega, by omega⟩, ⟨nF (by omega), nF (by omega), nF (by omega), nF (by omega)⟩, ⟨by omega, by omega, by omega, by omega⟩, hp.trans pHG⟩
  have hf := from_c hc v n es hr hlen hg A.length Z.length H.length E.length es.length [] s F G 0 (Nat.le_refl _) (by simp) hI2 hW2 ⟨by decide, fun z _ => by simp [seenL]⟩
  have z0 : ((0 : Nat) : Int) = 0 := rfl
  rw [Nat.sub_self, z0] at hf
  refine CallH.by hf ?_
  rintro _ H' ⟨rfl, hp', F', hI', _⟩
  simp (maxSteps := 1000000) (disch := omega) only [S, S1, S2, S3, S4, S5, ST, eq_self, reduceIte, reduceCtorEq, Nat.reduceEqDiff, Nat.reduceAdd]
  refine hQ _ _ _ ?_
  simp (maxSteps := 1000000) (disch := omega) only [S, S1, S2, S3, S4, S5, ST, eq_self, reduceIte, reduceCtorEq, Nat.reduceEqDiff, Nat.reduceAdd]
  exact ⟨hp', F', hI'⟩
end Go.Proofs.Ytlfongfhbkefmaa.Ai
namespace Go.Proofs.Ytlfongfhbkefmaa.Ai
open Go
def ords87 : List (Nat × List (Nat × Bool)) := []
def cd87 : Cd := (.seq (.reg [⟨⟨some 2, Op.assign (Operand.const (Value.slice none 0 0)), none⟩, []⟩]) (.seq (.seq (.reg [⟨⟨some 3, Op.move (Operand.tmp 0), none⟩, []⟩,
  ⟨⟨some 4, Op.binOp BinOp.eql 38 (Operand.tmp 3) (Operand.const (Value.slice none 0 0)) 38, none⟩, []⟩]) (.cond (Operand.tmp 4) (.seq (.reg [⟨⟨some 2, Op.assign (Operand.const (Value.slice none 0 0)), none⟩, []⟩]) .ret) .skip)) (.seq (.reg [⟨⟨some 5, Op.buildSlice 38 0 #[], none⟩, []⟩,
  ⟨⟨some 6, Op.move (Operand.tmp 0), none⟩, []⟩,
  ⟨⟨some 7, Op.call { callee := (Callee.builtin Builtin.append), args := #[(Operand.tmp 5), (Operand.tmp 6)], argTypes := #[38, 38] }, none⟩, []⟩,
  ⟨⟨some 2, Op.assign (Operand.tmp 7), none⟩, []⟩]) .ret)))
theorem sl87 : slim Try.f87.ntmps ords87 (Try.f87.body.getD .skip) = some cd87 := by kernel_rfl
theorem in87 {args : List Value} {H : AH} {R : Value → AH → Prop} (hl : args.length = 1) (h : ∀ (Q : Exit → Sl → AH → Prop), (∀ e s H, endA Try.prog [ResultVar.tmp 2] R e s H → Q e s H) → wpC Try.prog cd87 Q (enterA args) H) : ACalls Try.prog 87 args H R :=
  ACalls.intro (by kernel_rfl) Try.func87 rfl (by kernel_rfl) sl87 hl (of_decide_eq_true (by kernel_rfl)) (by kernel_rfl) h
end Go.Proofs.Ytlfongfhbkefmaa.Ai
namespace Go.Proofs.Ytlfongfhbkefmaa.Ai
open Go Go.RowKit
set_option linter.unusedVariables false
set_option linter.unusedSimpArgs false
set_option maxRecDepth 20000 in
theorem Clone_c (v : Value) (xs : List Int) (H : AH) (hr : Row 3 H v xs) (hlen : xs.length ≤ 1099511627776) : ACalls Try.prog 87 [v] H fun r H' => Own 3 H H' r xs ∧ H <+: H' := by
  refine in87 rfl ?_
  intro Q hQ
  obtain ⟨p, e⟩ := hr.shape
  subst e
  simp (maxSteps := 1000000) (disch := omega) only [cd87, S, S1, S2, S3, S4, S5, ST, eq_self, reduceIte, reduceCtorEq, Nat.reduceEqDiff, Nat.reduceAdd]
  refine brH.intro (fun g => ?_) (fun g => ?_) <;> simp (maxSteps := 1000000) (disch := omega) only [S, S1, S2, S3, S4, S5, ST, eq_self, reduceIte, reduceCtorEq, Nat.reduceEqDiff, Nat.reduceAdd]
  · refine hQ _ _ _ ?_
    simp (maxSteps := 1000000) (disch := omega) only [S, S1, S2, S3, S4, S5, ST, eq_self, reduceIte, reduceCtorEq, Nat.reduceEqDiff, Nat.reduceAdd]
    have : xs = [] := by
      rcases hr with h | ⟨o, k, vs, ro, h1, _⟩
      · exact h.2
      · cases p with
        | none => cases h1
        | some p => cases g
    exact ⟨.inl ⟨rfl, this⟩, List.prefix_refl _⟩
  · have hp := List.prefix_append H [AObj.cells [] 3 false]
    have ho : Own 3 H (H ++ [AObj.cells [] 3 false]) (.slice (some ⟨H.length, 0, none⟩) 0 0) [] := .inr ⟨H.length, rfl, Nat.le_refl _, at_new ..⟩
    obtain ⟨v', H2, k1, k2, k3, _⟩ := ho.app (P := Try.prog) (t := 38) Try.underlying38 cs3 (by rw [by3]; decide) zk3 (hr.pre hp) hp (by simp; omega)
    simp (maxSteps := 1000000) (disch := omega) only [k1, S, S1, S2, S3, S4, S5, ST, eq_self, reduceIte, reduceCtorEq, Nat.reduceEqDiff, Nat.reduceAdd]
    refine hQ _ _ _ ?_
    simp (maxSteps := 1000000) (disch := omega) only [k2.row.tup, S, S1, S2, S3, S4, S5, ST, eq_self, reduceIte, reduceCtorEq, Nat.reduceEqDiff, Nat.reduceAdd]
    exact ⟨k2, k3⟩
end Go.Proofs.Ytlfongfhbkefmaa.Ai
