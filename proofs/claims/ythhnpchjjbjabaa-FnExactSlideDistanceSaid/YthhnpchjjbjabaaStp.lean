/- The first shortest moves (spec.l9Steps), TokenSwaps and TokenDistance: spec's side. -/
import Derived.Test.YthhnpchjjbjabaaTks
import Derived.Test.YthhnpchjjbjabaaProg
import Derived.Test.YthhnpchjjbjabaaAiM2
import Derived.KernelRfl
/- Slim code of this translation. By the kernel. -/
namespace Go.Proofs.Ythhnpchjjbjabaa.Ai
open Go

/- loop.example/g01128/spec.l9Other -/
def ords161 : List (Nat × List (Nat × Bool)) := []
def cd161 : Cd := (.seq (.reg [⟨⟨some 3, Op.box 76 (Operand.tmp 1), none⟩, []⟩,
  ⟨⟨some 4, Op.assign (Operand.const (Value.int IntKind.i64 0)), none⟩, []⟩]) (.seq (.seq (.reg [⟨⟨some 5, Op.move (Operand.tmp 0), none⟩, []⟩,
  ⟨⟨some 6, Op.indexAddr 76 (Operand.tmp 3) (Operand.const (Value.int IntKind.i64 0)), none⟩, []⟩,
  ⟨⟨some 7, Op.load 3 (Operand.tmp 6), none⟩, []⟩,
  ⟨⟨some 8, Op.indexAddr 32 (Operand.tmp 5) (Operand.tmp 7), none⟩, []⟩,
  ⟨⟨some 9, Op.load 3 (Operand.tmp 8), none⟩, []⟩,
  ⟨⟨some 10, Op.binOp BinOp.eql 3 (Operand.tmp 9) (Operand.const (Value.int IntKind.i64 0)) 3, none⟩, []⟩]) (.cond (Operand.tmp 10) (.seq (.reg [⟨⟨some 11, Op.indexAddr 76 (Operand.tmp 3) (Operand.const (Value.int IntKind.i64 1)), none⟩, []⟩,
  ⟨⟨some 12, Op.load 3 (Operand.tmp 11), none⟩, []⟩,
  ⟨⟨some 4, Op.assign (Operand.tmp 12), none⟩, []⟩]) .ret) .skip)) (.seq (.reg [⟨⟨some 13, Op.indexAddr 76 (Operand.tmp 3) (Operand.const (Value.int IntKind.i64 0)), none⟩, []⟩,
  ⟨⟨some 14, Op.load 3 (Operand.tmp 13), none⟩, []⟩,
  ⟨⟨some 4, Op.assign (Operand.tmp 14), none⟩, []⟩]) .ret)))
theorem sl161 : slim Try.f161.ntmps ords161 (Try.f161.body.getD .skip) = some cd161 := by kernel_rfl
theorem in161 {args : List Value} {H : AH} {R : Value → AH → Prop} (hl : args.length = 2) (h : ∀ (Q : Exit → Sl → AH → Prop), (∀ e s H, endA Try.prog [ResultVar.tmp 4] R e s H → Q e s H) → wpC Try.prog cd161 Q (enterA args) H) : ACalls Try.prog 161 args H R :=
  ACalls.intro (by kernel_rfl) Try.func161 rfl (by kernel_rfl) sl161 hl (of_decide_eq_true (by kernel_rfl)) (by kernel_rfl) h

/- loop.example/g01128/spec.l9First -/
def ords131 : List (Nat × List (Nat × Bool)) := [(2, [(0, false), (1, false), (3, false), (4, false), (2, true), (5, true), (6, false), (7, false)])]
def cd131 : Cd := (.seq (.reg [⟨⟨some 5, Op.box 76 (Operand.tmp 1), none⟩, []⟩,
  ⟨⟨some 6, Op.box 76 (Operand.tmp 2), none⟩, []⟩,
  ⟨⟨some 8, Op.assign (Operand.const (Value.bool false)), none⟩, []⟩]) (.seq (.seq (.reg [⟨⟨some 9, Op.move (Operand.tmp 3), none⟩, []⟩]) (.cond (Operand.tmp 9) (.seq (.reg [⟨⟨some 10, Op.move (Operand.tmp 0), none⟩, []⟩,
  ⟨⟨some 11, Op.load 76 (Operand.tmp 5), none⟩, []⟩,
  ⟨⟨some 13, Op.move (Operand.tmp 0), none⟩, []⟩,
  ⟨⟨some 14, Op.load 76 (Operand.tmp 6), none⟩, []⟩,
  ⟨⟨some 12, Op.call { callee := (Callee.value (Operand.func 161)), args := #[(Operand.tmp 10), (Operand.tmp 11)], argTypes := #[32, 76] }, none⟩, [⟨some 14, Op.load 76 (Operand.tmp 6), none⟩]⟩,
  ⟨⟨some 15, Op.call { callee := (Callee.value (Operand.func 161)), args := #[(Operand.tmp 13), (Operand.tmp 14)], argTypes := #[32, 76] }, none⟩, []⟩,
  ⟨⟨some 16, Op.binOp BinOp.lss 3 (Operand.tmp 12) (Operand.tmp 15) 3, none⟩, []⟩,
  ⟨⟨some 8, Op.assign (Operand.tmp 16), none⟩, []⟩]) .ret) .skip)) (.seq (.reg [⟨⟨some 17, Op.indexAddr 76 (Operand.tmp 5) (Operand.const (Value.int IntKind.i64 0)), none⟩, []⟩,
  ⟨⟨some 18, Op.load 3 (Operand.tmp 17), none⟩, []⟩,
  ⟨⟨some 19, Op.indexAddr 76 (Operand.tmp 6) (Operand.const (Value.int IntKind.i64 0)), none⟩, []⟩,
  ⟨⟨some 20, Op.load 3 (Operand.tmp 19), none⟩, []⟩,
  ⟨⟨some 21, Op.binOp BinOp.lss 3 (Operand.tmp 18) (Operand.tmp 20) 3, none⟩, []⟩,
  ⟨⟨some 22, Op.move (Operand.tmp 21), none⟩, []⟩,
  ⟨⟨some 23, Op.indexAddr 76 (Operand.tmp 5) (Operand.const (Value.int IntKind.i64 0)), some (22, false)⟩, []⟩,
  ⟨⟨some 24, Op.load 3 (Operand.tmp 23), some (22, false)⟩, []⟩,
  ⟨⟨some 25, Op.indexAddr 76 (Operand.tmp 6) (Operand.const (Value.int IntKind.i64 0)), some (22, false)⟩, []⟩,
  ⟨⟨some 26, Op.load 3 (Operand.tmp 25), some (22, false)⟩, []⟩,
  ⟨⟨some 27, Op.binOp BinOp.eql 3 (Operand.tmp 24) (Operand.tmp 26) 3, some (22, false)⟩, []⟩,
  ⟨⟨some 28, Op.move (Operand.tmp 27), some (22, false)⟩, []⟩,
  ⟨⟨some 29, Op.indexAddr 76 (Operand.tmp 5) (Operand.const (Value.int IntKind.i64 1)), some (28, true)⟩, []⟩,
  ⟨⟨some 30, Op.load 3 (Operand.tmp 29), some (28, true)⟩, []⟩,
  ⟨⟨some 31, Op.indexAddr 76 (Operand.tmp 6) (Operand.const (Value.int IntKind.i64 1)), some (28, true)⟩, []⟩,
  ⟨⟨some 32, Op.load 3 (Operand.tmp 31), some (28, true)⟩, []⟩,
  ⟨⟨some 33, Op.binOp BinOp.lss 3 (Operand.tmp 30) (Operand.tmp 32) 3, some (28, true)⟩, []⟩,
  ⟨⟨some 34, Op.pick (Operand.tmp 28) (Operand.tmp 33) (Operand.const (Value.bool false)), some (22, false)⟩, []⟩,
  ⟨⟨some 35, Op.pick (Operand.tmp 22) (Operand.const (Value.bool true)) (Operand.tmp 34), none⟩, []⟩,
  ⟨⟨some 8, Op.assign (Operand.tmp 35), none⟩, []⟩]) .ret)))
theorem sl131 : slim Try.f131.ntmps ords131 (Try.f131.body.getD .skip) = some cd131 := by kernel_rfl
theorem in131 {args : List Value} {H : AH} {R : Value → AH → Prop} (hl : args.length = 4) (h : ∀ (Q : Exit → Sl → AH → Prop), (∀ e s H, endA Try.prog [ResultVar.tmp 8] R e s H → Q e s H) → wpC Try.prog cd131 Q (enterA args) H) : ACalls Try.prog 131 args H R :=
  ACalls.intro (by kernel_rfl) Try.func131 rfl (by kernel_rfl) sl131 hl (of_decide_eq_true (by kernel_rfl)) (by kernel_rfl) h

/- loop.example/g01128/spec.l9Steps -/
def ords82 : List (Nat × List (Nat × Bool)) := [(8, [(0, false), (1, false), (2, false), (3, false), (4, false), (8, false), (9, false), (5, true), (6, false), (7, false), (10, true), (11, false), (12, false), (13, false), (14, false), (15, false), (16, false), (17, false), (18, false), (19, false), (20, false), (21, false), (22, false), (23, false), (24, false), (25, false), (26, false), (27, false), (28, false), (29, true), (30, false), (31, false)])]
def cd82 : Cd := (.seq (.reg [⟨⟨some 4, Op.box 28 (Operand.tmp 0), none⟩, []⟩,
  ⟨⟨some 8, Op.assign (Operand.const (Value.slice none 0 0)), none⟩, []⟩]) (.seq (.reg [⟨⟨some 14, Op.buildSlice 22 0 #[], none⟩, []⟩,
  ⟨⟨some 9, Op.assign (Operand.tmp 14), none⟩, []⟩]) (.seq (.block 0 (.loop (.seq (.seq (.reg [⟨⟨some 15, Op.move (Operand.tmp 1), none⟩, []⟩,
  ⟨⟨some 16, Op.move (Operand.tmp 2), none⟩, []⟩,
  ⟨⟨some 17, Op.call { callee := (Callee.value (Operand.func 68)), args := #[(Operand.tmp 16)], argTypes := #[32] }, none⟩, []⟩,
  ⟨⟨some 18, Op.indexAddr 32 (Operand.tmp 15) (Operand.tmp 17), none⟩, []⟩,
  ⟨⟨some 19, Op.load 3 (Operand.tmp 18), none⟩, []⟩,
  ⟨⟨some 20, Op.binOp BinOp.gtr 3 (Operand.tmp 19) (Operand.const (Value.int IntKind.i64 0)) 3, none⟩, []⟩]) (.cond (Operand.tmp 20) .skip (.exit 0))) (.block 1 (.seq (.reg [⟨⟨some 22, Op.load 28 (Operand.tmp 4), none⟩, []⟩,
  ⟨⟨some 23, Op.move (Operand.tmp 2), none⟩, []⟩,
  ⟨⟨some 24, Op.move (Operand.tmp 3), none⟩, []⟩,
  ⟨⟨some 25, Op.call { callee := (Callee.value (Operand.func 122)), args := #[(Operand.tmp 22), (Operand.tmp 23), (Operand.tmp 24)], argTypes := #[28, 32, 4] }, none⟩, []⟩,
  ⟨⟨some 21, Op.move (Operand.tmp 25), none⟩, []⟩,
  ⟨⟨some 26, Op.extract (Operand.tmp 21) 0, none⟩, []⟩,
  ⟨⟨some 27, Op.extract (Operand.tmp 21) 1, none⟩, []⟩,
  ⟨⟨some 10, Op.assign (Operand.tmp 26), none⟩, []⟩,
  ⟨⟨some 11, Op.assign (Operand.tmp 27), none⟩, []⟩]) (.seq (.reg [⟨⟨some 12, Op.assign (Operand.const (Value.int IntKind.i64 (-1))), none⟩, []⟩]) (.seq (.seq (.reg [⟨⟨some 13, Op.assign (Operand.const (Value.int IntKind.i64 0)), none⟩, []⟩]) (.block 2 (.loop (.seq (.seq (.reg [⟨⟨some 28, Op.move (Operand.tmp 13), none⟩, []⟩,
  ⟨⟨some 29, Op.move (Operand.tmp 10), none⟩, []⟩,
  ⟨⟨some 30, Op.call { callee := (Callee.builtin Builtin.len), args := #[(Operand.tmp 29)], argTypes := #[38] }, none⟩, []⟩,
  ⟨⟨some 31, Op.binOp BinOp.lss 3 (Operand.tmp 28) (Operand.tmp 30) 3, none⟩, []⟩]) (.cond (Operand.tmp 31) .skip (.exit 2))) (.seq (.block 3 (.seq (.reg [⟨⟨some 34, Op.move (Operand.tmp 1), none⟩, []⟩,
  ⟨⟨some 35, Op.move (Operand.tmp 10), none⟩, []⟩,
  ⟨⟨some 36, Op.move (Operand.tmp 13), none⟩, []⟩,
  ⟨⟨some 37, Op.indexAddr 38 (Operand.tmp 35) (Operand.tmp 36), none⟩, []⟩,
  ⟨⟨some 38, Op.load 32 (Operand.tmp 37), none⟩, []⟩,
  ⟨⟨some 42, Op.move (Operand.tmp 1), none⟩, []⟩,
  ⟨⟨some 43, Op.move (Operand.tmp 2), none⟩, []⟩,
  ⟨⟨some 39, Op.call { callee := (Callee.value (Operand.func 68)), args := #[(Operand.tmp 38)], argTypes := #[32] }, none⟩, []⟩,
  ⟨⟨some 40, Op.indexAddr 32 (Operand.tmp 34) (Operand.tmp 39), none⟩, []⟩,
  ⟨⟨some 41, Op.load 3 (Operand.tmp 40), none⟩, []⟩,
  ⟨⟨some 44, Op.call { callee := (Callee.value (Operand.func 68)), args := #[(Operand.tmp 43)], argTypes := #[32] }, none⟩, [⟨some 41, Op.load 3 (Operand.tmp 40), none⟩]⟩,
  ⟨⟨some 45, Op.indexAddr 32 (Operand.tmp 42) (Operand.tmp 44), none⟩, []⟩,
  ⟨⟨some 46, Op.load 3 (Operand.tmp 45), none⟩, []⟩,
  ⟨⟨some 47, Op.binOp BinOp.sub 3 (Operand.tmp 46) (Operand.const (Value.int IntKind.i64 1)) 3, none⟩, []⟩,
  ⟨⟨some 48, Op.binOp BinOp.eql 3 (Operand.tmp 41) (Operand.tmp 47) 3, none⟩, []⟩,
  ⟨⟨some 49, Op.move (Operand.tmp 48), none⟩, []⟩,
  ⟨⟨some 50, Op.move (Operand.tmp 12), some (49, true)⟩, []⟩,
  ⟨⟨some 51, Op.binOp BinOp.lss 3 (Operand.tmp 50) (Operand.const (Value.int IntKind.i64 0)) 3, some (49, true)⟩, []⟩,
  ⟨⟨some 52, Op.move (Operand.tmp 51), some (49, true)⟩, []⟩,
  ⟨⟨some 53, Op.move (Operand.tmp 2), some (52, false)⟩, []⟩,
  ⟨⟨some 54, Op.move (Operand.tmp 11), some (52, false)⟩, []⟩,
  ⟨⟨some 55, Op.move (Operand.tmp 13), some (52, false)⟩, []⟩,
  ⟨⟨some 56, Op.indexAddr 22 (Operand.tmp 54) (Operand.tmp 55), some (52, false)⟩, []⟩,
  ⟨⟨some 57, Op.load 76 (Operand.tmp 56), some (52, false)⟩, []⟩,
  ⟨⟨some 58, Op.move (Operand.tmp 11), some (52, false)⟩, []⟩,
  ⟨⟨some 59, Op.move (Operand.tmp 12), some (52, false)⟩, []⟩,
  ⟨⟨some 60, Op.indexAddr 22 (Operand.tmp 58) (Operand.tmp 59), some (52, false)⟩, []⟩,
  ⟨⟨some 61, Op.load 76 (Operand.tmp 60), some (52, false)⟩, []⟩,
  ⟨⟨some 62, Op.move (Operand.tmp 3), some (52, false)⟩, []⟩,
  ⟨⟨some 63, Op.call { callee := (Callee.value (Operand.func 131)), args := #[(Operand.tmp 53), (Operand.tmp 57), (Operand.tmp 61), (Operand.tmp 62)], argTypes := #[32, 76, 76, 4] }, some (52, false)⟩, []⟩,
  ⟨⟨some 64, Op.pick (Operand.tmp 52) (Operand.const (Value.bool true)) (Operand.tmp 63), some (49, true)⟩, []⟩,
  ⟨⟨some 65, Op.pick (Operand.tmp 49) (Operand.tmp 64) (Operand.const (Value.bool false)), none⟩, []⟩]) (.cond (Operand.tmp 65) (.reg [⟨⟨some 66, Op.move (Operand.tmp 13), none⟩, []⟩,
  ⟨⟨some 12, Op.assign (Operand.tmp 66), none⟩, []⟩]) .skip))) (.reg [⟨⟨some 32, Op.move (Operand.tmp 13), none⟩, []⟩,
  ⟨⟨some 33, Op.binOp BinOp.add 3 (Operand.tmp 32) (Operand.const (Value.int IntKind.i64 1)) 3, none⟩, []⟩,
  ⟨⟨some 13, Op.assign (Operand.tmp 33), none⟩, []⟩])))))) (.seq (.reg [⟨⟨some 67, Op.move (Operand.tmp 9), none⟩, []⟩,
  ⟨⟨some 68, Op.move (Operand.tmp 11), none⟩, []⟩,
  ⟨⟨some 69, Op.move (Operand.tmp 12), none⟩, []⟩,
  ⟨⟨some 70, Op.indexAddr 22 (Operand.tmp 68) (Operand.tmp 69), none⟩, []⟩,
  ⟨⟨some 71, Op.load 76 (Operand.tmp 70), none⟩, []⟩,
  ⟨⟨some 72, Op.buildSlice 22 1 #[(0, (Operand.tmp 71))], none⟩, []⟩,
  ⟨⟨some 73, Op.call { callee := (Callee.builtin Builtin.append), args := #[(Operand.tmp 67), (Operand.tmp 72)], argTypes := #[22, 22] }, none⟩, []⟩,
  ⟨⟨some 9, Op.assign (Operand.tmp 73), none⟩, []⟩]) (.reg [⟨⟨some 74, Op.move (Operand.tmp 10), none⟩, []⟩,
  ⟨⟨some 75, Op.move (Operand.tmp 12), none⟩, []⟩,
  ⟨⟨some 76, Op.indexAddr 38 (Operand.tmp 74) (Operand.tmp 75), none⟩, []⟩,
  ⟨⟨some 77, Op.load 32 (Operand.tmp 76), none⟩, []⟩,
  ⟨⟨some 2, Op.assign (Operand.tmp 77), none⟩, []⟩]))))))))) (.seq (.reg [⟨⟨some 78, Op.move (Operand.tmp 9), none⟩, []⟩,
  ⟨⟨some 8, Op.assign (Operand.tmp 78), none⟩, []⟩]) .ret))))
theorem sl82 : slim Try.f82.ntmps ords82 (Try.f82.body.getD .skip) = some cd82 := by kernel_rfl
theorem in82 {args : List Value} {H : AH} {R : Value → AH → Prop} (hl : args.length = 4) (h : ∀ (Q : Exit → Sl → AH → Prop), (∀ e s H, endA Try.prog [ResultVar.tmp 8] R e s H → Q e s H) → wpC Try.prog cd82 Q (enterA args) H) : ACalls Try.prog 82 args H R :=
  ACalls.intro (by kernel_rfl) Try.func82 rfl (by kernel_rfl) sl82 hl (of_decide_eq_true (by kernel_rfl)) (by kernel_rfl) h

/- loop.example/g01128/spec.TokenSwaps -/
def ords36 : List (Nat × List (Nat × Bool)) := [(3, [(0, false), (1, false), (2, false), (3, true), (4, true), (5, false)])]
def cd36 : Cd := (.seq (.reg [⟨⟨some 2, Op.box 28 (Operand.tmp 0), none⟩, []⟩,
  ⟨⟨some 4, Op.assign (Operand.const (Value.slice none 0 0)), none⟩, []⟩,
  ⟨⟨some 5, Op.assign (Operand.const (Value.bool false)), none⟩, []⟩]) (.seq (.seq (.reg [⟨⟨some 7, Op.load 28 (Operand.tmp 2), none⟩, []⟩,
  ⟨⟨some 8, Op.move (Operand.tmp 1), none⟩, []⟩,
  ⟨⟨some 9, Op.call { callee := (Callee.value (Operand.func 64)), args := #[(Operand.tmp 7), (Operand.tmp 8)], argTypes := #[28, 32] }, none⟩, []⟩,
  ⟨⟨some 10, Op.unOp UnOp.not 4 (Operand.tmp 9), none⟩, []⟩]) (.cond (Operand.tmp 10) (.seq (.reg [⟨⟨some 11, Op.buildSlice 22 0 #[], none⟩, []⟩,
  ⟨⟨some 4, Op.assign (Operand.tmp 11), none⟩, []⟩,
  ⟨⟨some 5, Op.assign (Operand.const (Value.bool false)), none⟩, []⟩]) .ret) .skip)) (.seq (.reg [⟨⟨some 12, Op.load 28 (Operand.tmp 2), none⟩, []⟩,
  ⟨⟨some 13, Op.fieldAddr 28 (Operand.tmp 2) 0, none⟩, []⟩,
  ⟨⟨some 14, Op.load 3 (Operand.tmp 13), none⟩, []⟩,
  ⟨⟨some 15, Op.call { callee := (Callee.value (Operand.func 67)), args := #[(Operand.tmp 14)], argTypes := #[3] }, none⟩, [⟨some 12, Op.load 28 (Operand.tmp 2), none⟩]⟩,
  ⟨⟨some 16, Op.call { callee := (Callee.value (Operand.func 66)), args := #[(Operand.tmp 12), (Operand.tmp 15), (Operand.const (Value.bool false))], argTypes := #[28, 32, 4] }, none⟩, []⟩,
  ⟨⟨some 6, Op.assign (Operand.tmp 16), none⟩, []⟩]) (.seq (.seq (.reg [⟨⟨some 17, Op.move (Operand.tmp 6), none⟩, []⟩,
  ⟨⟨some 18, Op.move (Operand.tmp 1), none⟩, []⟩,
  ⟨⟨some 19, Op.call { callee := (Callee.value (Operand.func 68)), args := #[(Operand.tmp 18)], argTypes := #[32] }, none⟩, []⟩,
  ⟨⟨some 20, Op.indexAddr 32 (Operand.tmp 17) (Operand.tmp 19), none⟩, []⟩,
  ⟨⟨some 21, Op.load 3 (Operand.tmp 20), none⟩, []⟩,
  ⟨⟨some 22, Op.binOp BinOp.lss 3 (Operand.tmp 21) (Operand.const (Value.int IntKind.i64 0)) 3, none⟩, []⟩]) (.cond (Operand.tmp 22) (.seq (.reg [⟨⟨some 23, Op.buildSlice 22 0 #[], none⟩, []⟩,
  ⟨⟨some 4, Op.assign (Operand.tmp 23), none⟩, []⟩,
  ⟨⟨some 5, Op.assign (Operand.const (Value.bool false)), none⟩, []⟩]) .ret) .skip)) (.seq (.reg [⟨⟨some 24, Op.load 28 (Operand.tmp 2), none⟩, []⟩,
  ⟨⟨some 25, Op.move (Operand.tmp 6), none⟩, []⟩,
  ⟨⟨some 26, Op.move (Operand.tmp 1), none⟩, []⟩,
  ⟨⟨some 27, Op.call { callee := (Callee.value (Operand.func 82)), args := #[(Operand.tmp 24), (Operand.tmp 25), (Operand.tmp 26), (Operand.const (Value.bool false))], argTypes := #[28, 32, 32, 4] }, none⟩, []⟩,
  ⟨⟨some 4, Op.assign (Operand.tmp 27), none⟩, []⟩,
  ⟨⟨some 5, Op.assign (Operand.const (Value.bool true)), none⟩, []⟩]) .ret)))))
theorem sl36 : slim Try.f36.ntmps ords36 (Try.f36.body.getD .skip) = some cd36 := by kernel_rfl
theorem in36 {args : List Value} {H : AH} {R : Value → AH → Prop} (hl : args.length = 2) (h : ∀ (Q : Exit → Sl → AH → Prop), (∀ e s H, endA Try.prog [ResultVar.tmp 4, ResultVar.tmp 5] R e s H → Q e s H) → wpC Try.prog cd36 Q (enterA args) H) : ACalls Try.prog 36 args H R :=
  ACalls.intro (by kernel_rfl) Try.func36 rfl (by kernel_rfl) sl36 hl (of_decide_eq_true (by kernel_rfl)) (by kernel_rfl) h

/- loop.example/g01128/spec.TokenDistance -/
def ords22 : List (Nat × List (Nat × Bool)) := [(3, [(0, false), (1, false), (2, false), (5, false), (3, true), (4, true), (6, true), (7, false), (8, false), (9, true), (10, false), (11, false), (12, false), (13, false)])]
def cd22 : Cd := (.seq (.reg [⟨⟨some 2, Op.box 28 (Operand.tmp 0), none⟩, []⟩,
  ⟨⟨some 4, Op.assign (Operand.const (Value.int IntKind.i64 0)), none⟩, []⟩,
  ⟨⟨some 5, Op.assign (Operand.const (Value.bool false)), none⟩, []⟩]) (.seq (.seq (.reg [⟨⟨some 6, Op.load 28 (Operand.tmp 2), none⟩, []⟩,
  ⟨⟨some 7, Op.move (Operand.tmp 1), none⟩, []⟩,
  ⟨⟨some 8, Op.call { callee := (Callee.value (Operand.func 64)), args := #[(Operand.tmp 6), (Operand.tmp 7)], argTypes := #[28, 32] }, none⟩, []⟩,
  ⟨⟨some 9, Op.unOp UnOp.not 4 (Operand.tmp 8), none⟩, []⟩]) (.cond (Operand.tmp 9) (.seq (.reg [⟨⟨some 4, Op.assign (Operand.const (Value.int IntKind.i64 0)), none⟩, []⟩,
  ⟨⟨some 5, Op.assign (Operand.const (Value.bool false)), none⟩, []⟩]) .ret) .skip)) (.seq (.reg [⟨⟨some 10, Op.load 28 (Operand.tmp 2), none⟩, []⟩,
  ⟨⟨some 11, Op.fieldAddr 28 (Operand.tmp 2) 0, none⟩, []⟩,
  ⟨⟨some 12, Op.load 3 (Operand.tmp 11), none⟩, []⟩,
  ⟨⟨some 15, Op.move (Operand.tmp 1), none⟩, []⟩,
  ⟨⟨some 13, Op.call { callee := (Callee.value (Operand.func 67)), args := #[(Operand.tmp 12)], argTypes := #[3] }, none⟩, [⟨some 10, Op.load 28 (Operand.tmp 2), none⟩]⟩,
  ⟨⟨some 14, Op.call { callee := (Callee.value (Operand.func 66)), args := #[(Operand.tmp 10), (Operand.tmp 13), (Operand.const (Value.bool false))], argTypes := #[28, 32, 4] }, none⟩, []⟩,
  ⟨⟨some 16, Op.call { callee := (Callee.value (Operand.func 68)), args := #[(Operand.tmp 15)], argTypes := #[32] }, none⟩, []⟩,
  ⟨⟨some 17, Op.indexAddr 32 (Operand.tmp 14) (Operand.tmp 16), none⟩, []⟩,
  ⟨⟨some 18, Op.load 3 (Operand.tmp 17), none⟩, []⟩,
  ⟨⟨some 19, Op.call { callee := (Callee.value (Operand.func 65)), args := #[(Operand.tmp 18)], argTypes := #[3] }, none⟩, []⟩,
  ⟨⟨some 20, Op.extract (Operand.tmp 19) 0, none⟩, []⟩,
  ⟨⟨some 21, Op.extract (Operand.tmp 19) 1, none⟩, []⟩,
  ⟨⟨some 4, Op.assign (Operand.tmp 20), none⟩, []⟩,
  ⟨⟨some 5, Op.assign (Operand.tmp 21), none⟩, []⟩]) .ret)))
theorem sl22 : slim Try.f22.ntmps ords22 (Try.f22.body.getD .skip) = some cd22 := by kernel_rfl
theorem in22 {args : List Value} {H : AH} {R : Value → AH → Prop} (hl : args.length = 2) (h : ∀ (Q : Exit → Sl → AH → Prop), (∀ e s H, endA Try.prog [ResultVar.tmp 4, ResultVar.tmp 5] R e s H → Q e s H) → wpC Try.prog cd22 Q (enterA args) H) : ACalls Try.prog 22 args H R :=
  ACalls.intro (by kernel_rfl) Try.func22 rfl (by kernel_rfl) sl22 hl (of_decide_eq_true (by kernel_rfl)) (by kernel_rfl) h
end Go.Proofs.Ythhnpchjjbjabaa.Ai

namespace Go.Proofs.Ythhnpchjjbjabaa.Ai
open Go Go.RowKit
set_option linter.unusedVariables false
set_option linter.unusedSimpArgs false

theorem noInt_pr (vs : List Value) (ro : Bool) : NoInt (.cells vs 76 ro) := fun ws r h => by
  simp only [AObj.cells.injEq] at h
  exact absurd h.2.1 (by decide)
theorem Row.keptPr {H0 H H' : AH} {x v : Value} {xs : List Int} {ps : List (Int × Int)} (h : Row 3 H x xs) (hm : MineP 76 H0 H v ps) (hk : Kept v H H') : Row 3 H' x xs := by
  rcases hm with g | ⟨oo, zs, g1, g2, g3, g4⟩
  · exact h.mono fun y hy => hk _ _ (.inl g.1) hy
  · exact h.but g3 (noInt_pr _ _) fun j y hj hy => hk j y (.inr (by rw [g1]; exact hj)) hy

set_option maxRecDepth 20000 in
set_option maxHeartbeats 1000000 in
theorem l9Other_c (w : Value) (p : List Int) (a b : Nat) (H : AH) (hx : Row 3 H w p) (ha : a < p.length) :
    ACalls Try.prog 161 [w, .agg (List.toArray [.int .i64 (a : Int), .int .i64 (b : Int)])] H fun r H' => r = .int .i64 (othB p ((a : Int), (b : Int))) ∧ H <+: H' := by
  refine in161 rfl ?_
  intro Q hQ
  simp (maxSteps := 1000000) (disch := omega) only [cd161, box_a2, S, S1, S2, S3, S4, S5, ST, eq_self, reduceIte, reduceCtorEq, Nat.reduceEqDiff, Nat.reduceAdd]
  generalize hA : H ++ [AObj.cells [.int .i64 (a : Int), .int .i64 (b : Int)] 76 false] = A
  have pA : H <+: A := by rw [← hA]; exact List.prefix_append _ _
  have cA : A[H.length]? = some (.cells [.int .i64 (a : Int), .int .i64 (b : Int)] 76 false) := by rw [← hA]; exact at_new ..
  have hxA := hx.pre pA
  have ho : othB p ((a : Int), (b : Int)) = if p.getD a 0 = 0 then (b : Int) else (a : Int) := by unfold othB; simp only [Int.toNat_natCast]
  simp (maxSteps := 1000000) (disch := omega) only [cell_of cA, hxA.ix Try.underlying32 cs3, hxA.cell, Int.toNat_natCast, S, S1, S2, S3, S4, S5, ST, eq_self, reduceIte, reduceCtorEq, Nat.reduceEqDiff, Nat.reduceAdd]
  refine brD.intro (fun e => ?_) (fun e => ?_) <;> simp (maxSteps := 1000000) (disch := omega) only [cell_of cA, S, S1, S2, S3, S4, S5, ST, eq_self, reduceIte, reduceCtorEq, Nat.reduceEqDiff, Nat.reduceAdd] <;> refine hQ _ _ _ ?_ <;> simp (maxSteps := 1000000) (disch := omega) only [S, S1, S2, S3, S4, S5, ST, eq_self, reduceIte, reduceCtorEq, Nat.reduceEqDiff, Nat.reduceAdd]
  · rw [ho, if_pos e]; exact ⟨rfl, pA⟩
  · rw [ho, if_neg e]; exact ⟨rfl, pA⟩

/-- does a move come first -/
def fstB (sl : Bool) (p : List Int) (x y : Int × Int) : Bool := if sl = true then decide (othB p x < othB p y) else decide (pairLt x y)
set_option maxRecDepth 20000 in
set_option maxHeartbeats 4000000 in
theorem l9First_c (sl : Bool) (w : Value) (p : List Int) (a b c d : Nat) (H : AH) (hx : Row 3 H w p) (ha : a < p.length) (hc : c < p.length) :
    ACalls Try.prog 131 [w, .agg (List.toArray [.int .i64 (a : Int), .int .i64 (b : Int)]), .agg (List.toArray [.int .i64 (c : Int), .int .i64 (d : Int)]), .bool sl] H fun r H' => r = .bool (fstB sl p ((a : Int), (b : Int)) ((c : Int), (d : Int))) ∧ H <+: H' := by
  refine in131 rfl ?_
  intro Q hQ
  simp (maxSteps := 1000000) (disch := omega) only [cd131, box_a2, S, S1, S2, S3, S4, S5, ST, eq_self, reduceIte, reduceCtorEq, Nat.reduceEqDiff, Nat.reduceAdd]
  generalize hA : H ++ [AObj.cells [.int .i64 (a : Int), .int .i64 (b : Int)] 76 false] = A
  have pA : H <+: A := by rw [← hA]; exact List.prefix_append _ _
  have cA : A[H.length]? = some (.cells [.int .i64 (a : Int), .int .i64 (b : Int)] 76 false) := by rw [← hA]; exact at_new ..
  generalize hB : A ++ [AObj.cells [.int .i64 (c : Int), .int .i64 (d : Int)] 76 false] = B
  have pB : A <+: B := by rw [← hB]; exact List.prefix_append _ _
  have cB : B[A.length]? = some (.cells [.int .i64 (c : Int), .int .i64 (d : Int)] 76 false) := by rw [← hB]; exact at_new ..
  have cBA := pre_at pB cA
  have hxB := (hx.pre pA).pre pB
  cases sl with
  | true =>
    simp (maxSteps := 1000000) (disch := omega) only [ld_a2 cBA, ld_a2 cB, S, S1, S2, S3, S4, S5, ST, eq_self, reduceIte, reduceCtorEq, Nat.reduceEqDiff, Nat.reduceAdd]
    refine CallH.by (l9Other_c w p a b B hxB ha) ?_
    rintro _ C ⟨rfl, pC⟩
    simp (maxSteps := 1000000) (disch := omega) only [ld_a2 (pre_at pC cB), S, S1, S2, S3, S4, S5, ST, eq_self, reduceIte, reduceCtorEq, Nat.reduceEqDiff, Nat.reduceAdd]
    refine CallH.by (l9Other_c w p c d C (hxB.pre pC) hc) ?_
    rintro _ D ⟨rfl, pD⟩
    simp (maxSteps := 1000000) (disch := omega) only [S, S1, S2, S3, S4, S5, ST, eq_self, reduceIte, reduceCtorEq, Nat.reduceEqDiff, Nat.reduceAdd]
    refine hQ _ _ _ ?_
    simp (maxSteps := 1000000) (disch := omega) only [S, S1, S2, S3, S4, S5, ST, eq_self, reduceIte, reduceCtorEq, Nat.reduceEqDiff, Nat.reduceAdd]
    exact ⟨rfl, pA.trans (pB.trans (pC.trans pD))⟩
  | false =>
    have hp : fstB false p ((a : Int), (b : Int)) ((c : Int), (d : Int)) = decide ((a : Int) < c ∨ (a : Int) = c ∧ (b : Int) < d) := rfl
    rw [hp] at hQ
    simp (maxSteps := 1000000) (disch := omega) only [cell_of cBA, cell_of cB, S, S1, S2, S3, S4, S5, ST, eq_self, reduceIte, reduceCtorEq, Nat.reduceEqDiff, Nat.reduceAdd]
    refine brD.intro (fun e1 => ?_) (fun e1 => ?_)
    · simp (maxSteps := 1000000) (disch := omega) only [e1, S, S1, S2, S3, S4, S5, ST, eq_self, reduceIte, reduceCtorEq, Nat.reduceEqDiff, Nat.reduceAdd]
      refine hQ _ _ _ ?_
      simp (maxSteps := 1000000) (disch := omega) only [S, S1, S2, S3, S4, S5, ST, eq_self, reduceIte, reduceCtorEq, Nat.reduceEqDiff, Nat.reduceAdd]
      exact ⟨by rw [decide_eq_true (.inl e1)], pA.trans pB⟩
    simp (maxSteps := 1000000) (disch := omega) only [e1, cell_of cBA, cell_of cB, S, S1, S2, S3, S4, S5, ST, eq_self, reduceIte, reduceCtorEq, Nat.reduceEqDiff, Nat.reduceAdd]
    refine brD.intro (fun e2 => ?_) (fun e2 => ?_)
    · simp (maxSteps := 1000000) (disch := omega) only [e1, e2, cell_of cBA, cell_of cB, S, S1, S2, S3, S4, S5, ST, eq_self, reduceIte, reduceCtorEq, Nat.reduceEqDiff, Nat.reduceAdd]
      refine hQ _ _ _ ?_
      simp (maxSteps := 1000000) (disch := omega) only [S, S1, S2, S3, S4, S5, ST, eq_self, reduceIte, reduceCtorEq, Nat.reduceEqDiff, Nat.reduceAdd]
      refine ⟨?_, pA.trans pB⟩
      rw [Value.bool.injEq, decide_eq_decide]
      omega
    · simp (maxSteps := 1000000) (disch := omega) only [e1, e2, S, S1, S2, S3, S4, S5, ST, eq_self, reduceIte, reduceCtorEq, Nat.reduceEqDiff, Nat.reduceAdd]
      refine hQ _ _ _ ?_
      simp (maxSteps := 1000000) (disch := omega) only [S, S1, S2, S3, S4, S5, ST, eq_self, reduceIte, reduceCtorEq, Nat.reduceEqDiff, Nat.reduceAdd]
      refine ⟨?_, pA.trans pB⟩
      rw [Value.bool.injEq, eq_comm, decide_eq_false_iff_not]
      omega

/-- later moves do not come first -/
theorem fstB_no {n : Nat} {es : List (Int × Int)} (hg : Grd (n : Int) es) {sl : Bool} (hsl : sl = true → 1 ≤ n) {q : List Int} (hq : Bd n q) {i j : Nat} (hij : i < j) (hj : j < (mvs es sl q).length) : fstB sl q ((mvs es sl q).getD j (0, 0)) ((mvs es sl q).getD i (0, 0)) = false := by
  have hi : i < (mvs es sl q).length := by omega
  have e1 : (mvs es sl q).getD j (0, 0) = (mvs es sl q)[j] := by simp [hj]
  have e2 : (mvs es sl q).getD i (0, 0) = (mvs es sl q)[i] := by simp [hi]
  rw [e1, e2]
  unfold fstB
  cases sl with
  | true =>
    obtain ⟨h, h1, h2, h3⟩ := hole_of hq (hsl rfl)
    have := (oth_srt hg hq h1 h3).1
    rw [List.pairwise_map, List.pairwise_iff_getElem] at this
    have := this i j hi hj hij
    rw [if_pos rfl, decide_eq_false_iff_not]
    omega
  | false =>
    have hp : (mvs es false q).Pairwise pairLt := (grd_pw hg).filter _
    rw [List.pairwise_iff_getElem] at hp
    have := hp i j hi hj hij
    rw [if_neg (by decide), decide_eq_false_iff_not]
    unfold pairLt at *
    omega

set_option maxRecDepth 20000 in
set_option maxHeartbeats 8000000 in
theorem l9Steps_c (n : Nat) (v fv w : Value) (es : List (Int × Int)) (p0 p : List Int) (sl : Bool) (d : Nat) (H : AH) (hr : RowP 76 H v es) (hlen : es.length ≤ 1000000) (hx : Row 3 H w p) (hg : Grd (n : Int) es) (hp0 : Bd n p0) (hp : Bd n p) (hn : n ≤ 6) (hsl : sl = true → 1 ≤ n)
    (hfv : Row 3 H fv (spL (mny n) (bdR es sl p0))) (hd : bdD (bdR es sl p0) p = some (d : Int)) (hd7 : d ≤ 720) :
    ACalls Try.prog 82 [.agg (List.toArray [.int .i64 (n : Int), v]), fv, w, .bool sl] H fun r H' => MineP 76 H H' r ((pthL (bdR es sl p0) es sl d p).map (·.1)) ∧ H <+: H' := by
  have hI := bdR_I hn hg sl hp0
  have hmn := mny_le hn
  have hslen := spL_len (mny n) (bdR es sl p0)
  have hat : ∀ b, Bd n b → ∀ x, bdD (bdR es sl p0) b = some x → ∃ z : Nat, cod b = (z : Int) ∧ z < (spL (mny n) (bdR es sl p0)).length ∧ (spL (mny n) (bdR es sl p0)).getD z 0 = x := by
    intro b hb x hx
    obtain ⟨z, hz, hzl⟩ := cod_nat hn hb
    have := spL_at hn hb hI.ok
    rw [hz, Int.toNat_natCast, hx] at this
    exact ⟨z, hz, by rw [hslen]; exact hzl, this⟩
  refine in82 rfl ?_
  intro Q hQ
  simp (maxSteps := 1000000) (disch := omega) only [cd82, hr.boxG, S, S1, S2, S3, S4, S5, ST, eq_self, reduceIte, reduceCtorEq, Nat.reduceEqDiff, Nat.reduceAdd]
  generalize hA : H ++ [AObj.cells [.int .i64 ↑n, v] 28 false] = A
  have pA : H <+: A := by rw [← hA]; exact List.prefix_append _ _
  have cA : A[H.length]? = some (.cells [.int .i64 ↑n, v] 28 false) := by rw [← hA]; exact at_new ..
  have rA := hr.pre pA
  try simp (maxSteps := 1000000) (disch := omega) only [S, S1, S2, S3, S4, S5, ST, eq_self, reduceIte, reduceCtorEq, Nat.reduceEqDiff, Nat.reduceAdd]
  generalize hB : A ++ [AObj.cells [] 76 false] = B
  have pB : A <+: B := by rw [← hB]; exact List.prefix_append _ _
  have lA : A.length = H.length + 1 := by rw [← hA]; simp
  have hm0 : MineP 76 A B (.slice (some ⟨A.length, 0, none⟩) 0 0) [] := by rw [← hB]; exact MineP.nil0 (P := Try.prog) A A (Nat.le_refl _)
  generalize hS : bdR es sl p0 = S0 at *
  generalize hF : spL (mny n) S0 = F at *
  refine LoopH.by (fun m s H' => ∃ (q : List Int) (out : List (Int × Int)), s 1 = fv ∧ s 3 = .bool sl ∧ s 4 = .pointer (some ⟨H.length, 0, none⟩) ∧ Row 3 H' (s 2) q ∧ Bd n q ∧ bdD S0 q = some ((m : Nat) : Int) ∧ m ≤ 720 ∧ out.length + m = d ∧ out ++ (pthL S0 es sl m q).map (·.1) = (pthL S0 es sl d p).map (·.1) ∧ MineP 76 A H' (s 9) out ∧ A <+: H') d ?_ ?_
  · refine ⟨p, [], ?_⟩
    have f1 := (hx.pre pA).pre pB
    simp (maxSteps := 1000000) (disch := omega) only [S, S1, S2, S3, S4, S5, ST, eq_self, reduceIte, reduceCtorEq, Nat.reduceEqDiff, Nat.reduceAdd]
    (repeat' first | exact f1 | exact hp | exact hd | exact hm0 | exact pB | apply And.intro) <;> first | (simp only [Value.int.injEq, true_and]; omega) | omega | rfl | assumption | (simp; done) | (simp; omega)
  rintro m s H' ⟨q, out, h1, h3, h4, hrq, hbq, hdq, hm7, hol, hout, hmo, hpA⟩
  generalize hU : s 9 = U at *
  generalize hW : s 2 = W at *
  have hrH := hr.pre (pA.trans hpA)
  have cH := pre_at hpA cA
  have hfH := hfv.pre (pA.trans hpA)
  obtain ⟨zq, hzq, hzql, hzqv⟩ := hat q hbq _ hdq
  have hcq := hfH.cell hzql
  rw [hzqv] at hcq
  have hql := hbq.2
  simp (maxSteps := 1000000) (disch := omega) only [h1, h3, h4, hU, hW, S, S1, S2, S3, S4, S5, ST, eq_self, reduceIte, reduceCtorEq, Nat.reduceEqDiff, Nat.reduceAdd]
  refine CallH.by (l9Code_c W q H' hrq (by omega)) ?_
  rintro _ _ ⟨rfl, rfl⟩
  rw [hzq]
  simp (maxSteps := 1000000) (disch := omega) only [h1, h3, h4, hU, hW, hfH.ix Try.underlying32 cs3, Int.toNat_natCast, hcq, S, S1, S2, S3, S4, S5, ST, eq_self, reduceIte, reduceCtorEq, Nat.reduceEqDiff, Nat.reduceAdd]
  refine brD.intro (fun g => ?_) (fun g => ?_)
  rotate_left
  · have hm0 : m = 0 := by omega
    subst hm0
    simp (maxSteps := 1000000) (disch := omega) only [hU, S, S1, S2, S3, S4, S5, ST, eq_self, reduceIte, reduceCtorEq, Nat.reduceEqDiff, Nat.reduceAdd]
    refine hQ _ _ _ ?_
    simp (maxSteps := 1000000) (disch := omega) only [hU, hmo.row.tup, S, S1, S2, S3, S4, S5, ST, eq_self, reduceIte, reduceCtorEq, Nat.reduceEqDiff, Nat.reduceAdd]
    have hout' : out = (pthL S0 es sl d p).map (·.1) := by rw [← hout]; simp [pthL]
    rw [← hout']
    exact ⟨hmo.base pA, pA.trans hpA⟩
  obtain ⟨m1, rfl⟩ : ∃ m1, m = m1 + 1 := ⟨m - 1, by omega⟩
  have hf0 := fst1_some hn hg sl hp0 (b := q) (d := m1) (by rw [hS]; exact hdq)
  rw [hS] at hf0
  obtain ⟨e1, hf1, hf2, hf3⟩ := hf0
  have hpth : (pthL S0 es sl (m1 + 1) q).map (·.1) = e1 :: (pthL S0 es sl m1 (swp q e1.1.toNat e1.2.toNat)).map (·.1) := by
    simp only [pthL, hf1, List.map_cons]
  rw [hpth] at hout
  -- where it stands
  have hidx : ∃ i1, i1 < (mvs es sl q).length ∧ (mvs es sl q).getD i1 (0, 0) = e1 ∧ ∀ j, j < i1 → bdD S0 (swp q ((mvs es sl q).getD j (0, 0)).1.toNat ((mvs es sl q).getD j (0, 0)).2.toNat) ≠ some (m1 : Int) := by
    have hf1' : (mvs es sl q).find? (fun e => decide (bdD S0 (swp q e.1.toNat e.2.toNat) = some (m1 : Int))) = some e1 := hf1
    rw [List.find?_eq_some_iff_getElem] at hf1'
    obtain ⟨_, i1, hi1, he1, hb1⟩ := hf1'
    refine ⟨i1, hi1, by simp [hi1, he1], fun j hj => ?_⟩
    have := hb1 j hj
    have hjl : j < (mvs es sl q).length := by omega
    have eg : (mvs es sl q).getD j (0, 0) = (mvs es sl q)[j] := by simp [hjl]
    rw [eg]
    simpa using this
  obtain ⟨i1, hi1, he1, hbef⟩ := hidx
  simp (maxSteps := 1000000) (disch := omega) only [h1, h3, h4, hU, hW, ld_agg ag28 cs28 cH, S, S1, S2, S3, S4, S5, ST, eq_self, reduceIte, reduceCtorEq, Nat.reduceEqDiff, Nat.reduceAdd]
  refine CallH.by (l9Next_c n v W es q sl H' hrH hlen hrq hg hbq) ?_
  rintro _ G ⟨L, M, rfl, hL, hM, pG⟩
  obtain ⟨us, hus, hul, heach⟩ := hL.parts
  have hnl := nxt_len es sl q
  have hml := mvs_len es sl q
  have hrM := hM.row
  have hfG := hfH.pre pG
  have hrqG := hrq.pre pG
  have cGG := pre_at pG cH
  have hNat : ∀ i, i < (mvs es sl q).length → (nxt es sl q).getD i [] = swp q ((mvs es sl q).getD i (0, 0)).1.toNat ((mvs es sl q).getD i (0, 0)).2.toNat := by
    intro i hi
    unfold nxt
    rw [List.getD_eq_getElem?_getD, List.getElem?_map, List.getElem?_eq_getElem hi]
    simp [hi]
  have hknown : ∀ i, i < (mvs es sl q).length → Bd n ((nxt es sl q).getD i []) ∧ ∃ x, bdD S0 ((nxt es sl q).getD i []) = some x := by
    intro i hi
    have hm : (nxt es sl q).getD i [] ∈ nxt es sl q := by
      have : i < (nxt es sl q).length := by omega
      simp [this]
    have hk := bdR_known hn hg sl hp0 (b := q) (d := ((m1 + 1 : Nat) : Int)) (by rw [hS]; exact hdq) hm
    rw [hS] at hk
    obtain ⟨x, hx, _⟩ := hk
    exact ⟨nxt_bd hg sl hbq _ hm, x, hx⟩
  have hends : ∀ i, i < (mvs es sl q).length → ∃ a b : Nat, (mvs es sl q).getD i (0, 0) = ((a : Int), (b : Int)) ∧ a < q.length := by
    intro i hi
    have hm : (mvs es sl q).getD i (0, 0) ∈ mvs es sl q := by simp [hi]
    obtain ⟨q1, q2, q3⟩ := grd_mem hg (mvs_mem hm).1
    generalize (mvs es sl q).getD i (0, 0) = e at *
    obtain ⟨x, y⟩ := e
    refine ⟨x.toNat, y.toNat, ?_, ?_⟩
    · simp only at q1 q2; rw [Int.toNat_of_nonneg q1, Int.toNat_of_nonneg (by omega)]
    · simp only at q1 q2 q3; omega
  simp (maxSteps := 1000000) (disch := omega) only [h1, h3, h4, hU, hW, S, S1, S2, S3, S4, S5, ST, eq_self, reduceIte, reduceCtorEq, Nat.reduceEqDiff, Nat.reduceAdd]
  refine LoopH.by (fun m' s' H2 => ∃ i : Nat, m' + i = (mvs es sl q).length ∧ s' 1 = fv ∧ s' 2 = W ∧ s' 3 = .bool sl ∧ s' 4 = .pointer (some ⟨H.length, 0, none⟩) ∧ s' 9 = U ∧ s' 10 = L ∧ s' 11 = M ∧ s' 12 = .int .i64 (if i ≤ i1 then -1 else (i1 : Int)) ∧ s' 13 = .int .i64 ((i : Nat) : Int) ∧ G <+: H2) (mvs es sl q).length ?_ ?_
  · refine ⟨0, by simp, ?_⟩
    simp (maxSteps := 1000000) (disch := omega) only [h1, h3, h4, hU, hW, S, S1, S2, S3, S4, S5, ST, eq_self, reduceIte, reduceCtorEq, Nat.reduceEqDiff, Nat.reduceAdd]
    rw [if_pos (Nat.zero_le i1)]
    (repeat' first | exact List.prefix_refl _ | apply And.intro) <;> first | (simp only [Value.int.injEq, true_and]; omega) | omega | rfl | assumption | (simp; done) | (simp; omega)
  · rintro m' s' H2 ⟨i, hm', k1, k2, k3, k4, k9, k10, k11, k12, k13, pH2⟩
    have hus2 := hus.pre pH2
    have hf2' := hfG.pre pH2
    have hq2 := hrqG.pre pH2
    have hrM2 := hrM.pre pH2
    simp (maxSteps := 1000000) (disch := omega) only [k1, k2, k3, k4, k9, k10, k11, k12, k13, hus2.len Try.underlying38, hul, hnl, S, S1, S2, S3, S4, S5, ST, eq_self, reduceIte, reduceCtorEq, Nat.reduceEqDiff, Nat.reduceAdd]
    refine brD.intro (fun g1 => ?_) (fun g1 => ?_)
    · have hi : i < (mvs es sl q).length := by omega
      have hiN : i < (nxt es sl q).length := by omega
      have hrow := ((heach i hiN).row.1).pre pH2
      have hcell := hus2.cell (show i < us.length by omega)
      obtain ⟨hcb, x, hcx⟩ := hknown i hi
      have hni := hNat i hi
      obtain ⟨a, b, hab, hal⟩ := hends i hi
      obtain ⟨a1, b1, hab1, hal1⟩ := hends i1 hi1
      have hno := fun hij => fstB_no hg hsl hbq (i := i1) (j := i) hij hi
      rw [hab, hab1] at hno
      have hldi := hrM2.ld (P := Try.prog) ag76 cs76 hi
      have hld1 := hrM2.ld (P := Try.prog) ag76 cs76 hi1
      rw [hab] at hldi
      rw [hab1] at hld1
      have hbi := hbef i
      rw [← hni, hcx] at hbi
      have hx1 : i = i1 → x = (m1 : Int) := fun e => by
        rw [e] at hcx hni
        rw [hni, he1, hf3] at hcx
        simpa using hcx.symm
      obtain ⟨zc, hzc, hzcl, hzcv⟩ := hat _ hcb x hcx
      have hcc := hf2'.cell hzcl
      rw [hzcv] at hcc
      have hcq2 := hf2'.cell hzql
      rw [hzqv] at hcq2
      generalize hc : (nxt es sl q).getD i [] = c at *
      have hcl := hcb.2
      have hm11 : ((m1 + 1 : Nat) : Int) - 1 = (m1 : Int) := by omega
      simp (maxSteps := 1000000) (disch := omega) only [k1, k2, k3, k4, k9, k10, k11, k12, k13, hus2.ix Try.underlying38 cs32, hcell, Int.toNat_natCast, S, S1, S2, S3, S4, S5, ST, eq_self, reduceIte, reduceCtorEq, Nat.reduceEqDiff, Nat.reduceAdd]
      refine CallH.by (l9Code_c _ c H2 hrow (by omega)) ?_
      rintro _ _ ⟨rfl, rfl⟩
      rw [hzc]
      simp (maxSteps := 1000000) (disch := omega) only [k1, k2, k3, k4, k9, k10, k11, k12, k13, hf2'.ix Try.underlying32 cs3, Int.toNat_natCast, hcc, S, S1, S2, S3, S4, S5, ST, eq_self, reduceIte, reduceCtorEq, Nat.reduceEqDiff, Nat.reduceAdd]
      refine CallH.by (l9Code_c W q H2 hq2 (by omega)) ?_
      rintro _ _ ⟨rfl, rfl⟩
      rw [hzq]
      simp (maxSteps := 1000000) (disch := omega) only [k1, k2, k3, k4, k9, k10, k11, k12, k13, hf2'.ix Try.underlying32 cs3, Int.toNat_natCast, hcc, hcq2, hm11, wrap64, S, S1, S2, S3, S4, S5, ST, eq_self, reduceIte, reduceCtorEq, Nat.reduceEqDiff, Nat.reduceAdd]
      by_cases e : x = (m1 : Int)
      · simp (maxSteps := 1000000) (disch := omega) only [decide_eq_true e, k1, k2, k3, k4, k9, k10, k11, k12, k13, S, S1, S2, S3, S4, S5, ST, eq_self, reduceIte, reduceCtorEq, Nat.reduceEqDiff, Nat.reduceAdd]
        have hge : ¬ i < i1 := fun h => hbi h (by rw [e])
        by_cases e2 : i = i1
        · have hif : (if i ≤ i1 then (-1 : Int) else (i1 : Int)) = -1 := if_pos (by omega)
          have hlt : ((-1 : Int) < 0) := by decide
          simp (maxSteps := 1000000) (disch := omega) only [hif, decide_eq_true hlt, k1, k2, k3, k4, k9, k10, k11, k12, k13, wrap64, S, S1, S2, S3, S4, S5, ST, eq_self, reduceIte, reduceCtorEq, Nat.reduceEqDiff, Nat.reduceAdd]
          refine ⟨m' - 1, by omega, i + 1, ?_⟩
          have hif2 : (if i + 1 ≤ i1 then (-1 : Int) else (i1 : Int)) = (i : Int) := by rw [if_neg (by omega)]; omega
          rw [hif2]
          (repeat' first | exact pH2 | apply And.intro) <;> first | (simp only [Value.int.injEq, true_and]; omega) | omega | rfl | assumption | (simp; done) | (simp; omega)
        · have hif : (if i ≤ i1 then (-1 : Int) else (i1 : Int)) = (i1 : Int) := if_neg (by omega)
          have hlt : ¬ ((i1 : Int) < 0) := by omega
          simp (maxSteps := 1000000) (disch := omega) only [hif, decide_eq_false hlt, k1, k2, k3, k4, k9, k10, k11, k12, k13, hrM2.ix Try.underlying22 cs76, Int.toNat_natCast, hldi, hld1, S, S1, S2, S3, S4, S5, ST, eq_self, reduceIte, reduceCtorEq, Nat.reduceEqDiff, Nat.reduceAdd]
          refine CallH.by (l9First_c sl W q a b a1 b1 H2 hq2 hal hal1) ?_
          rintro _ H3 ⟨rfl, p3⟩
          rw [hno (by omega)]
          have f1 := pH2.trans p3
          simp (maxSteps := 1000000) (disch := omega) only [hif, decide_eq_false hlt, k1, k2, k3, k4, k9, k10, k11, k12, k13, wrap64, S, S1, S2, S3, S4, S5, ST, eq_self, reduceIte, reduceCtorEq, Nat.reduceEqDiff, Nat.reduceAdd]
          refine ⟨m' - 1, by omega, i + 1, ?_⟩
          have hif2 : (if i + 1 ≤ i1 then (-1 : Int) else (i1 : Int)) = (i1 : Int) := if_neg (by omega)
          rw [hif2]
          (repeat' first | exact f1 | apply And.intro) <;> first | (simp only [Value.int.injEq, true_and]; omega) | omega | rfl | assumption | (simp; done) | (simp; omega)
      · have hne : i ≠ i1 := fun h => e (hx1 h)
        simp (maxSteps := 1000000) (disch := omega) only [decide_eq_false e, k1, k2, k3, k4, k9, k10, k11, k12, k13, wrap64, S, S1, S2, S3, S4, S5, ST, eq_self, reduceIte, reduceCtorEq, Nat.reduceEqDiff, Nat.reduceAdd]
        refine ⟨m' - 1, by omega, i + 1, ?_⟩
        have hif2 : (if i + 1 ≤ i1 then (-1 : Int) else (i1 : Int)) = (if i ≤ i1 then (-1 : Int) else (i1 : Int)) := by
          by_cases h : i ≤ i1
          · rw [if_pos (by omega), if_pos h]
          · rw [if_neg (by omega), if_neg h]
        rw [hif2]
        (repeat' first | exact pH2 | apply And.intro) <;> first | (simp only [Value.int.injEq, true_and]; omega) | omega | rfl | assumption | (simp; done) | (simp; omega)
    · have hi : i = (mvs es sl q).length := by omega
      have hif : (if i ≤ i1 then (-1 : Int) else (i1 : Int)) = (i1 : Int) := if_neg (by omega)
      rw [hif] at k12
      have hld1 := hrM2.ld (P := Try.prog) ag76 cs76 hi1
      rw [he1] at hld1
      have hi1N : i1 < (nxt es sl q).length := by omega
      have hcell0 := hus2.cell (show i1 < us.length by omega)
      have hrow0 := ((heach i1 hi1N).row.1).pre pH2
      have hni := hNat i1 hi1
      rw [he1] at hni
      rw [hni] at hrow0
      have hcb0 := (hknown i1 hi1).1
      rw [hni] at hcb0
      have hmo2 := hmo.pre (pG.trans pH2)
      have hpA2 := hpA.trans (pG.trans pH2)
      obtain ⟨U', H4, j1, j2, j3, j4, j5, j6⟩ := own1_22 hmo2 hpA2 (by omega) e1.1 e1.2
      have hL4 := heach i1 hi1N
      -- the list of boards is still there
      have hus4 : RowV 32 H4 L us := by
        rcases hmo2 with g5 | ⟨oo, zs, g5, g6, g7, g8⟩
        · exact hus2.mono fun y hy => j4 _ _ (.inl g5.1) hy
        · refine hus2.mono fun y hy => j4 _ _ (.inr ?_) hy
          rw [g5]
          show rowO L ≠ oo
          intro e
          rcases hus2 with h5 | ⟨o5, k5, vs5, ro5, h5, h6, _⟩
          · have : (nxt es sl q).length = 0 := by rw [← hul, h5.2]; rfl
            omega
          · rw [h5] at e
            have e' : o5 = oo := e
            rw [e', g7] at h6
            simp only [Option.some.injEq, AObj.cells.injEq] at h6
            exact absurd h6.2.1 (by decide)
      have hcell4 := hus4.cell (show i1 < us.length by omega)
      have f1 := hrow0.keptPr hmo2 j4
      have f3 : out ++ [e1] ++ (pthL S0 es sl m1 (swp q e1.1.toNat e1.2.toNat)).map (·.1) = (pthL S0 es sl d p).map (·.1) := by
        rw [← hout, List.append_assoc]; rfl
      have f4 : (out ++ [e1]).length + m1 = d := by rw [List.length_append]; simp; omega
      simp (maxSteps := 1000000) (disch := omega) only [k1, k2, k3, k4, k9, k10, k11, k12, k13, hrM2.ix Try.underlying22 cs76, Int.toNat_natCast, hld1, j1, hus4.ix Try.underlying38 cs32, hcell4, S, S1, S2, S3, S4, S5, ST, eq_self, reduceIte, reduceCtorEq, Nat.reduceEqDiff, Nat.reduceAdd]
      refine ⟨m1, by omega, swp q e1.1.toNat e1.2.toNat, out ++ [e1], ?_⟩
      (repeat' first | exact f1 | exact hcb0 | exact hf3 | exact f4 | exact f3 | exact j2 | exact j3 | apply And.intro) <;> first | (simp only [Value.int.injEq, true_and]; omega) | omega | rfl | assumption | (simp; done) | (simp; omega)

set_option maxRecDepth 20000 in
set_option maxHeartbeats 4000000 in
theorem TkS_c (n : Int) (v w : Value) (es : List (Int × Int)) (p : List Int) (H : AH) (hr : RowP 76 H v es) (hlen : es.length ≤ 1099511627776) (hes : ∀ y ∈ es, I64 y.1 ∧ I64 y.2) (hx : Row 3 H w p) (hlp : p.length ≤ 1099511627776) (hxs : ∀ y ∈ p, I64 y) (hn : I64 n) :
    ACalls Try.prog 36 [.agg (List.toArray [.int .i64 n, v]), w] H fun r H' => ∃ g, r = .tuple (List.toArray [g, .bool (tkD n es p).isSome]) ∧ MineP 76 H H' g (tkL n es p) ∧ H <+: H' := by
  refine in36 rfl ?_
  intro Q hQ
  simp (maxSteps := 1000000) (disch := omega) only [cd36, hr.boxG, S, S1, S2, S3, S4, S5, ST, eq_self, reduceIte, reduceCtorEq, Nat.reduceEqDiff, Nat.reduceAdd]
  generalize hA : H ++ [AObj.cells [.int .i64 n, v] 28 false] = A
  have pA : H <+: A := by rw [← hA]; exact List.prefix_append _ _
  have cA : A[H.length]? = some (.cells [.int .i64 n, v] 28 false) := by rw [← hA]; exact at_new ..
  have rA := hr.pre pA
  simp (maxSteps := 1000000) (disch := omega) only [ld_agg ag28 cs28 cA, S, S1, S2, S3, S4, S5, ST, eq_self, reduceIte, reduceCtorEq, Nat.reduceEqDiff, Nat.reduceAdd]
  refine CallH.by (l9Field_c n v w es p A rA hlen (hx.pre pA) hlp) ?_
  rintro _ B ⟨rfl, pB⟩
  have cB := pre_at pB cA
  have pHB := pA.trans pB
  have rB := rA.pre pB
  have no : tkD n es p = none → ∀ K : AH, H <+: K → ∃ g, (Value.tuple (List.toArray [.slice (some ⟨K.length, 0, none⟩) 0 0, .bool false])) = .tuple (List.toArray [g, .bool (tkD n es p).isSome]) ∧ MineP 76 H (K ++ [.cells [] 76 false]) g (tkL n es p) ∧ H <+: K ++ [.cells [] 76 false] := fun h K hK => ⟨_, by rw [h]; rfl, by
    have : tkL n es p = [] := by unfold tkL; rw [h]
    rw [this]; exact MineP.nil0 (P := Try.prog) H K hK.length_le, pre_app hK _⟩
  simp (maxSteps := 1000000) (disch := omega) only [S, S1, S2, S3, S4, S5, ST, eq_self, reduceIte, reduceCtorEq, Nat.reduceEqDiff, Nat.reduceAdd]
  refine brD.intro (fun e => ?_) (fun e => ?_) <;> simp (maxSteps := 1000000) (disch := omega) only [e, S, S1, S2, S3, S4, S5, ST, eq_self, reduceIte, reduceCtorEq, Nat.reduceEqDiff, Nat.reduceAdd]
  rotate_left
  · refine hQ _ _ _ ?_
    simp (maxSteps := 1000000) (disch := omega) only [S, S1, S2, S3, S4, S5, ST, eq_self, reduceIte, reduceCtorEq, Nat.reduceEqDiff, Nat.reduceAdd]
    exact no (by unfold tkD; rw [if_neg e]) B pHB
  have hD0 : tkD n es p = bdD (tkS n.toNat es) p := by unfold tkD; rw [if_pos e]
  obtain ⟨k, rfl, hg, hb, h6⟩ := fld_bd e
  rw [Int.toNat_natCast] at hD0
  have hl := grd_few hg
  have hhb := hom_bd (n := k) (by omega)
  simp (maxSteps := 1000000) (disch := omega) only [cell_of cB, ld_agg ag28 cs28 cB, S, S1, S2, S3, S4, S5, ST, eq_self, reduceIte, reduceCtorEq, Nat.reduceEqDiff, Nat.reduceAdd]
  refine CallH.by (l9Home_c k B (by omega)) ?_
  rintro u C ⟨hu, pC⟩
  have cC := pre_at pC cB
  have rC := rB.pre pC
  simp (maxSteps := 1000000) (disch := omega) only [ld_agg ag28 cs28 cC, S, S1, S2, S3, S4, S5, ST, eq_self, reduceIte, reduceCtorEq, Nat.reduceEqDiff, Nat.reduceAdd]
  refine CallH.by (l9Spread_c k v u es (hom k) false C rC (by omega) hu.row hg hhb h6) ?_
  rintro f D ⟨hf, pD⟩
  have pHD := pHB.trans (pC.trans pD)
  have hxD := hx.pre pHD
  have cD := pre_at pD cC
  have rD := rC.pre pD
  have hI := bdR_I h6 hg false hhb
  obtain ⟨zp, hzp, hzpl⟩ := cod_nat h6 hb
  have hat := spL_at h6 hb hI.ok
  have hS : bdR es false (hom k) = tkS k es := rfl
  rw [hzp, Int.toNat_natCast, hS, ← hD0] at hat
  have hfr := hf.row
  have hcz := hfr.cell (show zp < (spL (mny k) (bdR es false (hom k))).length by rw [spL_len]; exact hzpl)
  rw [hS, hat] at hcz
  have hslen := spL_len (mny k) (bdR es false (hom k))
  have hpl := hb.2
  simp (maxSteps := 1000000) (disch := omega) only [S, S1, S2, S3, S4, S5, ST, eq_self, reduceIte, reduceCtorEq, Nat.reduceEqDiff, Nat.reduceAdd]
  refine CallH.by (l9Code_c w p D hxD (by omega)) ?_
  rintro _ _ ⟨rfl, rfl⟩
  rw [hzp]
  simp (maxSteps := 1000000) (disch := omega) only [hfr.ix Try.underlying32 cs3, Int.toNat_natCast, hcz, S, S1, S2, S3, S4, S5, ST, eq_self, reduceIte, reduceCtorEq, Nat.reduceEqDiff, Nat.reduceAdd]
  cases hd : tkD (k : Int) es p with
  | none =>
    rw [hd] at no
    have hlt : ((-1 : Int) < 0) := by decide
    simp (maxSteps := 1000000) (disch := omega) only [Option.getD_none, decide_eq_true hlt, S, S1, S2, S3, S4, S5, ST, eq_self, reduceIte, reduceCtorEq, Nat.reduceEqDiff, Nat.reduceAdd]
    refine hQ _ _ _ ?_
    simp (maxSteps := 1000000) (disch := omega) only [S, S1, S2, S3, S4, S5, ST, eq_self, reduceIte, reduceCtorEq, Nat.reduceEqDiff, Nat.reduceAdd]
    rw [hd]
    exact no rfl D pHD
  | some x =>
  obtain ⟨hd0, hd7⟩ := tkD_rng hd
  have hK : tkL (k : Int) es p = (pthL (tkS k es) es false x.toNat p).map (·.1) := by unfold tkL; rw [hd]; simp only [Int.toNat_natCast]
  have hnlt : ¬ (x < 0) := by omega
  rw [hd] at hD0
  simp (maxSteps := 1000000) (disch := omega) only [Option.getD_some, decide_eq_false hnlt, ld_agg ag28 cs28 cD, S, S1, S2, S3, S4, S5, ST, eq_self, reduceIte, reduceCtorEq, Nat.reduceEqDiff, Nat.reduceAdd]
  refine CallH.by (l9Steps_c k v f w es (hom k) p false x.toNat D rD (by omega) hxD hg hhb hb h6 (fun h => by cases h) hfr (by rw [hS, Int.toNat_of_nonneg hd0]; exact hD0.symm) (by omega)) ?_
  rintro g E ⟨hgE, pE⟩
  simp (maxSteps := 1000000) (disch := omega) only [S, S1, S2, S3, S4, S5, ST, eq_self, reduceIte, reduceCtorEq, Nat.reduceEqDiff, Nat.reduceAdd]
  refine hQ _ _ _ ?_
  simp (maxSteps := 1000000) (disch := omega) only [hgE.row.tup, S, S1, S2, S3, S4, S5, ST, eq_self, reduceIte, reduceCtorEq, Nat.reduceEqDiff, Nat.reduceAdd]
  rw [hd, hK]
  exact ⟨g, rfl, hgE.base pHD, pHD.trans pE⟩

set_option maxRecDepth 20000 in
set_option maxHeartbeats 4000000 in
theorem TkDS_c (n : Int) (v w : Value) (es : List (Int × Int)) (p : List Int) (H : AH) (hr : RowP 76 H v es) (hlen : es.length ≤ 1099511627776) (hes : ∀ y ∈ es, I64 y.1 ∧ I64 y.2) (hx : Row 3 H w p) (hlp : p.length ≤ 1099511627776) (hxs : ∀ y ∈ p, I64 y) (hn : I64 n) :
    ACalls Try.prog 22 [.agg (List.toArray [.int .i64 n, v]), w] H fun r H' => r = .tuple (List.toArray [.int .i64 ((tkD n es p).getD 0), .bool (tkD n es p).isSome]) ∧ H <+: H' := by
  refine in22 rfl ?_
  intro Q hQ
  simp (maxSteps := 1000000) (disch := omega) only [cd22, hr.boxG, S, S1, S2, S3, S4, S5, ST, eq_self, reduceIte, reduceCtorEq, Nat.reduceEqDiff, Nat.reduceAdd]
  generalize hA : H ++ [AObj.cells [.int .i64 n, v] 28 false] = A
  have pA : H <+: A := by rw [← hA]; exact List.prefix_append _ _
  have cA : A[H.length]? = some (.cells [.int .i64 n, v] 28 false) := by rw [← hA]; exact at_new ..
  have rA := hr.pre pA
  simp (maxSteps := 1000000) (disch := omega) only [ld_agg ag28 cs28 cA, S, S1, S2, S3, S4, S5, ST, eq_self, reduceIte, reduceCtorEq, Nat.reduceEqDiff, Nat.reduceAdd]
  refine CallH.by (l9Field_c n v w es p A rA hlen (hx.pre pA) hlp) ?_
  rintro _ B ⟨rfl, pB⟩
  have cB := pre_at pB cA
  have pHB := pA.trans pB
  have rB := rA.pre pB
  simp (maxSteps := 1000000) (disch := omega) only [S, S1, S2, S3, S4, S5, ST, eq_self, reduceIte, reduceCtorEq, Nat.reduceEqDiff, Nat.reduceAdd]
  refine brD.intro (fun e => ?_) (fun e => ?_) <;> simp (maxSteps := 1000000) (disch := omega) only [e, S, S1, S2, S3, S4, S5, ST, eq_self, reduceIte, reduceCtorEq, Nat.reduceEqDiff, Nat.reduceAdd]
  rotate_left
  · refine hQ _ _ _ ?_
    simp (maxSteps := 1000000) (disch := omega) only [S, S1, S2, S3, S4, S5, ST, eq_self, reduceIte, reduceCtorEq, Nat.reduceEqDiff, Nat.reduceAdd]
    have : tkD n es p = none := by unfold tkD; rw [if_neg e]
    rw [this]
    exact ⟨rfl, pHB⟩
  have hD0 : tkD n es p = bdD (tkS n.toNat es) p := by unfold tkD; rw [if_pos e]
  obtain ⟨k, rfl, hg, hb, h6⟩ := fld_bd e
  rw [Int.toNat_natCast] at hD0
  have hl := grd_few hg
  have hhb := hom_bd (n := k) (by omega)
  simp (maxSteps := 1000000) (disch := omega) only [cell_of cB, ld_agg ag28 cs28 cB, S, S1, S2, S3, S4, S5, ST, eq_self, reduceIte, reduceCtorEq, Nat.reduceEqDiff, Nat.reduceAdd]
  refine CallH.by (l9Home_c k B (by omega)) ?_
  rintro u C ⟨hu, pC⟩
  have cC := pre_at pC cB
  have rC := rB.pre pC
  simp (maxSteps := 1000000) (disch := omega) only [ld_agg ag28 cs28 cC, S, S1, S2, S3, S4, S5, ST, eq_self, reduceIte, reduceCtorEq, Nat.reduceEqDiff, Nat.reduceAdd]
  refine CallH.by (l9Spread_c k v u es (hom k) false C rC (by omega) hu.row hg hhb h6) ?_
  rintro f D ⟨hf, pD⟩
  have pHD := pHB.trans (pC.trans pD)
  have hxD := hx.pre pHD
  have hI := bdR_I h6 hg false hhb
  obtain ⟨zp, hzp, hzpl⟩ := cod_nat h6 hb
  have hat := spL_at h6 hb hI.ok
  have hS : bdR es false (hom k) = tkS k es := rfl
  rw [hzp, Int.toNat_natCast, hS, ← hD0] at hat
  have hfr := hf.row
  have hcz := hfr.cell (show zp < (spL (mny k) (bdR es false (hom k))).length by rw [spL_len]; exact hzpl)
  rw [hS, hat] at hcz
  have hslen := spL_len (mny k) (bdR es false (hom k))
  have hpl := hb.2
  simp (maxSteps := 1000000) (disch := omega) only [S, S1, S2, S3, S4, S5, ST, eq_self, reduceIte, reduceCtorEq, Nat.reduceEqDiff, Nat.reduceAdd]
  refine CallH.by (l9Code_c w p D hxD (by omega)) ?_
  rintro _ _ ⟨rfl, rfl⟩
  rw [hzp]
  simp (maxSteps := 1000000) (disch := omega) only [hfr.ix Try.underlying32 cs3, Int.toNat_natCast, hcz, S, S1, S2, S3, S4, S5, ST, eq_self, reduceIte, reduceCtorEq, Nat.reduceEqDiff, Nat.reduceAdd]
  refine CallH.by (l9Told_c _ D) ?_
  rintro _ _ ⟨rfl, rfl⟩
  simp (maxSteps := 1000000) (disch := omega) only [S, S1, S2, S3, S4, S5, ST, eq_self, reduceIte, reduceCtorEq, Nat.reduceEqDiff, Nat.reduceAdd]
  refine hQ _ _ _ ?_
  simp (maxSteps := 1000000) (disch := omega) only [S, S1, S2, S3, S4, S5, ST, eq_self, reduceIte, reduceCtorEq, Nat.reduceEqDiff, Nat.reduceAdd]
  refine ⟨?_, pHD⟩
  cases hd : tkD (k : Int) es p with
  | none => rfl
  | some x =>
    obtain ⟨hd0, hd7⟩ := tkD_rng hd
    simp only [Option.getD_some, Option.isSome_some]
    rw [decide_eq_true hd0]
    by_cases hx0 : 0 < x
    · rw [if_pos hx0]
    · rw [if_neg hx0]
      have : x = 0 := by omega
      rw [this]
end Go.Proofs.Ythhnpchjjbjabaa.Ai
