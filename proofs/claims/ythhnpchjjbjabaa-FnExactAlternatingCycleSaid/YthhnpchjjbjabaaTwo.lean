/- Twofold graphs, both sides. -/
import Derived.Test.YthhnpchjjbjabaaBits
import Derived.Test.YthhnpchjjbjabaaPart
import Derived.Test.YthhnpchjjbjabaaReach
import Derived.Test.YthhnpchjjbjabaaRoads
import Derived.Test.YthhnpchjjbjabaaWout
import Derived.Test.YthhnpchjjbjabaaProg
import Derived.Test.YthhnpchjjbjabaaAiM2
import Derived.KernelRfl
/- Slim code of this translation. By the kernel. -/
namespace Go.Proofs.Ythhnpchjjbjabaa.Ai
open Go

/- loop.example/g01128/spec.l3Only -/
def ords110 : List (Nat × List (Nat × Bool)) := []
def cd110 : Cd := (.seq (.reg [⟨⟨some 4, Op.assign (Operand.const (Value.slice none 0 0)), none⟩, []⟩]) (.seq (.reg [⟨⟨some 7, Op.buildSlice 32 0 #[], none⟩, []⟩,
  ⟨⟨some 5, Op.assign (Operand.tmp 7), none⟩, []⟩]) (.seq (.seq (.reg [⟨⟨some 6, Op.assign (Operand.const (Value.int IntKind.i64 0)), none⟩, []⟩]) (.block 0 (.loop (.seq (.seq (.reg [⟨⟨some 8, Op.move (Operand.tmp 6), none⟩, []⟩,
  ⟨⟨some 9, Op.move (Operand.tmp 0), none⟩, []⟩,
  ⟨⟨some 10, Op.call { callee := (Callee.builtin Builtin.len), args := #[(Operand.tmp 9)], argTypes := #[32] }, none⟩, []⟩,
  ⟨⟨some 11, Op.binOp BinOp.lss 3 (Operand.tmp 8) (Operand.tmp 10) 3, none⟩, []⟩]) (.cond (Operand.tmp 11) .skip (.exit 0))) (.seq (.block 1 (.seq (.reg [⟨⟨some 14, Op.move (Operand.tmp 1), none⟩, []⟩,
  ⟨⟨some 15, Op.move (Operand.tmp 0), none⟩, []⟩,
  ⟨⟨some 16, Op.move (Operand.tmp 6), none⟩, []⟩,
  ⟨⟨some 17, Op.indexAddr 32 (Operand.tmp 15) (Operand.tmp 16), none⟩, []⟩,
  ⟨⟨some 18, Op.load 3 (Operand.tmp 17), none⟩, []⟩,
  ⟨⟨some 19, Op.call { callee := (Callee.value (Operand.func 123)), args := #[(Operand.tmp 14), (Operand.tmp 18)], argTypes := #[32, 3] }, none⟩, []⟩,
  ⟨⟨some 20, Op.unOp UnOp.not 4 (Operand.tmp 19), none⟩, []⟩]) (.cond (Operand.tmp 20) (.reg [⟨⟨some 21, Op.move (Operand.tmp 5), none⟩, []⟩,
  ⟨⟨some 22, Op.move (Operand.tmp 0), none⟩, []⟩,
  ⟨⟨some 23, Op.move (Operand.tmp 6), none⟩, []⟩,
  ⟨⟨some 24, Op.indexAddr 32 (Operand.tmp 22) (Operand.tmp 23), none⟩, []⟩,
  ⟨⟨some 25, Op.load 3 (Operand.tmp 24), none⟩, []⟩,
  ⟨⟨some 26, Op.buildSlice 32 1 #[(0, (Operand.tmp 25))], none⟩, []⟩,
  ⟨⟨some 27, Op.call { callee := (Callee.builtin Builtin.append), args := #[(Operand.tmp 21), (Operand.tmp 26)], argTypes := #[32, 32] }, none⟩, []⟩,
  ⟨⟨some 5, Op.assign (Operand.tmp 27), none⟩, []⟩]) .skip))) (.reg [⟨⟨some 12, Op.move (Operand.tmp 6), none⟩, []⟩,
  ⟨⟨some 13, Op.binOp BinOp.add 3 (Operand.tmp 12) (Operand.const (Value.int IntKind.i64 1)) 3, none⟩, []⟩,
  ⟨⟨some 6, Op.assign (Operand.tmp 13), none⟩, []⟩])))))) (.seq (.reg [⟨⟨some 28, Op.move (Operand.tmp 5), none⟩, []⟩,
  ⟨⟨some 4, Op.assign (Operand.tmp 28), none⟩, []⟩]) .ret))))
theorem sl110 : slim Try.f110.ntmps ords110 (Try.f110.body.getD .skip) = some cd110 := by kernel_rfl
theorem in110 {args : List Value} {H : AH} {R : Value → AH → Prop} (hl : args.length = 2) (h : ∀ (Q : Exit → Sl → AH → Prop), (∀ e s H, endA Try.prog [ResultVar.tmp 4] R e s H → Q e s H) → wpC Try.prog cd110 Q (enterA args) H) : ACalls Try.prog 110 args H R :=
  ACalls.intro (by kernel_rfl) Try.func110 rfl (by kernel_rfl) sl110 hl (of_decide_eq_true (by kernel_rfl)) (by kernel_rfl) h

/- loop.example/g01128/spec.l9Twofold -/
def ords58 : List (Nat × List (Nat × Bool)) := [(1, [(0, false), (1, false), (2, false), (3, false), (4, false), (5, false), (6, true), (7, false)]), (7, [(0, false), (1, false), (2, false), (3, false), (4, true), (5, true), (6, false), (7, false)])]
def cd58 : Cd := (.seq (.reg [⟨⟨some 1, Op.box 28 (Operand.tmp 0), none⟩, []⟩,
  ⟨⟨some 2, Op.assign (Operand.const (Value.bool false)), none⟩, []⟩]) (.seq (.reg [⟨⟨some 5, Op.fieldAddr 28 (Operand.tmp 1) 0, none⟩, []⟩,
  ⟨⟨some 6, Op.load 3 (Operand.tmp 5), none⟩, []⟩,
  ⟨⟨some 7, Op.fieldAddr 28 (Operand.tmp 1) 0, none⟩, []⟩,
  ⟨⟨some 8, Op.load 3 (Operand.tmp 7), none⟩, []⟩,
  ⟨⟨some 9, Op.binOp BinOp.shl 3 (Operand.const (Value.int IntKind.i64 1)) (Operand.tmp 8) 3, none⟩, []⟩,
  ⟨⟨some 10, Op.binOp BinOp.sub 3 (Operand.tmp 9) (Operand.const (Value.int IntKind.i64 1)) 3, none⟩, []⟩,
  ⟨⟨some 11, Op.call { callee := (Callee.value (Operand.func 108)), args := #[(Operand.tmp 6), (Operand.tmp 10)], argTypes := #[3, 3] }, none⟩, []⟩,
  ⟨⟨some 3, Op.assign (Operand.tmp 11), none⟩, []⟩]) (.seq (.seq (.reg [⟨⟨some 12, Op.fieldAddr 28 (Operand.tmp 1) 0, none⟩, []⟩,
  ⟨⟨some 13, Op.load 3 (Operand.tmp 12), none⟩, []⟩,
  ⟨⟨some 14, Op.binOp BinOp.lss 3 (Operand.tmp 13) (Operand.const (Value.int IntKind.i64 3)) 3, none⟩, []⟩,
  ⟨⟨some 15, Op.move (Operand.tmp 14), none⟩, []⟩,
  ⟨⟨some 16, Op.load 28 (Operand.tmp 1), some (15, false)⟩, []⟩,
  ⟨⟨some 17, Op.move (Operand.tmp 3), some (15, false)⟩, []⟩,
  ⟨⟨some 18, Op.call { callee := (Callee.value (Operand.func 109)), args := #[(Operand.tmp 16), (Operand.tmp 17)], argTypes := #[28, 32] }, some (15, false)⟩, []⟩,
  ⟨⟨some 19, Op.call { callee := (Callee.builtin Builtin.len), args := #[(Operand.tmp 18)], argTypes := #[38] }, some (15, false)⟩, []⟩,
  ⟨⟨some 20, Op.binOp BinOp.neq 3 (Operand.tmp 19) (Operand.const (Value.int IntKind.i64 1)) 3, some (15, false)⟩, []⟩,
  ⟨⟨some 21, Op.pick (Operand.tmp 15) (Operand.const (Value.bool true)) (Operand.tmp 20), none⟩, []⟩]) (.cond (Operand.tmp 21) (.seq (.reg [⟨⟨some 2, Op.assign (Operand.const (Value.bool false)), none⟩, []⟩]) .ret) .skip)) (.seq (.seq (.reg [⟨⟨some 4, Op.assign (Operand.const (Value.int IntKind.i64 0)), none⟩, []⟩]) (.block 0 (.loop (.seq (.seq (.reg [⟨⟨some 22, Op.move (Operand.tmp 4), none⟩, []⟩,
  ⟨⟨some 23, Op.fieldAddr 28 (Operand.tmp 1) 0, none⟩, []⟩,
  ⟨⟨some 24, Op.load 3 (Operand.tmp 23), none⟩, []⟩,
  ⟨⟨some 25, Op.binOp BinOp.lss 3 (Operand.tmp 22) (Operand.tmp 24) 3, none⟩, []⟩]) (.cond (Operand.tmp 25) .skip (.exit 0))) (.seq (.block 1 (.seq (.reg [⟨⟨some 28, Op.load 28 (Operand.tmp 1), none⟩, []⟩,
  ⟨⟨some 29, Op.move (Operand.tmp 3), none⟩, []⟩,
  ⟨⟨some 30, Op.move (Operand.tmp 4), none⟩, []⟩,
  ⟨⟨some 31, Op.buildSlice 32 1 #[(0, (Operand.tmp 30))], none⟩, []⟩,
  ⟨⟨some 32, Op.call { callee := (Callee.value (Operand.func 110)), args := #[(Operand.tmp 29), (Operand.tmp 31)], argTypes := #[32, 32] }, none⟩, [⟨some 28, Op.load 28 (Operand.tmp 1), none⟩]⟩,
  ⟨⟨some 33, Op.call { callee := (Callee.value (Operand.func 109)), args := #[(Operand.tmp 28), (Operand.tmp 32)], argTypes := #[28, 32] }, none⟩, []⟩,
  ⟨⟨some 34, Op.call { callee := (Callee.builtin Builtin.len), args := #[(Operand.tmp 33)], argTypes := #[38] }, none⟩, []⟩,
  ⟨⟨some 35, Op.binOp BinOp.neq 3 (Operand.tmp 34) (Operand.const (Value.int IntKind.i64 1)) 3, none⟩, []⟩]) (.cond (Operand.tmp 35) (.seq (.reg [⟨⟨some 2, Op.assign (Operand.const (Value.bool false)), none⟩, []⟩]) .ret) .skip))) (.reg [⟨⟨some 26, Op.move (Operand.tmp 4), none⟩, []⟩,
  ⟨⟨some 27, Op.binOp BinOp.add 3 (Operand.tmp 26) (Operand.const (Value.int IntKind.i64 1)) 3, none⟩, []⟩,
  ⟨⟨some 4, Op.assign (Operand.tmp 27), none⟩, []⟩])))))) (.seq (.reg [⟨⟨some 2, Op.assign (Operand.const (Value.bool true)), none⟩, []⟩]) .ret)))))
theorem sl58 : slim Try.f58.ntmps ords58 (Try.f58.body.getD .skip) = some cd58 := by kernel_rfl
theorem in58 {args : List Value} {H : AH} {R : Value → AH → Prop} (hl : args.length = 1) (h : ∀ (Q : Exit → Sl → AH → Prop), (∀ e s H, endA Try.prog [ResultVar.tmp 2] R e s H → Q e s H) → wpC Try.prog cd58 Q (enterA args) H) : ACalls Try.prog 58 args H R :=
  ACalls.intro (by kernel_rfl) Try.func58 rfl (by kernel_rfl) sl58 hl (of_decide_eq_true (by kernel_rfl)) (by kernel_rfl) h

/- (loop.example/g01128/impl.Graph).isTwofold -/
def ords61 : List (Nat × List (Nat × Bool)) := []
def cd61 : Cd := (.seq (.reg [⟨⟨some 1, Op.box 28 (Operand.tmp 0), none⟩, []⟩,
  ⟨⟨some 2, Op.assign (Operand.const (Value.bool false)), none⟩, []⟩]) (.seq (.reg [⟨⟨some 5, Op.load 28 (Operand.tmp 1), none⟩, []⟩,
  ⟨⟨some 6, Op.call { callee := (Callee.value (Operand.func 113)), args := #[(Operand.tmp 5)], argTypes := #[28] }, none⟩, []⟩,
  ⟨⟨some 3, Op.assign (Operand.tmp 6), none⟩, []⟩]) (.seq (.seq (.reg [⟨⟨some 7, Op.fieldAddr 28 (Operand.tmp 1) 0, none⟩, []⟩,
  ⟨⟨some 8, Op.load 3 (Operand.tmp 7), none⟩, []⟩,
  ⟨⟨some 9, Op.binOp BinOp.lss 3 (Operand.tmp 8) (Operand.const (Value.int IntKind.i64 3)) 3, none⟩, []⟩,
  ⟨⟨some 10, Op.move (Operand.tmp 9), none⟩, []⟩,
  ⟨⟨some 11, Op.move (Operand.tmp 3), some (10, false)⟩, []⟩,
  ⟨⟨some 12, Op.call { callee := (Callee.value (Operand.func 114)), args := #[(Operand.tmp 11), (Operand.const (Value.int IntKind.i64 (-1)))], argTypes := #[38, 3] }, some (10, false)⟩, []⟩,
  ⟨⟨some 13, Op.call { callee := (Callee.builtin Builtin.len), args := #[(Operand.tmp 12)], argTypes := #[38] }, some (10, false)⟩, []⟩,
  ⟨⟨some 14, Op.binOp BinOp.gtr 3 (Operand.tmp 13) (Operand.const (Value.int IntKind.i64 1)) 3, some (10, false)⟩, []⟩,
  ⟨⟨some 15, Op.pick (Operand.tmp 10) (Operand.const (Value.bool true)) (Operand.tmp 14), none⟩, []⟩]) (.cond (Operand.tmp 15) (.seq (.reg [⟨⟨some 2, Op.assign (Operand.const (Value.bool false)), none⟩, []⟩]) .ret) .skip)) (.seq (.seq (.reg [⟨⟨some 16, Op.fieldAddr 28 (Operand.tmp 1) 0, none⟩, []⟩,
  ⟨⟨some 17, Op.load 3 (Operand.tmp 16), none⟩, []⟩,
  ⟨⟨some 18, Op.move (Operand.const (Value.int IntKind.i64 0)), none⟩, []⟩]) (.block 0 (.loop (.seq (.reg [⟨⟨some 19, Op.binOp BinOp.lss 3 (Operand.tmp 18) (Operand.tmp 17) 3, none⟩, []⟩]) (.seq (.cond (Operand.tmp 19) .skip (.exit 0)) (.seq (.block 1 (.seq (.reg [⟨⟨some 20, Op.move (Operand.tmp 18), none⟩, []⟩,
  ⟨⟨some 4, Op.assign (Operand.tmp 20), none⟩, []⟩]) (.seq (.reg [⟨⟨some 21, Op.move (Operand.tmp 3), none⟩, []⟩,
  ⟨⟨some 22, Op.move (Operand.tmp 4), none⟩, []⟩,
  ⟨⟨some 23, Op.call { callee := (Callee.value (Operand.func 114)), args := #[(Operand.tmp 21), (Operand.tmp 22)], argTypes := #[38, 3] }, none⟩, []⟩,
  ⟨⟨some 24, Op.call { callee := (Callee.builtin Builtin.len), args := #[(Operand.tmp 23)], argTypes := #[38] }, none⟩, []⟩,
  ⟨⟨some 25, Op.binOp BinOp.gtr 3 (Operand.tmp 24) (Operand.const (Value.int IntKind.i64 1)) 3, none⟩, []⟩]) (.cond (Operand.tmp 25) (.seq (.reg [⟨⟨some 2, Op.assign (Operand.const (Value.bool false)), none⟩, []⟩]) .ret) .skip)))) (.reg [⟨⟨some 26, Op.binOp BinOp.add 3 (Operand.tmp 18) (Operand.const (Value.int IntKind.i64 1)) 3, none⟩, []⟩,
  ⟨⟨some 18, Op.move (Operand.tmp 26), none⟩, []⟩]))))))) (.seq (.reg [⟨⟨some 2, Op.assign (Operand.const (Value.bool true)), none⟩, []⟩]) .ret)))))
theorem sl61 : slim Try.f61.ntmps ords61 (Try.f61.body.getD .skip) = some cd61 := by kernel_rfl
theorem in61 {args : List Value} {H : AH} {R : Value → AH → Prop} (hl : args.length = 1) (h : ∀ (Q : Exit → Sl → AH → Prop), (∀ e s H, endA Try.prog [ResultVar.tmp 2] R e s H → Q e s H) → wpC Try.prog cd61 Q (enterA args) H) : ACalls Try.prog 61 args H R :=
  ACalls.intro (by kernel_rfl) Try.func61 rfl (by kernel_rfl) sl61 hl (of_decide_eq_true (by kernel_rfl)) (by kernel_rfl) h

/- loop.example/g01128/spec.IsTwofold -/
def ords16 : List (Nat × List (Nat × Bool)) := []
def cd16 : Cd := (.seq (.reg [⟨⟨some 1, Op.box 28 (Operand.tmp 0), none⟩, []⟩,
  ⟨⟨some 2, Op.assign (Operand.const (Value.bool false)), none⟩, []⟩,
  ⟨⟨some 3, Op.assign (Operand.const (Value.bool false)), none⟩, []⟩]) (.seq (.seq (.reg [⟨⟨some 4, Op.load 28 (Operand.tmp 1), none⟩, []⟩,
  ⟨⟨some 5, Op.call { callee := (Callee.value (Operand.func 57)), args := #[(Operand.tmp 4)], argTypes := #[28] }, none⟩, []⟩,
  ⟨⟨some 6, Op.unOp UnOp.not 4 (Operand.tmp 5), none⟩, []⟩]) (.cond (Operand.tmp 6) (.seq (.reg [⟨⟨some 2, Op.assign (Operand.const (Value.bool false)), none⟩, []⟩,
  ⟨⟨some 3, Op.assign (Operand.const (Value.bool false)), none⟩, []⟩]) .ret) .skip)) (.seq (.reg [⟨⟨some 7, Op.load 28 (Operand.tmp 1), none⟩, []⟩,
  ⟨⟨some 8, Op.call { callee := (Callee.value (Operand.func 58)), args := #[(Operand.tmp 7)], argTypes := #[28] }, none⟩, []⟩,
  ⟨⟨some 2, Op.assign (Operand.tmp 8), none⟩, []⟩,
  ⟨⟨some 3, Op.assign (Operand.const (Value.bool true)), none⟩, []⟩]) .ret)))
theorem sl16 : slim Try.f16.ntmps ords16 (Try.f16.body.getD .skip) = some cd16 := by kernel_rfl
theorem in16 {args : List Value} {H : AH} {R : Value → AH → Prop} (hl : args.length = 1) (h : ∀ (Q : Exit → Sl → AH → Prop), (∀ e s H, endA Try.prog [ResultVar.tmp 2, ResultVar.tmp 3] R e s H → Q e s H) → wpC Try.prog cd16 Q (enterA args) H) : ACalls Try.prog 16 args H R :=
  ACalls.intro (by kernel_rfl) Try.func16 rfl (by kernel_rfl) sl16 hl (of_decide_eq_true (by kernel_rfl)) (by kernel_rfl) h

/- loop.example/g01128/impl.IsTwofold -/
def ords18 : List (Nat × List (Nat × Bool)) := []
def cd18 : Cd := (.seq (.reg [⟨⟨some 1, Op.box 28 (Operand.tmp 0), none⟩, []⟩,
  ⟨⟨some 2, Op.assign (Operand.const (Value.bool false)), none⟩, []⟩,
  ⟨⟨some 3, Op.assign (Operand.const (Value.bool false)), none⟩, []⟩]) (.seq (.seq (.reg [⟨⟨some 4, Op.load 28 (Operand.tmp 1), none⟩, []⟩,
  ⟨⟨some 5, Op.call { callee := (Callee.value (Operand.func 60)), args := #[(Operand.tmp 4)], argTypes := #[28] }, none⟩, []⟩,
  ⟨⟨some 6, Op.unOp UnOp.not 4 (Operand.tmp 5), none⟩, []⟩]) (.cond (Operand.tmp 6) (.seq (.reg [⟨⟨some 2, Op.assign (Operand.const (Value.bool false)), none⟩, []⟩,
  ⟨⟨some 3, Op.assign (Operand.const (Value.bool false)), none⟩, []⟩]) .ret) .skip)) (.seq (.reg [⟨⟨some 7, Op.load 28 (Operand.tmp 1), none⟩, []⟩,
  ⟨⟨some 8, Op.call { callee := (Callee.value (Operand.func 61)), args := #[(Operand.tmp 7)], argTypes := #[28] }, none⟩, []⟩,
  ⟨⟨some 2, Op.assign (Operand.tmp 8), none⟩, []⟩,
  ⟨⟨some 3, Op.assign (Operand.const (Value.bool true)), none⟩, []⟩]) .ret)))
theorem sl18 : slim Try.f18.ntmps ords18 (Try.f18.body.getD .skip) = some cd18 := by kernel_rfl
theorem in18 {args : List Value} {H : AH} {R : Value → AH → Prop} (hl : args.length = 1) (h : ∀ (Q : Exit → Sl → AH → Prop), (∀ e s H, endA Try.prog [ResultVar.tmp 2, ResultVar.tmp 3] R e s H → Q e s H) → wpC Try.prog cd18 Q (enterA args) H) : ACalls Try.prog 18 args H R :=
  ACalls.intro (by kernel_rfl) Try.func18 rfl (by kernel_rfl) sl18 hl (of_decide_eq_true (by kernel_rfl)) (by kernel_rfl) h
end Go.Proofs.Ythhnpchjjbjabaa.Ai

namespace Go.Proofs.Ythhnpchjjbjabaa.Ai
open Go Go.RowKit
set_option linter.unusedVariables false
set_option linter.unusedSimpArgs false

set_option maxRecDepth 20000 in
set_option maxHeartbeats 1000000 in
theorem l3Only_c (v w : Value) (xs ys : List Int) (H : AH) (hr : Row 3 H v xs) (hy : Row 3 H w ys) (hlen : xs.length ≤ 1000000) (hlen2 : ys.length ≤ 1000000) :
    ACalls Try.prog 110 [v, w] H fun r H' => Own 3 H H' r (without xs ys) ∧ H <+: H' := by
  refine in110 rfl ?_
  intro Q hQ
  simp (maxSteps := 1000000) (disch := omega) only [cd110, S, S1, S2, S3, S4, S5, ST, eq_self, reduceIte, reduceCtorEq, Nat.reduceEqDiff, Nat.reduceAdd]
  refine LoopH.by (fun m s H' => ∃ i, m + i = xs.length ∧ s 0 = v ∧ s 1 = w ∧ s 6 = .int .i64 ((i : Nat) : Int) ∧ Own 3 H H' (s 5) (without (xs.take i) ys) ∧ H <+: H') xs.length ?_ ?_
  · exact ⟨0, by simp, rfl, rfl, rfl, .inr ⟨H.length, rfl, Nat.le_refl _, at_new ..⟩, List.prefix_append _ _⟩
  · rintro m s H' ⟨i, hm, h0, h1, h6, ho, hp⟩
    have hr' := hr.pre hp
    have hy' := hy.pre hp
    generalize hu : s 5 = u at *
    simp (maxSteps := 1000000) (disch := omega) only [h0, h1, h6, hu, hr'.len Try.underlying32, S, S1, S2, S3, S4, S5, ST, eq_self, reduceIte, reduceCtorEq, Nat.reduceEqDiff, Nat.reduceAdd]
    refine brD.intro (fun g => ?_) (fun g => ?_)
    · have hi : i < xs.length := by omega
      have st := without_step xs ys i hi
      have le : (without (xs.take i) ys).length ≤ i := by
        unfold without
        refine Nat.le_trans (List.length_filter_le _ _) ?_
        simp; omega
      simp (maxSteps := 1000000) (disch := omega) only [h0, h1, h6, hu, hr'.ix Try.underlying32 cs3, hr'.cell, Int.toNat_natCast, S, S1, S2, S3, S4, S5, ST, eq_self, reduceIte, reduceCtorEq, Nat.reduceEqDiff, Nat.reduceAdd]
      refine CallH.by (l1Has_c w ys _ H' hy' (by omega)) ?_
      rintro _ _ ⟨rfl, rfl⟩
      simp (maxSteps := 1000000) (disch := omega) only [S, S1, S2, S3, S4, S5, ST, eq_self, reduceIte, reduceCtorEq, Nat.reduceEqDiff, Nat.reduceAdd]
      refine brD.intro (fun e => ?_) (fun e => ?_)
      · rw [if_pos e, List.append_nil] at st
        simp (maxSteps := 1000000) (disch := omega) only [h0, h1, h6, hu, wrap64, S, S1, S2, S3, S4, S5, ST, eq_self, reduceIte, reduceCtorEq, Nat.reduceEqDiff, Nat.reduceAdd]
        refine ⟨m - 1, by omega, i + 1, ?_⟩
        rw [st]
        (repeat' apply And.intro) <;> first | exact ho | exact hp | (simp only [Value.int.injEq, true_and]; omega) | omega | rfl | assumption | (simp; done) | (simp; omega)
      · rw [if_neg e] at st
        obtain ⟨v', H2, k1, k2, k3, k4, k5, k6⟩ := own1_32 ho hp (by omega) (xs.getD i 0)
        simp (maxSteps := 1000000) (disch := omega) only [h0, h1, h6, hu, hr'.ix Try.underlying32 cs3, hr'.cell, Int.toNat_natCast, k1, wrap64, S, S1, S2, S3, S4, S5, ST, eq_self, reduceIte, reduceCtorEq, Nat.reduceEqDiff, Nat.reduceAdd]
        refine ⟨m - 1, by omega, i + 1, ?_⟩
        rw [st]
        (repeat' apply And.intro) <;> first | exact k2 | exact k3 | (simp only [Value.int.injEq, true_and]; omega) | omega | rfl | assumption | (simp; done) | (simp; omega)
    · simp (maxSteps := 1000000) (disch := omega) only [hu, S, S1, S2, S3, S4, S5, ST, eq_self, reduceIte, reduceCtorEq, Nat.reduceEqDiff, Nat.reduceAdd]
      refine hQ _ _ _ ?_
      simp (maxSteps := 1000000) (disch := omega) only [hu, ho.row.tup, S, S1, S2, S3, S4, S5, ST, eq_self, reduceIte, reduceCtorEq, Nat.reduceEqDiff, Nat.reduceAdd]
      rw [List.take_of_length_le (by omega)] at ho
      exact ⟨ho, hp⟩

/- plain -/
theorem setW_srt (s0 : List Bool) : ∀ k, (setW s0 k).Pairwise (· < ·)
  | 0 => List.Pairwise.nil
  | k + 1 => by
    simp only [setW]
    rw [List.pairwise_append]
    refine ⟨setW_srt s0 k, by split <;> simp, fun a ha b hb => ?_⟩
    have := (setW_mem s0 k a).1 ha
    split at hb
    · simp at hb
    · simp only [List.mem_cons, List.not_mem_nil, or_false] at hb
      omega
theorem setW_all (N : Nat) : setW (seen0 N (-1)) N = alls N := by
  refine srt_ext (setW_srt _ _) (alls_srt N) fun z => ?_
  rw [setW_mem, alls_mem]
  constructor
  · rintro ⟨h1, h2, _⟩; exact ⟨h1, h2⟩
  · rintro ⟨h1, h2⟩
    refine ⟨h1, h2, ?_⟩
    unfold seen0
    rw [if_neg (by omega), List.getD_eq_getElem?_getD, List.getElem?_replicate, if_pos (by omega)]
    decide
theorem setW_one (N x : Nat) (hx : x < N) : setW (seen0 N (x : Int)) N = without (alls N) [(x : Int)] := by
  refine srt_ext (setW_srt _ _) ((alls_srt N).filter _) fun z => ?_
  rw [setW_mem]
  unfold without
  rw [List.mem_filter, alls_mem, decide_eq_true_iff]
  have hg : 0 ≤ z ∧ z < N → ((seen0 N (x : Int)).getD z.toNat false = true ↔ z = x) := by
    intro hz
    unfold seen0
    rw [if_pos (by omega), Int.toNat_natCast, getD_setBool _ _ _ _ (by simp; omega)]
    by_cases e : x = z.toNat
    · rw [if_pos e]; simp; omega
    · rw [if_neg e, List.getD_eq_getElem?_getD, List.getElem?_replicate, if_pos (by omega)]
      simp; omega
  simp only [List.mem_cons, List.not_mem_nil, or_false]
  constructor
  · rintro ⟨h1, h2, h3⟩; exact ⟨⟨h1, h2⟩, fun e => h3 ((hg ⟨h1, h2⟩).2 e)⟩
  · rintro ⟨⟨h1, h2⟩, h3⟩; exact ⟨h1, h2, fun e => h3 ((hg ⟨h1, h2⟩).1 e)⟩
theorem roads_adj (n : Nat) (es : List (Int × Int)) (x : Nat) (hx : x < (roadsL n es).length) (y : Int) : y ∈ (roadsL n es).getD x [] ↔ ((0 ≤ y ∧ y < (roadsL n es).length) ∧ nearB es x y = true) := by
  rw [roadsL_len] at hx ⊢
  rw [roadsL_at n es x hx, nbsU_mem]
theorem roads_parts (n : Nat) (es : List (Int × Int)) : partsL (roadsL n es) (-1) = piecesL es (alls n) := by
  rw [parts_pieces (es := es) (roads_adj n es), roadsL_len, setW_all]
theorem roads_parts1 (n : Nat) (es : List (Int × Int)) (x : Nat) (hx : x < n) : partsL (roadsL n es) (x : Int) = piecesL es (without (alls n) [(x : Int)]) := by
  rw [parts_pieces (es := es) (roads_adj n es), roadsL_len, setW_one n x hx]
theorem pc_grow (es : List (Int × Int)) (set : List Int) : ∀ (l : List Int) (st : List (List Int) × List Int), st.1.length ≤ (l.foldl (pcS es set) st).1.length
  | [], st => Nat.le_refl _
  | y :: ys, st => by
    rw [List.foldl_cons]
    refine Nat.le_trans ?_ (pc_grow es set ys _)
    unfold pcS
    split <;> simp
theorem pieces_pos (es : List (Int × Int)) (set : List Int) (h : 0 < set.length) : 0 < (piecesL es set).length := by
  cases set with
  | nil => simp at h
  | cons y ys =>
    unfold piecesL pcK
    rw [List.foldl_cons]
    refine Nat.lt_of_lt_of_le ?_ (pc_grow es (y :: ys) ys _)
    unfold pcS
    rw [if_neg (by simp)]
    simp
theorem pieces_le (es : List (Int × Int)) (set : List Int) (hl : ∀ y ∈ set, 0 ≤ y ∧ y < 8) : (piecesL es set).length ≤ set.length := by
  have := (pcK_Sm es set hl set ([], []) hl Sm.nil).2
  simpa [piecesL, pcK] using this
/-- twofold -/
def twoB (n : Nat) (es : List (Int × Int)) : Bool := decide (3 ≤ n ∧ (piecesL es (alls n)).length = 1 ∧ ∀ x, x < n → (piecesL es (without (alls n) [(x : Int)])).length = 1)
theorem alls_sm {n : Nat} (h : n ≤ 8) : ∀ y ∈ alls n, 0 ≤ y ∧ y < 8 := fun y hy => by have := (alls_mem n y).1 hy; omega
theorem only_sm {n : Nat} (h : n ≤ 8) (x : Int) : ∀ y ∈ without (alls n) [x], 0 ≤ y ∧ y < 8 := fun y hy => alls_sm h y (List.mem_filter.1 hy).1
theorem only_len (n : Nat) (x : Int) : (without (alls n) [x]).length ≤ n := by
  have := List.length_filter_le (fun y => decide (¬ y ∈ [x])) (alls n)
  rw [alls_len] at this
  exact this
theorem only_pos (n : Nat) (h : 2 ≤ n) (x : Nat) : 0 < (without (alls n) [(x : Int)]).length := by
  by_cases e : x = 0
  · exact List.length_pos_of_mem (a := 1) (List.mem_filter.2 ⟨(alls_mem n 1).2 (by omega), by simp [e]⟩)
  · exact List.length_pos_of_mem (a := 0) (List.mem_filter.2 ⟨(alls_mem n 0).2 (by omega), by simp; omega⟩)

set_option maxRecDepth 20000 in
set_option maxHeartbeats 4000000 in
theorem l9Twofold_c (n : Nat) (v : Value) (es : List (Int × Int)) (H : AH) (hr : RowP 76 H v es) (hlen : es.length ≤ 1099511627776) (hn : n ≤ 8) :
    ACalls Try.prog 58 [.agg (List.toArray [.int .i64 (n : Int), v])] H fun r H' => r = .bool (twoB n es) ∧ H <+: H' := by
  refine in58 rfl ?_
  intro Q hQ
  simp (maxSteps := 1000000) (disch := omega) only [cd58, hr.boxG, S, S1, S2, S3, S4, S5, ST, eq_self, reduceIte, reduceCtorEq, Nat.reduceEqDiff, Nat.reduceAdd]
  generalize hA : H ++ [AObj.cells [.int .i64 ↑n, v] 28 false] = A
  have pA : H <+: A := by rw [← hA]; exact List.prefix_append _ _
  have cA : A[H.length]? = some (.cells [.int .i64 ↑n, v] 28 false) := by rw [← hA]; exact at_new ..
  have rA := hr.pre pA
  have k1 := shl1 Try.prog 3 n hn
  have hp2 : 2 ^ n ≤ 256 := Nat.pow_le_pow_right (n := 2) (by decide) hn
  try simp (maxSteps := 1000000) (disch := omega) only [S, S1, S2, S3, S4, S5, ST, eq_self, reduceIte, reduceCtorEq, Nat.reduceEqDiff, Nat.reduceAdd]
  obtain ⟨E, hE⟩ : ∃ E : Nat, E = 2 ^ n := ⟨_, rfl⟩
  rw [← hE] at k1 hp2
  simp (maxSteps := 1000000) (disch := omega) only [cell_of cA, k1, wrap64, S, S1, S2, S3, S4, S5, ST, eq_self, reduceIte, reduceCtorEq, Nat.reduceEqDiff, Nat.reduceAdd]
  refine CallH.by (l2Bits_c n _ A hn (by rw [hE])) ?_
  rintro w B ⟨ho, pB⟩
  have cB := pre_at pB cA
  have pHB := pA.trans pB
  have hrow := ho.row
  have hsm := alls_sm hn
  have hal := alls_len n
  have hpos := pieces_pos es (alls n)
  have hple := pieces_le es (alls n) hsm
  simp (maxSteps := 1000000) (disch := omega) only [cell_of cB, S, S1, S2, S3, S4, S5, ST, eq_self, reduceIte, reduceCtorEq, Nat.reduceEqDiff, Nat.reduceAdd]
  refine brD.intro (fun g => ?_) (fun g => ?_) <;> simp (maxSteps := 1000000) (disch := omega) only [g, S, S1, S2, S3, S4, S5, ST, eq_self, reduceIte, reduceCtorEq, Nat.reduceEqDiff, Nat.reduceAdd]
  · refine hQ _ _ _ ?_
    simp (maxSteps := 1000000) (disch := omega) only [S, S1, S2, S3, S4, S5, ST, eq_self, reduceIte, reduceCtorEq, Nat.reduceEqDiff, Nat.reduceAdd]
    exact ⟨by simp [twoB]; omega, pHB⟩
  simp (maxSteps := 1000000) (disch := omega) only [g, ld_agg ag28 cs28 cB, S, S1, S2, S3, S4, S5, ST, eq_self, reduceIte, reduceCtorEq, Nat.reduceEqDiff, Nat.reduceAdd]
  refine CallH.by (l2Pieces_c n v w es (alls n) B (rA.pre pB) hlen hrow hsm (by omega)) ?_
  rintro r C ⟨hL, pC⟩
  obtain ⟨us, hus, hul, _⟩ := hL.parts
  have cC := pre_at pC cB
  have pHC := pHB.trans pC
  simp (maxSteps := 1000000) (disch := omega) only [g, hus.len Try.underlying38, hul, S, S1, S2, S3, S4, S5, ST, eq_self, reduceIte, reduceCtorEq, Nat.reduceEqDiff, Nat.reduceAdd]
  refine brD.intro (fun g2 => ?_) (fun g2 => ?_) <;> simp (maxSteps := 1000000) (disch := omega) only [g2, S, S1, S2, S3, S4, S5, ST, eq_self, reduceIte, reduceCtorEq, Nat.reduceEqDiff, Nat.reduceAdd]
  · refine hQ _ _ _ ?_
    simp (maxSteps := 1000000) (disch := omega) only [S, S1, S2, S3, S4, S5, ST, eq_self, reduceIte, reduceCtorEq, Nat.reduceEqDiff, Nat.reduceAdd]
    refine ⟨?_, pHC⟩
    unfold twoB
    rw [decide_eq_false (fun h => g2 (by rw [h.2.1]; rfl))]
  refine LoopH.by (fun m s H' => ∃ i, m + i = n ∧ s 1 = .pointer (some ⟨H.length, 0, none⟩) ∧ s 3 = w ∧ s 4 = .int .i64 ((i : Nat) : Int) ∧ C <+: H' ∧ ∀ x, x < i → (piecesL es (without (alls n) [(x : Int)])).length = 1) n ?_ ?_
  · exact ⟨0, by simp, rfl, rfl, rfl, List.prefix_refl _, fun x hx => absurd hx (Nat.not_lt_zero x)⟩
  rintro m s H' ⟨i, hm, h1, h3, h4, hp, hall⟩
  have c3 := pre_at hp cC
  simp (maxSteps := 1000000) (disch := omega) only [h1, h3, h4, cell_of c3, S, S1, S2, S3, S4, S5, ST, eq_self, reduceIte, reduceCtorEq, Nat.reduceEqDiff, Nat.reduceAdd]
  refine brD.intro (fun g3 => ?_) (fun g3 => ?_)
  · have hi : i < n := by omega
    simp (maxSteps := 1000000) (disch := omega) only [h1, h3, h4, ld_agg ag28 cs28 c3, S, S1, S2, S3, S4, S5, ST, eq_self, reduceIte, reduceCtorEq, Nat.reduceEqDiff, Nat.reduceAdd]
    have hp3 : H' <+: H' ++ [AObj.cells [.int .i64 (i : Int)] 3 false] := List.prefix_append _ _
    have hr1 : Row 3 (H' ++ [AObj.cells [.int .i64 (i : Int)] 3 false]) (.slice (some ⟨H'.length, 0, none⟩) 1 1) [(i : Int)] := .inr ⟨H'.length, 0, [.int .i64 (i : Int)], false, rfl, at_new .., by simp, rfl⟩
    have hCH := hp.trans hp3
    refine CallH.by (l3Only_c w _ (alls n) [(i : Int)] _ (hrow.pre (pC.trans hCH)) hr1 (by omega) (by simp)) ?_
    rintro r2 D ⟨ho2, pD⟩
    have hCD := hCH.trans pD
    have hsm2 := only_sm hn (i : Int)
    have hol := only_len n (i : Int)
    have hpos2 := pieces_pos es _ (only_pos n (by omega) i)
    have hple2 := pieces_le es _ hsm2
    simp (maxSteps := 1000000) (disch := omega) only [h1, h3, h4, S, S1, S2, S3, S4, S5, ST, eq_self, reduceIte, reduceCtorEq, Nat.reduceEqDiff, Nat.reduceAdd]
    refine ⟨ld_agg ag28 cs28 (pre_at (hCH.trans pD) cC), ?_⟩
    refine CallH.by (l2Pieces_c n v r2 es _ D (rA.pre (pB.trans (pC.trans hCD))) hlen ho2.row hsm2 (by omega)) ?_
    rintro r3 G ⟨hL3, pG⟩
    obtain ⟨us3, hus3, hul3, _⟩ := hL3.parts
    have hpG := hCD.trans pG
    simp (maxSteps := 1000000) (disch := omega) only [hus3.len Try.underlying38, hul3, S, S1, S2, S3, S4, S5, ST, eq_self, reduceIte, reduceCtorEq, Nat.reduceEqDiff, Nat.reduceAdd]
    refine brD.intro (fun g4 => ?_) (fun g4 => ?_)
    · simp (maxSteps := 1000000) (disch := omega) only [g4, S, S1, S2, S3, S4, S5, ST, eq_self, reduceIte, reduceCtorEq, Nat.reduceEqDiff, Nat.reduceAdd]
      refine hQ _ _ _ ?_
      simp (maxSteps := 1000000) (disch := omega) only [S, S1, S2, S3, S4, S5, ST, eq_self, reduceIte, reduceCtorEq, Nat.reduceEqDiff, Nat.reduceAdd]
      refine ⟨?_, (pHB.trans pC).trans (hp.trans (hp3.trans (pD.trans pG)))⟩
      unfold twoB
      rw [decide_eq_false (fun h => g4 (by rw [h.2.2 i hi]; rfl))]
    · have hone : (piecesL es (without (alls n) [(i : Int)])).length = 1 := by omega
      simp (maxSteps := 1000000) (disch := omega) only [g4, h1, h3, h4, wrap64, S, S1, S2, S3, S4, S5, ST, eq_self, reduceIte, reduceCtorEq, Nat.reduceEqDiff, Nat.reduceAdd]
      have hC2 := hp.trans (hp3.trans (pD.trans pG))
      have hall2 : ∀ x, x < i + 1 → (piecesL es (without (alls n) [(x : Int)])).length = 1 := by
        intro x hx
        by_cases e : x = i
        · subst e; exact hone
        · exact hall x (by omega)
      refine ⟨m - 1, by omega, i + 1, ?_⟩
      (repeat' first | exact hC2 | exact hall2 | apply And.intro) <;> first | (simp only [Value.int.injEq, true_and]; omega) | omega | rfl | assumption | (simp; done) | (simp; omega)
  · simp (maxSteps := 1000000) (disch := omega) only [S, S1, S2, S3, S4, S5, ST, eq_self, reduceIte, reduceCtorEq, Nat.reduceEqDiff, Nat.reduceAdd]
    refine hQ _ _ _ ?_
    simp (maxSteps := 1000000) (disch := omega) only [S, S1, S2, S3, S4, S5, ST, eq_self, reduceIte, reduceCtorEq, Nat.reduceEqDiff, Nat.reduceAdd]
    refine ⟨?_, pHC.trans hp⟩
    unfold twoB
    rw [decide_eq_true ⟨by omega, by omega, fun x hx => hall x (by omega)⟩]

set_option maxRecDepth 20000 in
set_option maxHeartbeats 4000000 in
theorem isTwofold_c (n : Nat) (v : Value) (es : List (Int × Int)) (H : AH) (hr : RowP 76 H v es) (hlen : es.length ≤ 1099511627776) (hg : Grd (n : Int) es) :
    ACalls Try.prog 61 [.agg (List.toArray [.int .i64 (n : Int), v])] H fun r H' => r = .bool (twoB n es) ∧ H <+: H' := by
  have hn : n ≤ 8 := by have := hg.1; omega
  refine in61 rfl ?_
  intro Q hQ
  simp (maxSteps := 1000000) (disch := omega) only [cd61, hr.boxG, S, S1, S2, S3, S4, S5, ST, eq_self, reduceIte, reduceCtorEq, Nat.reduceEqDiff, Nat.reduceAdd]
  generalize hA : H ++ [AObj.cells [.int .i64 ↑n, v] 28 false] = A
  have pA : H <+: A := by rw [← hA]; exact List.prefix_append _ _
  have cA : A[H.length]? = some (.cells [.int .i64 ↑n, v] 28 false) := by rw [← hA]; exact at_new ..
  have rA := hr.pre pA
  try simp (maxSteps := 1000000) (disch := omega) only [S, S1, S2, S3, S4, S5, ST, eq_self, reduceIte, reduceCtorEq, Nat.reduceEqDiff, Nat.reduceAdd]
  simp (maxSteps := 1000000) (disch := omega) only [ld_agg ag28 cs28 cA, S, S1, S2, S3, S4, S5, ST, eq_self, reduceIte, reduceCtorEq, Nat.reduceEqDiff, Nat.reduceAdd]
  refine CallH.by (roads_c n v es A rA hlen hg) ?_
  rintro w B ⟨hL, pB⟩
  rw [Int.toNat_natCast] at hL
  have cB := pre_at pB cA
  have pHB := pA.trans pB
  have hRB := hL.row
  have hok := roadsL_ok n es
  have hrl := roadsL_len n es
  have hsml := roadsL_small n es (by omega)
  have hpos := pieces_pos es (alls n)
  have hal := alls_len n
  have hp0 := roads_parts n es
  simp (maxSteps := 1000000) (disch := omega) only [cell_of cB, S, S1, S2, S3, S4, S5, ST, eq_self, reduceIte, reduceCtorEq, Nat.reduceEqDiff, Nat.reduceAdd]
  refine brD.intro (fun g => ?_) (fun g => ?_) <;> simp (maxSteps := 1000000) (disch := omega) only [g, S, S1, S2, S3, S4, S5, ST, eq_self, reduceIte, reduceCtorEq, Nat.reduceEqDiff, Nat.reduceAdd]
  · refine hQ _ _ _ ?_
    simp (maxSteps := 1000000) (disch := omega) only [S, S1, S2, S3, S4, S5, ST, eq_self, reduceIte, reduceCtorEq, Nat.reduceEqDiff, Nat.reduceAdd]
    exact ⟨by simp [twoB]; omega, pHB⟩
  refine CallH.by (parts_c w (roadsL n es) (-1) B hRB hok (by omega) (by omega) hsml) ?_
  rintro r C ⟨hL2, pC⟩
  rw [hp0] at hL2
  have hple := pieces_le es (alls n) (alls_sm hn)
  obtain ⟨us, hus, hul, _⟩ := hL2.parts
  have cC := pre_at pC cB
  have pHC := pHB.trans pC
  simp (maxSteps := 1000000) (disch := omega) only [g, hus.len Try.underlying38, hul, S, S1, S2, S3, S4, S5, ST, eq_self, reduceIte, reduceCtorEq, Nat.reduceEqDiff, Nat.reduceAdd]
  refine brD.intro (fun g2 => ?_) (fun g2 => ?_) <;> simp (maxSteps := 1000000) (disch := omega) only [g2, cell_of cC, S, S1, S2, S3, S4, S5, ST, eq_self, reduceIte, reduceCtorEq, Nat.reduceEqDiff, Nat.reduceAdd]
  · refine hQ _ _ _ ?_
    simp (maxSteps := 1000000) (disch := omega) only [S, S1, S2, S3, S4, S5, ST, eq_self, reduceIte, reduceCtorEq, Nat.reduceEqDiff, Nat.reduceAdd]
    refine ⟨?_, pHC⟩
    unfold twoB
    rw [decide_eq_false (fun h => by omega)]
  refine LoopH.by (fun m s H' => ∃ i, m + i = n ∧ s 3 = w ∧ s 17 = .int .i64 (n : Int) ∧ s 18 = .int .i64 ((i : Nat) : Int) ∧ C <+: H' ∧ ∀ x, x < i → (piecesL es (without (alls n) [(x : Int)])).length = 1) n ?_ ?_
  · exact ⟨0, by simp, rfl, rfl, rfl, List.prefix_refl _, fun x hx => absurd hx (Nat.not_lt_zero x)⟩
  rintro m s H' ⟨i, hm, h3, h17, h18, hp, hall⟩
  simp (maxSteps := 1000000) (disch := omega) only [h3, h17, h18, S, S1, S2, S3, S4, S5, ST, eq_self, reduceIte, reduceCtorEq, Nat.reduceEqDiff, Nat.reduceAdd]
  refine brD.intro (fun g3 => ?_) (fun g3 => ?_)
  · have hi : i < n := by omega
    simp (maxSteps := 1000000) (disch := omega) only [h3, h17, h18, S, S1, S2, S3, S4, S5, ST, eq_self, reduceIte, reduceCtorEq, Nat.reduceEqDiff, Nat.reduceAdd]
    have hCH := pC.trans hp
    have hRH : RowLB B.length 32 3 H' w (roadsL n es) := hRB.pre hCH
    refine CallH.by (parts_c w (roadsL n es) (i : Int) H' hRH hok (by omega) (by omega) hsml) ?_
    rintro r3 G ⟨hL3, pG⟩
    rw [roads_parts1 n es i hi] at hL3
    obtain ⟨us3, hus3, hul3, _⟩ := hL3.parts
    have hpos2 := pieces_pos es _ (only_pos n (by omega) i)
    have hple2 := pieces_le es _ (only_sm hn (i : Int))
    have hol := only_len n (i : Int)
    simp (maxSteps := 1000000) (disch := omega) only [hus3.len Try.underlying38, hul3, S, S1, S2, S3, S4, S5, ST, eq_self, reduceIte, reduceCtorEq, Nat.reduceEqDiff, Nat.reduceAdd]
    refine brD.intro (fun g4 => ?_) (fun g4 => ?_)
    · simp (maxSteps := 1000000) (disch := omega) only [g4, S, S1, S2, S3, S4, S5, ST, eq_self, reduceIte, reduceCtorEq, Nat.reduceEqDiff, Nat.reduceAdd]
      refine hQ _ _ _ ?_
      simp (maxSteps := 1000000) (disch := omega) only [S, S1, S2, S3, S4, S5, ST, eq_self, reduceIte, reduceCtorEq, Nat.reduceEqDiff, Nat.reduceAdd]
      refine ⟨?_, pHC.trans (hp.trans pG)⟩
      unfold twoB
      rw [decide_eq_false (fun h => by have := h.2.2 i hi; omega)]
    · have hone : (piecesL es (without (alls n) [(i : Int)])).length = 1 := by omega
      simp (maxSteps := 1000000) (disch := omega) only [g4, h3, h17, h18, wrap64, S, S1, S2, S3, S4, S5, ST, eq_self, reduceIte, reduceCtorEq, Nat.reduceEqDiff, Nat.reduceAdd]
      have hC2 := hp.trans pG
      have hall2 : ∀ x, x < i + 1 → (piecesL es (without (alls n) [(x : Int)])).length = 1 := by
        intro x hx
        by_cases e : x = i
        · subst e; exact hone
        · exact hall x (by omega)
      refine ⟨m - 1, by omega, i + 1, ?_⟩
      (repeat' first | exact hC2 | exact hall2 | apply And.intro) <;> first | (simp only [Value.int.injEq, true_and]; omega) | omega | rfl | assumption | (simp; done) | (simp; omega)
  · simp (maxSteps := 1000000) (disch := omega) only [S, S1, S2, S3, S4, S5, ST, eq_self, reduceIte, reduceCtorEq, Nat.reduceEqDiff, Nat.reduceAdd]
    refine hQ _ _ _ ?_
    simp (maxSteps := 1000000) (disch := omega) only [S, S1, S2, S3, S4, S5, ST, eq_self, reduceIte, reduceCtorEq, Nat.reduceEqDiff, Nat.reduceAdd]
    refine ⟨?_, pHC.trans hp⟩
    unfold twoB
    rw [decide_eq_true ⟨by omega, by omega, fun x hx => hall x (by omega)⟩]

theorem TwoS_c (n : Int) (v : Value) (es : List (Int × Int)) (H : AH) (hr : RowP 76 H v es) (hlen : es.length ≤ 1099511627776) (hes : ∀ y ∈ es, I64 y.1 ∧ I64 y.2) (hn : I64 n) :
    ACalls Try.prog 16 [.agg (List.toArray [.int .i64 n, v])] H fun r H' => r = .tuple (List.toArray [.bool (decide (Grd n es) && twoB n.toNat es), .bool (decide (Grd n es))]) ∧ H <+: H' := by
  refine in16 rfl ?_
  intro Q hQ
  simp (maxSteps := 1000000) (disch := omega) only [cd16, hr.boxG, S, S1, S2, S3, S4, S5, ST, eq_self, reduceIte, reduceCtorEq, Nat.reduceEqDiff, Nat.reduceAdd]
  generalize hA : H ++ [AObj.cells [.int .i64 n, v] 28 false] = A
  have pA : H <+: A := by rw [← hA]; exact List.prefix_append _ _
  have cA : A[H.length]? = some (.cells [.int .i64 n, v] 28 false) := by rw [← hA]; exact at_new ..
  have rA := hr.pre pA
  simp (maxSteps := 1000000) (disch := omega) only [ld_agg ag28 cs28 cA, S, S1, S2, S3, S4, S5, ST, eq_self, reduceIte, reduceCtorEq, Nat.reduceEqDiff, Nat.reduceAdd]
  refine CallH.by (l2Good_c n v es A rA (by omega)) ?_
  rintro _ B ⟨rfl, pB⟩
  have cB := pre_at pB cA
  simp (maxSteps := 1000000) (disch := omega) only [S, S1, S2, S3, S4, S5, ST, eq_self, reduceIte, reduceCtorEq, Nat.reduceEqDiff, Nat.reduceAdd]
  refine brD.intro (fun e => ?_) (fun e => ?_) <;> simp (maxSteps := 1000000) (disch := omega) only [e, ld_agg ag28 cs28 cB, S, S1, S2, S3, S4, S5, ST, eq_self, reduceIte, reduceCtorEq, Nat.reduceEqDiff, Nat.reduceAdd]
  · obtain ⟨k, hk⟩ : ∃ k : Nat, n = k := ⟨n.toNat, by have := e.1; omega⟩
    subst hk
    refine CallH.by (l9Twofold_c k v es B (rA.pre pB) hlen (by have := e.1; omega)) ?_
    rintro _ C ⟨rfl, pC⟩
    simp (maxSteps := 1000000) (disch := omega) only [e, S, S1, S2, S3, S4, S5, ST, eq_self, reduceIte, reduceCtorEq, Nat.reduceEqDiff, Nat.reduceAdd]
    refine hQ _ _ _ ?_
    simp (maxSteps := 1000000) (disch := omega) only [e, S, S1, S2, S3, S4, S5, ST, eq_self, reduceIte, reduceCtorEq, Nat.reduceEqDiff, Nat.reduceAdd]
    simp [e, pA.trans (pB.trans pC)]
  · refine hQ _ _ _ ?_
    simp (maxSteps := 1000000) (disch := omega) only [e, S, S1, S2, S3, S4, S5, ST, eq_self, reduceIte, reduceCtorEq, Nat.reduceEqDiff, Nat.reduceAdd]
    simp [e, pA.trans pB]

theorem TwoI_c (n : Int) (v : Value) (es : List (Int × Int)) (H : AH) (hr : RowP 76 H v es) (hlen : es.length ≤ 1099511627776) (hes : ∀ y ∈ es, I64 y.1 ∧ I64 y.2) (hn : I64 n) :
    ACalls Try.prog 18 [.agg (List.toArray [.int .i64 n, v])] H fun r H' => r = .tuple (List.toArray [.bool (decide (Grd n es) && twoB n.toNat es), .bool (decide (Grd n es))]) ∧ H <+: H' := by
  refine in18 rfl ?_
  intro Q hQ
  simp (maxSteps := 1000000) (disch := omega) only [cd18, hr.boxG, S, S1, S2, S3, S4, S5, ST, eq_self, reduceIte, reduceCtorEq, Nat.reduceEqDiff, Nat.reduceAdd]
  generalize hA : H ++ [AObj.cells [.int .i64 n, v] 28 false] = A
  have pA : H <+: A := by rw [← hA]; exact List.prefix_append _ _
  have cA : A[H.length]? = some (.cells [.int .i64 n, v] 28 false) := by rw [← hA]; exact at_new ..
  have rA := hr.pre pA
  simp (maxSteps := 1000000) (disch := omega) only [ld_agg ag28 cs28 cA, S, S1, S2, S3, S4, S5, ST, eq_self, reduceIte, reduceCtorEq, Nat.reduceEqDiff, Nat.reduceAdd]
  refine CallH.by (IsGraph_c n v es A rA (by omega)) ?_
  rintro _ B ⟨rfl, pB⟩
  have cB := pre_at pB cA
  simp (maxSteps := 1000000) (disch := omega) only [S, S1, S2, S3, S4, S5, ST, eq_self, reduceIte, reduceCtorEq, Nat.reduceEqDiff, Nat.reduceAdd]
  refine brD.intro (fun e => ?_) (fun e => ?_) <;> simp (maxSteps := 1000000) (disch := omega) only [e, ld_agg ag28 cs28 cB, S, S1, S2, S3, S4, S5, ST, eq_self, reduceIte, reduceCtorEq, Nat.reduceEqDiff, Nat.reduceAdd]
  · obtain ⟨k, hk⟩ : ∃ k : Nat, n = k := ⟨n.toNat, by have := e.1; omega⟩
    subst hk
    refine CallH.by (isTwofold_c k v es B (rA.pre pB) hlen e) ?_
    rintro _ C ⟨rfl, pC⟩
    simp (maxSteps := 1000000) (disch := omega) only [e, S, S1, S2, S3, S4, S5, ST, eq_self, reduceIte, reduceCtorEq, Nat.reduceEqDiff, Nat.reduceAdd]
    refine hQ _ _ _ ?_
    simp (maxSteps := 1000000) (disch := omega) only [e, S, S1, S2, S3, S4, S5, ST, eq_self, reduceIte, reduceCtorEq, Nat.reduceEqDiff, Nat.reduceAdd]
    simp [e, pA.trans (pB.trans pC)]
  · refine hQ _ _ _ ?_
    simp (maxSteps := 1000000) (disch := omega) only [e, S, S1, S2, S3, S4, S5, ST, eq_self, reduceIte, reduceCtorEq, Nat.reduceEqDiff, Nat.reduceAdd]
    simp [e, pA.trans pB]
end Go.Proofs.Ythhnpchjjbjabaa.Ai
