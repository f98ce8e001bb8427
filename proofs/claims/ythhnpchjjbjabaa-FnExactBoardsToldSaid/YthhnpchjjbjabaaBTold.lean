/- BoardsTold, both sides. -/
import Derived.Test.YthhnpchjjbjabaaEven
import Derived.Test.YthhnpchjjbjabaaProg
import Derived.Test.YthhnpchjjbjabaaAiM2
import Derived.KernelRfl
/- Slim code of this translation. By the kernel. -/
namespace Go.Proofs.Ythhnpchjjbjabaa.Ai
open Go

/- loop.example/g01128/spec.l9Many -/
def ords88 : List (Nat × List (Nat × Bool)) := []
def cd88 : Cd := (.seq (.reg [⟨⟨some 2, Op.assign (Operand.const (Value.int IntKind.i64 0)), none⟩, []⟩]) (.seq (.reg [⟨⟨some 3, Op.assign (Operand.const (Value.int IntKind.i64 1)), none⟩, []⟩]) (.seq (.seq (.reg [⟨⟨some 4, Op.assign (Operand.const (Value.int IntKind.i64 2)), none⟩, []⟩]) (.block 0 (.loop (.seq (.seq (.reg [⟨⟨some 5, Op.move (Operand.tmp 4), none⟩, []⟩,
  ⟨⟨some 6, Op.move (Operand.tmp 0), none⟩, []⟩,
  ⟨⟨some 7, Op.binOp BinOp.leq 3 (Operand.tmp 5) (Operand.tmp 6) 3, none⟩, []⟩]) (.cond (Operand.tmp 7) .skip (.exit 0))) (.seq (.block 1 (.reg [⟨⟨some 10, Op.move (Operand.tmp 3), none⟩, []⟩,
  ⟨⟨some 11, Op.move (Operand.tmp 4), none⟩, []⟩,
  ⟨⟨some 12, Op.binOp BinOp.mul 3 (Operand.tmp 10) (Operand.tmp 11) 3, none⟩, []⟩,
  ⟨⟨some 3, Op.assign (Operand.tmp 12), none⟩, []⟩])) (.reg [⟨⟨some 8, Op.move (Operand.tmp 4), none⟩, []⟩,
  ⟨⟨some 9, Op.binOp BinOp.add 3 (Operand.tmp 8) (Operand.const (Value.int IntKind.i64 1)) 3, none⟩, []⟩,
  ⟨⟨some 4, Op.assign (Operand.tmp 9), none⟩, []⟩])))))) (.seq (.reg [⟨⟨some 13, Op.move (Operand.tmp 3), none⟩, []⟩,
  ⟨⟨some 2, Op.assign (Operand.tmp 13), none⟩, []⟩]) .ret))))
theorem sl88 : slim Try.f88.ntmps ords88 (Try.f88.body.getD .skip) = some cd88 := by kernel_rfl
theorem in88 {args : List Value} {H : AH} {R : Value → AH → Prop} (hl : args.length = 1) (h : ∀ (Q : Exit → Sl → AH → Prop), (∀ e s H, endA Try.prog [ResultVar.tmp 2] R e s H → Q e s H) → wpC Try.prog cd88 Q (enterA args) H) : ACalls Try.prog 88 args H R :=
  ACalls.intro (by kernel_rfl) Try.func88 rfl (by kernel_rfl) sl88 hl (of_decide_eq_true (by kernel_rfl)) (by kernel_rfl) h

/- loop.example/g01128/spec.BoardsTold -/
def ords42 : List (Nat × List (Nat × Bool)) := []
def cd42 : Cd := (.seq (.reg [⟨⟨some 1, Op.box 28 (Operand.tmp 0), none⟩, []⟩,
  ⟨⟨some 2, Op.assign (Operand.const (Value.int IntKind.i64 0)), none⟩, []⟩,
  ⟨⟨some 3, Op.assign (Operand.const (Value.bool false)), none⟩, []⟩]) (.seq (.seq (.reg [⟨⟨some 5, Op.load 28 (Operand.tmp 1), none⟩, []⟩,
  ⟨⟨some 6, Op.call { callee := (Callee.value (Operand.func 57)), args := #[(Operand.tmp 5)], argTypes := #[28] }, none⟩, []⟩,
  ⟨⟨some 7, Op.unOp UnOp.not 4 (Operand.tmp 6), none⟩, []⟩,
  ⟨⟨some 8, Op.move (Operand.tmp 7), none⟩, []⟩,
  ⟨⟨some 9, Op.load 28 (Operand.tmp 1), some (8, false)⟩, []⟩,
  ⟨⟨some 10, Op.call { callee := (Callee.value (Operand.func 58)), args := #[(Operand.tmp 9)], argTypes := #[28] }, some (8, false)⟩, []⟩,
  ⟨⟨some 11, Op.unOp UnOp.not 4 (Operand.tmp 10), some (8, false)⟩, []⟩,
  ⟨⟨some 12, Op.pick (Operand.tmp 8) (Operand.const (Value.bool true)) (Operand.tmp 11), none⟩, []⟩,
  ⟨⟨some 13, Op.move (Operand.tmp 12), none⟩, []⟩,
  ⟨⟨some 14, Op.fieldAddr 28 (Operand.tmp 1) 0, some (13, false)⟩, []⟩,
  ⟨⟨some 15, Op.load 3 (Operand.tmp 14), some (13, false)⟩, []⟩,
  ⟨⟨some 16, Op.binOp BinOp.gtr 3 (Operand.tmp 15) (Operand.const (Value.int IntKind.i64 6)) 3, some (13, false)⟩, []⟩,
  ⟨⟨some 17, Op.pick (Operand.tmp 13) (Operand.const (Value.bool true)) (Operand.tmp 16), none⟩, []⟩]) (.cond (Operand.tmp 17) (.seq (.reg [⟨⟨some 2, Op.assign (Operand.const (Value.int IntKind.i64 0)), none⟩, []⟩,
  ⟨⟨some 3, Op.assign (Operand.const (Value.bool false)), none⟩, []⟩]) .ret) .skip)) (.seq (.reg [⟨⟨some 18, Op.fieldAddr 28 (Operand.tmp 1) 0, none⟩, []⟩,
  ⟨⟨some 19, Op.load 3 (Operand.tmp 18), none⟩, []⟩,
  ⟨⟨some 20, Op.call { callee := (Callee.value (Operand.func 88)), args := #[(Operand.tmp 19)], argTypes := #[3] }, none⟩, []⟩,
  ⟨⟨some 4, Op.assign (Operand.tmp 20), none⟩, []⟩]) (.seq (.seq (.reg [⟨⟨some 21, Op.fieldAddr 28 (Operand.tmp 1) 1, none⟩, []⟩,
  ⟨⟨some 22, Op.load 22 (Operand.tmp 21), none⟩, []⟩,
  ⟨⟨some 23, Op.call { callee := (Callee.builtin Builtin.len), args := #[(Operand.tmp 22)], argTypes := #[22] }, none⟩, []⟩,
  ⟨⟨some 24, Op.fieldAddr 28 (Operand.tmp 1) 0, none⟩, []⟩,
  ⟨⟨some 25, Op.load 3 (Operand.tmp 24), none⟩, []⟩,
  ⟨⟨some 26, Op.binOp BinOp.eql 3 (Operand.tmp 23) (Operand.tmp 25) 3, none⟩, []⟩]) (.cond (Operand.tmp 26) (.seq (.reg [⟨⟨some 27, Op.fieldAddr 28 (Operand.tmp 1) 0, none⟩, []⟩,
  ⟨⟨some 28, Op.load 3 (Operand.tmp 27), none⟩, []⟩,
  ⟨⟨some 29, Op.fieldAddr 28 (Operand.tmp 1) 0, none⟩, []⟩,
  ⟨⟨some 30, Op.load 3 (Operand.tmp 29), none⟩, []⟩,
  ⟨⟨some 31, Op.binOp BinOp.sub 3 (Operand.tmp 30) (Operand.const (Value.int IntKind.i64 1)) 3, none⟩, []⟩,
  ⟨⟨some 32, Op.binOp BinOp.mul 3 (Operand.tmp 28) (Operand.tmp 31) 3, none⟩, []⟩,
  ⟨⟨some 2, Op.assign (Operand.tmp 32), none⟩, []⟩,
  ⟨⟨some 3, Op.assign (Operand.const (Value.bool true)), none⟩, []⟩]) .ret) .skip)) (.seq (.seq (.reg [⟨⟨some 33, Op.load 28 (Operand.tmp 1), none⟩, []⟩,
  ⟨⟨some 34, Op.call { callee := (Callee.value (Operand.func 62)), args := #[(Operand.tmp 33)], argTypes := #[28] }, none⟩, []⟩]) (.cond (Operand.tmp 34) (.seq (.reg [⟨⟨some 35, Op.move (Operand.tmp 4), none⟩, []⟩,
  ⟨⟨some 36, Op.binOp BinOp.quo 3 (Operand.tmp 35) (Operand.const (Value.int IntKind.i64 2)) 3, none⟩, []⟩,
  ⟨⟨some 2, Op.assign (Operand.tmp 36), none⟩, []⟩,
  ⟨⟨some 3, Op.assign (Operand.const (Value.bool true)), none⟩, []⟩]) .ret) .skip)) (.seq (.reg [⟨⟨some 37, Op.move (Operand.tmp 4), none⟩, []⟩,
  ⟨⟨some 2, Op.assign (Operand.tmp 37), none⟩, []⟩,
  ⟨⟨some 3, Op.assign (Operand.const (Value.bool true)), none⟩, []⟩]) .ret))))))
theorem sl42 : slim Try.f42.ntmps ords42 (Try.f42.body.getD .skip) = some cd42 := by kernel_rfl
theorem in42 {args : List Value} {H : AH} {R : Value → AH → Prop} (hl : args.length = 1) (h : ∀ (Q : Exit → Sl → AH → Prop), (∀ e s H, endA Try.prog [ResultVar.tmp 2, ResultVar.tmp 3] R e s H → Q e s H) → wpC Try.prog cd42 Q (enterA args) H) : ACalls Try.prog 42 args H R :=
  ACalls.intro (by kernel_rfl) Try.func42 rfl (by kernel_rfl) sl42 hl (of_decide_eq_true (by kernel_rfl)) (by kernel_rfl) h

/- loop.example/g01128/impl.BoardsTold -/
def ords43 : List (Nat × List (Nat × Bool)) := []
def cd43 : Cd := (.seq (.reg [⟨⟨some 1, Op.box 28 (Operand.tmp 0), none⟩, []⟩,
  ⟨⟨some 2, Op.assign (Operand.const (Value.int IntKind.i64 0)), none⟩, []⟩,
  ⟨⟨some 3, Op.assign (Operand.const (Value.bool false)), none⟩, []⟩]) (.seq (.seq (.reg [⟨⟨some 6, Op.load 28 (Operand.tmp 1), none⟩, []⟩,
  ⟨⟨some 7, Op.call { callee := (Callee.value (Operand.func 60)), args := #[(Operand.tmp 6)], argTypes := #[28] }, none⟩, []⟩,
  ⟨⟨some 8, Op.unOp UnOp.not 4 (Operand.tmp 7), none⟩, []⟩,
  ⟨⟨some 9, Op.move (Operand.tmp 8), none⟩, []⟩,
  ⟨⟨some 10, Op.fieldAddr 28 (Operand.tmp 1) 0, some (9, false)⟩, []⟩,
  ⟨⟨some 11, Op.load 3 (Operand.tmp 10), some (9, false)⟩, []⟩,
  ⟨⟨some 12, Op.binOp BinOp.gtr 3 (Operand.tmp 11) (Operand.const (Value.int IntKind.i64 6)) 3, some (9, false)⟩, []⟩,
  ⟨⟨some 13, Op.pick (Operand.tmp 9) (Operand.const (Value.bool true)) (Operand.tmp 12), none⟩, []⟩,
  ⟨⟨some 14, Op.move (Operand.tmp 13), none⟩, []⟩,
  ⟨⟨some 15, Op.load 28 (Operand.tmp 1), some (14, false)⟩, []⟩,
  ⟨⟨some 16, Op.call { callee := (Callee.value (Operand.func 61)), args := #[(Operand.tmp 15)], argTypes := #[28] }, some (14, false)⟩, []⟩,
  ⟨⟨some 17, Op.unOp UnOp.not 4 (Operand.tmp 16), some (14, false)⟩, []⟩,
  ⟨⟨some 18, Op.pick (Operand.tmp 14) (Operand.const (Value.bool true)) (Operand.tmp 17), none⟩, []⟩]) (.cond (Operand.tmp 18) (.seq (.reg [⟨⟨some 2, Op.assign (Operand.const (Value.int IntKind.i64 0)), none⟩, []⟩,
  ⟨⟨some 3, Op.assign (Operand.const (Value.bool false)), none⟩, []⟩]) .ret) .skip)) (.seq (.seq (.reg [⟨⟨some 19, Op.fieldAddr 28 (Operand.tmp 1) 1, none⟩, []⟩,
  ⟨⟨some 20, Op.load 22 (Operand.tmp 19), none⟩, []⟩,
  ⟨⟨some 21, Op.call { callee := (Callee.builtin Builtin.len), args := #[(Operand.tmp 20)], argTypes := #[22] }, none⟩, []⟩,
  ⟨⟨some 22, Op.fieldAddr 28 (Operand.tmp 1) 0, none⟩, []⟩,
  ⟨⟨some 23, Op.load 3 (Operand.tmp 22), none⟩, []⟩,
  ⟨⟨some 24, Op.binOp BinOp.eql 3 (Operand.tmp 21) (Operand.tmp 23) 3, none⟩, []⟩]) (.cond (Operand.tmp 24) (.seq (.reg [⟨⟨some 25, Op.fieldAddr 28 (Operand.tmp 1) 0, none⟩, []⟩,
  ⟨⟨some 26, Op.load 3 (Operand.tmp 25), none⟩, []⟩,
  ⟨⟨some 27, Op.fieldAddr 28 (Operand.tmp 1) 0, none⟩, []⟩,
  ⟨⟨some 28, Op.load 3 (Operand.tmp 27), none⟩, []⟩,
  ⟨⟨some 29, Op.binOp BinOp.sub 3 (Operand.tmp 28) (Operand.const (Value.int IntKind.i64 1)) 3, none⟩, []⟩,
  ⟨⟨some 30, Op.binOp BinOp.mul 3 (Operand.tmp 26) (Operand.tmp 29) 3, none⟩, []⟩,
  ⟨⟨some 2, Op.assign (Operand.tmp 30), none⟩, []⟩,
  ⟨⟨some 3, Op.assign (Operand.const (Value.bool true)), none⟩, []⟩]) .ret) .skip)) (.seq (.reg [⟨⟨some 4, Op.assign (Operand.const (Value.int IntKind.i64 1)), none⟩, []⟩]) (.seq (.seq (.reg [⟨⟨some 31, Op.fieldAddr 28 (Operand.tmp 1) 0, none⟩, []⟩,
  ⟨⟨some 32, Op.load 3 (Operand.tmp 31), none⟩, []⟩,
  ⟨⟨some 33, Op.move (Operand.const (Value.int IntKind.i64 0)), none⟩, []⟩]) (.block 0 (.loop (.seq (.reg [⟨⟨some 34, Op.binOp BinOp.lss 3 (Operand.tmp 33) (Operand.tmp 32) 3, none⟩, []⟩]) (.seq (.cond (Operand.tmp 34) .skip (.exit 0)) (.seq (.block 1 (.seq (.reg [⟨⟨some 35, Op.move (Operand.tmp 33), none⟩, []⟩,
  ⟨⟨some 5, Op.assign (Operand.tmp 35), none⟩, []⟩]) (.reg [⟨⟨some 36, Op.move (Operand.tmp 4), none⟩, []⟩,
  ⟨⟨some 37, Op.move (Operand.tmp 5), none⟩, []⟩,
  ⟨⟨some 38, Op.binOp BinOp.add 3 (Operand.tmp 37) (Operand.const (Value.int IntKind.i64 1)) 3, none⟩, []⟩,
  ⟨⟨some 39, Op.binOp BinOp.mul 3 (Operand.tmp 36) (Operand.tmp 38) 3, none⟩, []⟩,
  ⟨⟨some 4, Op.assign (Operand.tmp 39), none⟩, []⟩]))) (.reg [⟨⟨some 40, Op.binOp BinOp.add 3 (Operand.tmp 33) (Operand.const (Value.int IntKind.i64 1)) 3, none⟩, []⟩,
  ⟨⟨some 33, Op.move (Operand.tmp 40), none⟩, []⟩]))))))) (.seq (.seq (.reg [⟨⟨some 41, Op.load 28 (Operand.tmp 1), none⟩, []⟩,
  ⟨⟨some 42, Op.call { callee := (Callee.value (Operand.func 63)), args := #[(Operand.tmp 41)], argTypes := #[28] }, none⟩, []⟩]) (.cond (Operand.tmp 42) (.reg [⟨⟨some 43, Op.move (Operand.tmp 4), none⟩, []⟩,
  ⟨⟨some 44, Op.binOp BinOp.quo 3 (Operand.tmp 43) (Operand.const (Value.int IntKind.i64 2)) 3, none⟩, []⟩,
  ⟨⟨some 4, Op.assign (Operand.tmp 44), none⟩, []⟩]) .skip)) (.seq (.reg [⟨⟨some 45, Op.move (Operand.tmp 4), none⟩, []⟩,
  ⟨⟨some 2, Op.assign (Operand.tmp 45), none⟩, []⟩,
  ⟨⟨some 3, Op.assign (Operand.const (Value.bool true)), none⟩, []⟩]) .ret)))))))
theorem sl43 : slim Try.f43.ntmps ords43 (Try.f43.body.getD .skip) = some cd43 := by kernel_rfl
theorem in43 {args : List Value} {H : AH} {R : Value → AH → Prop} (hl : args.length = 1) (h : ∀ (Q : Exit → Sl → AH → Prop), (∀ e s H, endA Try.prog [ResultVar.tmp 2, ResultVar.tmp 3] R e s H → Q e s H) → wpC Try.prog cd43 Q (enterA args) H) : ACalls Try.prog 43 args H R :=
  ACalls.intro (by kernel_rfl) Try.func43 rfl (by kernel_rfl) sl43 hl (of_decide_eq_true (by kernel_rfl)) (by kernel_rfl) h
end Go.Proofs.Ythhnpchjjbjabaa.Ai

namespace Go.Proofs.Ythhnpchjjbjabaa.Ai
open Go Go.RowKit
set_option linter.unusedVariables false
set_option linter.unusedSimpArgs false

/-- as many orders of n things -/
def mnyT : Nat → Nat
  | 0 => 1
  | n + 1 => mnyT n * (n + 1)
theorem mnyT_le : ∀ {n : Nat}, n ≤ 8 → 1 ≤ mnyT n ∧ mnyT n ≤ 40320 := by
  intro n hn
  have : n = 0 ∨ n = 1 ∨ n = 2 ∨ n = 3 ∨ n = 4 ∨ n = 5 ∨ n = 6 ∨ n = 7 ∨ n = 8 := by omega
  rcases this with rfl | rfl | rfl | rfl | rfl | rfl | rfl | rfl | rfl <;> decide

set_option maxHeartbeats 1000000 in
theorem l9ManyT_c (n : Nat) (H : AH) (hn : n ≤ 8) : ACalls Try.prog 88 [.int .i64 (n : Int)] H fun r H' => r = .int .i64 (mnyT n : Int) ∧ H = H' := by
  refine in88 rfl ?_
  intro Q hQ
  simp (maxSteps := 1000000) (disch := omega) only [cd88, S, S1, S2, S3, S4, ST, eq_self, ne_eq, not_true_eq_false, not_false_eq_true, and_self, true_and, and_true, reduceIte, reduceCtorEq, Nat.reduceEqDiff, Nat.reduceAdd, Nat.zero_add, Nat.add_zero, Option.map_none, Option.map_some, List.map_cons, List.map_nil, List.append_nil, List.cons_append, List.nil_append, List.getElem?_cons_zero, List.getElem?_cons_succ, List.getD_cons_zero, List.getD_cons_succ, List.getD_nil, Bool.not_true, Bool.not_false, decide_true, decide_false]
  refine LoopH.by (fun m s H' => ∃ i, m + i = n + 1 ∧ s 0 = .int .i64 (n : Int) ∧ s 3 = .int .i64 (mnyT i : Int) ∧ s 4 = .int .i64 ((i : Nat) + 1 : Int) ∧ 1 ≤ i ∧ (i ≤ n ∨ (i = 1 ∧ n = 0)) ∧ H = H') n ?_ ?_
  · exact ⟨1, by omega, rfl, rfl, rfl, by omega, by omega, rfl⟩
  rintro m s H' ⟨i, hm, h0, h3, h4, h1, hi, rfl⟩
  simp (maxSteps := 1000000) (disch := omega) only [h0, h3, h4, S, S1, S2, S3, S4, ST, eq_self, ne_eq, not_true_eq_false, not_false_eq_true, and_self, true_and, and_true, reduceIte, reduceCtorEq, Nat.reduceEqDiff, Nat.reduceAdd, Nat.zero_add, Nat.add_zero, Option.map_none, Option.map_some, List.map_cons, List.map_nil, List.append_nil, List.cons_append, List.nil_append, List.getElem?_cons_zero, List.getElem?_cons_succ, List.getD_cons_zero, List.getD_cons_succ, List.getD_nil, Bool.not_true, Bool.not_false, decide_true, decide_false]
  refine brD.intro (fun g => ?_) (fun g => ?_)
  · have hb := mnyT_le (n := i) (by omega)
    have hb2 := mnyT_le (n := i + 1) (by omega)
    have e : (mnyT i : Int) * ((i : Int) + 1) = ((mnyT (i + 1) : Nat) : Int) := by
      show _ = ((mnyT i * (i + 1) : Nat) : Int)
      rw [Int.natCast_mul]; rfl
    simp (maxSteps := 1000000) (disch := omega) only [h0, h3, h4, e, wrap64, S, S1, S2, S3, S4, ST, eq_self, ne_eq, not_true_eq_false, not_false_eq_true, and_self, true_and, and_true, reduceIte, reduceCtorEq, Nat.reduceEqDiff, Nat.reduceAdd, Nat.zero_add, Nat.add_zero, Option.map_none, Option.map_some, List.map_cons, List.map_nil, List.append_nil, List.cons_append, List.nil_append, List.getElem?_cons_zero, List.getElem?_cons_succ, List.getD_cons_zero, List.getD_cons_succ, List.getD_nil, Bool.not_true, Bool.not_false, decide_true, decide_false]
    refine ⟨m - 1, by omega, i + 1, ?_⟩
    (repeat' apply And.intro) <;> first | (simp only [Value.int.injEq, true_and]; omega) | omega | rfl | assumption | (simp; done) | (simp; omega)
  · simp (maxSteps := 1000000) (disch := omega) only [h3, S, S1, S2, S3, S4, ST, eq_self, ne_eq, not_true_eq_false, not_false_eq_true, and_self, true_and, and_true, reduceIte, reduceCtorEq, Nat.reduceEqDiff, Nat.reduceAdd, Nat.zero_add, Nat.add_zero, Option.map_none, Option.map_some, List.map_cons, List.map_nil, List.append_nil, List.cons_append, List.nil_append, List.getElem?_cons_zero, List.getElem?_cons_succ, List.getD_cons_zero, List.getD_cons_succ, List.getD_nil, Bool.not_true, Bool.not_false, decide_true, decide_false]
    refine hQ _ _ _ ?_
    simp (maxSteps := 1000000) (disch := omega) only [h3, S, S1, S2, S3, S4, ST, eq_self, ne_eq, not_true_eq_false, not_false_eq_true, and_self, true_and, and_true, reduceIte, reduceCtorEq, Nat.reduceEqDiff, Nat.reduceAdd, Nat.zero_add, Nat.add_zero, Option.map_none, Option.map_some, List.map_cons, List.map_nil, List.append_nil, List.cons_append, List.nil_append, List.getElem?_cons_zero, List.getElem?_cons_succ, List.getD_cons_zero, List.getD_cons_succ, List.getD_nil, Bool.not_true, Bool.not_false, decide_true, decide_false]
    rcases hi with hi | ⟨rfl, rfl⟩
    · have : i = n := by omega
      rw [this]
    · rfl
theorem wrapK (k : Nat) (hk : k ≤ 8) : IntKind.i64.wrap ((k : Int) * ((k : Int) - 1)) = (k : Int) * ((k : Int) - 1) := by
  have : k = 0 ∨ k = 1 ∨ k = 2 ∨ k = 3 ∨ k = 4 ∨ k = 5 ∨ k = 6 ∨ k = 7 ∨ k = 8 := by omega
  rcases this with rfl | rfl | rfl | rfl | rfl | rfl | rfl | rfl | rfl <;> rfl
def toldR (n : Int) (es : List (Int × Int)) : Int := if Grd n es ∧ n ≤ 6 ∧ twoB n.toNat es = true then (if (es.length : Int) = n then n * (n - 1) else if evB n.toNat es = true then ((mnyT n.toNat / 2 : Nat) : Int) else (mnyT n.toNat : Int)) else 0
def toldK (n : Int) (es : List (Int × Int)) : Bool := decide (Grd n es ∧ n ≤ 6 ∧ twoB n.toNat es = true)

set_option maxRecDepth 20000 in
set_option maxHeartbeats 4000000 in
theorem ToldS_c (n : Int) (v : Value) (es : List (Int × Int)) (H : AH) (hr : RowP 76 H v es) (hlen : es.length ≤ 1099511627776) (hes : ∀ y ∈ es, I64 y.1 ∧ I64 y.2) (hn : I64 n) :
    ACalls Try.prog 42 [.agg (List.toArray [.int .i64 n, v])] H fun r H' => r = .tuple (List.toArray [.int .i64 (toldR n es), .bool (toldK n es)]) ∧ H <+: H' := by
  refine in42 rfl ?_
  intro Q hQ
  simp (maxSteps := 1000000) (disch := omega) only [cd42, hr.boxG, S, S1, S2, S3, S4, ST, eq_self, ne_eq, not_true_eq_false, not_false_eq_true, and_self, true_and, and_true, reduceIte, reduceCtorEq, Nat.reduceEqDiff, Nat.reduceAdd, Nat.zero_add, Nat.add_zero, Option.map_none, Option.map_some, List.map_cons, List.map_nil, List.append_nil, List.cons_append, List.nil_append, List.getElem?_cons_zero, List.getElem?_cons_succ, List.getD_cons_zero, List.getD_cons_succ, List.getD_nil, Bool.not_true, Bool.not_false, decide_true, decide_false]
  generalize hA : H ++ [AObj.cells [.int .i64 n, v] 28 false] = A
  have pA : H <+: A := by rw [← hA]; exact List.prefix_append _ _
  have cA : A[H.length]? = some (.cells [.int .i64 n, v] 28 false) := by rw [← hA]; exact at_new ..
  have rA := hr.pre pA
  simp (maxSteps := 1000000) (disch := omega) only [ld_agg ag28 cs28 cA, S, S1, S2, S3, S4, ST, eq_self, ne_eq, not_true_eq_false, not_false_eq_true, and_self, true_and, and_true, reduceIte, reduceCtorEq, Nat.reduceEqDiff, Nat.reduceAdd, Nat.zero_add, Nat.add_zero, Option.map_none, Option.map_some, List.map_cons, List.map_nil, List.append_nil, List.cons_append, List.nil_append, List.getElem?_cons_zero, List.getElem?_cons_succ, List.getD_cons_zero, List.getD_cons_succ, List.getD_nil, Bool.not_true, Bool.not_false, decide_true, decide_false]
  refine CallH.by (l2Good_c n v es A rA (by omega)) ?_
  rintro _ B ⟨rfl, pB⟩
  have cB := pre_at pB cA
  have pHB := pA.trans pB
  have no : ¬ (Grd n es ∧ n ≤ 6 ∧ twoB n.toNat es = true) → toldR n es = 0 ∧ toldK n es = false := fun h => ⟨by unfold toldR; rw [if_neg h], decide_eq_false h⟩
  simp (maxSteps := 1000000) (disch := omega) only [S, S1, S2, S3, S4, ST, eq_self, ne_eq, not_true_eq_false, not_false_eq_true, and_self, true_and, and_true, reduceIte, reduceCtorEq, Nat.reduceEqDiff, Nat.reduceAdd, Nat.zero_add, Nat.add_zero, Option.map_none, Option.map_some, List.map_cons, List.map_nil, List.append_nil, List.cons_append, List.nil_append, List.getElem?_cons_zero, List.getElem?_cons_succ, List.getD_cons_zero, List.getD_cons_succ, List.getD_nil, Bool.not_true, Bool.not_false, decide_true, decide_false]
  refine brD.intro (fun e => ?_) (fun e => ?_) <;> simp (maxSteps := 1000000) (disch := omega) only [e, ld_agg ag28 cs28 cB, S, S1, S2, S3, S4, ST, eq_self, ne_eq, not_true_eq_false, not_false_eq_true, and_self, true_and, and_true, reduceIte, reduceCtorEq, Nat.reduceEqDiff, Nat.reduceAdd, Nat.zero_add, Nat.add_zero, Option.map_none, Option.map_some, List.map_cons, List.map_nil, List.append_nil, List.cons_append, List.nil_append, List.getElem?_cons_zero, List.getElem?_cons_succ, List.getD_cons_zero, List.getD_cons_succ, List.getD_nil, Bool.not_true, Bool.not_false, decide_true, decide_false]
  rotate_left
  · refine hQ _ _ _ ?_
    simp (maxSteps := 1000000) (disch := omega) only [e, S, S1, S2, S3, S4, ST, eq_self, ne_eq, not_true_eq_false, not_false_eq_true, and_self, true_and, and_true, reduceIte, reduceCtorEq, Nat.reduceEqDiff, Nat.reduceAdd, Nat.zero_add, Nat.add_zero, Option.map_none, Option.map_some, List.map_cons, List.map_nil, List.append_nil, List.cons_append, List.nil_append, List.getElem?_cons_zero, List.getElem?_cons_succ, List.getD_cons_zero, List.getD_cons_succ, List.getD_nil, Bool.not_true, Bool.not_false, decide_true, decide_false]
    rw [(no (fun h => e h.1)).1, (no (fun h => e h.1)).2]
    exact ⟨rfl, pHB⟩
  obtain ⟨k, hk⟩ : ∃ k : Nat, n = k := ⟨n.toNat, by have := e.1; omega⟩
  subst hk
  have hk8 : k ≤ 8 := by have := e.1; omega
  refine CallH.by (l9Twofold_c k v es B (rA.pre pB) hlen hk8) ?_
  rintro _ C ⟨rfl, pC⟩
  have cC := pre_at pC cB
  have pHC := pHB.trans pC
  simp (maxSteps := 1000000) (disch := omega) only [e, S, S1, S2, S3, S4, ST, eq_self, ne_eq, not_true_eq_false, not_false_eq_true, and_self, true_and, and_true, reduceIte, reduceCtorEq, Nat.reduceEqDiff, Nat.reduceAdd, Nat.zero_add, Nat.add_zero, Option.map_none, Option.map_some, List.map_cons, List.map_nil, List.append_nil, List.cons_append, List.nil_append, List.getElem?_cons_zero, List.getElem?_cons_succ, List.getD_cons_zero, List.getD_cons_succ, List.getD_nil, Bool.not_true, Bool.not_false, decide_true, decide_false]
  refine brH.intro (fun e2 => ?_) (fun e2 => ?_)
  rotate_left
  · simp (maxSteps := 1000000) (disch := omega) only [e, e2, S, S1, S2, S3, S4, ST, eq_self, ne_eq, not_true_eq_false, not_false_eq_true, and_self, true_and, and_true, reduceIte, reduceCtorEq, Nat.reduceEqDiff, Nat.reduceAdd, Nat.zero_add, Nat.add_zero, Option.map_none, Option.map_some, List.map_cons, List.map_nil, List.append_nil, List.cons_append, List.nil_append, List.getElem?_cons_zero, List.getElem?_cons_succ, List.getD_cons_zero, List.getD_cons_succ, List.getD_nil, Bool.not_true, Bool.not_false, decide_true, decide_false]
    refine hQ _ _ _ ?_
    simp (maxSteps := 1000000) (disch := omega) only [e, S, S1, S2, S3, S4, ST, eq_self, ne_eq, not_true_eq_false, not_false_eq_true, and_self, true_and, and_true, reduceIte, reduceCtorEq, Nat.reduceEqDiff, Nat.reduceAdd, Nat.zero_add, Nat.add_zero, Option.map_none, Option.map_some, List.map_cons, List.map_nil, List.append_nil, List.cons_append, List.nil_append, List.getElem?_cons_zero, List.getElem?_cons_succ, List.getD_cons_zero, List.getD_cons_succ, List.getD_nil, Bool.not_true, Bool.not_false, decide_true, decide_false]
    have hno : ¬ (Grd (k : Int) es ∧ (k : Int) ≤ 6 ∧ twoB (k : Int).toNat es = true) := fun h => by rw [Int.toNat_natCast, e2] at h; exact absurd h.2.2 (by decide)
    rw [(no hno).1, (no hno).2]
    exact ⟨rfl, pHC⟩
  simp (maxSteps := 1000000) (disch := omega) only [e, e2, cell_of cC, S, S1, S2, S3, S4, ST, eq_self, ne_eq, not_true_eq_false, not_false_eq_true, and_self, true_and, and_true, reduceIte, reduceCtorEq, Nat.reduceEqDiff, Nat.reduceAdd, Nat.zero_add, Nat.add_zero, Option.map_none, Option.map_some, List.map_cons, List.map_nil, List.append_nil, List.cons_append, List.nil_append, List.getElem?_cons_zero, List.getElem?_cons_succ, List.getD_cons_zero, List.getD_cons_succ, List.getD_nil, Bool.not_true, Bool.not_false, decide_true, decide_false]
  refine brD.intro (fun e3 => ?_) (fun e3 => ?_)
  · simp (maxSteps := 1000000) (disch := omega) only [e, e2, e3, S, S1, S2, S3, S4, ST, eq_self, ne_eq, not_true_eq_false, not_false_eq_true, and_self, true_and, and_true, reduceIte, reduceCtorEq, Nat.reduceEqDiff, Nat.reduceAdd, Nat.zero_add, Nat.add_zero, Option.map_none, Option.map_some, List.map_cons, List.map_nil, List.append_nil, List.cons_append, List.nil_append, List.getElem?_cons_zero, List.getElem?_cons_succ, List.getD_cons_zero, List.getD_cons_succ, List.getD_nil, Bool.not_true, Bool.not_false, decide_true, decide_false]
    refine hQ _ _ _ ?_
    simp (maxSteps := 1000000) (disch := omega) only [e, S, S1, S2, S3, S4, ST, eq_self, ne_eq, not_true_eq_false, not_false_eq_true, and_self, true_and, and_true, reduceIte, reduceCtorEq, Nat.reduceEqDiff, Nat.reduceAdd, Nat.zero_add, Nat.add_zero, Option.map_none, Option.map_some, List.map_cons, List.map_nil, List.append_nil, List.cons_append, List.nil_append, List.getElem?_cons_zero, List.getElem?_cons_succ, List.getD_cons_zero, List.getD_cons_succ, List.getD_nil, Bool.not_true, Bool.not_false, decide_true, decide_false]
    rw [(no (fun h => by omega)).1, (no (fun h => by omega)).2]
    exact ⟨rfl, pHC⟩
  simp (maxSteps := 1000000) (disch := omega) only [e, e2, e3, cell_of cC, S, S1, S2, S3, S4, ST, eq_self, ne_eq, not_true_eq_false, not_false_eq_true, and_self, true_and, and_true, reduceIte, reduceCtorEq, Nat.reduceEqDiff, Nat.reduceAdd, Nat.zero_add, Nat.add_zero, Option.map_none, Option.map_some, List.map_cons, List.map_nil, List.append_nil, List.cons_append, List.nil_append, List.getElem?_cons_zero, List.getElem?_cons_succ, List.getD_cons_zero, List.getD_cons_succ, List.getD_nil, Bool.not_true, Bool.not_false, decide_true, decide_false]
  refine CallH.by (l9ManyT_c k C hk8) ?_
  rintro _ _ ⟨rfl, rfl⟩
  have hb := mnyT_le (n := k) hk8
  have hyes : Grd (k : Int) es ∧ (k : Int) ≤ 6 ∧ twoB (k : Int).toNat es = true := ⟨e, by omega, by rw [Int.toNat_natCast]; exact e2⟩
  have hK : toldK k es = true := decide_eq_true hyes
  have hR : toldR k es = (if (es.length : Int) = (k : Int) then (k : Int) * ((k : Int) - 1) else if evB k es = true then ((mnyT k / 2 : Nat) : Int) else (mnyT k : Int)) := by
    unfold toldR; rw [if_pos hyes]; simp only [Int.toNat_natCast]
  rw [hK, hR] at hQ
  have rC := (rA.pre pB).pre pC
  simp (maxSteps := 1000000) (disch := omega) only [cell_of cC, rC.len Try.underlying22, S, S1, S2, S3, S4, ST, eq_self, ne_eq, not_true_eq_false, not_false_eq_true, and_self, true_and, and_true, reduceIte, reduceCtorEq, Nat.reduceEqDiff, Nat.reduceAdd, Nat.zero_add, Nat.add_zero, Option.map_none, Option.map_some, List.map_cons, List.map_nil, List.append_nil, List.cons_append, List.nil_append, List.getElem?_cons_zero, List.getElem?_cons_succ, List.getD_cons_zero, List.getD_cons_succ, List.getD_nil, Bool.not_true, Bool.not_false, decide_true, decide_false]
  refine brD.intro (fun e4 => ?_) (fun e4 => ?_)
  · have hw := wrapK k hk8
    simp (maxSteps := 1000000) (disch := omega) only [e4, cell_of cC, wrap64, hw, S, S1, S2, S3, S4, ST, eq_self, ne_eq, not_true_eq_false, not_false_eq_true, and_self, true_and, and_true, reduceIte, reduceCtorEq, Nat.reduceEqDiff, Nat.reduceAdd, Nat.zero_add, Nat.add_zero, Option.map_none, Option.map_some, List.map_cons, List.map_nil, List.append_nil, List.cons_append, List.nil_append, List.getElem?_cons_zero, List.getElem?_cons_succ, List.getD_cons_zero, List.getD_cons_succ, List.getD_nil, Bool.not_true, Bool.not_false, decide_true, decide_false]
    refine hQ _ _ _ ?_
    simp (maxSteps := 1000000) (disch := omega) only [e4, S, S1, S2, S3, S4, ST, eq_self, ne_eq, not_true_eq_false, not_false_eq_true, and_self, true_and, and_true, reduceIte, reduceCtorEq, Nat.reduceEqDiff, Nat.reduceAdd, Nat.zero_add, Nat.add_zero, Option.map_none, Option.map_some, List.map_cons, List.map_nil, List.append_nil, List.cons_append, List.nil_append, List.getElem?_cons_zero, List.getElem?_cons_succ, List.getD_cons_zero, List.getD_cons_succ, List.getD_nil, Bool.not_true, Bool.not_false, decide_true, decide_false]
    exact pHC
  simp (maxSteps := 1000000) (disch := omega) only [e4, ld_agg ag28 cs28 cC, S, S1, S2, S3, S4, ST, eq_self, ne_eq, not_true_eq_false, not_false_eq_true, and_self, true_and, and_true, reduceIte, reduceCtorEq, Nat.reduceEqDiff, Nat.reduceAdd, Nat.zero_add, Nat.add_zero, Option.map_none, Option.map_some, List.map_cons, List.map_nil, List.append_nil, List.cons_append, List.nil_append, List.getElem?_cons_zero, List.getElem?_cons_succ, List.getD_cons_zero, List.getD_cons_succ, List.getD_nil, Bool.not_true, Bool.not_false, decide_true, decide_false]
  refine CallH.by (l9Even_c k v es C rC hlen hk8) ?_
  rintro _ D ⟨rfl, pD⟩
  simp (maxSteps := 1000000) (disch := omega) only [S, S1, S2, S3, S4, ST, eq_self, ne_eq, not_true_eq_false, not_false_eq_true, and_self, true_and, and_true, reduceIte, reduceCtorEq, Nat.reduceEqDiff, Nat.reduceAdd, Nat.zero_add, Nat.add_zero, Option.map_none, Option.map_some, List.map_cons, List.map_nil, List.append_nil, List.cons_append, List.nil_append, List.getElem?_cons_zero, List.getElem?_cons_succ, List.getD_cons_zero, List.getD_cons_succ, List.getD_nil, Bool.not_true, Bool.not_false, decide_true, decide_false]
  have hdiv : (mnyT k : Int).tdiv 2 = ((mnyT k / 2 : Nat) : Int) := by
    rw [Int.tdiv_eq_ediv_of_nonneg (by omega)]; omega
  refine brH.intro (fun e5 => ?_) (fun e5 => ?_)
  · simp (maxSteps := 1000000) (disch := omega) only [e5, hdiv, wrap64, S, S1, S2, S3, S4, ST, eq_self, ne_eq, not_true_eq_false, not_false_eq_true, and_self, true_and, and_true, reduceIte, reduceCtorEq, Nat.reduceEqDiff, Nat.reduceAdd, Nat.zero_add, Nat.add_zero, Option.map_none, Option.map_some, List.map_cons, List.map_nil, List.append_nil, List.cons_append, List.nil_append, List.getElem?_cons_zero, List.getElem?_cons_succ, List.getD_cons_zero, List.getD_cons_succ, List.getD_nil, Bool.not_true, Bool.not_false, decide_true, decide_false]
    refine hQ _ _ _ ?_
    simp (maxSteps := 1000000) (disch := omega) only [S, S1, S2, S3, S4, ST, eq_self, ne_eq, not_true_eq_false, not_false_eq_true, and_self, true_and, and_true, reduceIte, reduceCtorEq, Nat.reduceEqDiff, Nat.reduceAdd, Nat.zero_add, Nat.add_zero, Option.map_none, Option.map_some, List.map_cons, List.map_nil, List.append_nil, List.cons_append, List.nil_append, List.getElem?_cons_zero, List.getElem?_cons_succ, List.getD_cons_zero, List.getD_cons_succ, List.getD_nil, Bool.not_true, Bool.not_false, decide_true, decide_false]
    rw [if_neg e4, if_pos e5]
    exact ⟨rfl, pHC.trans pD⟩
  · simp (maxSteps := 1000000) (disch := omega) only [e5, S, S1, S2, S3, S4, ST, eq_self, ne_eq, not_true_eq_false, not_false_eq_true, and_self, true_and, and_true, reduceIte, reduceCtorEq, Nat.reduceEqDiff, Nat.reduceAdd, Nat.zero_add, Nat.add_zero, Option.map_none, Option.map_some, List.map_cons, List.map_nil, List.append_nil, List.cons_append, List.nil_append, List.getElem?_cons_zero, List.getElem?_cons_succ, List.getD_cons_zero, List.getD_cons_succ, List.getD_nil, Bool.not_true, Bool.not_false, decide_true, decide_false]
    refine hQ _ _ _ ?_
    simp (maxSteps := 1000000) (disch := omega) only [S, S1, S2, S3, S4, ST, eq_self, ne_eq, not_true_eq_false, not_false_eq_true, and_self, true_and, and_true, reduceIte, reduceCtorEq, Nat.reduceEqDiff, Nat.reduceAdd, Nat.zero_add, Nat.add_zero, Option.map_none, Option.map_some, List.map_cons, List.map_nil, List.append_nil, List.cons_append, List.nil_append, List.getElem?_cons_zero, List.getElem?_cons_succ, List.getD_cons_zero, List.getD_cons_succ, List.getD_nil, Bool.not_true, Bool.not_false, decide_true, decide_false]
    rw [if_neg e4, if_neg (by rw [e5]; decide)]
    exact ⟨rfl, pHC.trans pD⟩

set_option maxRecDepth 20000 in
set_option maxHeartbeats 4000000 in
theorem ToldI_c (n : Int) (v : Value) (es : List (Int × Int)) (H : AH) (hr : RowP 76 H v es) (hlen : es.length ≤ 1099511627776) (hes : ∀ y ∈ es, I64 y.1 ∧ I64 y.2) (hn : I64 n) :
    ACalls Try.prog 43 [.agg (List.toArray [.int .i64 n, v])] H fun r H' => r = .tuple (List.toArray [.int .i64 (toldR n es), .bool (toldK n es)]) ∧ H <+: H' := by
  refine in43 rfl ?_
  intro Q hQ
  simp (maxSteps := 1000000) (disch := omega) only [cd43, hr.boxG, S, S1, S2, S3, S4, ST, eq_self, ne_eq, not_true_eq_false, not_false_eq_true, and_self, true_and, and_true, reduceIte, reduceCtorEq, Nat.reduceEqDiff, Nat.reduceAdd, Nat.zero_add, Nat.add_zero, Option.map_none, Option.map_some, List.map_cons, List.map_nil, List.append_nil, List.cons_append, List.nil_append, List.getElem?_cons_zero, List.getElem?_cons_succ, List.getD_cons_zero, List.getD_cons_succ, List.getD_nil, Bool.not_true, Bool.not_false, decide_true, decide_false]
  generalize hA : H ++ [AObj.cells [.int .i64 n, v] 28 false] = A
  have pA : H <+: A := by rw [← hA]; exact List.prefix_append _ _
  have cA : A[H.length]? = some (.cells [.int .i64 n, v] 28 false) := by rw [← hA]; exact at_new ..
  have rA := hr.pre pA
  simp (maxSteps := 1000000) (disch := omega) only [ld_agg ag28 cs28 cA, S, S1, S2, S3, S4, ST, eq_self, ne_eq, not_true_eq_false, not_false_eq_true, and_self, true_and, and_true, reduceIte, reduceCtorEq, Nat.reduceEqDiff, Nat.reduceAdd, Nat.zero_add, Nat.add_zero, Option.map_none, Option.map_some, List.map_cons, List.map_nil, List.append_nil, List.cons_append, List.nil_append, List.getElem?_cons_zero, List.getElem?_cons_succ, List.getD_cons_zero, List.getD_cons_succ, List.getD_nil, Bool.not_true, Bool.not_false, decide_true, decide_false]
  refine CallH.by (IsGraph_c n v es A rA (by omega)) ?_
  rintro _ B ⟨rfl, pB⟩
  have cB := pre_at pB cA
  have pHB := pA.trans pB
  have no : ¬ (Grd n es ∧ n ≤ 6 ∧ twoB n.toNat es = true) → toldR n es = 0 ∧ toldK n es = false := fun h => ⟨by unfold toldR; rw [if_neg h], decide_eq_false h⟩
  simp (maxSteps := 1000000) (disch := omega) only [S, S1, S2, S3, S4, ST, eq_self, ne_eq, not_true_eq_false, not_false_eq_true, and_self, true_and, and_true, reduceIte, reduceCtorEq, Nat.reduceEqDiff, Nat.reduceAdd, Nat.zero_add, Nat.add_zero, Option.map_none, Option.map_some, List.map_cons, List.map_nil, List.append_nil, List.cons_append, List.nil_append, List.getElem?_cons_zero, List.getElem?_cons_succ, List.getD_cons_zero, List.getD_cons_succ, List.getD_nil, Bool.not_true, Bool.not_false, decide_true, decide_false]
  refine brD.intro (fun e => ?_) (fun e => ?_) <;> simp (maxSteps := 1000000) (disch := omega) only [e, cell_of cB, S, S1, S2, S3, S4, ST, eq_self, ne_eq, not_true_eq_false, not_false_eq_true, and_self, true_and, and_true, reduceIte, reduceCtorEq, Nat.reduceEqDiff, Nat.reduceAdd, Nat.zero_add, Nat.add_zero, Option.map_none, Option.map_some, List.map_cons, List.map_nil, List.append_nil, List.cons_append, List.nil_append, List.getElem?_cons_zero, List.getElem?_cons_succ, List.getD_cons_zero, List.getD_cons_succ, List.getD_nil, Bool.not_true, Bool.not_false, decide_true, decide_false]
  rotate_left
  · refine hQ _ _ _ ?_
    simp (maxSteps := 1000000) (disch := omega) only [e, S, S1, S2, S3, S4, ST, eq_self, ne_eq, not_true_eq_false, not_false_eq_true, and_self, true_and, and_true, reduceIte, reduceCtorEq, Nat.reduceEqDiff, Nat.reduceAdd, Nat.zero_add, Nat.add_zero, Option.map_none, Option.map_some, List.map_cons, List.map_nil, List.append_nil, List.cons_append, List.nil_append, List.getElem?_cons_zero, List.getElem?_cons_succ, List.getD_cons_zero, List.getD_cons_succ, List.getD_nil, Bool.not_true, Bool.not_false, decide_true, decide_false]
    rw [(no (fun h => e h.1)).1, (no (fun h => e h.1)).2]
    exact ⟨rfl, pHB⟩
  obtain ⟨k, hk⟩ : ∃ k : Nat, n = k := ⟨n.toNat, by have := e.1; omega⟩
  subst hk
  have hk8 : k ≤ 8 := by have := e.1; omega
  refine brD.intro (fun e3 => ?_) (fun e3 => ?_)
  · simp (maxSteps := 1000000) (disch := omega) only [e, e3, S, S1, S2, S3, S4, ST, eq_self, ne_eq, not_true_eq_false, not_false_eq_true, and_self, true_and, and_true, reduceIte, reduceCtorEq, Nat.reduceEqDiff, Nat.reduceAdd, Nat.zero_add, Nat.add_zero, Option.map_none, Option.map_some, List.map_cons, List.map_nil, List.append_nil, List.cons_append, List.nil_append, List.getElem?_cons_zero, List.getElem?_cons_succ, List.getD_cons_zero, List.getD_cons_succ, List.getD_nil, Bool.not_true, Bool.not_false, decide_true, decide_false]
    refine hQ _ _ _ ?_
    simp (maxSteps := 1000000) (disch := omega) only [e, S, S1, S2, S3, S4, ST, eq_self, ne_eq, not_true_eq_false, not_false_eq_true, and_self, true_and, and_true, reduceIte, reduceCtorEq, Nat.reduceEqDiff, Nat.reduceAdd, Nat.zero_add, Nat.add_zero, Option.map_none, Option.map_some, List.map_cons, List.map_nil, List.append_nil, List.cons_append, List.nil_append, List.getElem?_cons_zero, List.getElem?_cons_succ, List.getD_cons_zero, List.getD_cons_succ, List.getD_nil, Bool.not_true, Bool.not_false, decide_true, decide_false]
    rw [(no (fun h => by omega)).1, (no (fun h => by omega)).2]
    exact ⟨rfl, pHB⟩
  simp (maxSteps := 1000000) (disch := omega) only [e, e3, ld_agg ag28 cs28 cB, S, S1, S2, S3, S4, ST, eq_self, ne_eq, not_true_eq_false, not_false_eq_true, and_self, true_and, and_true, reduceIte, reduceCtorEq, Nat.reduceEqDiff, Nat.reduceAdd, Nat.zero_add, Nat.add_zero, Option.map_none, Option.map_some, List.map_cons, List.map_nil, List.append_nil, List.cons_append, List.nil_append, List.getElem?_cons_zero, List.getElem?_cons_succ, List.getD_cons_zero, List.getD_cons_succ, List.getD_nil, Bool.not_true, Bool.not_false, decide_true, decide_false]
  refine CallH.by (isTwofold_c k v es B (rA.pre pB) hlen e) ?_
  rintro _ C ⟨rfl, pC⟩
  have cC := pre_at pC cB
  have pHC := pHB.trans pC
  simp (maxSteps := 1000000) (disch := omega) only [e, e3, S, S1, S2, S3, S4, ST, eq_self, ne_eq, not_true_eq_false, not_false_eq_true, and_self, true_and, and_true, reduceIte, reduceCtorEq, Nat.reduceEqDiff, Nat.reduceAdd, Nat.zero_add, Nat.add_zero, Option.map_none, Option.map_some, List.map_cons, List.map_nil, List.append_nil, List.cons_append, List.nil_append, List.getElem?_cons_zero, List.getElem?_cons_succ, List.getD_cons_zero, List.getD_cons_succ, List.getD_nil, Bool.not_true, Bool.not_false, decide_true, decide_false]
  refine brH.intro (fun e2 => ?_) (fun e2 => ?_)
  rotate_left
  · simp (maxSteps := 1000000) (disch := omega) only [e, e2, e3, S, S1, S2, S3, S4, ST, eq_self, ne_eq, not_true_eq_false, not_false_eq_true, and_self, true_and, and_true, reduceIte, reduceCtorEq, Nat.reduceEqDiff, Nat.reduceAdd, Nat.zero_add, Nat.add_zero, Option.map_none, Option.map_some, List.map_cons, List.map_nil, List.append_nil, List.cons_append, List.nil_append, List.getElem?_cons_zero, List.getElem?_cons_succ, List.getD_cons_zero, List.getD_cons_succ, List.getD_nil, Bool.not_true, Bool.not_false, decide_true, decide_false]
    refine hQ _ _ _ ?_
    simp (maxSteps := 1000000) (disch := omega) only [e, S, S1, S2, S3, S4, ST, eq_self, ne_eq, not_true_eq_false, not_false_eq_true, and_self, true_and, and_true, reduceIte, reduceCtorEq, Nat.reduceEqDiff, Nat.reduceAdd, Nat.zero_add, Nat.add_zero, Option.map_none, Option.map_some, List.map_cons, List.map_nil, List.append_nil, List.cons_append, List.nil_append, List.getElem?_cons_zero, List.getElem?_cons_succ, List.getD_cons_zero, List.getD_cons_succ, List.getD_nil, Bool.not_true, Bool.not_false, decide_true, decide_false]
    have hno : ¬ (Grd (k : Int) es ∧ (k : Int) ≤ 6 ∧ twoB (k : Int).toNat es = true) := fun h => by rw [Int.toNat_natCast, e2] at h; exact absurd h.2.2 (by decide)
    rw [(no hno).1, (no hno).2]
    exact ⟨rfl, pHC⟩
  have hb := mnyT_le (n := k) hk8
  have hyes : Grd (k : Int) es ∧ (k : Int) ≤ 6 ∧ twoB (k : Int).toNat es = true := ⟨e, by omega, by rw [Int.toNat_natCast]; exact e2⟩
  have hK : toldK k es = true := decide_eq_true hyes
  have hR : toldR k es = (if (es.length : Int) = (k : Int) then (k : Int) * ((k : Int) - 1) else if evB k es = true then ((mnyT k / 2 : Nat) : Int) else (mnyT k : Int)) := by
    unfold toldR; rw [if_pos hyes]; simp only [Int.toNat_natCast]
  rw [hK, hR] at hQ
  have rC := (rA.pre pB).pre pC
  simp (maxSteps := 1000000) (disch := omega) only [e, e2, e3, cell_of cC, rC.len Try.underlying22, S, S1, S2, S3, S4, ST, eq_self, ne_eq, not_true_eq_false, not_false_eq_true, and_self, true_and, and_true, reduceIte, reduceCtorEq, Nat.reduceEqDiff, Nat.reduceAdd, Nat.zero_add, Nat.add_zero, Option.map_none, Option.map_some, List.map_cons, List.map_nil, List.append_nil, List.cons_append, List.nil_append, List.getElem?_cons_zero, List.getElem?_cons_succ, List.getD_cons_zero, List.getD_cons_succ, List.getD_nil, Bool.not_true, Bool.not_false, decide_true, decide_false]
  refine brD.intro (fun e4 => ?_) (fun e4 => ?_)
  · have hw := wrapK k hk8
    simp (maxSteps := 1000000) (disch := omega) only [e4, cell_of cC, wrap64, hw, S, S1, S2, S3, S4, ST, eq_self, ne_eq, not_true_eq_false, not_false_eq_true, and_self, true_and, and_true, reduceIte, reduceCtorEq, Nat.reduceEqDiff, Nat.reduceAdd, Nat.zero_add, Nat.add_zero, Option.map_none, Option.map_some, List.map_cons, List.map_nil, List.append_nil, List.cons_append, List.nil_append, List.getElem?_cons_zero, List.getElem?_cons_succ, List.getD_cons_zero, List.getD_cons_succ, List.getD_nil, Bool.not_true, Bool.not_false, decide_true, decide_false]
    refine hQ _ _ _ ?_
    simp (maxSteps := 1000000) (disch := omega) only [e4, S, S1, S2, S3, S4, ST, eq_self, ne_eq, not_true_eq_false, not_false_eq_true, and_self, true_and, and_true, reduceIte, reduceCtorEq, Nat.reduceEqDiff, Nat.reduceAdd, Nat.zero_add, Nat.add_zero, Option.map_none, Option.map_some, List.map_cons, List.map_nil, List.append_nil, List.cons_append, List.nil_append, List.getElem?_cons_zero, List.getElem?_cons_succ, List.getD_cons_zero, List.getD_cons_succ, List.getD_nil, Bool.not_true, Bool.not_false, decide_true, decide_false]
    exact pHC
  simp (maxSteps := 1000000) (disch := omega) only [e4, cell_of cC, S, S1, S2, S3, S4, ST, eq_self, ne_eq, not_true_eq_false, not_false_eq_true, and_self, true_and, and_true, reduceIte, reduceCtorEq, Nat.reduceEqDiff, Nat.reduceAdd, Nat.zero_add, Nat.add_zero, Option.map_none, Option.map_some, List.map_cons, List.map_nil, List.append_nil, List.cons_append, List.nil_append, List.getElem?_cons_zero, List.getElem?_cons_succ, List.getD_cons_zero, List.getD_cons_succ, List.getD_nil, Bool.not_true, Bool.not_false, decide_true, decide_false]
  refine LoopH.by (fun m s H' => ∃ i, m + i = k ∧ s 1 = .pointer (some ⟨H.length, 0, none⟩) ∧ s 4 = .int .i64 (mnyT i : Int) ∧ s 32 = .int .i64 (k : Int) ∧ s 33 = .int .i64 ((i : Nat) : Int) ∧ C = H') k ?_ ?_
  · exact ⟨0, by omega, rfl, rfl, rfl, rfl, rfl⟩
  rintro m s H' ⟨i, hm, h1, h4, h32, h33, rfl⟩
  simp (maxSteps := 1000000) (disch := omega) only [h1, h4, h32, h33, S, S1, S2, S3, S4, ST, eq_self, ne_eq, not_true_eq_false, not_false_eq_true, and_self, true_and, and_true, reduceIte, reduceCtorEq, Nat.reduceEqDiff, Nat.reduceAdd, Nat.zero_add, Nat.add_zero, Option.map_none, Option.map_some, List.map_cons, List.map_nil, List.append_nil, List.cons_append, List.nil_append, List.getElem?_cons_zero, List.getElem?_cons_succ, List.getD_cons_zero, List.getD_cons_succ, List.getD_nil, Bool.not_true, Bool.not_false, decide_true, decide_false]
  refine brD.intro (fun g => ?_) (fun g => ?_)
  · have hb := mnyT_le (n := i) (by omega)
    have hb2 := mnyT_le (n := i + 1) (by omega)
    have e : (mnyT i : Int) * ((i : Int) + 1) = ((mnyT (i + 1) : Nat) : Int) := by
      show _ = ((mnyT i * (i + 1) : Nat) : Int)
      rw [Int.natCast_mul]; rfl
    simp (maxSteps := 1000000) (disch := omega) only [h1, h4, h32, h33, wrap64, e, S, S1, S2, S3, S4, ST, eq_self, ne_eq, not_true_eq_false, not_false_eq_true, and_self, true_and, and_true, reduceIte, reduceCtorEq, Nat.reduceEqDiff, Nat.reduceAdd, Nat.zero_add, Nat.add_zero, Option.map_none, Option.map_some, List.map_cons, List.map_nil, List.append_nil, List.cons_append, List.nil_append, List.getElem?_cons_zero, List.getElem?_cons_succ, List.getD_cons_zero, List.getD_cons_succ, List.getD_nil, Bool.not_true, Bool.not_false, decide_true, decide_false]
    refine ⟨m - 1, by omega, i + 1, ?_⟩
    (repeat' apply And.intro) <;> first | (simp only [Value.int.injEq, true_and]; omega) | omega | rfl | assumption | (simp; done) | (simp; omega)
  have hik : i = k := by omega
  subst hik
  simp (maxSteps := 1000000) (disch := omega) only [h1, h4, ld_agg ag28 cs28 cC, S, S1, S2, S3, S4, ST, eq_self, ne_eq, not_true_eq_false, not_false_eq_true, and_self, true_and, and_true, reduceIte, reduceCtorEq, Nat.reduceEqDiff, Nat.reduceAdd, Nat.zero_add, Nat.add_zero, Option.map_none, Option.map_some, List.map_cons, List.map_nil, List.append_nil, List.cons_append, List.nil_append, List.getElem?_cons_zero, List.getElem?_cons_succ, List.getD_cons_zero, List.getD_cons_succ, List.getD_nil, Bool.not_true, Bool.not_false, decide_true, decide_false]
  refine CallH.by (isEven_c i v es C rC hlen e) ?_
  rintro _ D ⟨rfl, pD⟩
  simp (maxSteps := 1000000) (disch := omega) only [S, S1, S2, S3, S4, ST, eq_self, ne_eq, not_true_eq_false, not_false_eq_true, and_self, true_and, and_true, reduceIte, reduceCtorEq, Nat.reduceEqDiff, Nat.reduceAdd, Nat.zero_add, Nat.add_zero, Option.map_none, Option.map_some, List.map_cons, List.map_nil, List.append_nil, List.cons_append, List.nil_append, List.getElem?_cons_zero, List.getElem?_cons_succ, List.getD_cons_zero, List.getD_cons_succ, List.getD_nil, Bool.not_true, Bool.not_false, decide_true, decide_false]
  have hdiv : (mnyT i : Int).tdiv 2 = ((mnyT i / 2 : Nat) : Int) := by
    rw [Int.tdiv_eq_ediv_of_nonneg (by omega)]; omega
  refine brH.intro (fun e5 => ?_) (fun e5 => ?_)
  · simp (maxSteps := 1000000) (disch := omega) only [e5, h4, hdiv, wrap64, S, S1, S2, S3, S4, ST, eq_self, ne_eq, not_true_eq_false, not_false_eq_true, and_self, true_and, and_true, reduceIte, reduceCtorEq, Nat.reduceEqDiff, Nat.reduceAdd, Nat.zero_add, Nat.add_zero, Option.map_none, Option.map_some, List.map_cons, List.map_nil, List.append_nil, List.cons_append, List.nil_append, List.getElem?_cons_zero, List.getElem?_cons_succ, List.getD_cons_zero, List.getD_cons_succ, List.getD_nil, Bool.not_true, Bool.not_false, decide_true, decide_false]
    refine hQ _ _ _ ?_
    simp (maxSteps := 1000000) (disch := omega) only [S, S1, S2, S3, S4, ST, eq_self, ne_eq, not_true_eq_false, not_false_eq_true, and_self, true_and, and_true, reduceIte, reduceCtorEq, Nat.reduceEqDiff, Nat.reduceAdd, Nat.zero_add, Nat.add_zero, Option.map_none, Option.map_some, List.map_cons, List.map_nil, List.append_nil, List.cons_append, List.nil_append, List.getElem?_cons_zero, List.getElem?_cons_succ, List.getD_cons_zero, List.getD_cons_succ, List.getD_nil, Bool.not_true, Bool.not_false, decide_true, decide_false]
    rw [if_neg e4, if_pos e5]
    exact ⟨rfl, pHC.trans pD⟩
  · simp (maxSteps := 1000000) (disch := omega) only [e5, h4, S, S1, S2, S3, S4, ST, eq_self, ne_eq, not_true_eq_false, not_false_eq_true, and_self, true_and, and_true, reduceIte, reduceCtorEq, Nat.reduceEqDiff, Nat.reduceAdd, Nat.zero_add, Nat.add_zero, Option.map_none, Option.map_some, List.map_cons, List.map_nil, List.append_nil, List.cons_append, List.nil_append, List.getElem?_cons_zero, List.getElem?_cons_succ, List.getD_cons_zero, List.getD_cons_succ, List.getD_nil, Bool.not_true, Bool.not_false, decide_true, decide_false]
    refine hQ _ _ _ ?_
    simp (maxSteps := 1000000) (disch := omega) only [h4, S, S1, S2, S3, S4, ST, eq_self, ne_eq, not_true_eq_false, not_false_eq_true, and_self, true_and, and_true, reduceIte, reduceCtorEq, Nat.reduceEqDiff, Nat.reduceAdd, Nat.zero_add, Nat.add_zero, Option.map_none, Option.map_some, List.map_cons, List.map_nil, List.append_nil, List.cons_append, List.nil_append, List.getElem?_cons_zero, List.getElem?_cons_succ, List.getD_cons_zero, List.getD_cons_succ, List.getD_nil, Bool.not_true, Bool.not_false, decide_true, decide_false]
    rw [if_neg e4, if_neg (by rw [e5]; decide)]
    exact ⟨rfl, pHC.trans pD⟩
end Go.Proofs.Ythhnpchjjbjabaa.Ai
