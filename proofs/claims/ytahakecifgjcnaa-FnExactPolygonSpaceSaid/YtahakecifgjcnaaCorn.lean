/- Numbers of corners. -/
import Derived.Test.YtahakecifgjcnaaBase
import Derived.Test.YtahakecifgjcnaaProg
import Derived.Test.YtahakecifgjcnaaAiM2
import Derived.KernelRfl
/- Slim code of this translation. By the kernel. -/
namespace Go.Proofs.Ytahakecifgjcnaa.Ai
open Go

/- loop.example/g01128/spec.l8Corners -/
def ords86 : List (Nat × List (Nat × Bool)) := []
def cd86 : Cd := (.seq (.reg [⟨⟨some 2, Op.assign (Operand.const (Value.bool false)), none⟩, []⟩]) (.seq (.reg [⟨⟨some 3, Op.move (Operand.tmp 0), none⟩, []⟩,
  ⟨⟨some 4, Op.call { callee := (Callee.value (Operand.func 128)), args := #[(Operand.tmp 3), (Operand.const (Value.int IntKind.i64 3)), (Operand.const (Value.int IntKind.i64 8))], argTypes := #[3, 3, 3] }, none⟩, []⟩,
  ⟨⟨some 2, Op.assign (Operand.tmp 4), none⟩, []⟩]) .ret))
theorem sl86 : slim Try.f86.ntmps ords86 (Try.f86.body.getD .skip) = some cd86 := by kernel_rfl
theorem in86 {args : List Value} {H : AH} {R : Value → AH → Prop} (hl : args.length = 1) (h : ∀ (Q : Exit → Sl → AH → Prop), (∀ e s H, endA Try.prog [ResultVar.tmp 2] R e s H → Q e s H) → wpC Try.prog cd86 Q (enterA args) H) : ACalls Try.prog 86 args H R :=
  ACalls.intro (by kernel_rfl) Try.func86 rfl (by kernel_rfl) sl86 hl (of_decide_eq_true (by kernel_rfl)) (by kernel_rfl) h

/- loop.example/g01128/impl.isPolygon -/
def ords88 : List (Nat × List (Nat × Bool)) := []
def cd88 : Cd := (.seq (.reg [⟨⟨some 2, Op.assign (Operand.const (Value.bool false)), none⟩, []⟩]) (.seq (.reg [⟨⟨some 3, Op.move (Operand.tmp 0), none⟩, []⟩,
  ⟨⟨some 4, Op.call { callee := (Callee.value (Operand.func 130)), args := #[(Operand.tmp 3), (Operand.const (Value.int IntKind.i64 3)), (Operand.const (Value.int IntKind.i64 8))], argTypes := #[3, 3, 3] }, none⟩, []⟩,
  ⟨⟨some 2, Op.assign (Operand.tmp 4), none⟩, []⟩]) .ret))
theorem sl88 : slim Try.f88.ntmps ords88 (Try.f88.body.getD .skip) = some cd88 := by kernel_rfl
theorem in88 {args : List Value} {H : AH} {R : Value → AH → Prop} (hl : args.length = 1) (h : ∀ (Q : Exit → Sl → AH → Prop), (∀ e s H, endA Try.prog [ResultVar.tmp 2] R e s H → Q e s H) → wpC Try.prog cd88 Q (enterA args) H) : ACalls Try.prog 88 args H R :=
  ACalls.intro (by kernel_rfl) Try.func88 rfl (by kernel_rfl) sl88 hl (of_decide_eq_true (by kernel_rfl)) (by kernel_rfl) h
end Go.Proofs.Ytahakecifgjcnaa.Ai

namespace Go.Proofs.Ytahakecifgjcnaa.Ai
open Go Go.RowKit
set_option linter.unusedVariables false
set_option linter.unusedSimpArgs false

theorem l8Corners_c (n : Int) (H : AH) : ACalls Try.prog 86 [.int .i64 n] H fun r H' => r = .bool (decide (3 ≤ n ∧ n ≤ 8)) ∧ H = H' := by
  refine in86 rfl ?_
  intro Q hQ
  simp (maxSteps := 1000000) (disch := omega) only [cd86, S, S1, S2, S3, S4, ST, eq_self, ne_eq, not_true_eq_false, not_false_eq_true, and_self, true_and, and_true, reduceIte, reduceCtorEq, Nat.reduceEqDiff, Nat.reduceAdd, Nat.zero_add, Nat.add_zero, Option.map_none, Option.map_some, List.map_cons, List.map_nil, List.append_nil, List.cons_append, List.nil_append, List.getElem?_cons_zero, List.getElem?_cons_succ, List.getD_cons_zero, List.getD_cons_succ, List.getD_nil, Bool.not_true, Bool.not_false, decide_true, decide_false]
  refine CallH.by (l1In_c ..) ?_
  rintro _ _ ⟨rfl, rfl⟩
  simp (maxSteps := 1000000) (disch := omega) only [S, S1, S2, S3, S4, ST, eq_self, ne_eq, not_true_eq_false, not_false_eq_true, and_self, true_and, and_true, reduceIte, reduceCtorEq, Nat.reduceEqDiff, Nat.reduceAdd, Nat.zero_add, Nat.add_zero, Option.map_none, Option.map_some, List.map_cons, List.map_nil, List.append_nil, List.cons_append, List.nil_append, List.getElem?_cons_zero, List.getElem?_cons_succ, List.getD_cons_zero, List.getD_cons_succ, List.getD_nil, Bool.not_true, Bool.not_false, decide_true, decide_false]
  refine hQ _ _ _ ?_
  simp (maxSteps := 1000000) (disch := omega) only [S, S1, S2, S3, S4, ST, eq_self, ne_eq, not_true_eq_false, not_false_eq_true, and_self, true_and, and_true, reduceIte, reduceCtorEq, Nat.reduceEqDiff, Nat.reduceAdd, Nat.zero_add, Nat.add_zero, Option.map_none, Option.map_some, List.map_cons, List.map_nil, List.append_nil, List.cons_append, List.nil_append, List.getElem?_cons_zero, List.getElem?_cons_succ, List.getD_cons_zero, List.getD_cons_succ, List.getD_nil, Bool.not_true, Bool.not_false, decide_true, decide_false]

theorem isPolygon_c (n : Int) (H : AH) : ACalls Try.prog 88 [.int .i64 n] H fun r H' => r = .bool (decide (3 ≤ n ∧ n ≤ 8)) ∧ H = H' := by
  refine in88 rfl ?_
  intro Q hQ
  simp (maxSteps := 1000000) (disch := omega) only [cd88, S, S1, S2, S3, S4, ST, eq_self, ne_eq, not_true_eq_false, not_false_eq_true, and_self, true_and, and_true, reduceIte, reduceCtorEq, Nat.reduceEqDiff, Nat.reduceAdd, Nat.zero_add, Nat.add_zero, Option.map_none, Option.map_some, List.map_cons, List.map_nil, List.append_nil, List.cons_append, List.nil_append, List.getElem?_cons_zero, List.getElem?_cons_succ, List.getD_cons_zero, List.getD_cons_succ, List.getD_nil, Bool.not_true, Bool.not_false, decide_true, decide_false]
  refine CallH.by (between_c ..) ?_
  rintro _ _ ⟨rfl, rfl⟩
  simp (maxSteps := 1000000) (disch := omega) only [S, S1, S2, S3, S4, ST, eq_self, ne_eq, not_true_eq_false, not_false_eq_true, and_self, true_and, and_true, reduceIte, reduceCtorEq, Nat.reduceEqDiff, Nat.reduceAdd, Nat.zero_add, Nat.add_zero, Option.map_none, Option.map_some, List.map_cons, List.map_nil, List.append_nil, List.cons_append, List.nil_append, List.getElem?_cons_zero, List.getElem?_cons_succ, List.getD_cons_zero, List.getD_cons_succ, List.getD_nil, Bool.not_true, Bool.not_false, decide_true, decide_false]
  refine hQ _ _ _ ?_
  simp (maxSteps := 1000000) (disch := omega) only [S, S1, S2, S3, S4, ST, eq_self, ne_eq, not_true_eq_false, not_false_eq_true, and_self, true_and, and_true, reduceIte, reduceCtorEq, Nat.reduceEqDiff, Nat.reduceAdd, Nat.zero_add, Nat.add_zero, Option.map_none, Option.map_some, List.map_cons, List.map_nil, List.append_nil, List.cons_append, List.nil_append, List.getElem?_cons_zero, List.getElem?_cons_succ, List.getD_cons_zero, List.getD_cons_succ, List.getD_nil, Bool.not_true, Bool.not_false, decide_true, decide_false]

end Go.Proofs.Ytahakecifgjcnaa.Ai
