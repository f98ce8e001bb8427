/- FnExactWalkWinding: the law, from both sides' contracts. -/
import Derived.Test.YtedlnjcfacadgaaWind
import Derived.Test.YtedlnjcfacadgaaMark
import Derived.Test.YtedlnjcfacadgaaCdLWind
namespace Go.Proofs.Ytedlnjcfacadgaa.Ai
open Go Go.RowKit
set_option linter.unusedVariables false
set_option linter.unusedSimpArgs false
set_option maxHeartbeats 4000000 in
theorem windLaw_c (a0 : Int) (v1 : Value) (xs1 : List Int) (H0 : AH) (r1_0 : Row 3 H0 v1 xs1) (b1 : ∀ y ∈ xs1, I64 y) :
    ACalls Try.prog 5 [.int .i64 a0, v1] H0 fun r H' => r = .bool true := by
  refine in5 rfl ?_
  intro Q hQ
  simp (maxSteps := 4000000) (disch := omega) only [cd5, r1_0.len Try.underlying25, S, S1, S2, S3, S4, ST, eq_self, ne_eq, not_true_eq_false, not_false_eq_true, and_self, true_and, and_true, reduceIte, reduceCtorEq, Nat.reduceEqDiff, Nat.reduceAdd, Nat.zero_add, Nat.add_zero, Option.map_none, Option.map_some, List.map_cons, List.map_nil, List.append_nil, List.cons_append, List.nil_append, List.getElem?_cons_zero, List.getElem?_cons_succ, List.getD_cons_zero, List.getD_cons_succ, List.getD_nil, Bool.not_true, Bool.not_false, decide_true, decide_false]
  refine brD.intro (fun g1 => ?_) (fun g1 => ?_) <;> simp (maxSteps := 4000000) (disch := omega) only [r1_0.len Try.underlying25, S, S1, S2, S3, S4, ST, eq_self, ne_eq, not_true_eq_false, not_false_eq_true, and_self, true_and, and_true, reduceIte, reduceCtorEq, Nat.reduceEqDiff, Nat.reduceAdd, Nat.zero_add, Nat.add_zero, Option.map_none, Option.map_some, List.map_cons, List.map_nil, List.append_nil, List.cons_append, List.nil_append, List.getElem?_cons_zero, List.getElem?_cons_succ, List.getD_cons_zero, List.getD_cons_succ, List.getD_nil, Bool.not_true, Bool.not_false, decide_true, decide_false]
  · refine hQ _ _ _ ?_
    simp (maxSteps := 4000000) (disch := omega) only [S, S1, S2, S3, S4, ST, eq_self, ne_eq, not_true_eq_false, not_false_eq_true, and_self, true_and, and_true, reduceIte, reduceCtorEq, Nat.reduceEqDiff, Nat.reduceAdd, Nat.zero_add, Nat.add_zero, Option.map_none, Option.map_some, List.map_cons, List.map_nil, List.append_nil, List.cons_append, List.nil_append, List.getElem?_cons_zero, List.getElem?_cons_succ, List.getD_cons_zero, List.getD_cons_succ, List.getD_nil, Bool.not_true, Bool.not_false, decide_true, decide_false]
  have l1 : xs1.length ≤ 1099511627776 := by omega
  refine CallH.by (toIntS_c v1 xs1 H0 r1_0 l1) ?_
  rintro c1 H1 ⟨qc1, p1⟩
  have r1_1 := r1_0.pre p1
  have Mc1_1 := qc1.mine
  have Rc1_1 := qc1.row
  simp (maxSteps := 4000000) (disch := omega) only [S, S1, S2, S3, S4, ST, eq_self, ne_eq, not_true_eq_false, not_false_eq_true, and_self, true_and, and_true, reduceIte, reduceCtorEq, Nat.reduceEqDiff, Nat.reduceAdd, Nat.zero_add, Nat.add_zero, Option.map_none, Option.map_some, List.map_cons, List.map_nil, List.append_nil, List.cons_append, List.nil_append, List.getElem?_cons_zero, List.getElem?_cons_succ, List.getD_cons_zero, List.getD_cons_succ, List.getD_nil, Bool.not_true, Bool.not_false, decide_true, decide_false]
  refine CallH.by (WindS_c a0 c1 xs1 H1 Rc1_1 l1 b1) ?_
  rintro _ H2 ⟨rfl, p2⟩
  have r1_2 := r1_1.pre p2
  have Rc1_2 := Rc1_1.pre p2
  have Mc1_2 := Mc1_1.pre p2
  simp (maxSteps := 4000000) (disch := omega) only [S, S1, S2, S3, S4, ST, eq_self, ne_eq, not_true_eq_false, not_false_eq_true, and_self, true_and, and_true, reduceIte, reduceCtorEq, Nat.reduceEqDiff, Nat.reduceAdd, Nat.zero_add, Nat.add_zero, Option.map_none, Option.map_some, List.map_cons, List.map_nil, List.append_nil, List.cons_append, List.nil_append, List.getElem?_cons_zero, List.getElem?_cons_succ, List.getD_cons_zero, List.getD_cons_succ, List.getD_nil, Bool.not_true, Bool.not_false, decide_true, decide_false]
  refine CallH.by (toIntS_c v1 xs1 H2 r1_2 l1) ?_
  rintro d1 H3 ⟨qd1, p3⟩
  have r1_3 := r1_2.pre p3
  have Rc1_3 := Rc1_2.pre p3
  have Mc1_3 := Mc1_2.pre p3
  have Md1_3 := qd1.mine
  have Rd1_3 := qd1.row
  simp (maxSteps := 4000000) (disch := omega) only [S, S1, S2, S3, S4, ST, eq_self, ne_eq, not_true_eq_false, not_false_eq_true, and_self, true_and, and_true, reduceIte, reduceCtorEq, Nat.reduceEqDiff, Nat.reduceAdd, Nat.zero_add, Nat.add_zero, Option.map_none, Option.map_some, List.map_cons, List.map_nil, List.append_nil, List.cons_append, List.nil_append, List.getElem?_cons_zero, List.getElem?_cons_succ, List.getD_cons_zero, List.getD_cons_succ, List.getD_nil, Bool.not_true, Bool.not_false, decide_true, decide_false]
  refine CallH.by (WindI_c a0 d1 xs1 H3 Rd1_3 l1 b1) ?_
  rintro _ H4 ⟨rfl, p4⟩
  have r1_4 := r1_3.pre p4
  have Rc1_4 := Rc1_3.pre p4
  have Rd1_4 := Rd1_3.pre p4
  have Mc1_4 := Mc1_3.pre p4
  have Md1_4 := Md1_3.pre p4
  simp (maxSteps := 4000000) (disch := omega) only [S, S1, S2, S3, S4, ST, eq_self, ne_eq, not_true_eq_false, not_false_eq_true, and_self, true_and, and_true, reduceIte, reduceCtorEq, Nat.reduceEqDiff, Nat.reduceAdd, Nat.zero_add, Nat.add_zero, Option.map_none, Option.map_some, List.map_cons, List.map_nil, List.append_nil, List.cons_append, List.nil_append, List.getElem?_cons_zero, List.getElem?_cons_succ, List.getD_cons_zero, List.getD_cons_succ, List.getD_nil, Bool.not_true, Bool.not_false, decide_true, decide_false]
  refine CallH.by (toIntS_c v1 xs1 H4 r1_4 l1) ?_
  rintro f1 H5 ⟨qf1, p5⟩
  have r1_5 := r1_4.pre p5
  have Rc1_5 := Rc1_4.pre p5
  have Rd1_5 := Rd1_4.pre p5
  have Mc1_5 := Mc1_4.pre p5
  have Md1_5 := Md1_4.pre p5
  have Mf1_5 := qf1.mine
  have Rf1_5 := qf1.row
  simp (maxSteps := 4000000) (disch := omega) only [S, S1, S2, S3, S4, ST, eq_self, ne_eq, not_true_eq_false, not_false_eq_true, and_self, true_and, and_true, reduceIte, reduceCtorEq, Nat.reduceEqDiff, Nat.reduceAdd, Nat.zero_add, Nat.add_zero, Option.map_none, Option.map_some, List.map_cons, List.map_nil, List.append_nil, List.cons_append, List.nil_append, List.getElem?_cons_zero, List.getElem?_cons_succ, List.getD_cons_zero, List.getD_cons_succ, List.getD_nil, Bool.not_true, Bool.not_false, decide_true, decide_false]
  refine CallH.by (eqIntS_c d1 f1 _ _ H5 Rd1_5 Rf1_5 l1) ?_
  rintro _ _ ⟨rfl, rfl⟩
  simp (maxSteps := 4000000) (disch := omega) only [S, S1, S2, S3, S4, ST, eq_self, ne_eq, not_true_eq_false, not_false_eq_true, and_self, true_and, and_true, reduceIte, reduceCtorEq, Nat.reduceEqDiff, Nat.reduceAdd, Nat.zero_add, Nat.add_zero, Option.map_none, Option.map_some, List.map_cons, List.map_nil, List.append_nil, List.cons_append, List.nil_append, List.getElem?_cons_zero, List.getElem?_cons_succ, List.getD_cons_zero, List.getD_cons_succ, List.getD_nil, Bool.not_true, Bool.not_false, decide_true, decide_false]
  refine hQ _ _ _ ?_
  simp (maxSteps := 4000000) (disch := omega) only [S, S1, S2, S3, S4, ST, eq_self, ne_eq, not_true_eq_false, not_false_eq_true, and_self, true_and, and_true, reduceIte, reduceCtorEq, Nat.reduceEqDiff, Nat.reduceAdd, Nat.zero_add, Nat.add_zero, Option.map_none, Option.map_some, List.map_cons, List.map_nil, List.append_nil, List.cons_append, List.nil_append, List.getElem?_cons_zero, List.getElem?_cons_succ, List.getD_cons_zero, List.getD_cons_succ, List.getD_nil, Bool.not_true, Bool.not_false, decide_true, decide_false]

end Go.Proofs.Ytedlnjcfacadgaa.Ai
