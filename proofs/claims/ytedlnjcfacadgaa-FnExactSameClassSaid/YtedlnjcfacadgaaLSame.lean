/- FnExactSameClass: the law, from both sides' contracts. -/
import Derived.Test.YtedlnjcfacadgaaSame
import Derived.Test.YtedlnjcfacadgaaMark
import Derived.Test.YtedlnjcfacadgaaCdLSame
namespace Go.Proofs.Ytedlnjcfacadgaa.Ai
open Go Go.RowKit
set_option linter.unusedVariables false
set_option linter.unusedSimpArgs false
set_option maxHeartbeats 4000000 in
theorem sameLaw_c (a0 : Int) (v1 : Value) (v2 : Value) (xs1 : List Int) (xs2 : List Int) (H0 : AH) (r1_0 : Row 3 H0 v1 xs1) (b1 : ∀ y ∈ xs1, I64 y) (r2_0 : Row 3 H0 v2 xs2) (b2 : ∀ y ∈ xs2, I64 y) :
    ACalls Try.prog 13 [.int .i64 a0, v1, v2] H0 fun r H' => r = .bool true := by
  refine in13 rfl ?_
  intro Q hQ
  simp (maxSteps := 4000000) (disch := omega) only [cd13, r1_0.len Try.underlying25, r2_0.len Try.underlying25, S, S1, S2, S3, S4, ST, eq_self, ne_eq, not_true_eq_false, not_false_eq_true, and_self, true_and, and_true, reduceIte, reduceCtorEq, Nat.reduceEqDiff, Nat.reduceAdd, Nat.zero_add, Nat.add_zero, Option.map_none, Option.map_some, List.map_cons, List.map_nil, List.append_nil, List.cons_append, List.nil_append, List.getElem?_cons_zero, List.getElem?_cons_succ, List.getD_cons_zero, List.getD_cons_succ, List.getD_nil, Bool.not_true, Bool.not_false, decide_true, decide_false]
  refine brD.intro (fun g1 => ?_) (fun g1 => ?_) <;> simp (maxSteps := 4000000) (disch := omega) only [r1_0.len Try.underlying25, r2_0.len Try.underlying25, S, S1, S2, S3, S4, ST, eq_self, ne_eq, not_true_eq_false, not_false_eq_true, and_self, true_and, and_true, reduceIte, reduceCtorEq, Nat.reduceEqDiff, Nat.reduceAdd, Nat.zero_add, Nat.add_zero, Option.map_none, Option.map_some, List.map_cons, List.map_nil, List.append_nil, List.cons_append, List.nil_append, List.getElem?_cons_zero, List.getElem?_cons_succ, List.getD_cons_zero, List.getD_cons_succ, List.getD_nil, Bool.not_true, Bool.not_false, decide_true, decide_false]
  · refine hQ _ _ _ ?_
    simp (maxSteps := 4000000) (disch := omega) only [S, S1, S2, S3, S4, ST, eq_self, ne_eq, not_true_eq_false, not_false_eq_true, and_self, true_and, and_true, reduceIte, reduceCtorEq, Nat.reduceEqDiff, Nat.reduceAdd, Nat.zero_add, Nat.add_zero, Option.map_none, Option.map_some, List.map_cons, List.map_nil, List.append_nil, List.cons_append, List.nil_append, List.getElem?_cons_zero, List.getElem?_cons_succ, List.getD_cons_zero, List.getD_cons_succ, List.getD_nil, Bool.not_true, Bool.not_false, decide_true, decide_false]
  have l1 : xs1.length ≤ 1099511627776 := by omega
  refine brD.intro (fun g2 => ?_) (fun g2 => ?_) <;> simp (maxSteps := 4000000) (disch := omega) only [r1_0.len Try.underlying25, r2_0.len Try.underlying25, S, S1, S2, S3, S4, ST, eq_self, ne_eq, not_true_eq_false, not_false_eq_true, and_self, true_and, and_true, reduceIte, reduceCtorEq, Nat.reduceEqDiff, Nat.reduceAdd, Nat.zero_add, Nat.add_zero, Option.map_none, Option.map_some, List.map_cons, List.map_nil, List.append_nil, List.cons_append, List.nil_append, List.getElem?_cons_zero, List.getElem?_cons_succ, List.getD_cons_zero, List.getD_cons_succ, List.getD_nil, Bool.not_true, Bool.not_false, decide_true, decide_false]
  · refine hQ _ _ _ ?_
    simp (maxSteps := 4000000) (disch := omega) only [S, S1, S2, S3, S4, ST, eq_self, ne_eq, not_true_eq_false, not_false_eq_true, and_self, true_and, and_true, reduceIte, reduceCtorEq, Nat.reduceEqDiff, Nat.reduceAdd, Nat.zero_add, Nat.add_zero, Option.map_none, Option.map_some, List.map_cons, List.map_nil, List.append_nil, List.cons_append, List.nil_append, List.getElem?_cons_zero, List.getElem?_cons_succ, List.getD_cons_zero, List.getD_cons_succ, List.getD_nil, Bool.not_true, Bool.not_false, decide_true, decide_false]
  have l2 : xs2.length ≤ 1099511627776 := by omega
  refine CallH.by (toIntS_c v1 xs1 H0 r1_0 l1) ?_
  rintro c1 H1 ⟨qc1, p1⟩
  have r1_1 := r1_0.pre p1
  have r2_1 := r2_0.pre p1
  have Mc1_1 := qc1.mine
  have Rc1_1 := qc1.row
  simp (maxSteps := 4000000) (disch := omega) only [S, S1, S2, S3, S4, ST, eq_self, ne_eq, not_true_eq_false, not_false_eq_true, and_self, true_and, and_true, reduceIte, reduceCtorEq, Nat.reduceEqDiff, Nat.reduceAdd, Nat.zero_add, Nat.add_zero, Option.map_none, Option.map_some, List.map_cons, List.map_nil, List.append_nil, List.cons_append, List.nil_append, List.getElem?_cons_zero, List.getElem?_cons_succ, List.getD_cons_zero, List.getD_cons_succ, List.getD_nil, Bool.not_true, Bool.not_false, decide_true, decide_false]
  refine CallH.by (toIntS_c v2 xs2 H1 r2_1 l2) ?_
  rintro c2 H2 ⟨qc2, p2⟩
  have r1_2 := r1_1.pre p2
  have r2_2 := r2_1.pre p2
  have Rc1_2 := Rc1_1.pre p2
  have Mc1_2 := Mc1_1.pre p2
  have Mc2_2 := qc2.mine
  have Rc2_2 := qc2.row
  simp (maxSteps := 4000000) (disch := omega) only [S, S1, S2, S3, S4, ST, eq_self, ne_eq, not_true_eq_false, not_false_eq_true, and_self, true_and, and_true, reduceIte, reduceCtorEq, Nat.reduceEqDiff, Nat.reduceAdd, Nat.zero_add, Nat.add_zero, Option.map_none, Option.map_some, List.map_cons, List.map_nil, List.append_nil, List.cons_append, List.nil_append, List.getElem?_cons_zero, List.getElem?_cons_succ, List.getD_cons_zero, List.getD_cons_succ, List.getD_nil, Bool.not_true, Bool.not_false, decide_true, decide_false]
  refine CallH.by (SameS_c a0 c1 c2 xs1 xs2 H2 Rc1_2 l1 b1 Rc2_2 l2 b2) ?_
  rintro _ H3 ⟨rfl, p3⟩
  have r1_3 := r1_2.pre p3
  have r2_3 := r2_2.pre p3
  have Rc1_3 := Rc1_2.pre p3
  have Rc2_3 := Rc2_2.pre p3
  have Mc1_3 := Mc1_2.pre p3
  have Mc2_3 := Mc2_2.pre p3
  simp (maxSteps := 4000000) (disch := omega) only [S, S1, S2, S3, S4, ST, eq_self, ne_eq, not_true_eq_false, not_false_eq_true, and_self, true_and, and_true, reduceIte, reduceCtorEq, Nat.reduceEqDiff, Nat.reduceAdd, Nat.zero_add, Nat.add_zero, Option.map_none, Option.map_some, List.map_cons, List.map_nil, List.append_nil, List.cons_append, List.nil_append, List.getElem?_cons_zero, List.getElem?_cons_succ, List.getD_cons_zero, List.getD_cons_succ, List.getD_nil, Bool.not_true, Bool.not_false, decide_true, decide_false]
  refine CallH.by (toIntS_c v1 xs1 H3 r1_3 l1) ?_
  rintro d1 H4 ⟨qd1, p4⟩
  have r1_4 := r1_3.pre p4
  have r2_4 := r2_3.pre p4
  have Rc1_4 := Rc1_3.pre p4
  have Rc2_4 := Rc2_3.pre p4
  have Mc1_4 := Mc1_3.pre p4
  have Mc2_4 := Mc2_3.pre p4
  have Md1_4 := qd1.mine
  have Rd1_4 := qd1.row
  simp (maxSteps := 4000000) (disch := omega) only [S, S1, S2, S3, S4, ST, eq_self, ne_eq, not_true_eq_false, not_false_eq_true, and_self, true_and, and_true, reduceIte, reduceCtorEq, Nat.reduceEqDiff, Nat.reduceAdd, Nat.zero_add, Nat.add_zero, Option.map_none, Option.map_some, List.map_cons, List.map_nil, List.append_nil, List.cons_append, List.nil_append, List.getElem?_cons_zero, List.getElem?_cons_succ, List.getD_cons_zero, List.getD_cons_succ, List.getD_nil, Bool.not_true, Bool.not_false, decide_true, decide_false]
  refine CallH.by (toIntS_c v2 xs2 H4 r2_4 l2) ?_
  rintro d2 H5 ⟨qd2, p5⟩
  have r1_5 := r1_4.pre p5
  have r2_5 := r2_4.pre p5
  have Rc1_5 := Rc1_4.pre p5
  have Rc2_5 := Rc2_4.pre p5
  have Rd1_5 := Rd1_4.pre p5
  have Mc1_5 := Mc1_4.pre p5
  have Mc2_5 := Mc2_4.pre p5
  have Md1_5 := Md1_4.pre p5
  have Md2_5 := qd2.mine
  have Rd2_5 := qd2.row
  simp (maxSteps := 4000000) (disch := omega) only [S, S1, S2, S3, S4, ST, eq_self, ne_eq, not_true_eq_false, not_false_eq_true, and_self, true_and, and_true, reduceIte, reduceCtorEq, Nat.reduceEqDiff, Nat.reduceAdd, Nat.zero_add, Nat.add_zero, Option.map_none, Option.map_some, List.map_cons, List.map_nil, List.append_nil, List.cons_append, List.nil_append, List.getElem?_cons_zero, List.getElem?_cons_succ, List.getD_cons_zero, List.getD_cons_succ, List.getD_nil, Bool.not_true, Bool.not_false, decide_true, decide_false]
  refine CallH.by (SameI_c a0 d1 d2 xs1 xs2 H5 Rd1_5 l1 b1 Rd2_5 l2 b2) ?_
  rintro _ H6 ⟨rfl, p6⟩
  have r1_6 := r1_5.pre p6
  have r2_6 := r2_5.pre p6
  have Rc1_6 := Rc1_5.pre p6
  have Rc2_6 := Rc2_5.pre p6
  have Rd1_6 := Rd1_5.pre p6
  have Rd2_6 := Rd2_5.pre p6
  have Mc1_6 := Mc1_5.pre p6
  have Mc2_6 := Mc2_5.pre p6
  have Md1_6 := Md1_5.pre p6
  have Md2_6 := Md2_5.pre p6
  simp (maxSteps := 4000000) (disch := omega) only [S, S1, S2, S3, S4, ST, eq_self, ne_eq, not_true_eq_false, not_false_eq_true, and_self, true_and, and_true, reduceIte, reduceCtorEq, Nat.reduceEqDiff, Nat.reduceAdd, Nat.zero_add, Nat.add_zero, Option.map_none, Option.map_some, List.map_cons, List.map_nil, List.append_nil, List.cons_append, List.nil_append, List.getElem?_cons_zero, List.getElem?_cons_succ, List.getD_cons_zero, List.getD_cons_succ, List.getD_nil, Bool.not_true, Bool.not_false, decide_true, decide_false]
  refine CallH.by (toIntS_c v1 xs1 H6 r1_6 l1) ?_
  rintro f1 H7 ⟨qf1, p7⟩
  have r1_7 := r1_6.pre p7
  have r2_7 := r2_6.pre p7
  have Rc1_7 := Rc1_6.pre p7
  have Rc2_7 := Rc2_6.pre p7
  have Rd1_7 := Rd1_6.pre p7
  have Rd2_7 := Rd2_6.pre p7
  have Mc1_7 := Mc1_6.pre p7
  have Mc2_7 := Mc2_6.pre p7
  have Md1_7 := Md1_6.pre p7
  have Md2_7 := Md2_6.pre p7
  have Mf1_7 := qf1.mine
  have Rf1_7 := qf1.row
  simp (maxSteps := 4000000) (disch := omega) only [S, S1, S2, S3, S4, ST, eq_self, ne_eq, not_true_eq_false, not_false_eq_true, and_self, true_and, and_true, reduceIte, reduceCtorEq, Nat.reduceEqDiff, Nat.reduceAdd, Nat.zero_add, Nat.add_zero, Option.map_none, Option.map_some, List.map_cons, List.map_nil, List.append_nil, List.cons_append, List.nil_append, List.getElem?_cons_zero, List.getElem?_cons_succ, List.getD_cons_zero, List.getD_cons_succ, List.getD_nil, Bool.not_true, Bool.not_false, decide_true, decide_false]
  refine CallH.by (eqIntS_c d1 f1 _ _ H7 Rd1_7 Rf1_7 l1) ?_
  rintro _ _ ⟨rfl, rfl⟩
  simp (maxSteps := 4000000) (disch := omega) only [S, S1, S2, S3, S4, ST, eq_self, ne_eq, not_true_eq_false, not_false_eq_true, and_self, true_and, and_true, reduceIte, reduceCtorEq, Nat.reduceEqDiff, Nat.reduceAdd, Nat.zero_add, Nat.add_zero, Option.map_none, Option.map_some, List.map_cons, List.map_nil, List.append_nil, List.cons_append, List.nil_append, List.getElem?_cons_zero, List.getElem?_cons_succ, List.getD_cons_zero, List.getD_cons_succ, List.getD_nil, Bool.not_true, Bool.not_false, decide_true, decide_false]
  refine CallH.by (toIntS_c v2 xs2 H7 r2_7 l2) ?_
  rintro f2 H8 ⟨qf2, p8⟩
  have r1_8 := r1_7.pre p8
  have r2_8 := r2_7.pre p8
  have Rc1_8 := Rc1_7.pre p8
  have Rc2_8 := Rc2_7.pre p8
  have Rd1_8 := Rd1_7.pre p8
  have Rd2_8 := Rd2_7.pre p8
  have Rf1_8 := Rf1_7.pre p8
  have Mc1_8 := Mc1_7.pre p8
  have Mc2_8 := Mc2_7.pre p8
  have Md1_8 := Md1_7.pre p8
  have Md2_8 := Md2_7.pre p8
  have Mf1_8 := Mf1_7.pre p8
  have Mf2_8 := qf2.mine
  have Rf2_8 := qf2.row
  simp (maxSteps := 4000000) (disch := omega) only [S, S1, S2, S3, S4, ST, eq_self, ne_eq, not_true_eq_false, not_false_eq_true, and_self, true_and, and_true, reduceIte, reduceCtorEq, Nat.reduceEqDiff, Nat.reduceAdd, Nat.zero_add, Nat.add_zero, Option.map_none, Option.map_some, List.map_cons, List.map_nil, List.append_nil, List.cons_append, List.nil_append, List.getElem?_cons_zero, List.getElem?_cons_succ, List.getD_cons_zero, List.getD_cons_succ, List.getD_nil, Bool.not_true, Bool.not_false, decide_true, decide_false]
  refine CallH.by (eqIntS_c d2 f2 _ _ H8 Rd2_8 Rf2_8 l2) ?_
  rintro _ _ ⟨rfl, rfl⟩
  simp (maxSteps := 4000000) (disch := omega) only [S, S1, S2, S3, S4, ST, eq_self, ne_eq, not_true_eq_false, not_false_eq_true, and_self, true_and, and_true, reduceIte, reduceCtorEq, Nat.reduceEqDiff, Nat.reduceAdd, Nat.zero_add, Nat.add_zero, Option.map_none, Option.map_some, List.map_cons, List.map_nil, List.append_nil, List.cons_append, List.nil_append, List.getElem?_cons_zero, List.getElem?_cons_succ, List.getD_cons_zero, List.getD_cons_succ, List.getD_nil, Bool.not_true, Bool.not_false, decide_true, decide_false]
  refine hQ _ _ _ ?_
  simp (maxSteps := 4000000) (disch := omega) only [S, S1, S2, S3, S4, ST, eq_self, ne_eq, not_true_eq_false, not_false_eq_true, and_self, true_and, and_true, reduceIte, reduceCtorEq, Nat.reduceEqDiff, Nat.reduceAdd, Nat.zero_add, Nat.add_zero, Option.map_none, Option.map_some, List.map_cons, List.map_nil, List.append_nil, List.cons_append, List.nil_append, List.getElem?_cons_zero, List.getElem?_cons_succ, List.getD_cons_zero, List.getD_cons_succ, List.getD_nil, Bool.not_true, Bool.not_false, decide_true, decide_false]

end Go.Proofs.Ytedlnjcfacadgaa.Ai
