/- FnExactFanBound: the law, from both sides' contracts. -/
import Derived.Test.YtnoihoeaconllaaBound
import Derived.Test.YtnoihoeaconllaaMark
import Derived.Test.YtnoihoeaconllaaCdLBound
namespace Go.Proofs.Ytnoihoeaconllaa.Ai
open Go Go.RowKit
set_option linter.unusedVariables false
set_option linter.unusedSimpArgs false
set_option maxHeartbeats 4000000 in
theorem boundLaw_c (a0 : Int) (v1 : Value) (v2 : Value) (xs1 : List Int) (xs2 : List Int) (H0 : AH) (r1 : Row 3 H0 v1 xs1) (b1 : ∀ y ∈ xs1, I64 y) (r2 : Row 3 H0 v2 xs2) (b2 : ∀ y ∈ xs2, I64 y) :
    ACalls Try.prog 3 [.int .i64 a0, v1, v2] H0 fun r H' => r = .bool true := by
  refine in3 rfl ?_
  intro Q hQ
  simp (maxSteps := 4000000) (disch := omega) only [cd3, r1.len Try.underlying22, r2.len Try.underlying22, S, S1, S2, S3, S4, ST, eq_self, ne_eq, not_true_eq_false, not_false_eq_true, and_self, true_and, and_true, reduceIte, reduceCtorEq, Nat.reduceEqDiff, Nat.reduceAdd, Nat.zero_add, Nat.add_zero, Option.map_none, Option.map_some, List.map_cons, List.map_nil, List.append_nil, List.cons_append, List.nil_append, List.getElem?_cons_zero, List.getElem?_cons_succ, List.getD_cons_zero, List.getD_cons_succ, List.getD_nil, Bool.not_true, Bool.not_false, decide_true, decide_false]
  refine brD.intro (fun g1 => ?_) (fun g1 => ?_) <;> simp (maxSteps := 4000000) (disch := omega) only [r1.len Try.underlying22, r2.len Try.underlying22, S, S1, S2, S3, S4, ST, eq_self, ne_eq, not_true_eq_false, not_false_eq_true, and_self, true_and, and_true, reduceIte, reduceCtorEq, Nat.reduceEqDiff, Nat.reduceAdd, Nat.zero_add, Nat.add_zero, Option.map_none, Option.map_some, List.map_cons, List.map_nil, List.append_nil, List.cons_append, List.nil_append, List.getElem?_cons_zero, List.getElem?_cons_succ, List.getD_cons_zero, List.getD_cons_succ, List.getD_nil, Bool.not_true, Bool.not_false, decide_true, decide_false]
  · refine hQ _ _ _ ?_
    simp (maxSteps := 4000000) (disch := omega) only [S, S1, S2, S3, S4, ST, eq_self, ne_eq, not_true_eq_false, not_false_eq_true, and_self, true_and, and_true, reduceIte, reduceCtorEq, Nat.reduceEqDiff, Nat.reduceAdd, Nat.zero_add, Nat.add_zero, Option.map_none, Option.map_some, List.map_cons, List.map_nil, List.append_nil, List.cons_append, List.nil_append, List.getElem?_cons_zero, List.getElem?_cons_succ, List.getD_cons_zero, List.getD_cons_succ, List.getD_nil, Bool.not_true, Bool.not_false, decide_true, decide_false]
  have l1 : xs1.length ≤ 1099511627776 := by omega
  refine brD.intro (fun g2 => ?_) (fun g2 => ?_) <;> simp (maxSteps := 4000000) (disch := omega) only [r1.len Try.underlying22, r2.len Try.underlying22, S, S1, S2, S3, S4, ST, eq_self, ne_eq, not_true_eq_false, not_false_eq_true, and_self, true_and, and_true, reduceIte, reduceCtorEq, Nat.reduceEqDiff, Nat.reduceAdd, Nat.zero_add, Nat.add_zero, Option.map_none, Option.map_some, List.map_cons, List.map_nil, List.append_nil, List.cons_append, List.nil_append, List.getElem?_cons_zero, List.getElem?_cons_succ, List.getD_cons_zero, List.getD_cons_succ, List.getD_nil, Bool.not_true, Bool.not_false, decide_true, decide_false]
  · refine hQ _ _ _ ?_
    simp (maxSteps := 4000000) (disch := omega) only [S, S1, S2, S3, S4, ST, eq_self, ne_eq, not_true_eq_false, not_false_eq_true, and_self, true_and, and_true, reduceIte, reduceCtorEq, Nat.reduceEqDiff, Nat.reduceAdd, Nat.zero_add, Nat.add_zero, Option.map_none, Option.map_some, List.map_cons, List.map_nil, List.append_nil, List.cons_append, List.nil_append, List.getElem?_cons_zero, List.getElem?_cons_succ, List.getD_cons_zero, List.getD_cons_succ, List.getD_nil, Bool.not_true, Bool.not_false, decide_true, decide_false]
  have l2 : xs2.length ≤ 1099511627776 := by omega
  have Ra1_0 := r1.b
  have Ra2_0 := r2.b
  refine CallH.by (toIntS_c v1 xs1 H0 Ra1_0.1 l1) ?_
  rintro c1 H1 ⟨qc1, p1⟩
  have Ra1_1 := Ra1_0.pre p1
  have Ra2_1 := Ra2_0.pre p1
  have L1 := p1.length_le
  have Mc1_1 := InI.of qc1.mine
  have Rc1_1 := Mc1_1.row
  simp (maxSteps := 4000000) (disch := omega) only [S, S1, S2, S3, S4, ST, eq_self, ne_eq, not_true_eq_false, not_false_eq_true, and_self, true_and, and_true, reduceIte, reduceCtorEq, Nat.reduceEqDiff, Nat.reduceAdd, Nat.zero_add, Nat.add_zero, Option.map_none, Option.map_some, List.map_cons, List.map_nil, List.append_nil, List.cons_append, List.nil_append, List.getElem?_cons_zero, List.getElem?_cons_succ, List.getD_cons_zero, List.getD_cons_succ, List.getD_nil, Bool.not_true, Bool.not_false, decide_true, decide_false]
  refine CallH.by (toIntS_c v2 xs2 H1 Ra2_1.1 l2) ?_
  rintro c2 H2 ⟨qc2, p2⟩
  have Ra1_2 := Ra1_1.pre p2
  have Ra2_2 := Ra2_1.pre p2
  have Rc1_2 := Rc1_1.pre p2
  have Mc1_2 := Mc1_1.pre p2
  have L2 := p2.length_le
  have Mc2_2 := InI.of qc2.mine
  have Rc2_2 := Mc2_2.row
  simp (maxSteps := 4000000) (disch := omega) only [S, S1, S2, S3, S4, ST, eq_self, ne_eq, not_true_eq_false, not_false_eq_true, and_self, true_and, and_true, reduceIte, reduceCtorEq, Nat.reduceEqDiff, Nat.reduceAdd, Nat.zero_add, Nat.add_zero, Option.map_none, Option.map_some, List.map_cons, List.map_nil, List.append_nil, List.cons_append, List.nil_append, List.getElem?_cons_zero, List.getElem?_cons_succ, List.getD_cons_zero, List.getD_cons_succ, List.getD_nil, Bool.not_true, Bool.not_false, decide_true, decide_false]
  refine CallH.by (BoundS_c a0 c1 c2 xs1 xs2 H2 Rc1_2.1 l1 b1 Rc2_2.1 l2 b2) ?_
  rintro _ H3 ⟨rfl, p3⟩
  have Ra1_3 := Ra1_2.pre p3
  have Ra2_3 := Ra2_2.pre p3
  have Rc1_3 := Rc1_2.pre p3
  have Rc2_3 := Rc2_2.pre p3
  have Mc1_3 := Mc1_2.pre p3
  have Mc2_3 := Mc2_2.pre p3
  have L3 := p3.length_le
  simp (maxSteps := 4000000) (disch := omega) only [S, S1, S2, S3, S4, ST, eq_self, ne_eq, not_true_eq_false, not_false_eq_true, and_self, true_and, and_true, reduceIte, reduceCtorEq, Nat.reduceEqDiff, Nat.reduceAdd, Nat.zero_add, Nat.add_zero, Option.map_none, Option.map_some, List.map_cons, List.map_nil, List.append_nil, List.cons_append, List.nil_append, List.getElem?_cons_zero, List.getElem?_cons_succ, List.getD_cons_zero, List.getD_cons_succ, List.getD_nil, Bool.not_true, Bool.not_false, decide_true, decide_false]
  refine CallH.by (toIntS_c v1 xs1 H3 Ra1_3.1 l1) ?_
  rintro d1 H4 ⟨qd1, p4⟩
  have Ra1_4 := Ra1_3.pre p4
  have Ra2_4 := Ra2_3.pre p4
  have L4 := p4.length_le
  have Md1_4 := InI.of qd1.mine
  have Rd1_4 := Md1_4.row
  simp (maxSteps := 4000000) (disch := omega) only [S, S1, S2, S3, S4, ST, eq_self, ne_eq, not_true_eq_false, not_false_eq_true, and_self, true_and, and_true, reduceIte, reduceCtorEq, Nat.reduceEqDiff, Nat.reduceAdd, Nat.zero_add, Nat.add_zero, Option.map_none, Option.map_some, List.map_cons, List.map_nil, List.append_nil, List.cons_append, List.nil_append, List.getElem?_cons_zero, List.getElem?_cons_succ, List.getD_cons_zero, List.getD_cons_succ, List.getD_nil, Bool.not_true, Bool.not_false, decide_true, decide_false]
  refine CallH.by (toIntS_c v2 xs2 H4 Ra2_4.1 l2) ?_
  rintro d2 H5 ⟨qd2, p5⟩
  have Ra1_5 := Ra1_4.pre p5
  have Ra2_5 := Ra2_4.pre p5
  have Rd1_5 := Rd1_4.pre p5
  have Md1_5 := Md1_4.pre p5
  have L5 := p5.length_le
  have Md2_5 := InI.of qd2.mine
  have Rd2_5 := Md2_5.row
  simp (maxSteps := 4000000) (disch := omega) only [S, S1, S2, S3, S4, ST, eq_self, ne_eq, not_true_eq_false, not_false_eq_true, and_self, true_and, and_true, reduceIte, reduceCtorEq, Nat.reduceEqDiff, Nat.reduceAdd, Nat.zero_add, Nat.add_zero, Option.map_none, Option.map_some, List.map_cons, List.map_nil, List.append_nil, List.cons_append, List.nil_append, List.getElem?_cons_zero, List.getElem?_cons_succ, List.getD_cons_zero, List.getD_cons_succ, List.getD_nil, Bool.not_true, Bool.not_false, decide_true, decide_false]
  refine CallH.by (BoundI_c a0 d1 d2 xs1 xs2 H5 Rd1_5.1 l1 b1 Rd2_5.1 l2 b2) ?_
  rintro _ H6 ⟨rfl, p6⟩
  have Ra1_6 := Ra1_5.pre p6
  have Ra2_6 := Ra2_5.pre p6
  have Rd1_6 := Rd1_5.pre p6
  have Rd2_6 := Rd2_5.pre p6
  have Md1_6 := Md1_5.pre p6
  have Md2_6 := Md2_5.pre p6
  have L6 := p6.length_le
  simp (maxSteps := 4000000) (disch := omega) only [S, S1, S2, S3, S4, ST, eq_self, ne_eq, not_true_eq_false, not_false_eq_true, and_self, true_and, and_true, reduceIte, reduceCtorEq, Nat.reduceEqDiff, Nat.reduceAdd, Nat.zero_add, Nat.add_zero, Option.map_none, Option.map_some, List.map_cons, List.map_nil, List.append_nil, List.cons_append, List.nil_append, List.getElem?_cons_zero, List.getElem?_cons_succ, List.getD_cons_zero, List.getD_cons_succ, List.getD_nil, Bool.not_true, Bool.not_false, decide_true, decide_false]
  refine CallH.by (toIntS_c v1 xs1 H6 Ra1_6.1 l1) ?_
  rintro f1 H7 ⟨qf1, p7⟩
  have Ra1_7 := Ra1_6.pre p7
  have Ra2_7 := Ra2_6.pre p7
  have Rd1_7 := Rd1_6.pre p7
  have Rd2_7 := Rd2_6.pre p7
  have Md1_7 := Md1_6.pre p7
  have Md2_7 := Md2_6.pre p7
  have L7 := p7.length_le
  have Mf1_7 := InI.of qf1.mine
  have Rf1_7 := Mf1_7.row
  simp (maxSteps := 4000000) (disch := omega) only [S, S1, S2, S3, S4, ST, eq_self, ne_eq, not_true_eq_false, not_false_eq_true, and_self, true_and, and_true, reduceIte, reduceCtorEq, Nat.reduceEqDiff, Nat.reduceAdd, Nat.zero_add, Nat.add_zero, Option.map_none, Option.map_some, List.map_cons, List.map_nil, List.append_nil, List.cons_append, List.nil_append, List.getElem?_cons_zero, List.getElem?_cons_succ, List.getD_cons_zero, List.getD_cons_succ, List.getD_nil, Bool.not_true, Bool.not_false, decide_true, decide_false]
  refine CallH.by (eqIntS_c d1 f1 _ _ H7 Rd1_7.1 Rf1_7.1 l1) ?_
  rintro _ _ ⟨rfl, rfl⟩
  simp (maxSteps := 4000000) (disch := omega) only [S, S1, S2, S3, S4, ST, eq_self, ne_eq, not_true_eq_false, not_false_eq_true, and_self, true_and, and_true, reduceIte, reduceCtorEq, Nat.reduceEqDiff, Nat.reduceAdd, Nat.zero_add, Nat.add_zero, Option.map_none, Option.map_some, List.map_cons, List.map_nil, List.append_nil, List.cons_append, List.nil_append, List.getElem?_cons_zero, List.getElem?_cons_succ, List.getD_cons_zero, List.getD_cons_succ, List.getD_nil, Bool.not_true, Bool.not_false, decide_true, decide_false]
  refine CallH.by (toIntS_c v2 xs2 H7 Ra2_7.1 l2) ?_
  rintro f2 H8 ⟨qf2, p8⟩
  have Ra1_8 := Ra1_7.pre p8
  have Ra2_8 := Ra2_7.pre p8
  have Rd1_8 := Rd1_7.pre p8
  have Rd2_8 := Rd2_7.pre p8
  have Md1_8 := Md1_7.pre p8
  have Md2_8 := Md2_7.pre p8
  have L8 := p8.length_le
  have Mf2_8 := InI.of qf2.mine
  have Rf2_8 := Mf2_8.row
  simp (maxSteps := 4000000) (disch := omega) only [S, S1, S2, S3, S4, ST, eq_self, ne_eq, not_true_eq_false, not_false_eq_true, and_self, true_and, and_true, reduceIte, reduceCtorEq, Nat.reduceEqDiff, Nat.reduceAdd, Nat.zero_add, Nat.add_zero, Option.map_none, Option.map_some, List.map_cons, List.map_nil, List.append_nil, List.cons_append, List.nil_append, List.getElem?_cons_zero, List.getElem?_cons_succ, List.getD_cons_zero, List.getD_cons_succ, List.getD_nil, Bool.not_true, Bool.not_false, decide_true, decide_false]
  refine CallH.by (eqIntS_c d2 f2 _ _ H8 Rd2_8.1 Rf2_8.1 l2) ?_
  rintro _ _ ⟨rfl, rfl⟩
  simp (maxSteps := 4000000) (disch := omega) only [S, S1, S2, S3, S4, ST, eq_self, ne_eq, not_true_eq_false, not_false_eq_true, and_self, true_and, and_true, reduceIte, reduceCtorEq, Nat.reduceEqDiff, Nat.reduceAdd, Nat.zero_add, Nat.add_zero, Option.map_none, Option.map_some, List.map_cons, List.map_nil, List.append_nil, List.cons_append, List.nil_append, List.getElem?_cons_zero, List.getElem?_cons_succ, List.getD_cons_zero, List.getD_cons_succ, List.getD_nil, Bool.not_true, Bool.not_false, decide_true, decide_false]
  refine hQ _ _ _ ?_
  simp (maxSteps := 4000000) (disch := omega) only [S, S1, S2, S3, S4, ST, eq_self, ne_eq, not_true_eq_false, not_false_eq_true, and_self, true_and, and_true, reduceIte, reduceCtorEq, Nat.reduceEqDiff, Nat.reduceAdd, Nat.zero_add, Nat.add_zero, Option.map_none, Option.map_some, List.map_cons, List.map_nil, List.append_nil, List.cons_append, List.nil_append, List.getElem?_cons_zero, List.getElem?_cons_succ, List.getD_cons_zero, List.getD_cons_succ, List.getD_nil, Bool.not_true, Bool.not_false, decide_true, decide_false]

end Go.Proofs.Ytnoihoeaconllaa.Ai
