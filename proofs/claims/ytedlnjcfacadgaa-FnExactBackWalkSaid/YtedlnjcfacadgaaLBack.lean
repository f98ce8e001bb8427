/- FnExactBackWalk: the law, from both sides' contracts. -/
import Derived.Test.YtedlnjcfacadgaaBack
import Derived.Test.YtedlnjcfacadgaaMark
import Derived.Test.YtedlnjcfacadgaaCdLBack
namespace Go.Proofs.Ytedlnjcfacadgaa.Ai
open Go Go.RowKit
set_option linter.unusedVariables false
set_option linter.unusedSimpArgs false
set_option maxHeartbeats 4000000 in
theorem backLaw_c (a0 : Int) (v1 : Value) (xs1 : List Int) (H0 : AH) (r1_0 : Row 3 H0 v1 xs1) (b1 : ∀ y ∈ xs1, I64 y) :
    ACalls Try.prog 11 [.int .i64 a0, v1] H0 fun r H' => r = .bool true := by
  refine in11 rfl ?_
  intro Q hQ
  simp (maxSteps := 4000000) (disch := omega) only [cd11, r1_0.len Try.underlying25, S, S1, S2, S3, S4, ST, eq_self, ne_eq, not_true_eq_false, not_false_eq_true, and_self, true_and, and_true, reduceIte, reduceCtorEq, Nat.reduceEqDiff, Nat.reduceAdd, Nat.zero_add, Nat.add_zero, Option.map_none, Option.map_some, List.map_cons, List.map_nil, List.append_nil, List.cons_append, List.nil_append, List.getElem?_cons_zero, List.getElem?_cons_succ, List.getD_cons_zero, List.getD_cons_succ, List.getD_nil, Bool.not_true, Bool.not_false, decide_true, decide_false]
  refine brD.intro (fun g1 => ?_) (fun g1 => ?_) <;> simp (maxSteps := 4000000) (disch := omega) only [r1_0.len Try.underlying25, S, S1, S2, S3, S4, ST, eq_self, ne_eq, not_true_eq_false, not_false_eq_true, and_self, true_and, and_true, reduceIte, reduceCtorEq, Nat.reduceEqDiff, Nat.reduceAdd, Nat.zero_add, Nat.add_zero, Option.map_none, Option.map_some, List.map_cons, List.map_nil, List.append_nil, List.cons_append, List.nil_append, List.getElem?_cons_zero, List.getElem?_cons_succ, List.getD_cons_zero, List.getD_cons_succ, List.getD_nil, Bool.not_true, Bool.not_false, decide_true, decide_false]
  · refine hQ _ _ _ ?_
    simp (maxSteps := 4000000) (disch := omega) only [S, S1, S2, S3, S4, ST, eq_self, ne_eq, not_true_eq_false, not_false_eq_true, and_self, true_and, and_true, reduceIte, reduceCtorEq, Nat.reduceEqDiff, Nat.reduceAdd, Nat.zero_add, Nat.add_zero, Option.map_none, Option.map_some, List.map_cons, List.map_nil, List.append_nil, List.cons_append, List.nil_append, List.getElem?_cons_zero, List.getElem?_cons_succ, List.getD_cons_zero, List.getD_cons_succ, List.getD_nil, Bool.not_true, Bool.not_false, decide_true, decide_false]
  have l1 : xs1.length ≤ 1099511627776 := by omega
  refine CallH.by (toIntS_c v1 xs1 H0 r1_0 l1) ?_
  rintro c1 H1 ⟨qc1, p1⟩
  have r1_1 := r1_0.pre p1
  have Mc1_1 := qc1.mine
  have Rc1_1 := qc1.row
  simp (maxSteps := 4000000) (disch := omega) only [S, S1, S2, S3, S4, ST, eq_self, ne_eq, not_true_eq_false, not_false_eq_true, and_self, true_and, and_true, reduceIte, reduceCtorEq, Nat.reduceEqDiff, Nat.reduceAdd, Nat.zero_add, Nat.add_zero, Option.map_none, Option.map_some, List.map_cons, List.map_nil, List.append_nil, List.cons_append, List.nil_append, List.getElem?_cons_zero, List.getElem?_cons_succ, List.getD_cons_zero, List.getD_cons_succ, List.getD_nil, Bool.not_true, Bool.not_false, decide_true, decide_false]
  refine CallH.by (BackS_c a0 c1 xs1 H1 Rc1_1 l1 b1) ?_
  rintro _ H2 ⟨w0, rfl, qw0, p2⟩
  have r1_2 := r1_1.pre p2
  have Rc1_2 := Rc1_1.pre p2
  have Mc1_2 := Mc1_1.pre p2
  have Mw0_2 := qw0
  have Rw0_2 := qw0.row
  simp (maxSteps := 4000000) (disch := omega) only [S, S1, S2, S3, S4, ST, eq_self, ne_eq, not_true_eq_false, not_false_eq_true, and_self, true_and, and_true, reduceIte, reduceCtorEq, Nat.reduceEqDiff, Nat.reduceAdd, Nat.zero_add, Nat.add_zero, Option.map_none, Option.map_some, List.map_cons, List.map_nil, List.append_nil, List.cons_append, List.nil_append, List.getElem?_cons_zero, List.getElem?_cons_succ, List.getD_cons_zero, List.getD_cons_succ, List.getD_nil, Bool.not_true, Bool.not_false, decide_true, decide_false]
  refine CallH.by (toIntS_c v1 xs1 H2 r1_2 l1) ?_
  rintro d1 H3 ⟨qd1, p3⟩
  have r1_3 := r1_2.pre p3
  have Rc1_3 := Rc1_2.pre p3
  have Rw0_3 := Rw0_2.pre p3
  have Mc1_3 := Mc1_2.pre p3
  have Mw0_3 := Mw0_2.pre p3
  have Md1_3 := qd1.mine
  have Rd1_3 := qd1.row
  simp (maxSteps := 4000000) (disch := omega) only [S, S1, S2, S3, S4, ST, eq_self, ne_eq, not_true_eq_false, not_false_eq_true, and_self, true_and, and_true, reduceIte, reduceCtorEq, Nat.reduceEqDiff, Nat.reduceAdd, Nat.zero_add, Nat.add_zero, Option.map_none, Option.map_some, List.map_cons, List.map_nil, List.append_nil, List.cons_append, List.nil_append, List.getElem?_cons_zero, List.getElem?_cons_succ, List.getD_cons_zero, List.getD_cons_succ, List.getD_nil, Bool.not_true, Bool.not_false, decide_true, decide_false]
  refine CallH.by (BackI_c a0 d1 xs1 H3 Rd1_3 l1 b1) ?_
  rintro _ H4 ⟨g0, rfl, qg0, p4⟩
  have r1_4 := r1_3.pre p4
  have Rc1_4 := Rc1_3.pre p4
  have Rw0_4 := Rw0_3.pre p4
  have Rd1_4 := Rd1_3.pre p4
  have Mc1_4 := Mc1_3.pre p4
  have Mw0_4 := Mw0_3.pre p4
  have Md1_4 := Md1_3.pre p4
  have Mg0_4 := qg0
  have Rg0_4 := qg0.row
  simp (maxSteps := 4000000) (disch := omega) only [S, S1, S2, S3, S4, ST, eq_self, ne_eq, not_true_eq_false, not_false_eq_true, and_self, true_and, and_true, reduceIte, reduceCtorEq, Nat.reduceEqDiff, Nat.reduceAdd, Nat.zero_add, Nat.add_zero, Option.map_none, Option.map_some, List.map_cons, List.map_nil, List.append_nil, List.cons_append, List.nil_append, List.getElem?_cons_zero, List.getElem?_cons_succ, List.getD_cons_zero, List.getD_cons_succ, List.getD_nil, Bool.not_true, Bool.not_false, decide_true, decide_false]
  have hR := (backR_len a0 xs1 l1)
  refine CallH.by (eqIntS_c g0 w0 _ _ H4 Rg0_4 Rw0_4 hR) ?_
  rintro _ _ ⟨rfl, rfl⟩
  simp (maxSteps := 4000000) (disch := omega) only [S, S1, S2, S3, S4, ST, eq_self, ne_eq, not_true_eq_false, not_false_eq_true, and_self, true_and, and_true, reduceIte, reduceCtorEq, Nat.reduceEqDiff, Nat.reduceAdd, Nat.zero_add, Nat.add_zero, Option.map_none, Option.map_some, List.map_cons, List.map_nil, List.append_nil, List.cons_append, List.nil_append, List.getElem?_cons_zero, List.getElem?_cons_succ, List.getD_cons_zero, List.getD_cons_succ, List.getD_nil, Bool.not_true, Bool.not_false, decide_true, decide_false]
  refine CallH.by (toIntS_c v1 xs1 H4 r1_4 l1) ?_
  rintro f1 H5 ⟨qf1, p5⟩
  have r1_5 := r1_4.pre p5
  have Rc1_5 := Rc1_4.pre p5
  have Rw0_5 := Rw0_4.pre p5
  have Rd1_5 := Rd1_4.pre p5
  have Rg0_5 := Rg0_4.pre p5
  have Mc1_5 := Mc1_4.pre p5
  have Mw0_5 := Mw0_4.pre p5
  have Md1_5 := Md1_4.pre p5
  have Mg0_5 := Mg0_4.pre p5
  have Mf1_5 := qf1.mine
  have Rf1_5 := qf1.row
  simp (maxSteps := 4000000) (disch := omega) only [S, S1, S2, S3, S4, ST, eq_self, ne_eq, not_true_eq_false, not_false_eq_true, and_self, true_and, and_true, reduceIte, reduceCtorEq, Nat.reduceEqDiff, Nat.reduceAdd, Nat.zero_add, Nat.add_zero, Option.map_none, Option.map_some, List.map_cons, List.map_nil, List.append_nil, List.cons_append, List.nil_append, List.getElem?_cons_zero, List.getElem?_cons_succ, List.getD_cons_zero, List.getD_cons_succ, List.getD_nil, Bool.not_true, Bool.not_false, decide_true, decide_false]
  refine CallH.by (eqIntS_c d1 f1 _ _ H5 Rd1_5 Rf1_5 l1) ?_
  rintro _ _ ⟨rfl, rfl⟩
  simp (maxSteps := 4000000) (disch := omega) only [S, S1, S2, S3, S4, ST, eq_self, ne_eq, not_true_eq_false, not_false_eq_true, and_self, true_and, and_true, reduceIte, reduceCtorEq, Nat.reduceEqDiff, Nat.reduceAdd, Nat.zero_add, Nat.add_zero, Option.map_none, Option.map_some, List.map_cons, List.map_nil, List.append_nil, List.cons_append, List.nil_append, List.getElem?_cons_zero, List.getElem?_cons_succ, List.getD_cons_zero, List.getD_cons_succ, List.getD_nil, Bool.not_true, Bool.not_false, decide_true, decide_false]
  refine CallH.by (markIntS_c d1 _ _ H2 H5 Md1_5 l1 (by omega)) ?_
  rintro _ H6 ⟨rfl, n6, e6⟩
  have r1_6 := Row.else' r1_2 r1_5 Md1_5 e6
  have Rc1_6 := Row.else' Rc1_2 Rc1_5 Md1_5 e6
  have Rw0_6 := Row.else' Rw0_2 Rw0_5 Md1_5 e6
  have Mg0_6 := Mg0_5.else Rd1_3 e6
  have Rg0_6 := Mg0_6.row
  have Mf1_6 := Mf1_5.else Rd1_4 e6
  have Rf1_6 := Mf1_6.row
  have Md1_6 := n6
  have Rd1_6 := n6.row
  simp (maxSteps := 4000000) (disch := omega) only [S, S1, S2, S3, S4, ST, eq_self, ne_eq, not_true_eq_false, not_false_eq_true, and_self, true_and, and_true, reduceIte, reduceCtorEq, Nat.reduceEqDiff, Nat.reduceAdd, Nat.zero_add, Nat.add_zero, Option.map_none, Option.map_some, List.map_cons, List.map_nil, List.append_nil, List.cons_append, List.nil_append, List.getElem?_cons_zero, List.getElem?_cons_succ, List.getD_cons_zero, List.getD_cons_succ, List.getD_nil, Bool.not_true, Bool.not_false, decide_true, decide_false]
  refine brD.intro (fun g => absurd g (by omega)) (fun gk => ?_)
  simp (maxSteps := 4000000) (disch := omega) only [gk, S, S1, S2, S3, S4, ST, eq_self, ne_eq, not_true_eq_false, not_false_eq_true, and_self, true_and, and_true, reduceIte, reduceCtorEq, Nat.reduceEqDiff, Nat.reduceAdd, Nat.zero_add, Nat.add_zero, Option.map_none, Option.map_some, List.map_cons, List.map_nil, List.append_nil, List.cons_append, List.nil_append, List.getElem?_cons_zero, List.getElem?_cons_succ, List.getD_cons_zero, List.getD_cons_succ, List.getD_nil, Bool.not_true, Bool.not_false, decide_true, decide_false]
  refine CallH.by (eqIntS_c g0 w0 _ _ H6 Rg0_6 Rw0_6 hR) ?_
  rintro _ _ ⟨rfl, rfl⟩
  simp (maxSteps := 4000000) (disch := omega) only [S, S1, S2, S3, S4, ST, eq_self, ne_eq, not_true_eq_false, not_false_eq_true, and_self, true_and, and_true, reduceIte, reduceCtorEq, Nat.reduceEqDiff, Nat.reduceAdd, Nat.zero_add, Nat.add_zero, Option.map_none, Option.map_some, List.map_cons, List.map_nil, List.append_nil, List.cons_append, List.nil_append, List.getElem?_cons_zero, List.getElem?_cons_succ, List.getD_cons_zero, List.getD_cons_succ, List.getD_nil, Bool.not_true, Bool.not_false, decide_true, decide_false]
  try simp (maxSteps := 4000000) (disch := omega) only [gk, S, S1, S2, S3, S4, ST, eq_self, ne_eq, not_true_eq_false, not_false_eq_true, and_self, true_and, and_true, reduceIte, reduceCtorEq, Nat.reduceEqDiff, Nat.reduceAdd, Nat.zero_add, Nat.add_zero, Option.map_none, Option.map_some, List.map_cons, List.map_nil, List.append_nil, List.cons_append, List.nil_append, List.getElem?_cons_zero, List.getElem?_cons_succ, List.getD_cons_zero, List.getD_cons_succ, List.getD_nil, Bool.not_true, Bool.not_false, decide_true, decide_false]
  refine CallH.by (markIntS_c g0 _ 1 H3 H6 Mg0_6 hR (by omega)) ?_
  rintro _ H7 ⟨rfl, n7, e7⟩
  have r1_7 := Row.else' r1_3 r1_6 Mg0_6 e7
  have Rc1_7 := Row.else' Rc1_3 Rc1_6 Mg0_6 e7
  have Rw0_7 := Row.else' Rw0_3 Rw0_6 Mg0_6 e7
  have Mf1_7 := Mf1_6.else Rg0_4 e7
  have Rf1_7 := Mf1_7.row
  have Mg0_7 := n7
  have Rg0_7 := n7.row
  simp (maxSteps := 4000000) (disch := omega) only [S, S1, S2, S3, S4, ST, eq_self, ne_eq, not_true_eq_false, not_false_eq_true, and_self, true_and, and_true, reduceIte, reduceCtorEq, Nat.reduceEqDiff, Nat.reduceAdd, Nat.zero_add, Nat.add_zero, Option.map_none, Option.map_some, List.map_cons, List.map_nil, List.append_nil, List.cons_append, List.nil_append, List.getElem?_cons_zero, List.getElem?_cons_succ, List.getD_cons_zero, List.getD_cons_succ, List.getD_nil, Bool.not_true, Bool.not_false, decide_true, decide_false]
  refine CallH.by (heldIntS_c g0 _ 1 H7 Rg0_7 (by rw [runI_len]; exact hR) (by omega) (by rw [runI_len])) ?_
  rintro _ _ ⟨rfl, rfl⟩
  simp (maxSteps := 4000000) (disch := omega) only [runI_len, S, S1, S2, S3, S4, ST, eq_self, ne_eq, not_true_eq_false, not_false_eq_true, and_self, true_and, and_true, reduceIte, reduceCtorEq, Nat.reduceEqDiff, Nat.reduceAdd, Nat.zero_add, Nat.add_zero, Option.map_none, Option.map_some, List.map_cons, List.map_nil, List.append_nil, List.cons_append, List.nil_append, List.getElem?_cons_zero, List.getElem?_cons_succ, List.getD_cons_zero, List.getD_cons_succ, List.getD_nil, Bool.not_true, Bool.not_false, decide_true, decide_false]
  refine brD.intro (fun g => absurd g (by omega)) (fun _ => ?_)
  simp (maxSteps := 4000000) (disch := omega) only [S, S1, S2, S3, S4, ST, eq_self, ne_eq, not_true_eq_false, not_false_eq_true, and_self, true_and, and_true, reduceIte, reduceCtorEq, Nat.reduceEqDiff, Nat.reduceAdd, Nat.zero_add, Nat.add_zero, Option.map_none, Option.map_some, List.map_cons, List.map_nil, List.append_nil, List.cons_append, List.nil_append, List.getElem?_cons_zero, List.getElem?_cons_succ, List.getD_cons_zero, List.getD_cons_succ, List.getD_nil, Bool.not_true, Bool.not_false, decide_true, decide_false]
  refine CallH.by (toIntS_c v1 xs1 H7 r1_7 l1) ?_
  rintro e1 H8 ⟨qe1, p8⟩
  have r1_8 := r1_7.pre p8
  have Rc1_8 := Rc1_7.pre p8
  have Rw0_8 := Rw0_7.pre p8
  have Rg0_8 := Rg0_7.pre p8
  have Rf1_8 := Rf1_7.pre p8
  have Mg0_8 := Mg0_7.pre p8
  have Mf1_8 := Mf1_7.pre p8
  have Me1_8 := qe1.mine
  have Re1_8 := qe1.row
  simp (maxSteps := 4000000) (disch := omega) only [S, S1, S2, S3, S4, ST, eq_self, ne_eq, not_true_eq_false, not_false_eq_true, and_self, true_and, and_true, reduceIte, reduceCtorEq, Nat.reduceEqDiff, Nat.reduceAdd, Nat.zero_add, Nat.add_zero, Option.map_none, Option.map_some, List.map_cons, List.map_nil, List.append_nil, List.cons_append, List.nil_append, List.getElem?_cons_zero, List.getElem?_cons_succ, List.getD_cons_zero, List.getD_cons_succ, List.getD_nil, Bool.not_true, Bool.not_false, decide_true, decide_false]
  refine CallH.by (BackI_c a0 e1 xs1 H8 Re1_8 l1 b1) ?_
  rintro _ H9 ⟨h0, rfl, qh0, p9⟩
  have r1_9 := r1_8.pre p9
  have Rc1_9 := Rc1_8.pre p9
  have Rw0_9 := Rw0_8.pre p9
  have Rg0_9 := Rg0_8.pre p9
  have Rf1_9 := Rf1_8.pre p9
  have Re1_9 := Re1_8.pre p9
  have Mg0_9 := Mg0_8.pre p9
  have Mf1_9 := Mf1_8.pre p9
  have Me1_9 := Me1_8.pre p9
  have Mh0_9 := qh0
  have Rh0_9 := qh0.row
  simp (maxSteps := 4000000) (disch := omega) only [S, S1, S2, S3, S4, ST, eq_self, ne_eq, not_true_eq_false, not_false_eq_true, and_self, true_and, and_true, reduceIte, reduceCtorEq, Nat.reduceEqDiff, Nat.reduceAdd, Nat.zero_add, Nat.add_zero, Option.map_none, Option.map_some, List.map_cons, List.map_nil, List.append_nil, List.cons_append, List.nil_append, List.getElem?_cons_zero, List.getElem?_cons_succ, List.getD_cons_zero, List.getD_cons_succ, List.getD_nil, Bool.not_true, Bool.not_false, decide_true, decide_false]
  refine CallH.by (eqIntS_c h0 w0 _ _ H9 Rh0_9 Rw0_9 hR) ?_
  rintro _ _ ⟨rfl, rfl⟩
  simp (maxSteps := 4000000) (disch := omega) only [S, S1, S2, S3, S4, ST, eq_self, ne_eq, not_true_eq_false, not_false_eq_true, and_self, true_and, and_true, reduceIte, reduceCtorEq, Nat.reduceEqDiff, Nat.reduceAdd, Nat.zero_add, Nat.add_zero, Option.map_none, Option.map_some, List.map_cons, List.map_nil, List.append_nil, List.cons_append, List.nil_append, List.getElem?_cons_zero, List.getElem?_cons_succ, List.getD_cons_zero, List.getD_cons_succ, List.getD_nil, Bool.not_true, Bool.not_false, decide_true, decide_false]
  refine CallH.by (heldIntS_c g0 _ 1 H9 Rg0_9 (by rw [runI_len]; exact hR) (by omega) (by rw [runI_len])) ?_
  rintro _ _ ⟨rfl, rfl⟩
  simp (maxSteps := 4000000) (disch := omega) only [runI_len, S, S1, S2, S3, S4, ST, eq_self, ne_eq, not_true_eq_false, not_false_eq_true, and_self, true_and, and_true, reduceIte, reduceCtorEq, Nat.reduceEqDiff, Nat.reduceAdd, Nat.zero_add, Nat.add_zero, Option.map_none, Option.map_some, List.map_cons, List.map_nil, List.append_nil, List.cons_append, List.nil_append, List.getElem?_cons_zero, List.getElem?_cons_succ, List.getD_cons_zero, List.getD_cons_succ, List.getD_nil, Bool.not_true, Bool.not_false, decide_true, decide_false]
  refine brD.intro (fun g => absurd g (by omega)) (fun _ => ?_)
  simp (maxSteps := 4000000) (disch := omega) only [S, S1, S2, S3, S4, ST, eq_self, ne_eq, not_true_eq_false, not_false_eq_true, and_self, true_and, and_true, reduceIte, reduceCtorEq, Nat.reduceEqDiff, Nat.reduceAdd, Nat.zero_add, Nat.add_zero, Option.map_none, Option.map_some, List.map_cons, List.map_nil, List.append_nil, List.cons_append, List.nil_append, List.getElem?_cons_zero, List.getElem?_cons_succ, List.getD_cons_zero, List.getD_cons_succ, List.getD_nil, Bool.not_true, Bool.not_false, decide_true, decide_false]
  refine hQ _ _ _ ?_
  simp (maxSteps := 4000000) (disch := omega) only [S, S1, S2, S3, S4, ST, eq_self, ne_eq, not_true_eq_false, not_false_eq_true, and_self, true_and, and_true, reduceIte, reduceCtorEq, Nat.reduceEqDiff, Nat.reduceAdd, Nat.zero_add, Nat.add_zero, Option.map_none, Option.map_some, List.map_cons, List.map_nil, List.append_nil, List.cons_append, List.nil_append, List.getElem?_cons_zero, List.getElem?_cons_succ, List.getD_cons_zero, List.getD_cons_succ, List.getD_nil, Bool.not_true, Bool.not_false, decide_true, decide_false]

end Go.Proofs.Ytedlnjcfacadgaa.Ai
