/- FnExactSwapPlaces: the law, from both sides' contracts. -/
import Derived.Test.YtahakecifgjcnaaPlace
import Derived.Test.YtahakecifgjcnaaMark
import Derived.Test.YtahakecifgjcnaaMarkP
import Derived.Test.YtahakecifgjcnaaPrs
import Derived.Test.YtahakecifgjcnaaCdLPlace
namespace Go.Proofs.Ytahakecifgjcnaa.Ai
open Go Go.RowKit
set_option linter.unusedVariables false
set_option linter.unusedSimpArgs false
set_option maxHeartbeats 4000000 in
theorem placeLaw_c  (v0 : Value) (v1 : Value) (xs0 : List Int) (xs1 : List (Int × Int)) (H0 : AH) (r0 : Row 3 H0 v0 xs0) (b0 : ∀ y ∈ xs0, I64 y) (r1 : RowP 66 H0 v1 xs1) (b1 : (∀ y ∈ xs1, I64 y.1 ∧ I64 y.2) ∧ (xs1.length : Int) ≤ 9223372036854775807) :
    ACalls Try.prog 3 [v0, v1] H0 fun r H' => r = .bool true := by
  refine in3 rfl ?_
  intro Q hQ
  simp (maxSteps := 4000000) (disch := omega) only [cd3, r0.len Try.underlying22, S, S1, S2, S3, S4, ST, eq_self, ne_eq, not_true_eq_false, not_false_eq_true, and_self, true_and, and_true, reduceIte, reduceCtorEq, Nat.reduceEqDiff, Nat.reduceAdd, Nat.zero_add, Nat.add_zero, Option.map_none, Option.map_some, List.map_cons, List.map_nil, List.append_nil, List.cons_append, List.nil_append, List.getElem?_cons_zero, List.getElem?_cons_succ, List.getD_cons_zero, List.getD_cons_succ, List.getD_nil, Bool.not_true, Bool.not_false, decide_true, decide_false]
  refine brD.intro (fun g0 => ?_) (fun g0 => ?_) <;> simp (maxSteps := 4000000) (disch := omega) only [r0.len Try.underlying22, S, S1, S2, S3, S4, ST, eq_self, ne_eq, not_true_eq_false, not_false_eq_true, and_self, true_and, and_true, reduceIte, reduceCtorEq, Nat.reduceEqDiff, Nat.reduceAdd, Nat.zero_add, Nat.add_zero, Option.map_none, Option.map_some, List.map_cons, List.map_nil, List.append_nil, List.cons_append, List.nil_append, List.getElem?_cons_zero, List.getElem?_cons_succ, List.getD_cons_zero, List.getD_cons_succ, List.getD_nil, Bool.not_true, Bool.not_false, decide_true, decide_false]
  · refine hQ _ _ _ ?_
    simp (maxSteps := 4000000) (disch := omega) only [S, S1, S2, S3, S4, ST, eq_self, ne_eq, not_true_eq_false, not_false_eq_true, and_self, true_and, and_true, reduceIte, reduceCtorEq, Nat.reduceEqDiff, Nat.reduceAdd, Nat.zero_add, Nat.add_zero, Option.map_none, Option.map_some, List.map_cons, List.map_nil, List.append_nil, List.cons_append, List.nil_append, List.getElem?_cons_zero, List.getElem?_cons_succ, List.getD_cons_zero, List.getD_cons_succ, List.getD_nil, Bool.not_true, Bool.not_false, decide_true, decide_false]
  have l0 : xs0.length ≤ 1048576 := by omega
  refine CallH.by (szIntA2S_c v1 xs1 (1048576) H0 r1 (by omega) b1.2) ?_
  rintro _ _ ⟨rfl, rfl⟩
  simp (maxSteps := 4000000) (disch := omega) only [S, S1, S2, S3, S4, ST, eq_self, ne_eq, not_true_eq_false, not_false_eq_true, and_self, true_and, and_true, reduceIte, reduceCtorEq, Nat.reduceEqDiff, Nat.reduceAdd, Nat.zero_add, Nat.add_zero, Option.map_none, Option.map_some, List.map_cons, List.map_nil, List.append_nil, List.cons_append, List.nil_append, List.getElem?_cons_zero, List.getElem?_cons_succ, List.getD_cons_zero, List.getD_cons_succ, List.getD_nil, Bool.not_true, Bool.not_false, decide_true, decide_false]
  by_cases g1 : 1048576 - (xs1.length : Int) < 0
  · rw [if_pos g1]
    try simp (maxSteps := 4000000) (disch := omega) only [S, S1, S2, S3, S4, ST, eq_self, ne_eq, not_true_eq_false, not_false_eq_true, and_self, true_and, and_true, reduceIte, reduceCtorEq, Nat.reduceEqDiff, Nat.reduceAdd, Nat.zero_add, Nat.add_zero, Option.map_none, Option.map_some, List.map_cons, List.map_nil, List.append_nil, List.cons_append, List.nil_append, List.getElem?_cons_zero, List.getElem?_cons_succ, List.getD_cons_zero, List.getD_cons_succ, List.getD_nil, Bool.not_true, Bool.not_false, decide_true, decide_false]
    try (refine brD.intro (fun _ => ?_) (fun h => absurd h (by omega)))
    try simp (maxSteps := 4000000) (disch := omega) only [S, S1, S2, S3, S4, ST, eq_self, ne_eq, not_true_eq_false, not_false_eq_true, and_self, true_and, and_true, reduceIte, reduceCtorEq, Nat.reduceEqDiff, Nat.reduceAdd, Nat.zero_add, Nat.add_zero, Option.map_none, Option.map_some, List.map_cons, List.map_nil, List.append_nil, List.cons_append, List.nil_append, List.getElem?_cons_zero, List.getElem?_cons_succ, List.getD_cons_zero, List.getD_cons_succ, List.getD_nil, Bool.not_true, Bool.not_false, decide_true, decide_false]
    refine hQ _ _ _ ?_
    simp (maxSteps := 4000000) (disch := omega) only [S, S1, S2, S3, S4, ST, eq_self, ne_eq, not_true_eq_false, not_false_eq_true, and_self, true_and, and_true, reduceIte, reduceCtorEq, Nat.reduceEqDiff, Nat.reduceAdd, Nat.zero_add, Nat.add_zero, Option.map_none, Option.map_some, List.map_cons, List.map_nil, List.append_nil, List.cons_append, List.nil_append, List.getElem?_cons_zero, List.getElem?_cons_succ, List.getD_cons_zero, List.getD_cons_succ, List.getD_nil, Bool.not_true, Bool.not_false, decide_true, decide_false]
  rw [if_neg g1]
  try simp (maxSteps := 4000000) (disch := omega) only [g1, S, S1, S2, S3, S4, ST, eq_self, ne_eq, not_true_eq_false, not_false_eq_true, and_self, true_and, and_true, reduceIte, reduceCtorEq, Nat.reduceEqDiff, Nat.reduceAdd, Nat.zero_add, Nat.add_zero, Option.map_none, Option.map_some, List.map_cons, List.map_nil, List.append_nil, List.cons_append, List.nil_append, List.getElem?_cons_zero, List.getElem?_cons_succ, List.getD_cons_zero, List.getD_cons_succ, List.getD_nil, Bool.not_true, Bool.not_false, decide_true, decide_false]
  try refine brD.intro (fun h => absurd h (by omega)) (fun _ => ?_)
  try simp (maxSteps := 4000000) (disch := omega) only [g1, S, S1, S2, S3, S4, ST, eq_self, ne_eq, not_true_eq_false, not_false_eq_true, and_self, true_and, and_true, reduceIte, reduceCtorEq, Nat.reduceEqDiff, Nat.reduceAdd, Nat.zero_add, Nat.add_zero, Option.map_none, Option.map_some, List.map_cons, List.map_nil, List.append_nil, List.cons_append, List.nil_append, List.getElem?_cons_zero, List.getElem?_cons_succ, List.getD_cons_zero, List.getD_cons_succ, List.getD_nil, Bool.not_true, Bool.not_false, decide_true, decide_false]
  have l1 : xs1.length ≤ 1048576 := by omega
  have L0_big : xs0.length ≤ 1099511627776 := by omega
  have Ra0_0 := r0.b
  have L1_big : xs1.length ≤ 1099511627776 := by omega
  have Ra1_0 := r1.b
  refine CallH.by (toIntS_c v0 xs0 H0 Ra0_0.1 L0_big) ?_
  rintro c0 H1 ⟨qc0, p1⟩
  have Ra0_1 := Ra0_0.pre p1
  have Ra1_1 := Ra1_0.pre p1
  have L1 := p1.length_le
  have Mc0_1 := InI.of qc0.mine
  have Rc0_1 := Mc0_1.row
  simp (maxSteps := 4000000) (disch := omega) only [S, S1, S2, S3, S4, ST, eq_self, ne_eq, not_true_eq_false, not_false_eq_true, and_self, true_and, and_true, reduceIte, reduceCtorEq, Nat.reduceEqDiff, Nat.reduceAdd, Nat.zero_add, Nat.add_zero, Option.map_none, Option.map_some, List.map_cons, List.map_nil, List.append_nil, List.cons_append, List.nil_append, List.getElem?_cons_zero, List.getElem?_cons_succ, List.getD_cons_zero, List.getD_cons_succ, List.getD_nil, Bool.not_true, Bool.not_false, decide_true, decide_false]
  refine CallH.by (toIntA2S_c v1 xs1 H1 Ra1_1.1 L1_big) ?_
  rintro c1 H2 ⟨qc1, p2⟩
  have Ra0_2 := Ra0_1.pre p2
  have Ra1_2 := Ra1_1.pre p2
  have Rc0_2 := Rc0_1.pre p2
  have Mc0_2 := Mc0_1.pre p2
  have L2 := p2.length_le
  have Mc1_2 := InP.of qc1
  have Rc1_2 := Mc1_2.row
  simp (maxSteps := 4000000) (disch := omega) only [S, S1, S2, S3, S4, ST, eq_self, ne_eq, not_true_eq_false, not_false_eq_true, and_self, true_and, and_true, reduceIte, reduceCtorEq, Nat.reduceEqDiff, Nat.reduceAdd, Nat.zero_add, Nat.add_zero, Option.map_none, Option.map_some, List.map_cons, List.map_nil, List.append_nil, List.cons_append, List.nil_append, List.getElem?_cons_zero, List.getElem?_cons_succ, List.getD_cons_zero, List.getD_cons_succ, List.getD_nil, Bool.not_true, Bool.not_false, decide_true, decide_false]
  refine CallH.by (PlaceS_c   c0 c1 xs0 xs1 H2 Rc0_2.1 L0_big b0 Rc1_2.1 L1_big b1.1) ?_
  rintro _ H3 ⟨w0, rfl, qw0, p3⟩
  have Ra0_3 := Ra0_2.pre p3
  have Ra1_3 := Ra1_2.pre p3
  have Rc0_3 := Rc0_2.pre p3
  have Rc1_3 := Rc1_2.pre p3
  have Mc0_3 := Mc0_2.pre p3
  have Mc1_3 := Mc1_2.pre p3
  have L3 := p3.length_le
  have Mw0_3 := InI.of qw0
  have Rw0_3 := Mw0_3.row
  simp (maxSteps := 4000000) (disch := omega) only [S, S1, S2, S3, S4, ST, eq_self, ne_eq, not_true_eq_false, not_false_eq_true, and_self, true_and, and_true, reduceIte, reduceCtorEq, Nat.reduceEqDiff, Nat.reduceAdd, Nat.zero_add, Nat.add_zero, Option.map_none, Option.map_some, List.map_cons, List.map_nil, List.append_nil, List.cons_append, List.nil_append, List.getElem?_cons_zero, List.getElem?_cons_succ, List.getD_cons_zero, List.getD_cons_succ, List.getD_nil, Bool.not_true, Bool.not_false, decide_true, decide_false]
  refine CallH.by (toIntS_c v0 xs0 H3 Ra0_3.1 L0_big) ?_
  rintro d0 H4 ⟨qd0, p4⟩
  have Ra0_4 := Ra0_3.pre p4
  have Ra1_4 := Ra1_3.pre p4
  have Rw0_4 := Rw0_3.pre p4
  have Mw0_4 := Mw0_3.pre p4
  have L4 := p4.length_le
  have Md0_4 := InI.of qd0.mine
  have Rd0_4 := Md0_4.row
  simp (maxSteps := 4000000) (disch := omega) only [S, S1, S2, S3, S4, ST, eq_self, ne_eq, not_true_eq_false, not_false_eq_true, and_self, true_and, and_true, reduceIte, reduceCtorEq, Nat.reduceEqDiff, Nat.reduceAdd, Nat.zero_add, Nat.add_zero, Option.map_none, Option.map_some, List.map_cons, List.map_nil, List.append_nil, List.cons_append, List.nil_append, List.getElem?_cons_zero, List.getElem?_cons_succ, List.getD_cons_zero, List.getD_cons_succ, List.getD_nil, Bool.not_true, Bool.not_false, decide_true, decide_false]
  refine CallH.by (toIntA2S_c v1 xs1 H4 Ra1_4.1 L1_big) ?_
  rintro d1 H5 ⟨qd1, p5⟩
  have Ra0_5 := Ra0_4.pre p5
  have Ra1_5 := Ra1_4.pre p5
  have Rw0_5 := Rw0_4.pre p5
  have Rd0_5 := Rd0_4.pre p5
  have Mw0_5 := Mw0_4.pre p5
  have Md0_5 := Md0_4.pre p5
  have L5 := p5.length_le
  have Md1_5 := InP.of qd1
  have Rd1_5 := Md1_5.row
  simp (maxSteps := 4000000) (disch := omega) only [S, S1, S2, S3, S4, ST, eq_self, ne_eq, not_true_eq_false, not_false_eq_true, and_self, true_and, and_true, reduceIte, reduceCtorEq, Nat.reduceEqDiff, Nat.reduceAdd, Nat.zero_add, Nat.add_zero, Option.map_none, Option.map_some, List.map_cons, List.map_nil, List.append_nil, List.cons_append, List.nil_append, List.getElem?_cons_zero, List.getElem?_cons_succ, List.getD_cons_zero, List.getD_cons_succ, List.getD_nil, Bool.not_true, Bool.not_false, decide_true, decide_false]
  refine CallH.by (PlaceI_c   d0 d1 xs0 xs1 H5 Rd0_5.1 L0_big b0 Rd1_5.1 L1_big b1.1) ?_
  rintro _ H6 ⟨g0, rfl, qg0, p6⟩
  have Ra0_6 := Ra0_5.pre p6
  have Ra1_6 := Ra1_5.pre p6
  have Rw0_6 := Rw0_5.pre p6
  have Rd0_6 := Rd0_5.pre p6
  have Rd1_6 := Rd1_5.pre p6
  have Mw0_6 := Mw0_5.pre p6
  have Md0_6 := Md0_5.pre p6
  have Md1_6 := Md1_5.pre p6
  have L6 := p6.length_le
  have Mg0_6 := InI.of qg0
  have Rg0_6 := Mg0_6.row
  simp (maxSteps := 4000000) (disch := omega) only [S, S1, S2, S3, S4, ST, eq_self, ne_eq, not_true_eq_false, not_false_eq_true, and_self, true_and, and_true, reduceIte, reduceCtorEq, Nat.reduceEqDiff, Nat.reduceAdd, Nat.zero_add, Nat.add_zero, Option.map_none, Option.map_some, List.map_cons, List.map_nil, List.append_nil, List.cons_append, List.nil_append, List.getElem?_cons_zero, List.getElem?_cons_succ, List.getD_cons_zero, List.getD_cons_succ, List.getD_nil, Bool.not_true, Bool.not_false, decide_true, decide_false]
  have hR := (by have := placeR_len xs0 xs1; omega : (placeR xs0 xs1).length ≤ 1099511627776)
  refine CallH.by (eqIntS_c g0 w0 _ _ H6 Rg0_6.1 Rw0_6.1 hR) ?_
  rintro _ _ ⟨rfl, rfl⟩
  simp (maxSteps := 4000000) (disch := omega) only [S, S1, S2, S3, S4, ST, eq_self, ne_eq, not_true_eq_false, not_false_eq_true, and_self, true_and, and_true, reduceIte, reduceCtorEq, Nat.reduceEqDiff, Nat.reduceAdd, Nat.zero_add, Nat.add_zero, Option.map_none, Option.map_some, List.map_cons, List.map_nil, List.append_nil, List.cons_append, List.nil_append, List.getElem?_cons_zero, List.getElem?_cons_succ, List.getD_cons_zero, List.getD_cons_succ, List.getD_nil, Bool.not_true, Bool.not_false, decide_true, decide_false]
  refine CallH.by (toIntS_c v0 xs0 H6 Ra0_6.1 L0_big) ?_
  rintro f0 H7 ⟨qf0, p7⟩
  have Ra0_7 := Ra0_6.pre p7
  have Ra1_7 := Ra1_6.pre p7
  have Rw0_7 := Rw0_6.pre p7
  have Rd0_7 := Rd0_6.pre p7
  have Rd1_7 := Rd1_6.pre p7
  have Rg0_7 := Rg0_6.pre p7
  have Mw0_7 := Mw0_6.pre p7
  have Md0_7 := Md0_6.pre p7
  have Md1_7 := Md1_6.pre p7
  have Mg0_7 := Mg0_6.pre p7
  have L7 := p7.length_le
  have Mf0_7 := InI.of qf0.mine
  have Rf0_7 := Mf0_7.row
  simp (maxSteps := 4000000) (disch := omega) only [S, S1, S2, S3, S4, ST, eq_self, ne_eq, not_true_eq_false, not_false_eq_true, and_self, true_and, and_true, reduceIte, reduceCtorEq, Nat.reduceEqDiff, Nat.reduceAdd, Nat.zero_add, Nat.add_zero, Option.map_none, Option.map_some, List.map_cons, List.map_nil, List.append_nil, List.cons_append, List.nil_append, List.getElem?_cons_zero, List.getElem?_cons_succ, List.getD_cons_zero, List.getD_cons_succ, List.getD_nil, Bool.not_true, Bool.not_false, decide_true, decide_false]
  refine CallH.by (eqIntS_c d0 f0 _ _ H7 Rd0_7.1 Rf0_7.1 L0_big) ?_
  rintro _ _ ⟨rfl, rfl⟩
  simp (maxSteps := 4000000) (disch := omega) only [S, S1, S2, S3, S4, ST, eq_self, ne_eq, not_true_eq_false, not_false_eq_true, and_self, true_and, and_true, reduceIte, reduceCtorEq, Nat.reduceEqDiff, Nat.reduceAdd, Nat.zero_add, Nat.add_zero, Option.map_none, Option.map_some, List.map_cons, List.map_nil, List.append_nil, List.cons_append, List.nil_append, List.getElem?_cons_zero, List.getElem?_cons_succ, List.getD_cons_zero, List.getD_cons_succ, List.getD_nil, Bool.not_true, Bool.not_false, decide_true, decide_false]
  refine CallH.by (toIntA2S_c v1 xs1 H7 Ra1_7.1 L1_big) ?_
  rintro f1 H8 ⟨qf1, p8⟩
  have Ra0_8 := Ra0_7.pre p8
  have Ra1_8 := Ra1_7.pre p8
  have Rw0_8 := Rw0_7.pre p8
  have Rd0_8 := Rd0_7.pre p8
  have Rd1_8 := Rd1_7.pre p8
  have Rg0_8 := Rg0_7.pre p8
  have Mw0_8 := Mw0_7.pre p8
  have Md0_8 := Md0_7.pre p8
  have Md1_8 := Md1_7.pre p8
  have Mg0_8 := Mg0_7.pre p8
  have L8 := p8.length_le
  have Mf1_8 := InP.of qf1
  have Rf1_8 := Mf1_8.row
  simp (maxSteps := 4000000) (disch := omega) only [S, S1, S2, S3, S4, ST, eq_self, ne_eq, not_true_eq_false, not_false_eq_true, and_self, true_and, and_true, reduceIte, reduceCtorEq, Nat.reduceEqDiff, Nat.reduceAdd, Nat.zero_add, Nat.add_zero, Option.map_none, Option.map_some, List.map_cons, List.map_nil, List.append_nil, List.cons_append, List.nil_append, List.getElem?_cons_zero, List.getElem?_cons_succ, List.getD_cons_zero, List.getD_cons_succ, List.getD_nil, Bool.not_true, Bool.not_false, decide_true, decide_false]
  refine CallH.by (eqIntA2S_c d1 f1 _ _ H8 Rd1_8.1 Rf1_8.1 L1_big) ?_
  rintro _ H9 ⟨rfl, p9⟩
  have Ra0_9 := Ra0_8.pre p9
  have Ra1_9 := Ra1_8.pre p9
  have Rw0_9 := Rw0_8.pre p9
  have Rd0_9 := Rd0_8.pre p9
  have Rd1_9 := Rd1_8.pre p9
  have Rg0_9 := Rg0_8.pre p9
  have Rf1_9 := Rf1_8.pre p9
  have Mw0_9 := Mw0_8.pre p9
  have Md0_9 := Md0_8.pre p9
  have Md1_9 := Md1_8.pre p9
  have Mg0_9 := Mg0_8.pre p9
  have Mf1_9 := Mf1_8.pre p9
  have L9 := p9.length_le
  simp (maxSteps := 4000000) (disch := omega) only [S, S1, S2, S3, S4, ST, eq_self, ne_eq, not_true_eq_false, not_false_eq_true, and_self, true_and, and_true, reduceIte, reduceCtorEq, Nat.reduceEqDiff, Nat.reduceAdd, Nat.zero_add, Nat.add_zero, Option.map_none, Option.map_some, List.map_cons, List.map_nil, List.append_nil, List.cons_append, List.nil_append, List.getElem?_cons_zero, List.getElem?_cons_succ, List.getD_cons_zero, List.getD_cons_succ, List.getD_nil, Bool.not_true, Bool.not_false, decide_true, decide_false]
  refine CallH.by (markIntS_B d0 _ _ _ _ H9 Md0_9 L0_big (by omega)) ?_
  rintro _ H10 ⟨rfl, n_10, e10⟩
  have L10 := Nat.le_of_eq e10.1.symm
  have Ra0_10 := Ra0_9.keep e10 (by omega)
  have Ra1_10 := Ra1_9.keep e10 (by omega)
  have Mw0_10 := Mw0_9.keep e10 (by omega)
  have Rw0_10 := Mw0_10.row
  have Md1_10 := Md1_9.keep e10 (by omega)
  have Rd1_10 := Md1_10.row
  have Mg0_10 := Mg0_9.keep e10 (by omega)
  have Rg0_10 := Mg0_10.row
  simp (maxSteps := 4000000) (disch := omega) only [S, S1, S2, S3, S4, ST, eq_self, ne_eq, not_true_eq_false, not_false_eq_true, and_self, true_and, and_true, reduceIte, reduceCtorEq, Nat.reduceEqDiff, Nat.reduceAdd, Nat.zero_add, Nat.add_zero, Option.map_none, Option.map_some, List.map_cons, List.map_nil, List.append_nil, List.cons_append, List.nil_append, List.getElem?_cons_zero, List.getElem?_cons_succ, List.getD_cons_zero, List.getD_cons_succ, List.getD_nil, Bool.not_true, Bool.not_false, decide_true, decide_false]
  refine CallH.by (markIntA2S_B d1 _ _ _ _ H10 Md1_10 L1_big (by omega)) ?_
  rintro _ H11 ⟨rfl, n_11, e11⟩
  have L11 := Nat.le_of_eq e11.1.symm
  have Ra0_11 := Ra0_10.keep e11 (by omega)
  have Ra1_11 := Ra1_10.keep e11 (by omega)
  have Mw0_11 := Mw0_10.keep e11 (by omega)
  have Rw0_11 := Mw0_11.row
  have Mg0_11 := Mg0_10.keep e11 (by omega)
  have Rg0_11 := Mg0_11.row
  simp (maxSteps := 4000000) (disch := omega) only [S, S1, S2, S3, S4, ST, eq_self, ne_eq, not_true_eq_false, not_false_eq_true, and_self, true_and, and_true, reduceIte, reduceCtorEq, Nat.reduceEqDiff, Nat.reduceAdd, Nat.zero_add, Nat.add_zero, Option.map_none, Option.map_some, List.map_cons, List.map_nil, List.append_nil, List.cons_append, List.nil_append, List.getElem?_cons_zero, List.getElem?_cons_succ, List.getD_cons_zero, List.getD_cons_succ, List.getD_nil, Bool.not_true, Bool.not_false, decide_true, decide_false]
  refine brD.intro (fun g => absurd g (by omega)) (fun gk => ?_)
  simp (maxSteps := 4000000) (disch := omega) only [gk, S, S1, S2, S3, S4, ST, eq_self, ne_eq, not_true_eq_false, not_false_eq_true, and_self, true_and, and_true, reduceIte, reduceCtorEq, Nat.reduceEqDiff, Nat.reduceAdd, Nat.zero_add, Nat.add_zero, Option.map_none, Option.map_some, List.map_cons, List.map_nil, List.append_nil, List.cons_append, List.nil_append, List.getElem?_cons_zero, List.getElem?_cons_succ, List.getD_cons_zero, List.getD_cons_succ, List.getD_nil, Bool.not_true, Bool.not_false, decide_true, decide_false]
  refine CallH.by (eqIntS_c g0 w0 _ _ H11 Rg0_11.1 Rw0_11.1 hR) ?_
  rintro _ _ ⟨rfl, rfl⟩
  simp (maxSteps := 4000000) (disch := omega) only [S, S1, S2, S3, S4, ST, eq_self, ne_eq, not_true_eq_false, not_false_eq_true, and_self, true_and, and_true, reduceIte, reduceCtorEq, Nat.reduceEqDiff, Nat.reduceAdd, Nat.zero_add, Nat.add_zero, Option.map_none, Option.map_some, List.map_cons, List.map_nil, List.append_nil, List.cons_append, List.nil_append, List.getElem?_cons_zero, List.getElem?_cons_succ, List.getD_cons_zero, List.getD_cons_succ, List.getD_nil, Bool.not_true, Bool.not_false, decide_true, decide_false]
  try simp (maxSteps := 4000000) (disch := omega) only [gk, S, S1, S2, S3, S4, ST, eq_self, ne_eq, not_true_eq_false, not_false_eq_true, and_self, true_and, and_true, reduceIte, reduceCtorEq, Nat.reduceEqDiff, Nat.reduceAdd, Nat.zero_add, Nat.add_zero, Option.map_none, Option.map_some, List.map_cons, List.map_nil, List.append_nil, List.cons_append, List.nil_append, List.getElem?_cons_zero, List.getElem?_cons_succ, List.getD_cons_zero, List.getD_cons_succ, List.getD_nil, Bool.not_true, Bool.not_false, decide_true, decide_false]
  refine CallH.by (markIntS_B g0 _ _ _ _ H11 Mg0_11 hR (by omega)) ?_
  rintro _ H12 ⟨rfl, n_12, e12⟩
  have L12 := Nat.le_of_eq e12.1.symm
  have Ra0_12 := Ra0_11.keep e12 (by omega)
  have Ra1_12 := Ra1_11.keep e12 (by omega)
  have Mw0_12 := Mw0_11.keep e12 (by omega)
  have Rw0_12 := Mw0_12.row
  have Mg0_12 := n_12
  have Rg0_12 := n_12.row
  simp (maxSteps := 4000000) (disch := omega) only [S, S1, S2, S3, S4, ST, eq_self, ne_eq, not_true_eq_false, not_false_eq_true, and_self, true_and, and_true, reduceIte, reduceCtorEq, Nat.reduceEqDiff, Nat.reduceAdd, Nat.zero_add, Nat.add_zero, Option.map_none, Option.map_some, List.map_cons, List.map_nil, List.append_nil, List.cons_append, List.nil_append, List.getElem?_cons_zero, List.getElem?_cons_succ, List.getD_cons_zero, List.getD_cons_succ, List.getD_nil, Bool.not_true, Bool.not_false, decide_true, decide_false]
  refine CallH.by (heldIntS_c g0 _ 1 H12 Rg0_12.1 (by rw [runI_len]; exact hR) (by omega) (by rw [runI_len])) ?_
  rintro _ _ ⟨rfl, rfl⟩
  simp (maxSteps := 4000000) (disch := omega) only [runI_len, S, S1, S2, S3, S4, ST, eq_self, ne_eq, not_true_eq_false, not_false_eq_true, and_self, true_and, and_true, reduceIte, reduceCtorEq, Nat.reduceEqDiff, Nat.reduceAdd, Nat.zero_add, Nat.add_zero, Option.map_none, Option.map_some, List.map_cons, List.map_nil, List.append_nil, List.cons_append, List.nil_append, List.getElem?_cons_zero, List.getElem?_cons_succ, List.getD_cons_zero, List.getD_cons_succ, List.getD_nil, Bool.not_true, Bool.not_false, decide_true, decide_false]
  refine brD.intro (fun g => absurd g (by omega)) (fun _ => ?_)
  simp (maxSteps := 4000000) (disch := omega) only [S, S1, S2, S3, S4, ST, eq_self, ne_eq, not_true_eq_false, not_false_eq_true, and_self, true_and, and_true, reduceIte, reduceCtorEq, Nat.reduceEqDiff, Nat.reduceAdd, Nat.zero_add, Nat.add_zero, Option.map_none, Option.map_some, List.map_cons, List.map_nil, List.append_nil, List.cons_append, List.nil_append, List.getElem?_cons_zero, List.getElem?_cons_succ, List.getD_cons_zero, List.getD_cons_succ, List.getD_nil, Bool.not_true, Bool.not_false, decide_true, decide_false]
  refine CallH.by (toIntS_c v0 xs0 H12 Ra0_12.1 L0_big) ?_
  rintro e0 H13 ⟨qe0, p13⟩
  have Ra0_13 := Ra0_12.pre p13
  have Ra1_13 := Ra1_12.pre p13
  have Rw0_13 := Rw0_12.pre p13
  have Rg0_13 := Rg0_12.pre p13
  have Mw0_13 := Mw0_12.pre p13
  have Mg0_13 := Mg0_12.pre p13
  have L13 := p13.length_le
  have Me0_13 := InI.of qe0.mine
  have Re0_13 := Me0_13.row
  simp (maxSteps := 4000000) (disch := omega) only [S, S1, S2, S3, S4, ST, eq_self, ne_eq, not_true_eq_false, not_false_eq_true, and_self, true_and, and_true, reduceIte, reduceCtorEq, Nat.reduceEqDiff, Nat.reduceAdd, Nat.zero_add, Nat.add_zero, Option.map_none, Option.map_some, List.map_cons, List.map_nil, List.append_nil, List.cons_append, List.nil_append, List.getElem?_cons_zero, List.getElem?_cons_succ, List.getD_cons_zero, List.getD_cons_succ, List.getD_nil, Bool.not_true, Bool.not_false, decide_true, decide_false]
  refine CallH.by (toIntA2S_c v1 xs1 H13 Ra1_13.1 L1_big) ?_
  rintro e1 H14 ⟨qe1, p14⟩
  have Ra0_14 := Ra0_13.pre p14
  have Ra1_14 := Ra1_13.pre p14
  have Rw0_14 := Rw0_13.pre p14
  have Rg0_14 := Rg0_13.pre p14
  have Re0_14 := Re0_13.pre p14
  have Mw0_14 := Mw0_13.pre p14
  have Mg0_14 := Mg0_13.pre p14
  have Me0_14 := Me0_13.pre p14
  have L14 := p14.length_le
  have Me1_14 := InP.of qe1
  have Re1_14 := Me1_14.row
  simp (maxSteps := 4000000) (disch := omega) only [S, S1, S2, S3, S4, ST, eq_self, ne_eq, not_true_eq_false, not_false_eq_true, and_self, true_and, and_true, reduceIte, reduceCtorEq, Nat.reduceEqDiff, Nat.reduceAdd, Nat.zero_add, Nat.add_zero, Option.map_none, Option.map_some, List.map_cons, List.map_nil, List.append_nil, List.cons_append, List.nil_append, List.getElem?_cons_zero, List.getElem?_cons_succ, List.getD_cons_zero, List.getD_cons_succ, List.getD_nil, Bool.not_true, Bool.not_false, decide_true, decide_false]
  refine CallH.by (PlaceI_c   e0 e1 xs0 xs1 H14 Re0_14.1 L0_big b0 Re1_14.1 L1_big b1.1) ?_
  rintro _ H15 ⟨h0, rfl, qh0, p15⟩
  have Ra0_15 := Ra0_14.pre p15
  have Ra1_15 := Ra1_14.pre p15
  have Rw0_15 := Rw0_14.pre p15
  have Rg0_15 := Rg0_14.pre p15
  have Re0_15 := Re0_14.pre p15
  have Re1_15 := Re1_14.pre p15
  have Mw0_15 := Mw0_14.pre p15
  have Mg0_15 := Mg0_14.pre p15
  have Me0_15 := Me0_14.pre p15
  have Me1_15 := Me1_14.pre p15
  have L15 := p15.length_le
  have Mh0_15 := InI.of qh0
  have Rh0_15 := Mh0_15.row
  simp (maxSteps := 4000000) (disch := omega) only [S, S1, S2, S3, S4, ST, eq_self, ne_eq, not_true_eq_false, not_false_eq_true, and_self, true_and, and_true, reduceIte, reduceCtorEq, Nat.reduceEqDiff, Nat.reduceAdd, Nat.zero_add, Nat.add_zero, Option.map_none, Option.map_some, List.map_cons, List.map_nil, List.append_nil, List.cons_append, List.nil_append, List.getElem?_cons_zero, List.getElem?_cons_succ, List.getD_cons_zero, List.getD_cons_succ, List.getD_nil, Bool.not_true, Bool.not_false, decide_true, decide_false]
  refine CallH.by (eqIntS_c h0 w0 _ _ H15 Rh0_15.1 Rw0_15.1 hR) ?_
  rintro _ _ ⟨rfl, rfl⟩
  simp (maxSteps := 4000000) (disch := omega) only [S, S1, S2, S3, S4, ST, eq_self, ne_eq, not_true_eq_false, not_false_eq_true, and_self, true_and, and_true, reduceIte, reduceCtorEq, Nat.reduceEqDiff, Nat.reduceAdd, Nat.zero_add, Nat.add_zero, Option.map_none, Option.map_some, List.map_cons, List.map_nil, List.append_nil, List.cons_append, List.nil_append, List.getElem?_cons_zero, List.getElem?_cons_succ, List.getD_cons_zero, List.getD_cons_succ, List.getD_nil, Bool.not_true, Bool.not_false, decide_true, decide_false]
  refine CallH.by (heldIntS_c g0 _ 1 H15 Rg0_15.1 (by rw [runI_len]; exact hR) (by omega) (by rw [runI_len])) ?_
  rintro _ _ ⟨rfl, rfl⟩
  simp (maxSteps := 4000000) (disch := omega) only [runI_len, S, S1, S2, S3, S4, ST, eq_self, ne_eq, not_true_eq_false, not_false_eq_true, and_self, true_and, and_true, reduceIte, reduceCtorEq, Nat.reduceEqDiff, Nat.reduceAdd, Nat.zero_add, Nat.add_zero, Option.map_none, Option.map_some, List.map_cons, List.map_nil, List.append_nil, List.cons_append, List.nil_append, List.getElem?_cons_zero, List.getElem?_cons_succ, List.getD_cons_zero, List.getD_cons_succ, List.getD_nil, Bool.not_true, Bool.not_false, decide_true, decide_false]
  refine brD.intro (fun g => absurd g (by omega)) (fun _ => ?_)
  simp (maxSteps := 4000000) (disch := omega) only [S, S1, S2, S3, S4, ST, eq_self, ne_eq, not_true_eq_false, not_false_eq_true, and_self, true_and, and_true, reduceIte, reduceCtorEq, Nat.reduceEqDiff, Nat.reduceAdd, Nat.zero_add, Nat.add_zero, Option.map_none, Option.map_some, List.map_cons, List.map_nil, List.append_nil, List.cons_append, List.nil_append, List.getElem?_cons_zero, List.getElem?_cons_succ, List.getD_cons_zero, List.getD_cons_succ, List.getD_nil, Bool.not_true, Bool.not_false, decide_true, decide_false]
  refine hQ _ _ _ ?_
  simp (maxSteps := 4000000) (disch := omega) only [S, S1, S2, S3, S4, ST, eq_self, ne_eq, not_true_eq_false, not_false_eq_true, and_self, true_and, and_true, reduceIte, reduceCtorEq, Nat.reduceEqDiff, Nat.reduceAdd, Nat.zero_add, Nat.add_zero, Option.map_none, Option.map_some, List.map_cons, List.map_nil, List.append_nil, List.cons_append, List.nil_append, List.getElem?_cons_zero, List.getElem?_cons_succ, List.getD_cons_zero, List.getD_cons_succ, List.getD_nil, Bool.not_true, Bool.not_false, decide_true, decide_false]

end Go.Proofs.Ytahakecifgjcnaa.Ai
