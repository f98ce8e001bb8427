/- FnExactSortSwaps: the law, from both sides' contracts. -/
import Derived.Test.YtnoihoeaconllaaSwaps
import Derived.Test.YtnoihoeaconllaaMark
import Derived.Test.YtnoihoeaconllaaMarkP
import Derived.Test.YtnoihoeaconllaaPrs
import Derived.Test.YtnoihoeaconllaaCdLSwaps
namespace Go.Proofs.Ytnoihoeaconllaa.Ai
open Go Go.RowKit
set_option linter.unusedVariables false
set_option linter.unusedSimpArgs false
set_option maxHeartbeats 4000000 in
theorem swapsLaw_c  (v0 : Value) (xs0 : List Int) (H0 : AH) (r0 : Row 3 H0 v0 xs0) (b0 : ∀ y ∈ xs0, I64 y) :
    ACalls Try.prog 11 [v0] H0 fun r H' => r = .bool true := by
  refine in11 rfl ?_
  intro Q hQ
  simp (maxSteps := 4000000) (disch := omega) only [cd11, r0.len Try.underlying22, S, S1, S2, S3, S4, ST, eq_self, ne_eq, not_true_eq_false, not_false_eq_true, and_self, true_and, and_true, reduceIte, reduceCtorEq, Nat.reduceEqDiff, Nat.reduceAdd, Nat.zero_add, Nat.add_zero, Option.map_none, Option.map_some, List.map_cons, List.map_nil, List.append_nil, List.cons_append, List.nil_append, List.getElem?_cons_zero, List.getElem?_cons_succ, List.getD_cons_zero, List.getD_cons_succ, List.getD_nil, Bool.not_true, Bool.not_false, decide_true, decide_false]
  refine brD.intro (fun g0 => ?_) (fun g0 => ?_) <;> simp (maxSteps := 4000000) (disch := omega) only [r0.len Try.underlying22, S, S1, S2, S3, S4, ST, eq_self, ne_eq, not_true_eq_false, not_false_eq_true, and_self, true_and, and_true, reduceIte, reduceCtorEq, Nat.reduceEqDiff, Nat.reduceAdd, Nat.zero_add, Nat.add_zero, Option.map_none, Option.map_some, List.map_cons, List.map_nil, List.append_nil, List.cons_append, List.nil_append, List.getElem?_cons_zero, List.getElem?_cons_succ, List.getD_cons_zero, List.getD_cons_succ, List.getD_nil, Bool.not_true, Bool.not_false, decide_true, decide_false]
  · refine hQ _ _ _ ?_
    simp (maxSteps := 4000000) (disch := omega) only [S, S1, S2, S3, S4, ST, eq_self, ne_eq, not_true_eq_false, not_false_eq_true, and_self, true_and, and_true, reduceIte, reduceCtorEq, Nat.reduceEqDiff, Nat.reduceAdd, Nat.zero_add, Nat.add_zero, Option.map_none, Option.map_some, List.map_cons, List.map_nil, List.append_nil, List.cons_append, List.nil_append, List.getElem?_cons_zero, List.getElem?_cons_succ, List.getD_cons_zero, List.getD_cons_succ, List.getD_nil, Bool.not_true, Bool.not_false, decide_true, decide_false]
  have l0 : xs0.length ≤ 1048576 := by omega
  have L0_big : xs0.length ≤ 1099511627776 := by omega
  have Ra0_0 := r0.b
  refine CallH.by (toIntS_c v0 xs0 H0 Ra0_0.1 L0_big) ?_
  rintro c0 H1 ⟨qc0, p1⟩
  have Ra0_1 := Ra0_0.pre p1
  have L1 := p1.length_le
  have Mc0_1 := InI.of qc0.mine
  have Rc0_1 := Mc0_1.row
  simp (maxSteps := 4000000) (disch := omega) only [S, S1, S2, S3, S4, ST, eq_self, ne_eq, not_true_eq_false, not_false_eq_true, and_self, true_and, and_true, reduceIte, reduceCtorEq, Nat.reduceEqDiff, Nat.reduceAdd, Nat.zero_add, Nat.add_zero, Option.map_none, Option.map_some, List.map_cons, List.map_nil, List.append_nil, List.cons_append, List.nil_append, List.getElem?_cons_zero, List.getElem?_cons_succ, List.getD_cons_zero, List.getD_cons_succ, List.getD_nil, Bool.not_true, Bool.not_false, decide_true, decide_false]
  refine CallH.by (SortS_c   c0 xs0 H1 Rc0_1.1 L0_big b0) ?_
  rintro _ H2 ⟨w0, rfl, qw0, p2⟩
  have Ra0_2 := Ra0_1.pre p2
  have Rc0_2 := Rc0_1.pre p2
  have Mc0_2 := Mc0_1.pre p2
  have L2 := p2.length_le
  have Mw0_2 := InP.of qw0
  have Rw0_2 := Mw0_2.row
  simp (maxSteps := 4000000) (disch := omega) only [S, S1, S2, S3, S4, ST, eq_self, ne_eq, not_true_eq_false, not_false_eq_true, and_self, true_and, and_true, reduceIte, reduceCtorEq, Nat.reduceEqDiff, Nat.reduceAdd, Nat.zero_add, Nat.add_zero, Option.map_none, Option.map_some, List.map_cons, List.map_nil, List.append_nil, List.cons_append, List.nil_append, List.getElem?_cons_zero, List.getElem?_cons_succ, List.getD_cons_zero, List.getD_cons_succ, List.getD_nil, Bool.not_true, Bool.not_false, decide_true, decide_false]
  refine CallH.by (toIntS_c v0 xs0 H2 Ra0_2.1 L0_big) ?_
  rintro d0 H3 ⟨qd0, p3⟩
  have Ra0_3 := Ra0_2.pre p3
  have Rw0_3 := Rw0_2.pre p3
  have Mw0_3 := Mw0_2.pre p3
  have L3 := p3.length_le
  have Md0_3 := InI.of qd0.mine
  have Rd0_3 := Md0_3.row
  simp (maxSteps := 4000000) (disch := omega) only [S, S1, S2, S3, S4, ST, eq_self, ne_eq, not_true_eq_false, not_false_eq_true, and_self, true_and, and_true, reduceIte, reduceCtorEq, Nat.reduceEqDiff, Nat.reduceAdd, Nat.zero_add, Nat.add_zero, Option.map_none, Option.map_some, List.map_cons, List.map_nil, List.append_nil, List.cons_append, List.nil_append, List.getElem?_cons_zero, List.getElem?_cons_succ, List.getD_cons_zero, List.getD_cons_succ, List.getD_nil, Bool.not_true, Bool.not_false, decide_true, decide_false]
  refine CallH.by (SortI_c   d0 xs0 H3 Rd0_3.1 L0_big b0) ?_
  rintro _ H4 ⟨g0, rfl, qg0, p4⟩
  have Ra0_4 := Ra0_3.pre p4
  have Rw0_4 := Rw0_3.pre p4
  have Rd0_4 := Rd0_3.pre p4
  have Mw0_4 := Mw0_3.pre p4
  have Md0_4 := Md0_3.pre p4
  have L4 := p4.length_le
  have Mg0_4 := InP.of qg0
  have Rg0_4 := Mg0_4.row
  simp (maxSteps := 4000000) (disch := omega) only [S, S1, S2, S3, S4, ST, eq_self, ne_eq, not_true_eq_false, not_false_eq_true, and_self, true_and, and_true, reduceIte, reduceCtorEq, Nat.reduceEqDiff, Nat.reduceAdd, Nat.zero_add, Nat.add_zero, Option.map_none, Option.map_some, List.map_cons, List.map_nil, List.append_nil, List.cons_append, List.nil_append, List.getElem?_cons_zero, List.getElem?_cons_succ, List.getD_cons_zero, List.getD_cons_succ, List.getD_nil, Bool.not_true, Bool.not_false, decide_true, decide_false]
  have hR := (by have := sortR_len xs0; omega : (sortR xs0).length ≤ 1099511627776)
  refine CallH.by (eqIntA2S_c g0 w0 _ _ H4 Rg0_4.1 Rw0_4.1 hR) ?_
  rintro _ H5 ⟨rfl, p5⟩
  have Ra0_5 := Ra0_4.pre p5
  have Rw0_5 := Rw0_4.pre p5
  have Rd0_5 := Rd0_4.pre p5
  have Rg0_5 := Rg0_4.pre p5
  have Mw0_5 := Mw0_4.pre p5
  have Md0_5 := Md0_4.pre p5
  have Mg0_5 := Mg0_4.pre p5
  have L5 := p5.length_le
  simp (maxSteps := 4000000) (disch := omega) only [S, S1, S2, S3, S4, ST, eq_self, ne_eq, not_true_eq_false, not_false_eq_true, and_self, true_and, and_true, reduceIte, reduceCtorEq, Nat.reduceEqDiff, Nat.reduceAdd, Nat.zero_add, Nat.add_zero, Option.map_none, Option.map_some, List.map_cons, List.map_nil, List.append_nil, List.cons_append, List.nil_append, List.getElem?_cons_zero, List.getElem?_cons_succ, List.getD_cons_zero, List.getD_cons_succ, List.getD_nil, Bool.not_true, Bool.not_false, decide_true, decide_false]
  refine CallH.by (toIntS_c v0 xs0 H5 Ra0_5.1 L0_big) ?_
  rintro f0 H6 ⟨qf0, p6⟩
  have Ra0_6 := Ra0_5.pre p6
  have Rw0_6 := Rw0_5.pre p6
  have Rd0_6 := Rd0_5.pre p6
  have Rg0_6 := Rg0_5.pre p6
  have Mw0_6 := Mw0_5.pre p6
  have Md0_6 := Md0_5.pre p6
  have Mg0_6 := Mg0_5.pre p6
  have L6 := p6.length_le
  have Mf0_6 := InI.of qf0.mine
  have Rf0_6 := Mf0_6.row
  simp (maxSteps := 4000000) (disch := omega) only [S, S1, S2, S3, S4, ST, eq_self, ne_eq, not_true_eq_false, not_false_eq_true, and_self, true_and, and_true, reduceIte, reduceCtorEq, Nat.reduceEqDiff, Nat.reduceAdd, Nat.zero_add, Nat.add_zero, Option.map_none, Option.map_some, List.map_cons, List.map_nil, List.append_nil, List.cons_append, List.nil_append, List.getElem?_cons_zero, List.getElem?_cons_succ, List.getD_cons_zero, List.getD_cons_succ, List.getD_nil, Bool.not_true, Bool.not_false, decide_true, decide_false]
  refine CallH.by (eqIntS_c d0 f0 _ _ H6 Rd0_6.1 Rf0_6.1 L0_big) ?_
  rintro _ _ ⟨rfl, rfl⟩
  simp (maxSteps := 4000000) (disch := omega) only [S, S1, S2, S3, S4, ST, eq_self, ne_eq, not_true_eq_false, not_false_eq_true, and_self, true_and, and_true, reduceIte, reduceCtorEq, Nat.reduceEqDiff, Nat.reduceAdd, Nat.zero_add, Nat.add_zero, Option.map_none, Option.map_some, List.map_cons, List.map_nil, List.append_nil, List.cons_append, List.nil_append, List.getElem?_cons_zero, List.getElem?_cons_succ, List.getD_cons_zero, List.getD_cons_succ, List.getD_nil, Bool.not_true, Bool.not_false, decide_true, decide_false]
  refine CallH.by (markIntS_B d0 _ _ _ _ H6 Md0_6 L0_big (by omega)) ?_
  rintro _ H7 ⟨rfl, n_7, e7⟩
  have L7 := Nat.le_of_eq e7.1.symm
  have Ra0_7 := Ra0_6.keep e7 (by omega)
  have Mw0_7 := Mw0_6.keep e7 (by omega)
  have Rw0_7 := Mw0_7.row
  have Mg0_7 := Mg0_6.keep e7 (by omega)
  have Rg0_7 := Mg0_7.row
  simp (maxSteps := 4000000) (disch := omega) only [S, S1, S2, S3, S4, ST, eq_self, ne_eq, not_true_eq_false, not_false_eq_true, and_self, true_and, and_true, reduceIte, reduceCtorEq, Nat.reduceEqDiff, Nat.reduceAdd, Nat.zero_add, Nat.add_zero, Option.map_none, Option.map_some, List.map_cons, List.map_nil, List.append_nil, List.cons_append, List.nil_append, List.getElem?_cons_zero, List.getElem?_cons_succ, List.getD_cons_zero, List.getD_cons_succ, List.getD_nil, Bool.not_true, Bool.not_false, decide_true, decide_false]
  refine brD.intro (fun g => absurd g (by omega)) (fun gk => ?_)
  simp (maxSteps := 4000000) (disch := omega) only [gk, S, S1, S2, S3, S4, ST, eq_self, ne_eq, not_true_eq_false, not_false_eq_true, and_self, true_and, and_true, reduceIte, reduceCtorEq, Nat.reduceEqDiff, Nat.reduceAdd, Nat.zero_add, Nat.add_zero, Option.map_none, Option.map_some, List.map_cons, List.map_nil, List.append_nil, List.cons_append, List.nil_append, List.getElem?_cons_zero, List.getElem?_cons_succ, List.getD_cons_zero, List.getD_cons_succ, List.getD_nil, Bool.not_true, Bool.not_false, decide_true, decide_false]
  refine CallH.by (eqIntA2S_c g0 w0 _ _ H7 Rg0_7.1 Rw0_7.1 hR) ?_
  rintro _ H8 ⟨rfl, p8⟩
  have Ra0_8 := Ra0_7.pre p8
  have Rw0_8 := Rw0_7.pre p8
  have Rg0_8 := Rg0_7.pre p8
  have Mw0_8 := Mw0_7.pre p8
  have Mg0_8 := Mg0_7.pre p8
  have L8 := p8.length_le
  simp (maxSteps := 4000000) (disch := omega) only [S, S1, S2, S3, S4, ST, eq_self, ne_eq, not_true_eq_false, not_false_eq_true, and_self, true_and, and_true, reduceIte, reduceCtorEq, Nat.reduceEqDiff, Nat.reduceAdd, Nat.zero_add, Nat.add_zero, Option.map_none, Option.map_some, List.map_cons, List.map_nil, List.append_nil, List.cons_append, List.nil_append, List.getElem?_cons_zero, List.getElem?_cons_succ, List.getD_cons_zero, List.getD_cons_succ, List.getD_nil, Bool.not_true, Bool.not_false, decide_true, decide_false]
  try simp (maxSteps := 4000000) (disch := omega) only [gk, S, S1, S2, S3, S4, ST, eq_self, ne_eq, not_true_eq_false, not_false_eq_true, and_self, true_and, and_true, reduceIte, reduceCtorEq, Nat.reduceEqDiff, Nat.reduceAdd, Nat.zero_add, Nat.add_zero, Option.map_none, Option.map_some, List.map_cons, List.map_nil, List.append_nil, List.cons_append, List.nil_append, List.getElem?_cons_zero, List.getElem?_cons_succ, List.getD_cons_zero, List.getD_cons_succ, List.getD_nil, Bool.not_true, Bool.not_false, decide_true, decide_false]
  refine CallH.by (markIntA2S_B g0 _ _ _ _ H8 Mg0_8 hR (by omega)) ?_
  rintro _ H9 ⟨rfl, n_9, e9⟩
  have L9 := Nat.le_of_eq e9.1.symm
  have Ra0_9 := Ra0_8.keep e9 (by omega)
  have Mw0_9 := Mw0_8.keep e9 (by omega)
  have Rw0_9 := Mw0_9.row
  have Mg0_9 := n_9
  have Rg0_9 := n_9.row
  simp (maxSteps := 4000000) (disch := omega) only [S, S1, S2, S3, S4, ST, eq_self, ne_eq, not_true_eq_false, not_false_eq_true, and_self, true_and, and_true, reduceIte, reduceCtorEq, Nat.reduceEqDiff, Nat.reduceAdd, Nat.zero_add, Nat.add_zero, Option.map_none, Option.map_some, List.map_cons, List.map_nil, List.append_nil, List.cons_append, List.nil_append, List.getElem?_cons_zero, List.getElem?_cons_succ, List.getD_cons_zero, List.getD_cons_succ, List.getD_nil, Bool.not_true, Bool.not_false, decide_true, decide_false]
  refine CallH.by (heldIntA2S_c g0 _ 1 H9 Rg0_9.1 hR (by omega)) ?_
  rintro _ _ ⟨rfl, rfl⟩
  simp (maxSteps := 4000000) (disch := omega) only [runP_len, S, S1, S2, S3, S4, ST, eq_self, ne_eq, not_true_eq_false, not_false_eq_true, and_self, true_and, and_true, reduceIte, reduceCtorEq, Nat.reduceEqDiff, Nat.reduceAdd, Nat.zero_add, Nat.add_zero, Option.map_none, Option.map_some, List.map_cons, List.map_nil, List.append_nil, List.cons_append, List.nil_append, List.getElem?_cons_zero, List.getElem?_cons_succ, List.getD_cons_zero, List.getD_cons_succ, List.getD_nil, Bool.not_true, Bool.not_false, decide_true, decide_false]
  refine brD.intro (fun g => absurd g (by omega)) (fun _ => ?_)
  simp (maxSteps := 4000000) (disch := omega) only [S, S1, S2, S3, S4, ST, eq_self, ne_eq, not_true_eq_false, not_false_eq_true, and_self, true_and, and_true, reduceIte, reduceCtorEq, Nat.reduceEqDiff, Nat.reduceAdd, Nat.zero_add, Nat.add_zero, Option.map_none, Option.map_some, List.map_cons, List.map_nil, List.append_nil, List.cons_append, List.nil_append, List.getElem?_cons_zero, List.getElem?_cons_succ, List.getD_cons_zero, List.getD_cons_succ, List.getD_nil, Bool.not_true, Bool.not_false, decide_true, decide_false]
  refine CallH.by (toIntS_c v0 xs0 H9 Ra0_9.1 L0_big) ?_
  rintro e0 H10 ⟨qe0, p10⟩
  have Ra0_10 := Ra0_9.pre p10
  have Rw0_10 := Rw0_9.pre p10
  have Rg0_10 := Rg0_9.pre p10
  have Mw0_10 := Mw0_9.pre p10
  have Mg0_10 := Mg0_9.pre p10
  have L10 := p10.length_le
  have Me0_10 := InI.of qe0.mine
  have Re0_10 := Me0_10.row
  simp (maxSteps := 4000000) (disch := omega) only [S, S1, S2, S3, S4, ST, eq_self, ne_eq, not_true_eq_false, not_false_eq_true, and_self, true_and, and_true, reduceIte, reduceCtorEq, Nat.reduceEqDiff, Nat.reduceAdd, Nat.zero_add, Nat.add_zero, Option.map_none, Option.map_some, List.map_cons, List.map_nil, List.append_nil, List.cons_append, List.nil_append, List.getElem?_cons_zero, List.getElem?_cons_succ, List.getD_cons_zero, List.getD_cons_succ, List.getD_nil, Bool.not_true, Bool.not_false, decide_true, decide_false]
  refine CallH.by (SortI_c   e0 xs0 H10 Re0_10.1 L0_big b0) ?_
  rintro _ H11 ⟨h0, rfl, qh0, p11⟩
  have Ra0_11 := Ra0_10.pre p11
  have Rw0_11 := Rw0_10.pre p11
  have Rg0_11 := Rg0_10.pre p11
  have Re0_11 := Re0_10.pre p11
  have Mw0_11 := Mw0_10.pre p11
  have Mg0_11 := Mg0_10.pre p11
  have Me0_11 := Me0_10.pre p11
  have L11 := p11.length_le
  have Mh0_11 := InP.of qh0
  have Rh0_11 := Mh0_11.row
  simp (maxSteps := 4000000) (disch := omega) only [S, S1, S2, S3, S4, ST, eq_self, ne_eq, not_true_eq_false, not_false_eq_true, and_self, true_and, and_true, reduceIte, reduceCtorEq, Nat.reduceEqDiff, Nat.reduceAdd, Nat.zero_add, Nat.add_zero, Option.map_none, Option.map_some, List.map_cons, List.map_nil, List.append_nil, List.cons_append, List.nil_append, List.getElem?_cons_zero, List.getElem?_cons_succ, List.getD_cons_zero, List.getD_cons_succ, List.getD_nil, Bool.not_true, Bool.not_false, decide_true, decide_false]
  refine CallH.by (eqIntA2S_c h0 w0 _ _ H11 Rh0_11.1 Rw0_11.1 hR) ?_
  rintro _ H12 ⟨rfl, p12⟩
  have Ra0_12 := Ra0_11.pre p12
  have Rw0_12 := Rw0_11.pre p12
  have Rg0_12 := Rg0_11.pre p12
  have Re0_12 := Re0_11.pre p12
  have Rh0_12 := Rh0_11.pre p12
  have Mw0_12 := Mw0_11.pre p12
  have Mg0_12 := Mg0_11.pre p12
  have Me0_12 := Me0_11.pre p12
  have Mh0_12 := Mh0_11.pre p12
  have L12 := p12.length_le
  simp (maxSteps := 4000000) (disch := omega) only [S, S1, S2, S3, S4, ST, eq_self, ne_eq, not_true_eq_false, not_false_eq_true, and_self, true_and, and_true, reduceIte, reduceCtorEq, Nat.reduceEqDiff, Nat.reduceAdd, Nat.zero_add, Nat.add_zero, Option.map_none, Option.map_some, List.map_cons, List.map_nil, List.append_nil, List.cons_append, List.nil_append, List.getElem?_cons_zero, List.getElem?_cons_succ, List.getD_cons_zero, List.getD_cons_succ, List.getD_nil, Bool.not_true, Bool.not_false, decide_true, decide_false]
  refine CallH.by (heldIntA2S_c g0 _ 1 H12 Rg0_12.1 hR (by omega)) ?_
  rintro _ _ ⟨rfl, rfl⟩
  simp (maxSteps := 4000000) (disch := omega) only [runP_len, S, S1, S2, S3, S4, ST, eq_self, ne_eq, not_true_eq_false, not_false_eq_true, and_self, true_and, and_true, reduceIte, reduceCtorEq, Nat.reduceEqDiff, Nat.reduceAdd, Nat.zero_add, Nat.add_zero, Option.map_none, Option.map_some, List.map_cons, List.map_nil, List.append_nil, List.cons_append, List.nil_append, List.getElem?_cons_zero, List.getElem?_cons_succ, List.getD_cons_zero, List.getD_cons_succ, List.getD_nil, Bool.not_true, Bool.not_false, decide_true, decide_false]
  refine brD.intro (fun g => absurd g (by omega)) (fun _ => ?_)
  simp (maxSteps := 4000000) (disch := omega) only [S, S1, S2, S3, S4, ST, eq_self, ne_eq, not_true_eq_false, not_false_eq_true, and_self, true_and, and_true, reduceIte, reduceCtorEq, Nat.reduceEqDiff, Nat.reduceAdd, Nat.zero_add, Nat.add_zero, Option.map_none, Option.map_some, List.map_cons, List.map_nil, List.append_nil, List.cons_append, List.nil_append, List.getElem?_cons_zero, List.getElem?_cons_succ, List.getD_cons_zero, List.getD_cons_succ, List.getD_nil, Bool.not_true, Bool.not_false, decide_true, decide_false]
  refine hQ _ _ _ ?_
  simp (maxSteps := 4000000) (disch := omega) only [S, S1, S2, S3, S4, ST, eq_self, ne_eq, not_true_eq_false, not_false_eq_true, and_self, true_and, and_true, reduceIte, reduceCtorEq, Nat.reduceEqDiff, Nat.reduceAdd, Nat.zero_add, Nat.add_zero, Option.map_none, Option.map_some, List.map_cons, List.map_nil, List.append_nil, List.cons_append, List.nil_append, List.getElem?_cons_zero, List.getElem?_cons_succ, List.getD_cons_zero, List.getD_cons_succ, List.getD_nil, Bool.not_true, Bool.not_false, decide_true, decide_false]

end Go.Proofs.Ytnoihoeaconllaa.Ai
