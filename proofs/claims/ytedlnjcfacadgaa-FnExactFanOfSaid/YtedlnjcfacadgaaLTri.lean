/- FnExactIsTriangulation: the two, and the law. -/
import Derived.Test.YtedlnjcfacadgaaTri3
import Derived.Test.YtedlnjcfacadgaaCdLTri
namespace Go.Proofs.Ytedlnjcfacadgaa.Ai
open Go Go.RowKit
set_option linter.unusedVariables false
set_option linter.unusedSimpArgs false

theorem isTriS_c (n : Int) (v : Value) (xs : List Int) (H : AH) (hr : Row 3 H v xs) (hlen : xs.length ≤ 1099511627776) (hxs : ∀ y ∈ xs, I64 y) :
    ACalls Try.prog 28 [.int .i64 n, v] H fun r H' => r = .tuple (List.toArray [.bool (decide (3 ≤ n ∧ n ≤ 8) && triS n xs), .bool (decide (3 ≤ n ∧ n ≤ 8))]) ∧ H <+: H' := by
  refine in28 rfl ?_
  intro Q hQ
  simp (disch := omega) only [cd28, S, S1, S2, S3, ST, eq_self, ne_eq, not_true_eq_false, not_false_eq_true, and_self, true_and, and_true, reduceIte, reduceCtorEq, Nat.reduceEqDiff, Nat.reduceAdd, Nat.zero_add, Nat.add_zero, Option.map_none, Option.map_some, List.map_cons, List.map_nil, List.append_nil, List.cons_append, List.nil_append, List.getElem?_cons_zero, List.getElem?_cons_succ, List.getD_cons_zero, List.getD_cons_succ, List.getD_nil, Bool.not_true, Bool.not_false, decide_true, decide_false]
  refine CallH.by (l8Corners_c ..) ?_
  rintro _ _ ⟨rfl, rfl⟩
  simp (disch := omega) only [S, S1, S2, S3, ST, eq_self, ne_eq, not_true_eq_false, not_false_eq_true, and_self, true_and, and_true, reduceIte, reduceCtorEq, Nat.reduceEqDiff, Nat.reduceAdd, Nat.zero_add, Nat.add_zero, Option.map_none, Option.map_some, List.map_cons, List.map_nil, List.append_nil, List.cons_append, List.nil_append, List.getElem?_cons_zero, List.getElem?_cons_succ, List.getD_cons_zero, List.getD_cons_succ, List.getD_nil, Bool.not_true, Bool.not_false, decide_true, decide_false]
  refine brD.intro (fun h => ?_) (fun h => ?_) <;> simp (disch := omega) only [S, S1, S2, S3, ST, eq_self, ne_eq, not_true_eq_false, not_false_eq_true, and_self, true_and, and_true, reduceIte, reduceCtorEq, Nat.reduceEqDiff, Nat.reduceAdd, Nat.zero_add, Nat.add_zero, Option.map_none, Option.map_some, List.map_cons, List.map_nil, List.append_nil, List.cons_append, List.nil_append, List.getElem?_cons_zero, List.getElem?_cons_succ, List.getD_cons_zero, List.getD_cons_succ, List.getD_nil, Bool.not_true, Bool.not_false, decide_true, decide_false]
  · refine CallH.by (l8Triangulates_c n v xs H (by omega) hr hlen hxs) ?_
    rintro _ H1 ⟨rfl, hp⟩
    simp (disch := omega) only [S, S1, S2, S3, ST, eq_self, ne_eq, not_true_eq_false, not_false_eq_true, and_self, true_and, and_true, reduceIte, reduceCtorEq, Nat.reduceEqDiff, Nat.reduceAdd, Nat.zero_add, Nat.add_zero, Option.map_none, Option.map_some, List.map_cons, List.map_nil, List.append_nil, List.cons_append, List.nil_append, List.getElem?_cons_zero, List.getElem?_cons_succ, List.getD_cons_zero, List.getD_cons_succ, List.getD_nil, Bool.not_true, Bool.not_false, decide_true, decide_false]
    refine hQ _ _ _ ?_
    simp (disch := omega) only [h, Bool.true_and, S, S1, S2, S3, ST, eq_self, ne_eq, not_true_eq_false, not_false_eq_true, and_self, true_and, and_true, reduceIte, reduceCtorEq, Nat.reduceEqDiff, Nat.reduceAdd, Nat.zero_add, Nat.add_zero, Option.map_none, Option.map_some, List.map_cons, List.map_nil, List.append_nil, List.cons_append, List.nil_append, List.getElem?_cons_zero, List.getElem?_cons_succ, List.getD_cons_zero, List.getD_cons_succ, List.getD_nil, Bool.not_true, Bool.not_false, decide_true, decide_false]
    exact hp
  · refine hQ _ _ _ ?_
    simp (disch := omega) only [h, Bool.false_and, S, S1, S2, S3, ST, eq_self, ne_eq, not_true_eq_false, not_false_eq_true, and_self, true_and, and_true, reduceIte, reduceCtorEq, Nat.reduceEqDiff, Nat.reduceAdd, Nat.zero_add, Nat.add_zero, Option.map_none, Option.map_some, List.map_cons, List.map_nil, List.append_nil, List.cons_append, List.nil_append, List.getElem?_cons_zero, List.getElem?_cons_succ, List.getD_cons_zero, List.getD_cons_succ, List.getD_nil, Bool.not_true, Bool.not_false, decide_true, decide_false]
    exact List.prefix_refl _

theorem isTriI_c (n : Int) (v : Value) (xs : List Int) (H : AH) (hr : Row 3 H v xs) (hlen : xs.length ≤ 1099511627776) (hxs : ∀ y ∈ xs, I64 y) :
    ACalls Try.prog 29 [.int .i64 n, v] H fun r H' => r = .tuple (List.toArray [.bool (decide (3 ≤ n ∧ n ≤ 8) && triI n xs), .bool (decide (3 ≤ n ∧ n ≤ 8))]) ∧ H <+: H' := by
  refine in29 rfl ?_
  intro Q hQ
  simp (disch := omega) only [cd29, S, S1, S2, S3, ST, eq_self, ne_eq, not_true_eq_false, not_false_eq_true, and_self, true_and, and_true, reduceIte, reduceCtorEq, Nat.reduceEqDiff, Nat.reduceAdd, Nat.zero_add, Nat.add_zero, Option.map_none, Option.map_some, List.map_cons, List.map_nil, List.append_nil, List.cons_append, List.nil_append, List.getElem?_cons_zero, List.getElem?_cons_succ, List.getD_cons_zero, List.getD_cons_succ, List.getD_nil, Bool.not_true, Bool.not_false, decide_true, decide_false]
  refine CallH.by (isPolygon_c ..) ?_
  rintro _ _ ⟨rfl, rfl⟩
  simp (disch := omega) only [S, S1, S2, S3, ST, eq_self, ne_eq, not_true_eq_false, not_false_eq_true, and_self, true_and, and_true, reduceIte, reduceCtorEq, Nat.reduceEqDiff, Nat.reduceAdd, Nat.zero_add, Nat.add_zero, Option.map_none, Option.map_some, List.map_cons, List.map_nil, List.append_nil, List.cons_append, List.nil_append, List.getElem?_cons_zero, List.getElem?_cons_succ, List.getD_cons_zero, List.getD_cons_succ, List.getD_nil, Bool.not_true, Bool.not_false, decide_true, decide_false]
  refine brD.intro (fun h => ?_) (fun h => ?_) <;> simp (disch := omega) only [S, S1, S2, S3, ST, eq_self, ne_eq, not_true_eq_false, not_false_eq_true, and_self, true_and, and_true, reduceIte, reduceCtorEq, Nat.reduceEqDiff, Nat.reduceAdd, Nat.zero_add, Nat.add_zero, Option.map_none, Option.map_some, List.map_cons, List.map_nil, List.append_nil, List.cons_append, List.nil_append, List.getElem?_cons_zero, List.getElem?_cons_succ, List.getD_cons_zero, List.getD_cons_succ, List.getD_nil, Bool.not_true, Bool.not_false, decide_true, decide_false]
  · refine CallH.by (isTriangulation_c n v xs H (by omega) hr hlen hxs) ?_
    rintro _ H1 ⟨rfl, hp⟩
    simp (disch := omega) only [S, S1, S2, S3, ST, eq_self, ne_eq, not_true_eq_false, not_false_eq_true, and_self, true_and, and_true, reduceIte, reduceCtorEq, Nat.reduceEqDiff, Nat.reduceAdd, Nat.zero_add, Nat.add_zero, Option.map_none, Option.map_some, List.map_cons, List.map_nil, List.append_nil, List.cons_append, List.nil_append, List.getElem?_cons_zero, List.getElem?_cons_succ, List.getD_cons_zero, List.getD_cons_succ, List.getD_nil, Bool.not_true, Bool.not_false, decide_true, decide_false]
    refine hQ _ _ _ ?_
    simp (disch := omega) only [h, Bool.true_and, S, S1, S2, S3, ST, eq_self, ne_eq, not_true_eq_false, not_false_eq_true, and_self, true_and, and_true, reduceIte, reduceCtorEq, Nat.reduceEqDiff, Nat.reduceAdd, Nat.zero_add, Nat.add_zero, Option.map_none, Option.map_some, List.map_cons, List.map_nil, List.append_nil, List.cons_append, List.nil_append, List.getElem?_cons_zero, List.getElem?_cons_succ, List.getD_cons_zero, List.getD_cons_succ, List.getD_nil, Bool.not_true, Bool.not_false, decide_true, decide_false]
    exact hp
  · refine hQ _ _ _ ?_
    simp (disch := omega) only [h, Bool.false_and, S, S1, S2, S3, ST, eq_self, ne_eq, not_true_eq_false, not_false_eq_true, and_self, true_and, and_true, reduceIte, reduceCtorEq, Nat.reduceEqDiff, Nat.reduceAdd, Nat.zero_add, Nat.add_zero, Option.map_none, Option.map_some, List.map_cons, List.map_nil, List.append_nil, List.cons_append, List.nil_append, List.getElem?_cons_zero, List.getElem?_cons_succ, List.getD_cons_zero, List.getD_cons_succ, List.getD_nil, Bool.not_true, Bool.not_false, decide_true, decide_false]
    exact List.prefix_refl _

/- the plain law -/
theorem crs_symm (x y : Int) : Crs x y ↔ Crs y x := by unfold Crs; omega
theorem diag_mem : ∀ n : Fin 9, 3 ≤ n.val → ∀ d : Fin 100, (decide (Diag (n.val : Int) (d.val : Int)) = decide ((d.val : Int) ∈ dgs (n.val : Int) n.val)) := by decide
theorem dgs_range : ∀ n : Fin 9, ∀ d ∈ dgs (n.val : Int) n.val, 0 ≤ d ∧ d < 100 := by decide
theorem diag_range {n d : Int} (h : Diag n d) : 0 ≤ d ∧ d < 100 := by
  obtain ⟨h1, h2, h3, h4⟩ := h
  have := tmod_small d
  refine ⟨h1, ?_⟩
  have e := Int.mul_tdiv_add_tmod d 10
  omega
theorem diag_iff (n d : Int) (hn : 3 ≤ n ∧ n ≤ 8) : Diag n d ↔ d ∈ dgs n n.toNat := by
  obtain ⟨N, rfl⟩ : ∃ N : Nat, n = N := ⟨n.toNat, by omega⟩
  by_cases hd : 0 ≤ d ∧ d < 100
  · obtain ⟨D, rfl⟩ : ∃ D : Nat, d = D := ⟨d.toNat, by omega⟩
    have := diag_mem ⟨N, by omega⟩ (by show 3 ≤ N; omega) ⟨D, by omega⟩
    simpa using this
  · constructor
    · intro h; exact absurd (diag_range h) hd
    · intro h; exact absurd (dgs_range ⟨N, by omega⟩ d h) hd
theorem tri_same (n : Int) (xs : List Int) (hn : 3 ≤ n ∧ n ≤ 8) : triI n xs = triS n xs := by
  unfold triI triS
  rw [Bool.and_comm]
  congr 1
  congr 1
  funext i
  unfold triOk triOkS
  have e1 : decide (Diag n (xs.getD i 0)) = decide (xs.getD i 0 ∈ dgs n n.toNat) := by simp only [diag_iff n _ hn]
  have e2 : (fun e => decide (Crs (xs.getD i 0) e)) = fun y => decide (Crs y (xs.getD i 0)) := by funext e; simp only [crs_symm]
  rw [e1, e2]

theorem triLaw_c (n : Int) (v : Value) (xs : List Int) (H : AH) (hr : Row 3 H v xs) (hxs : ∀ y ∈ xs, I64 y) :
    ACalls Try.prog 8 [.int .i64 n, v] H fun r H' => r = .bool true := by
  have same : (decide (3 ≤ n ∧ n ≤ 8) && triI n xs) = (decide (3 ≤ n ∧ n ≤ 8) && triS n xs) := by
    by_cases h : 3 ≤ n ∧ n ≤ 8
    · rw [tri_same n xs h]
    · simp [h]
  refine in8 rfl ?_
  intro Q hQ
  simp (disch := omega) only [cd8, hr.len Try.underlying25, S, S1, S2, S3, ST, eq_self, ne_eq, not_true_eq_false, not_false_eq_true, and_self, true_and, and_true, reduceIte, reduceCtorEq, Nat.reduceEqDiff, Nat.reduceAdd, Nat.zero_add, Nat.add_zero, Option.map_none, Option.map_some, List.map_cons, List.map_nil, List.append_nil, List.cons_append, List.nil_append, List.getElem?_cons_zero, List.getElem?_cons_succ, List.getD_cons_zero, List.getD_cons_succ, List.getD_nil, Bool.not_true, Bool.not_false, decide_true, decide_false]
  refine brD.intro (fun h => ?_) (fun h => ?_) <;> simp (disch := omega) only [S, S1, S2, S3, ST, eq_self, ne_eq, not_true_eq_false, not_false_eq_true, and_self, true_and, and_true, reduceIte, reduceCtorEq, Nat.reduceEqDiff, Nat.reduceAdd, Nat.zero_add, Nat.add_zero, Option.map_none, Option.map_some, List.map_cons, List.map_nil, List.append_nil, List.cons_append, List.nil_append, List.getElem?_cons_zero, List.getElem?_cons_succ, List.getD_cons_zero, List.getD_cons_succ, List.getD_nil, Bool.not_true, Bool.not_false, decide_true, decide_false]
  · refine hQ _ _ _ ?_
    simp (disch := omega) only [S, S1, S2, S3, ST, eq_self, ne_eq, not_true_eq_false, not_false_eq_true, and_self, true_and, and_true, reduceIte, reduceCtorEq, Nat.reduceEqDiff, Nat.reduceAdd, Nat.zero_add, Nat.add_zero, Option.map_none, Option.map_some, List.map_cons, List.map_nil, List.append_nil, List.cons_append, List.nil_append, List.getElem?_cons_zero, List.getElem?_cons_succ, List.getD_cons_zero, List.getD_cons_succ, List.getD_nil, Bool.not_true, Bool.not_false, decide_true, decide_false]
  · have hlen : xs.length ≤ 1099511627776 := by omega
    refine CallH.by (toIntS_c v xs H hr hlen) ?_
    rintro c1 H1 ⟨hc1, hp1⟩
    simp (disch := omega) only [S, S1, S2, S3, ST, eq_self, ne_eq, not_true_eq_false, not_false_eq_true, and_self, true_and, and_true, reduceIte, reduceCtorEq, Nat.reduceEqDiff, Nat.reduceAdd, Nat.zero_add, Nat.add_zero, Option.map_none, Option.map_some, List.map_cons, List.map_nil, List.append_nil, List.cons_append, List.nil_append, List.getElem?_cons_zero, List.getElem?_cons_succ, List.getD_cons_zero, List.getD_cons_succ, List.getD_nil, Bool.not_true, Bool.not_false, decide_true, decide_false]
    refine CallH.by (isTriS_c n c1 xs H1 hc1.row hlen hxs) ?_
    rintro _ H2 ⟨rfl, hp2⟩
    simp (disch := omega) only [S, S1, S2, S3, ST, eq_self, ne_eq, not_true_eq_false, not_false_eq_true, and_self, true_and, and_true, reduceIte, reduceCtorEq, Nat.reduceEqDiff, Nat.reduceAdd, Nat.zero_add, Nat.add_zero, Option.map_none, Option.map_some, List.map_cons, List.map_nil, List.append_nil, List.cons_append, List.nil_append, List.getElem?_cons_zero, List.getElem?_cons_succ, List.getD_cons_zero, List.getD_cons_succ, List.getD_nil, Bool.not_true, Bool.not_false, decide_true, decide_false]
    have hr2 := hr.pre (hp1.trans hp2)
    refine CallH.by (toIntS_c v xs H2 hr2 hlen) ?_
    rintro c2 H3 ⟨hc2, hp3⟩
    simp (disch := omega) only [S, S1, S2, S3, ST, eq_self, ne_eq, not_true_eq_false, not_false_eq_true, and_self, true_and, and_true, reduceIte, reduceCtorEq, Nat.reduceEqDiff, Nat.reduceAdd, Nat.zero_add, Nat.add_zero, Option.map_none, Option.map_some, List.map_cons, List.map_nil, List.append_nil, List.cons_append, List.nil_append, List.getElem?_cons_zero, List.getElem?_cons_succ, List.getD_cons_zero, List.getD_cons_succ, List.getD_nil, Bool.not_true, Bool.not_false, decide_true, decide_false]
    refine CallH.by (isTriI_c n c2 xs H3 hc2.row hlen hxs) ?_
    rintro _ H4 ⟨rfl, hp4⟩
    simp (disch := omega) only [same, S, S1, S2, S3, ST, eq_self, ne_eq, not_true_eq_false, not_false_eq_true, and_self, true_and, and_true, reduceIte, reduceCtorEq, Nat.reduceEqDiff, Nat.reduceAdd, Nat.zero_add, Nat.add_zero, Option.map_none, Option.map_some, List.map_cons, List.map_nil, List.append_nil, List.cons_append, List.nil_append, List.getElem?_cons_zero, List.getElem?_cons_succ, List.getD_cons_zero, List.getD_cons_succ, List.getD_nil, Bool.not_true, Bool.not_false, decide_true, decide_false]
    have hr4 := hr2.pre (hp3.trans hp4)
    refine CallH.by (toIntS_c v xs H4 hr4 hlen) ?_
    rintro c3 H5 ⟨hc3, hp5⟩
    simp (disch := omega) only [S, S1, S2, S3, ST, eq_self, ne_eq, not_true_eq_false, not_false_eq_true, and_self, true_and, and_true, reduceIte, reduceCtorEq, Nat.reduceEqDiff, Nat.reduceAdd, Nat.zero_add, Nat.add_zero, Option.map_none, Option.map_some, List.map_cons, List.map_nil, List.append_nil, List.cons_append, List.nil_append, List.getElem?_cons_zero, List.getElem?_cons_succ, List.getD_cons_zero, List.getD_cons_succ, List.getD_nil, Bool.not_true, Bool.not_false, decide_true, decide_false]
    refine CallH.by (eqIntS_c c2 c3 xs xs H5 (hc2.row.pre (hp4.trans hp5)) hc3.row hlen) ?_
    rintro _ _ ⟨rfl, rfl⟩
    simp (disch := omega) only [S, S1, S2, S3, ST, eq_self, ne_eq, not_true_eq_false, not_false_eq_true, and_self, true_and, and_true, reduceIte, reduceCtorEq, Nat.reduceEqDiff, Nat.reduceAdd, Nat.zero_add, Nat.add_zero, Option.map_none, Option.map_some, List.map_cons, List.map_nil, List.append_nil, List.cons_append, List.nil_append, List.getElem?_cons_zero, List.getElem?_cons_succ, List.getD_cons_zero, List.getD_cons_succ, List.getD_nil, Bool.not_true, Bool.not_false, decide_true, decide_false]
    refine hQ _ _ _ ?_
    simp (disch := omega) only [S, S1, S2, S3, ST, eq_self, ne_eq, not_true_eq_false, not_false_eq_true, and_self, true_and, and_true, reduceIte, reduceCtorEq, Nat.reduceEqDiff, Nat.reduceAdd, Nat.zero_add, Nat.add_zero, Option.map_none, Option.map_some, List.map_cons, List.map_nil, List.append_nil, List.cons_append, List.nil_append, List.getElem?_cons_zero, List.getElem?_cons_succ, List.getD_cons_zero, List.getD_cons_succ, List.getD_nil, Bool.not_true, Bool.not_false, decide_true, decide_false]
end Go.Proofs.Ytedlnjcfacadgaa.Ai
