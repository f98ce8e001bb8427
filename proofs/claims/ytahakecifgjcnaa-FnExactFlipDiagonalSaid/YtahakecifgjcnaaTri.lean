/- Triangulations: the helpers, both sides. -/
import Derived.Test.YtahakecifgjcnaaCorn
import Derived.Test.YtahakecifgjcnaaHas
import Derived.Test.YtahakecifgjcnaaCdTri
import Derived.Test.YtahakecifgjcnaaIdxP
namespace Go.Proofs.Ytahakecifgjcnaa.Ai
open Go Go.RowKit
set_option linter.unusedVariables false
set_option linter.unusedSimpArgs false

theorem I64.tdiv {x : Int} (h : I64 x) : IntKind.i64.wrap (x.tdiv 10) = x.tdiv 10 := by
  obtain ⟨h1, h2⟩ := h
  have hle : (x.tdiv 10).natAbs ≤ x.natAbs := by rw [Int.natAbs_tdiv]; exact Nat.div_le_self _ _
  by_cases h0 : 0 ≤ x
  · have := Int.tdiv_nonneg h0 (by decide : (0 : Int) ≤ 10)
    exact wrap64 (by omega) (by omega)
  · rw [IntKind.wrap_i64]
    have : (x.tdiv 10).natAbs ≤ 922337203685477580 := by
      rw [Int.natAbs_tdiv]
      show x.natAbs / 10 ≤ _
      omega
    omega

/-- two diagonals cross -/
def Crs (x y : Int) : Prop := x.tdiv 10 < y.tdiv 10 ∧ y.tdiv 10 < x.tmod 10 ∧ x.tmod 10 < y.tmod 10 ∨ y.tdiv 10 < x.tdiv 10 ∧ x.tdiv 10 < y.tmod 10 ∧ y.tmod 10 < x.tmod 10
instance (x y : Int) : Decidable (Crs x y) := inferInstanceAs (Decidable (_ ∨ _))

set_option maxHeartbeats 2000000 in
theorem l8Cross_c (x y : Int) (H : AH) (hx : I64 x) (hy : I64 y) : ACalls Try.prog 118 [.int .i64 x, .int .i64 y] H fun r H' => r = .bool (decide (Crs x y)) ∧ H = H' := by
  refine in118 rfl ?_
  intro Q hQ
  simp (maxSteps := 1000000) (disch := omega) only [cd118, hx.tdiv, hy.tdiv, S, S1, S2, S3, S4, ST, eq_self, ne_eq, not_true_eq_false, not_false_eq_true, and_self, true_and, and_true, reduceIte, reduceCtorEq, Nat.reduceEqDiff, Nat.reduceAdd, Nat.zero_add, Nat.add_zero, Option.map_none, Option.map_some, List.map_cons, List.map_nil, List.append_nil, List.cons_append, List.nil_append, List.getElem?_cons_zero, List.getElem?_cons_succ, List.getD_cons_zero, List.getD_cons_succ, List.getD_nil, Bool.not_true, Bool.not_false, decide_true, decide_false]
  repeat' (first | (refine brD.intro (fun h => ?_) (fun h => ?_) <;> simp (maxSteps := 1000000) (disch := omega) only [h, S, S1, S2, S3, S4, ST, eq_self, ne_eq, not_true_eq_false, not_false_eq_true, and_self, true_and, and_true, reduceIte, reduceCtorEq, Nat.reduceEqDiff, Nat.reduceAdd, Nat.zero_add, Nat.add_zero, Option.map_none, Option.map_some, List.map_cons, List.map_nil, List.append_nil, List.cons_append, List.nil_append, List.getElem?_cons_zero, List.getElem?_cons_succ, List.getD_cons_zero, List.getD_cons_succ, List.getD_nil, Bool.not_true, Bool.not_false, decide_true, decide_false]) | (refine hQ _ _ _ ?_; simp (maxSteps := 1000000) (disch := omega) only [S, S1, S2, S3, S4, ST, eq_self, ne_eq, not_true_eq_false, not_false_eq_true, and_self, true_and, and_true, reduceIte, reduceCtorEq, Nat.reduceEqDiff, Nat.reduceAdd, Nat.zero_add, Nat.add_zero, Option.map_none, Option.map_some, List.map_cons, List.map_nil, List.append_nil, List.cons_append, List.nil_append, List.getElem?_cons_zero, List.getElem?_cons_succ, List.getD_cons_zero, List.getD_cons_succ, List.getD_nil, Bool.not_true, Bool.not_false, decide_true, decide_false]))
  all_goals (by_cases hC : Crs x y <;> simp [hC] <;> unfold Crs at hC <;> omega)

set_option maxHeartbeats 2000000 in
theorem cross_c (x y : Int) (H : AH) (hx : I64 x) (hy : I64 y) : ACalls Try.prog 127 [.int .i64 x, .int .i64 y] H fun r H' => r = .bool (decide (Crs x y)) ∧ H = H' := by
  refine in127 rfl ?_
  intro Q hQ
  simp (maxSteps := 1000000) (disch := omega) only [cd127, hx.tdiv, hy.tdiv, S, S1, S2, S3, S4, ST, eq_self, ne_eq, not_true_eq_false, not_false_eq_true, and_self, true_and, and_true, reduceIte, reduceCtorEq, Nat.reduceEqDiff, Nat.reduceAdd, Nat.zero_add, Nat.add_zero, Option.map_none, Option.map_some, List.map_cons, List.map_nil, List.append_nil, List.cons_append, List.nil_append, List.getElem?_cons_zero, List.getElem?_cons_succ, List.getD_cons_zero, List.getD_cons_succ, List.getD_nil, Bool.not_true, Bool.not_false, decide_true, decide_false]
  repeat' (first | (refine brD.intro (fun h => ?_) (fun h => ?_) <;> simp (maxSteps := 1000000) (disch := omega) only [h, S, S1, S2, S3, S4, ST, eq_self, ne_eq, not_true_eq_false, not_false_eq_true, and_self, true_and, and_true, reduceIte, reduceCtorEq, Nat.reduceEqDiff, Nat.reduceAdd, Nat.zero_add, Nat.add_zero, Option.map_none, Option.map_some, List.map_cons, List.map_nil, List.append_nil, List.cons_append, List.nil_append, List.getElem?_cons_zero, List.getElem?_cons_succ, List.getD_cons_zero, List.getD_cons_succ, List.getD_nil, Bool.not_true, Bool.not_false, decide_true, decide_false]) | (refine hQ _ _ _ ?_; simp (maxSteps := 1000000) (disch := omega) only [S, S1, S2, S3, S4, ST, eq_self, ne_eq, not_true_eq_false, not_false_eq_true, and_self, true_and, and_true, reduceIte, reduceCtorEq, Nat.reduceEqDiff, Nat.reduceAdd, Nat.zero_add, Nat.add_zero, Option.map_none, Option.map_some, List.map_cons, List.map_nil, List.append_nil, List.cons_append, List.nil_append, List.getElem?_cons_zero, List.getElem?_cons_succ, List.getD_cons_zero, List.getD_cons_succ, List.getD_nil, Bool.not_true, Bool.not_false, decide_true, decide_false]))
  all_goals (by_cases hC : Crs x y <;> simp [hC] <;> unfold Crs at hC <;> omega)


theorem IndexFunc_c (v : Value) (xs : List Int) (p : Int → Bool) (g : FuncId) (caps : List Value) (H : AH) (hr : Row 3 H v xs) (hlen : xs.length ≤ 1099511627776)
    (hp : ∀ x ∈ xs, ACalls Try.prog g (.int .i64 x :: caps) H fun r H' => r = .bool (p x) ∧ H = H') :
    ACalls Try.prog 162 [v, .func (.func g) #[] (List.toArray caps)] H fun r H' => r = .int .i64 (idxP p xs 0) ∧ H = H' := by
  refine in162 rfl ?_
  intro Q hQ
  simp (maxSteps := 1000000) (disch := omega) only [cd162, hr.len Try.underlying22, S, S1, S2, S3, S4, ST, eq_self, ne_eq, not_true_eq_false, not_false_eq_true, and_self, true_and, and_true, reduceIte, reduceCtorEq, Nat.reduceEqDiff, Nat.reduceAdd, Nat.zero_add, Nat.add_zero, Option.map_none, Option.map_some, List.map_cons, List.map_nil, List.append_nil, List.cons_append, List.nil_append, List.getElem?_cons_zero, List.getElem?_cons_succ, List.getD_cons_zero, List.getD_cons_succ, List.getD_nil, Bool.not_true, Bool.not_false, decide_true, decide_false]
  refine LoopH.by (fun m s H' => ∃ i, m + i = xs.length ∧ s 0 = v ∧ s 1 = .func (.func g) #[] (List.toArray caps) ∧ s 8 = .int .i64 ((i : Nat) : Int) ∧ s 7 = .int .i64 (xs.length : Int) ∧ H = H' ∧ idxP p xs 0 = idxP p (xs.drop i) i) xs.length ?_ ?_
  · exact ⟨0, by simp, rfl, rfl, rfl, rfl, rfl, by simp⟩
  · rintro m s H' ⟨i, hm, h0, h1, h8, h7, rfl, hn⟩
    simp (maxSteps := 1000000) (disch := omega) only [h0, h1, h8, h7, S, S1, S2, S3, S4, ST, eq_self, ne_eq, not_true_eq_false, not_false_eq_true, and_self, true_and, and_true, reduceIte, reduceCtorEq, Nat.reduceEqDiff, Nat.reduceAdd, Nat.zero_add, Nat.add_zero, Option.map_none, Option.map_some, List.map_cons, List.map_nil, List.append_nil, List.cons_append, List.nil_append, List.getElem?_cons_zero, List.getElem?_cons_succ, List.getD_cons_zero, List.getD_cons_succ, List.getD_nil, Bool.not_true, Bool.not_false, decide_true, decide_false]
    refine brD.intro (fun g => ?_) (fun g => ?_) <;> simp (maxSteps := 1000000) (disch := omega) only [h0, h1, h8, h7, hr.ix Try.underlying22 cs3, hr.cell, Int.toNat_natCast, S, S1, S2, S3, S4, ST, eq_self, ne_eq, not_true_eq_false, not_false_eq_true, and_self, true_and, and_true, reduceIte, reduceCtorEq, Nat.reduceEqDiff, Nat.reduceAdd, Nat.zero_add, Nat.add_zero, Option.map_none, Option.map_some, List.map_cons, List.map_nil, List.append_nil, List.cons_append, List.nil_append, List.getElem?_cons_zero, List.getElem?_cons_succ, List.getD_cons_zero, List.getD_cons_succ, List.getD_nil, Bool.not_true, Bool.not_false, decide_true, decide_false]
    · have hi : i < xs.length := by omega
      have hg : xs.getD i 0 = xs[i] := by simp [hi]
      rw [idxP_step p xs i hi] at hn
      refine CallH.by (hp (xs.getD i 0) (by rw [hg]; exact List.getElem_mem hi)) ?_
      rintro _ _ ⟨rfl, rfl⟩
      simp (maxSteps := 1000000) (disch := omega) only [S, S1, S2, S3, S4, ST, eq_self, ne_eq, not_true_eq_false, not_false_eq_true, and_self, true_and, and_true, reduceIte, reduceCtorEq, Nat.reduceEqDiff, Nat.reduceAdd, Nat.zero_add, Nat.add_zero, Option.map_none, Option.map_some, List.map_cons, List.map_nil, List.append_nil, List.cons_append, List.nil_append, List.getElem?_cons_zero, List.getElem?_cons_succ, List.getD_cons_zero, List.getD_cons_succ, List.getD_nil, Bool.not_true, Bool.not_false, decide_true, decide_false]
      refine brH.intro (fun e => ?_) (fun e => ?_) <;> simp (maxSteps := 1000000) (disch := omega) only [h0, h1, h8, h7, wrap64, S, S1, S2, S3, S4, ST, eq_self, ne_eq, not_true_eq_false, not_false_eq_true, and_self, true_and, and_true, reduceIte, reduceCtorEq, Nat.reduceEqDiff, Nat.reduceAdd, Nat.zero_add, Nat.add_zero, Option.map_none, Option.map_some, List.map_cons, List.map_nil, List.append_nil, List.cons_append, List.nil_append, List.getElem?_cons_zero, List.getElem?_cons_succ, List.getD_cons_zero, List.getD_cons_succ, List.getD_nil, Bool.not_true, Bool.not_false, decide_true, decide_false]
      · refine hQ _ _ _ ?_
        simp (maxSteps := 1000000) (disch := omega) only [S, S1, S2, S3, S4, ST, eq_self, ne_eq, not_true_eq_false, not_false_eq_true, and_self, true_and, and_true, reduceIte, reduceCtorEq, Nat.reduceEqDiff, Nat.reduceAdd, Nat.zero_add, Nat.add_zero, Option.map_none, Option.map_some, List.map_cons, List.map_nil, List.append_nil, List.cons_append, List.nil_append, List.getElem?_cons_zero, List.getElem?_cons_succ, List.getD_cons_zero, List.getD_cons_succ, List.getD_nil, Bool.not_true, Bool.not_false, decide_true, decide_false]
        rw [hn, if_pos e]
      · rw [if_neg (by rw [e]; decide)] at hn
        exact ⟨m - 1, by omega, i + 1, by omega, by simp, hn⟩
    · refine hQ _ _ _ ?_
      simp (maxSteps := 1000000) (disch := omega) only [S, S1, S2, S3, S4, ST, eq_self, ne_eq, not_true_eq_false, not_false_eq_true, and_self, true_and, and_true, reduceIte, reduceCtorEq, Nat.reduceEqDiff, Nat.reduceAdd, Nat.zero_add, Nat.add_zero, Option.map_none, Option.map_some, List.map_cons, List.map_nil, List.append_nil, List.cons_append, List.nil_append, List.getElem?_cons_zero, List.getElem?_cons_succ, List.getD_cons_zero, List.getD_cons_succ, List.getD_nil, Bool.not_true, Bool.not_false, decide_true, decide_false]
      rw [hn, List.drop_of_length_le (by omega)]; rfl

theorem ContainsFunc_c (v : Value) (xs : List Int) (p : Int → Bool) (g : FuncId) (caps : List Value) (H : AH) (hr : Row 3 H v xs) (hlen : xs.length ≤ 1099511627776)
    (hp : ∀ x ∈ xs, ACalls Try.prog g (.int .i64 x :: caps) H fun r H' => r = .bool (p x) ∧ H = H') :
    ACalls Try.prog 125 [v, .func (.func g) #[] (List.toArray caps)] H fun r H' => r = .bool (xs.any p) ∧ H = H' := by
  refine in125 rfl ?_
  intro Q hQ
  simp (maxSteps := 1000000) (disch := omega) only [cd125, S, S1, S2, S3, S4, ST, eq_self, ne_eq, not_true_eq_false, not_false_eq_true, and_self, true_and, and_true, reduceIte, reduceCtorEq, Nat.reduceEqDiff, Nat.reduceAdd, Nat.zero_add, Nat.add_zero, Option.map_none, Option.map_some, List.map_cons, List.map_nil, List.append_nil, List.cons_append, List.nil_append, List.getElem?_cons_zero, List.getElem?_cons_succ, List.getD_cons_zero, List.getD_cons_succ, List.getD_nil, Bool.not_true, Bool.not_false, decide_true, decide_false]
  refine CallH.by (IndexFunc_c v xs p g caps H hr hlen hp) ?_
  rintro _ _ ⟨rfl, rfl⟩
  simp (maxSteps := 1000000) (disch := omega) only [S, S1, S2, S3, S4, ST, eq_self, ne_eq, not_true_eq_false, not_false_eq_true, and_self, true_and, and_true, reduceIte, reduceCtorEq, Nat.reduceEqDiff, Nat.reduceAdd, Nat.zero_add, Nat.add_zero, Option.map_none, Option.map_some, List.map_cons, List.map_nil, List.append_nil, List.cons_append, List.nil_append, List.getElem?_cons_zero, List.getElem?_cons_succ, List.getD_cons_zero, List.getD_cons_succ, List.getD_nil, Bool.not_true, Bool.not_false, decide_true, decide_false]
  refine hQ _ _ _ ?_
  simp (maxSteps := 1000000) (disch := omega) only [S, S1, S2, S3, S4, ST, eq_self, ne_eq, not_true_eq_false, not_false_eq_true, and_self, true_and, and_true, reduceIte, reduceCtorEq, Nat.reduceEqDiff, Nat.reduceAdd, Nat.zero_add, Nat.add_zero, Option.map_none, Option.map_some, List.map_cons, List.map_nil, List.append_nil, List.cons_append, List.nil_append, List.getElem?_cons_zero, List.getElem?_cons_succ, List.getD_cons_zero, List.getD_cons_succ, List.getD_nil, Bool.not_true, Bool.not_false, decide_true, decide_false]
  have := idxP_any p xs 0
  by_cases h : 0 ≤ idxP p xs 0
  · simp [h, this.1 h]
  · have h2 : xs.any p = false := by cases e : xs.any p <;> first | rfl | exact absurd (this.2 e) h
    simp [h, h2]

theorem l8Apart_c (v : Value) (xs : List Int) (x : Int) (H : AH) (hr : Row 3 H v xs) (hlen : xs.length ≤ 1099511627776) (hxs : ∀ y ∈ xs, I64 y) (hx : I64 x) :
    ACalls Try.prog 69 [v, .int .i64 x] H fun r H' => r = .bool (!xs.any fun y => decide (Crs y x)) ∧ H = H' := by
  refine in69 rfl ?_
  intro Q hQ
  simp (maxSteps := 1000000) (disch := omega) only [cd69, S, S1, S2, S3, S4, ST, eq_self, ne_eq, not_true_eq_false, not_false_eq_true, and_self, true_and, and_true, reduceIte, reduceCtorEq, Nat.reduceEqDiff, Nat.reduceAdd, Nat.zero_add, Nat.add_zero, Option.map_none, Option.map_some, List.map_cons, List.map_nil, List.append_nil, List.cons_append, List.nil_append, List.getElem?_cons_zero, List.getElem?_cons_succ, List.getD_cons_zero, List.getD_cons_succ, List.getD_nil, Bool.not_true, Bool.not_false, decide_true, decide_false]
  refine LoopH.by (fun m s H' => ∃ i, m + i = xs.length ∧ s 0 = v ∧ s 1 = .int .i64 x ∧ s 5 = .int .i64 ((i : Nat) : Int) ∧ H = H' ∧ (xs.any fun y => decide (Crs y x)) = ((xs.drop i).any fun y => decide (Crs y x))) xs.length ?_ ?_
  · exact ⟨0, by simp, rfl, rfl, rfl, rfl, by simp⟩
  · rintro m s H' ⟨i, hm, h0, h1, h5, rfl, hn⟩
    simp (maxSteps := 1000000) (disch := omega) only [h0, h1, h5, hr.len Try.underlying22, S, S1, S2, S3, S4, ST, eq_self, ne_eq, not_true_eq_false, not_false_eq_true, and_self, true_and, and_true, reduceIte, reduceCtorEq, Nat.reduceEqDiff, Nat.reduceAdd, Nat.zero_add, Nat.add_zero, Option.map_none, Option.map_some, List.map_cons, List.map_nil, List.append_nil, List.cons_append, List.nil_append, List.getElem?_cons_zero, List.getElem?_cons_succ, List.getD_cons_zero, List.getD_cons_succ, List.getD_nil, Bool.not_true, Bool.not_false, decide_true, decide_false]
    refine brD.intro (fun g => ?_) (fun g => ?_) <;> simp (maxSteps := 1000000) (disch := omega) only [h0, h1, h5, hr.ix Try.underlying22 cs3, hr.cell, Int.toNat_natCast, S, S1, S2, S3, S4, ST, eq_self, ne_eq, not_true_eq_false, not_false_eq_true, and_self, true_and, and_true, reduceIte, reduceCtorEq, Nat.reduceEqDiff, Nat.reduceAdd, Nat.zero_add, Nat.add_zero, Option.map_none, Option.map_some, List.map_cons, List.map_nil, List.append_nil, List.cons_append, List.nil_append, List.getElem?_cons_zero, List.getElem?_cons_succ, List.getD_cons_zero, List.getD_cons_succ, List.getD_nil, Bool.not_true, Bool.not_false, decide_true, decide_false]
    · have hi : i < xs.length := by omega
      have hg : xs.getD i 0 = xs[i] := by simp [hi]
      rw [List.drop_eq_getElem_cons hi, List.any_cons, ← hg] at hn
      refine CallH.by (l8Cross_c _ _ _ (by rw [hg]; exact hxs _ (List.getElem_mem hi)) hx) ?_
      rintro _ _ ⟨rfl, rfl⟩
      simp (maxSteps := 1000000) (disch := omega) only [S, S1, S2, S3, S4, ST, eq_self, ne_eq, not_true_eq_false, not_false_eq_true, and_self, true_and, and_true, reduceIte, reduceCtorEq, Nat.reduceEqDiff, Nat.reduceAdd, Nat.zero_add, Nat.add_zero, Option.map_none, Option.map_some, List.map_cons, List.map_nil, List.append_nil, List.cons_append, List.nil_append, List.getElem?_cons_zero, List.getElem?_cons_succ, List.getD_cons_zero, List.getD_cons_succ, List.getD_nil, Bool.not_true, Bool.not_false, decide_true, decide_false]
      refine brD.intro (fun e => ?_) (fun e => ?_) <;> simp (maxSteps := 1000000) (disch := omega) only [h0, h1, h5, wrap64, S, S1, S2, S3, S4, ST, eq_self, ne_eq, not_true_eq_false, not_false_eq_true, and_self, true_and, and_true, reduceIte, reduceCtorEq, Nat.reduceEqDiff, Nat.reduceAdd, Nat.zero_add, Nat.add_zero, Option.map_none, Option.map_some, List.map_cons, List.map_nil, List.append_nil, List.cons_append, List.nil_append, List.getElem?_cons_zero, List.getElem?_cons_succ, List.getD_cons_zero, List.getD_cons_succ, List.getD_nil, Bool.not_true, Bool.not_false, decide_true, decide_false]
      · refine hQ _ _ _ ?_
        simp (maxSteps := 1000000) (disch := omega) only [S, S1, S2, S3, S4, ST, eq_self, ne_eq, not_true_eq_false, not_false_eq_true, and_self, true_and, and_true, reduceIte, reduceCtorEq, Nat.reduceEqDiff, Nat.reduceAdd, Nat.zero_add, Nat.add_zero, Option.map_none, Option.map_some, List.map_cons, List.map_nil, List.append_nil, List.cons_append, List.nil_append, List.getElem?_cons_zero, List.getElem?_cons_succ, List.getD_cons_zero, List.getD_cons_succ, List.getD_nil, Bool.not_true, Bool.not_false, decide_true, decide_false]
        rw [hn, decide_eq_true e, Bool.true_or]; rfl
      · refine ⟨m - 1, by omega, i + 1, by omega, by simp, ?_⟩
        rw [hn, decide_eq_false e, Bool.false_or]
    · refine hQ _ _ _ ?_
      simp (maxSteps := 1000000) (disch := omega) only [S, S1, S2, S3, S4, ST, eq_self, ne_eq, not_true_eq_false, not_false_eq_true, and_self, true_and, and_true, reduceIte, reduceCtorEq, Nat.reduceEqDiff, Nat.reduceAdd, Nat.zero_add, Nat.add_zero, Option.map_none, Option.map_some, List.map_cons, List.map_nil, List.append_nil, List.cons_append, List.nil_append, List.getElem?_cons_zero, List.getElem?_cons_succ, List.getD_cons_zero, List.getD_cons_succ, List.getD_nil, Bool.not_true, Bool.not_false, decide_true, decide_false]
      rw [hn, List.drop_of_length_le (by omega)]; rfl

/-- a diagonal of a polygon -/
def Diag (n d : Int) : Prop := 0 ≤ d ∧ d.tmod 10 < n ∧ 1 < d.tmod 10 - d.tdiv 10 ∧ ¬ (d.tdiv 10 = 0 ∧ d.tmod 10 = n - 1)
instance (n d : Int) : Decidable (Diag n d) := inferInstanceAs (Decidable (_ ∧ _))

theorem tmod_small (d : Int) : -10 < d.tmod 10 ∧ d.tmod 10 < 10 := by
  have h1 := Int.tmod_lt_of_pos d (by decide : (0 : Int) < 10)
  have h2 : -10 < d.tmod 10 := by
    have := Int.lt_tmod_of_pos d (by decide : (0 : Int) < 10)
    omega
  exact ⟨h2, h1⟩

theorem I64.tdiv_small {x : Int} (h : I64 x) : -922337203685477580 ≤ x.tdiv 10 ∧ x.tdiv 10 ≤ 922337203685477580 := by
  obtain ⟨h1, h2⟩ := h
  have : (x.tdiv 10).natAbs ≤ 922337203685477580 := by
    rw [Int.natAbs_tdiv]
    show x.natAbs / 10 ≤ _
    omega
  omega

set_option maxHeartbeats 2000000 in
theorem isDiagonal_c (n d : Int) (H : AH) (hn : 0 ≤ n ∧ n ≤ 100) (hd : I64 d) : ACalls Try.prog 121 [.int .i64 n, .int .i64 d] H fun r H' => r = .bool (decide (Diag n d)) ∧ H = H' := by
  refine in121 rfl ?_
  intro Q hQ
  have b1 := tmod_small d
  have b2 := hd.tdiv_small
  simp (maxSteps := 1000000) (disch := omega) only [cd121, hd.tdiv, wrap64, S, S1, S2, S3, S4, ST, eq_self, ne_eq, not_true_eq_false, not_false_eq_true, and_self, true_and, and_true, reduceIte, reduceCtorEq, Nat.reduceEqDiff, Nat.reduceAdd, Nat.zero_add, Nat.add_zero, Option.map_none, Option.map_some, List.map_cons, List.map_nil, List.append_nil, List.cons_append, List.nil_append, List.getElem?_cons_zero, List.getElem?_cons_succ, List.getD_cons_zero, List.getD_cons_succ, List.getD_nil, Bool.not_true, Bool.not_false, decide_true, decide_false]
  repeat' (first | (refine brD.intro (fun h => ?_) (fun h => ?_) <;> simp (maxSteps := 1000000) (disch := omega) only [h, wrap64, S, S1, S2, S3, S4, ST, eq_self, ne_eq, not_true_eq_false, not_false_eq_true, and_self, true_and, and_true, reduceIte, reduceCtorEq, Nat.reduceEqDiff, Nat.reduceAdd, Nat.zero_add, Nat.add_zero, Option.map_none, Option.map_some, List.map_cons, List.map_nil, List.append_nil, List.cons_append, List.nil_append, List.getElem?_cons_zero, List.getElem?_cons_succ, List.getD_cons_zero, List.getD_cons_succ, List.getD_nil, Bool.not_true, Bool.not_false, decide_true, decide_false]) | (refine hQ _ _ _ ?_; simp (maxSteps := 1000000) (disch := omega) only [S, S1, S2, S3, S4, ST, eq_self, ne_eq, not_true_eq_false, not_false_eq_true, and_self, true_and, and_true, reduceIte, reduceCtorEq, Nat.reduceEqDiff, Nat.reduceAdd, Nat.zero_add, Nat.add_zero, Option.map_none, Option.map_some, List.map_cons, List.map_nil, List.append_nil, List.cons_append, List.nil_append, List.getElem?_cons_zero, List.getElem?_cons_succ, List.getD_cons_zero, List.getD_cons_succ, List.getD_nil, Bool.not_true, Bool.not_false, decide_true, decide_false]))
  all_goals (by_cases hC : Diag n d <;> simp [hC] <;> unfold Diag at hC <;> omega)
end Go.Proofs.Ytahakecifgjcnaa.Ai
