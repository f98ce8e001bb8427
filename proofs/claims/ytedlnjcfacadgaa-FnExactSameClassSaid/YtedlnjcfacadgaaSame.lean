/- SameClass, both sides. -/
import Derived.Test.YtedlnjcfacadgaaWind
import Derived.Test.YtedlnjcfacadgaaCdSame
namespace Go.Proofs.Ytedlnjcfacadgaa.Ai
open Go Go.RowKit
set_option linter.unusedVariables false
set_option linter.unusedSimpArgs false

theorem l1Same_c (v w : Value) (xs ys : List Int) (H : AH) (hr : Row 3 H v xs) (hr2 : Row 3 H w ys) (hlen : xs.length ≤ 1099511627776) : ACalls Try.prog 67 [v, w] H fun r H' => r = .bool (decide (xs = ys)) ∧ H = H' := by
  refine in67 rfl ?_
  intro Q hQ
  simp (maxSteps := 1000000) (disch := omega) only [cd67, hr.len Try.underlying25, hr2.len Try.underlying25, S, S1, S2, S3, S4, ST, eq_self, ne_eq, not_true_eq_false, not_false_eq_true, and_self, true_and, and_true, reduceIte, reduceCtorEq, Nat.reduceEqDiff, Nat.reduceAdd, Nat.zero_add, Nat.add_zero, Option.map_none, Option.map_some, List.map_cons, List.map_nil, List.append_nil, List.cons_append, List.nil_append, List.getElem?_cons_zero, List.getElem?_cons_succ, List.getD_cons_zero, List.getD_cons_succ, List.getD_nil, Bool.not_true, Bool.not_false, decide_true, decide_false]
  refine brD.intro (fun g => ?_) (fun g => ?_) <;> simp (maxSteps := 1000000) (disch := omega) only [hr.len Try.underlying25, S, S1, S2, S3, S4, ST, eq_self, ne_eq, not_true_eq_false, not_false_eq_true, and_self, true_and, and_true, reduceIte, reduceCtorEq, Nat.reduceEqDiff, Nat.reduceAdd, Nat.zero_add, Nat.add_zero, Option.map_none, Option.map_some, List.map_cons, List.map_nil, List.append_nil, List.cons_append, List.nil_append, List.getElem?_cons_zero, List.getElem?_cons_succ, List.getD_cons_zero, List.getD_cons_succ, List.getD_nil, Bool.not_true, Bool.not_false, decide_true, decide_false]
  · refine hQ _ _ _ ?_
    simp (maxSteps := 1000000) (disch := omega) only [S, S1, S2, S3, S4, ST, eq_self, ne_eq, not_true_eq_false, not_false_eq_true, and_self, true_and, and_true, reduceIte, reduceCtorEq, Nat.reduceEqDiff, Nat.reduceAdd, Nat.zero_add, Nat.add_zero, Option.map_none, Option.map_some, List.map_cons, List.map_nil, List.append_nil, List.cons_append, List.nil_append, List.getElem?_cons_zero, List.getElem?_cons_succ, List.getD_cons_zero, List.getD_cons_succ, List.getD_nil, Bool.not_true, Bool.not_false, decide_true, decide_false]
    have : xs ≠ ys := fun e => g (by rw [e])
    simp [this]
  · have hl : xs.length = ys.length := by omega
    refine LoopH.by (fun m s H' => ∃ i, m + i = xs.length ∧ s 0 = v ∧ s 1 = w ∧ s 5 = .int .i64 ((i : Nat) : Int) ∧ H = H' ∧ xs.take i = ys.take i) xs.length ?_ ?_
    · exact ⟨0, by simp, rfl, rfl, rfl, rfl, by simp⟩
    · rintro m s H' ⟨i, hm, h0, h1, h5, rfl, hn⟩
      simp (maxSteps := 1000000) (disch := omega) only [h0, h1, h5, hr.len Try.underlying25, S, S1, S2, S3, S4, ST, eq_self, ne_eq, not_true_eq_false, not_false_eq_true, and_self, true_and, and_true, reduceIte, reduceCtorEq, Nat.reduceEqDiff, Nat.reduceAdd, Nat.zero_add, Nat.add_zero, Option.map_none, Option.map_some, List.map_cons, List.map_nil, List.append_nil, List.cons_append, List.nil_append, List.getElem?_cons_zero, List.getElem?_cons_succ, List.getD_cons_zero, List.getD_cons_succ, List.getD_nil, Bool.not_true, Bool.not_false, decide_true, decide_false]
      refine brD.intro (fun g => ?_) (fun g => ?_) <;> simp (maxSteps := 1000000) (disch := omega) only [h0, h1, h5, hr.ix Try.underlying25 cs3, hr.cell, hr2.ix Try.underlying25 cs3, hr2.cell, Int.toNat_natCast, S, S1, S2, S3, S4, ST, eq_self, ne_eq, not_true_eq_false, not_false_eq_true, and_self, true_and, and_true, reduceIte, reduceCtorEq, Nat.reduceEqDiff, Nat.reduceAdd, Nat.zero_add, Nat.add_zero, Option.map_none, Option.map_some, List.map_cons, List.map_nil, List.append_nil, List.cons_append, List.nil_append, List.getElem?_cons_zero, List.getElem?_cons_succ, List.getD_cons_zero, List.getD_cons_succ, List.getD_nil, Bool.not_true, Bool.not_false, decide_true, decide_false]
      · have hi : i < xs.length := by omega
        have hg : xs.getD i 0 = xs[i] := by simp [hi]
        have hg2 : ys.getD i 0 = ys[i] := by simp [hl ▸ hi]
        refine brD.intro (fun e => ?_) (fun e => ?_) <;> simp (maxSteps := 1000000) (disch := omega) only [h0, h1, h5, wrap64, S, S1, S2, S3, S4, ST, eq_self, ne_eq, not_true_eq_false, not_false_eq_true, and_self, true_and, and_true, reduceIte, reduceCtorEq, Nat.reduceEqDiff, Nat.reduceAdd, Nat.zero_add, Nat.add_zero, Option.map_none, Option.map_some, List.map_cons, List.map_nil, List.append_nil, List.cons_append, List.nil_append, List.getElem?_cons_zero, List.getElem?_cons_succ, List.getD_cons_zero, List.getD_cons_succ, List.getD_nil, Bool.not_true, Bool.not_false, decide_true, decide_false]
        · refine hQ _ _ _ ?_
          simp (maxSteps := 1000000) (disch := omega) only [S, S1, S2, S3, S4, ST, eq_self, ne_eq, not_true_eq_false, not_false_eq_true, and_self, true_and, and_true, reduceIte, reduceCtorEq, Nat.reduceEqDiff, Nat.reduceAdd, Nat.zero_add, Nat.add_zero, Option.map_none, Option.map_some, List.map_cons, List.map_nil, List.append_nil, List.cons_append, List.nil_append, List.getElem?_cons_zero, List.getElem?_cons_succ, List.getD_cons_zero, List.getD_cons_succ, List.getD_nil, Bool.not_true, Bool.not_false, decide_true, decide_false]
          have : xs ≠ ys := by
            intro e'
            subst e'
            exact e rfl
          simp [this]
        · refine ⟨m - 1, by omega, i + 1, by omega, by simp, ?_⟩
          rw [List.take_add_one, List.take_add_one, hn, List.getElem?_eq_getElem hi, List.getElem?_eq_getElem (hl ▸ hi)]
          rw [hg, hg2] at e
          rw [Decidable.not_not.1 e]
      · refine hQ _ _ _ ?_
        simp (maxSteps := 1000000) (disch := omega) only [S, S1, S2, S3, S4, ST, eq_self, ne_eq, not_true_eq_false, not_false_eq_true, and_self, true_and, and_true, reduceIte, reduceCtorEq, Nat.reduceEqDiff, Nat.reduceAdd, Nat.zero_add, Nat.add_zero, Option.map_none, Option.map_some, List.map_cons, List.map_nil, List.append_nil, List.cons_append, List.nil_append, List.getElem?_cons_zero, List.getElem?_cons_succ, List.getD_cons_zero, List.getD_cons_succ, List.getD_nil, Bool.not_true, Bool.not_false, decide_true, decide_false]
        rw [List.take_of_length_le (by omega), List.take_of_length_le (by omega)] at hn
        simp [hn]

theorem Equal_c (v w : Value) (xs ys : List Int) (H : AH) (hr : Row 3 H v xs) (hr2 : Row 3 H w ys) (hlen : xs.length ≤ 1099511627776) : ACalls Try.prog 68 [v, w] H fun r H' => r = .bool (decide (xs = ys)) ∧ H = H' := by
  refine in68 rfl ?_
  intro Q hQ
  simp (maxSteps := 1000000) (disch := omega) only [cd68, hr.len Try.underlying25, hr2.len Try.underlying25, S, S1, S2, S3, S4, ST, eq_self, ne_eq, not_true_eq_false, not_false_eq_true, and_self, true_and, and_true, reduceIte, reduceCtorEq, Nat.reduceEqDiff, Nat.reduceAdd, Nat.zero_add, Nat.add_zero, Option.map_none, Option.map_some, List.map_cons, List.map_nil, List.append_nil, List.cons_append, List.nil_append, List.getElem?_cons_zero, List.getElem?_cons_succ, List.getD_cons_zero, List.getD_cons_succ, List.getD_nil, Bool.not_true, Bool.not_false, decide_true, decide_false]
  refine brD.intro (fun g => ?_) (fun g => ?_) <;> simp (maxSteps := 1000000) (disch := omega) only [hr.len Try.underlying25, S, S1, S2, S3, S4, ST, eq_self, ne_eq, not_true_eq_false, not_false_eq_true, and_self, true_and, and_true, reduceIte, reduceCtorEq, Nat.reduceEqDiff, Nat.reduceAdd, Nat.zero_add, Nat.add_zero, Option.map_none, Option.map_some, List.map_cons, List.map_nil, List.append_nil, List.cons_append, List.nil_append, List.getElem?_cons_zero, List.getElem?_cons_succ, List.getD_cons_zero, List.getD_cons_succ, List.getD_nil, Bool.not_true, Bool.not_false, decide_true, decide_false]
  · refine hQ _ _ _ ?_
    simp (maxSteps := 1000000) (disch := omega) only [S, S1, S2, S3, S4, ST, eq_self, ne_eq, not_true_eq_false, not_false_eq_true, and_self, true_and, and_true, reduceIte, reduceCtorEq, Nat.reduceEqDiff, Nat.reduceAdd, Nat.zero_add, Nat.add_zero, Option.map_none, Option.map_some, List.map_cons, List.map_nil, List.append_nil, List.cons_append, List.nil_append, List.getElem?_cons_zero, List.getElem?_cons_succ, List.getD_cons_zero, List.getD_cons_succ, List.getD_nil, Bool.not_true, Bool.not_false, decide_true, decide_false]
    have : xs ≠ ys := fun e => g (by rw [e])
    simp [this]
  · have hl : xs.length = ys.length := by omega
    refine LoopH.by (fun m s H' => ∃ i, m + i = xs.length ∧ s 0 = v ∧ s 1 = w ∧ s 12 = .int .i64 (xs.length : Int) ∧ s 13 = .int .i64 ((i : Nat) : Int) ∧ H = H' ∧ xs.take i = ys.take i) xs.length ?_ ?_
    · exact ⟨0, by simp, rfl, rfl, rfl, rfl, rfl, by simp⟩
    · rintro m s H' ⟨i, hm, h0, h1, h12, h13, rfl, hn⟩
      simp (maxSteps := 1000000) (disch := omega) only [h0, h1, h12, h13, S, S1, S2, S3, S4, ST, eq_self, ne_eq, not_true_eq_false, not_false_eq_true, and_self, true_and, and_true, reduceIte, reduceCtorEq, Nat.reduceEqDiff, Nat.reduceAdd, Nat.zero_add, Nat.add_zero, Option.map_none, Option.map_some, List.map_cons, List.map_nil, List.append_nil, List.cons_append, List.nil_append, List.getElem?_cons_zero, List.getElem?_cons_succ, List.getD_cons_zero, List.getD_cons_succ, List.getD_nil, Bool.not_true, Bool.not_false, decide_true, decide_false]
      refine brD.intro (fun g => ?_) (fun g => ?_) <;> simp (maxSteps := 1000000) (disch := omega) only [h0, h1, h12, h13, hr.ix Try.underlying25 cs3, hr.cell, hr2.ix Try.underlying25 cs3, hr2.cell, Int.toNat_natCast, S, S1, S2, S3, S4, ST, eq_self, ne_eq, not_true_eq_false, not_false_eq_true, and_self, true_and, and_true, reduceIte, reduceCtorEq, Nat.reduceEqDiff, Nat.reduceAdd, Nat.zero_add, Nat.add_zero, Option.map_none, Option.map_some, List.map_cons, List.map_nil, List.append_nil, List.cons_append, List.nil_append, List.getElem?_cons_zero, List.getElem?_cons_succ, List.getD_cons_zero, List.getD_cons_succ, List.getD_nil, Bool.not_true, Bool.not_false, decide_true, decide_false]
      · have hi : i < xs.length := by omega
        have hg : xs.getD i 0 = xs[i] := by simp [hi]
        have hg2 : ys.getD i 0 = ys[i] := by simp [hl ▸ hi]
        refine brD.intro (fun e => ?_) (fun e => ?_) <;> simp (maxSteps := 1000000) (disch := omega) only [h0, h1, h12, h13, wrap64, S, S1, S2, S3, S4, ST, eq_self, ne_eq, not_true_eq_false, not_false_eq_true, and_self, true_and, and_true, reduceIte, reduceCtorEq, Nat.reduceEqDiff, Nat.reduceAdd, Nat.zero_add, Nat.add_zero, Option.map_none, Option.map_some, List.map_cons, List.map_nil, List.append_nil, List.cons_append, List.nil_append, List.getElem?_cons_zero, List.getElem?_cons_succ, List.getD_cons_zero, List.getD_cons_succ, List.getD_nil, Bool.not_true, Bool.not_false, decide_true, decide_false]
        · refine hQ _ _ _ ?_
          simp (maxSteps := 1000000) (disch := omega) only [S, S1, S2, S3, S4, ST, eq_self, ne_eq, not_true_eq_false, not_false_eq_true, and_self, true_and, and_true, reduceIte, reduceCtorEq, Nat.reduceEqDiff, Nat.reduceAdd, Nat.zero_add, Nat.add_zero, Option.map_none, Option.map_some, List.map_cons, List.map_nil, List.append_nil, List.cons_append, List.nil_append, List.getElem?_cons_zero, List.getElem?_cons_succ, List.getD_cons_zero, List.getD_cons_succ, List.getD_nil, Bool.not_true, Bool.not_false, decide_true, decide_false]
          have : xs ≠ ys := by
            intro e'
            subst e'
            exact e rfl
          simp [this]
        · refine ⟨m - 1, by omega, i + 1, by omega, by simp, ?_⟩
          rw [List.take_add_one, List.take_add_one, hn, List.getElem?_eq_getElem hi, List.getElem?_eq_getElem (hl ▸ hi)]
          rw [hg, hg2] at e
          rw [Decidable.not_not.1 e]
      · refine hQ _ _ _ ?_
        simp (maxSteps := 1000000) (disch := omega) only [S, S1, S2, S3, S4, ST, eq_self, ne_eq, not_true_eq_false, not_false_eq_true, and_self, true_and, and_true, reduceIte, reduceCtorEq, Nat.reduceEqDiff, Nat.reduceAdd, Nat.zero_add, Nat.add_zero, Option.map_none, Option.map_some, List.map_cons, List.map_nil, List.append_nil, List.cons_append, List.nil_append, List.getElem?_cons_zero, List.getElem?_cons_succ, List.getD_cons_zero, List.getD_cons_succ, List.getD_nil, Bool.not_true, Bool.not_false, decide_true, decide_false]
        rw [List.take_of_length_le (by omega), List.take_of_length_le (by omega)] at hn
        simp [hn]

/-- both walks are good, and they may be compared -/
def Cmp (n : Int) (a b : List Int) : Prop := ((3 ≤ n ∧ n ≤ 8) ∧ n ≠ 4) ∧ Wk n false a ∧ Wk n false b ∧ a.length = b.length
instance (n : Int) (a b : List Int) : Decidable (Cmp n a b) := inferInstanceAs (Decidable (_ ∧ _))
def Cls (n : Int) (a b : List Int) : Prop := a = b ∨ (wnd n a = wnd n b ∧ 0 < slk n a ∧ (n.tmod 2 = 1 ∨ (a.getD 0 0).tmod 2 = (b.getD 0 0).tmod 2))
instance (n : Int) (a b : List Int) : Decidable (Cls n a b) := inferInstanceAs (Decidable (_ ∨ _))
theorem par (x y : Int) (hx : 0 ≤ x) (hy : 0 ≤ y) : (x - y).tmod 2 = 0 ↔ x.tmod 2 = y.tmod 2 := by
  rw [Int.tmod_eq_emod_of_nonneg hx, Int.tmod_eq_emod_of_nonneg hy]
  constructor
  · intro h
    have := Int.dvd_of_tmod_eq_zero h
    omega
  · intro h
    exact Int.tmod_eq_zero_of_dvd (by omega)
theorem odd_iff (n : Int) (hn : 3 ≤ n) : n.tmod 2 ≠ 0 ↔ n.tmod 2 = 1 := by
  rw [Int.tmod_eq_emod_of_nonneg (by omega)]; omega
theorem slk_I64 {n : Int} {l : List Int} {lz : Bool} (hn : 3 ≤ n ∧ n ≤ 8) (hg : Wk n lz l) : I64 (slk n l) := by
  have hab := absI_bd (wnd_bd hn hg)
  have hnb := nmul_bd hn hab
  have := hg.2.2.2
  unfold slk I64; omega

set_option maxHeartbeats 4000000 in
theorem SameS_c (n : Int) (v w : Value) (a b : List Int) (H : AH) (hr : Row 3 H v a) (hlen : a.length ≤ 1099511627776) (hxs : ∀ y ∈ a, I64 y) (hr2 : Row 3 H w b) (hlen2 : b.length ≤ 1099511627776) (hys : ∀ y ∈ b, I64 y) :
    ACalls Try.prog 38 [.int .i64 n, v, w] H fun r H' => r = .tuple (List.toArray [.bool (decide (Cmp n a b ∧ Cls n a b)), .bool (decide (Cmp n a b))]) ∧ H <+: H' := by
  refine in38 rfl ?_
  intro Q hQ
  have no : ¬ Cmp n a b → ∀ H', H <+: H' → (Value.tuple (List.toArray [.bool false, .bool false]) = .tuple (List.toArray [.bool (decide (Cmp n a b ∧ Cls n a b)), .bool (decide (Cmp n a b))]) ∧ H <+: H') := fun h H' hp => ⟨by simp [h], hp⟩
  simp (maxSteps := 1000000) (disch := omega) only [cd38, S, S1, S2, S3, S4, ST, eq_self, ne_eq, not_true_eq_false, not_false_eq_true, and_self, true_and, and_true, reduceIte, reduceCtorEq, Nat.reduceEqDiff, Nat.reduceAdd, Nat.zero_add, Nat.add_zero, Option.map_none, Option.map_some, List.map_cons, List.map_nil, List.append_nil, List.cons_append, List.nil_append, List.getElem?_cons_zero, List.getElem?_cons_succ, List.getD_cons_zero, List.getD_cons_succ, List.getD_nil, Bool.not_true, Bool.not_false, decide_true, decide_false]
  refine CallH.by (l10N_c ..) ?_
  rintro _ _ ⟨rfl, rfl⟩
  simp (maxSteps := 1000000) (disch := omega) only [S, S1, S2, S3, S4, ST, eq_self, ne_eq, not_true_eq_false, not_false_eq_true, and_self, true_and, and_true, reduceIte, reduceCtorEq, Nat.reduceEqDiff, Nat.reduceAdd, Nat.zero_add, Nat.add_zero, Option.map_none, Option.map_some, List.map_cons, List.map_nil, List.append_nil, List.cons_append, List.nil_append, List.getElem?_cons_zero, List.getElem?_cons_succ, List.getD_cons_zero, List.getD_cons_succ, List.getD_nil, Bool.not_true, Bool.not_false, decide_true, decide_false]
  refine brD.intro (fun hn => ?_) (fun hn => ?_) <;> simp (maxSteps := 1000000) (disch := omega) only [hn, S, S1, S2, S3, S4, ST, eq_self, ne_eq, not_true_eq_false, not_false_eq_true, and_self, true_and, and_true, reduceIte, reduceCtorEq, Nat.reduceEqDiff, Nat.reduceAdd, Nat.zero_add, Nat.add_zero, Option.map_none, Option.map_some, List.map_cons, List.map_nil, List.append_nil, List.cons_append, List.nil_append, List.getElem?_cons_zero, List.getElem?_cons_succ, List.getD_cons_zero, List.getD_cons_succ, List.getD_nil, Bool.not_true, Bool.not_false, decide_true, decide_false]
  · refine brD.intro (fun h4 => ?_) (fun h4 => ?_) <;> simp (maxSteps := 1000000) (disch := omega) only [hn, h4, S, S1, S2, S3, S4, ST, eq_self, ne_eq, not_true_eq_false, not_false_eq_true, and_self, true_and, and_true, reduceIte, reduceCtorEq, Nat.reduceEqDiff, Nat.reduceAdd, Nat.zero_add, Nat.add_zero, Option.map_none, Option.map_some, List.map_cons, List.map_nil, List.append_nil, List.cons_append, List.nil_append, List.getElem?_cons_zero, List.getElem?_cons_succ, List.getD_cons_zero, List.getD_cons_succ, List.getD_nil, Bool.not_true, Bool.not_false, decide_true, decide_false]
    · refine hQ _ _ _ ?_
      simp (maxSteps := 1000000) (disch := omega) only [S, S1, S2, S3, S4, ST, eq_self, ne_eq, not_true_eq_false, not_false_eq_true, and_self, true_and, and_true, reduceIte, reduceCtorEq, Nat.reduceEqDiff, Nat.reduceAdd, Nat.zero_add, Nat.add_zero, Option.map_none, Option.map_some, List.map_cons, List.map_nil, List.append_nil, List.cons_append, List.nil_append, List.getElem?_cons_zero, List.getElem?_cons_succ, List.getD_cons_zero, List.getD_cons_succ, List.getD_nil, Bool.not_true, Bool.not_false, decide_true, decide_false]
      exact no (fun h => h.1.2 h4) _ (List.prefix_refl _)
    · refine CallH.by (l10Walk_c n v a false H hn hr hlen) ?_
      rintro _ _ ⟨rfl, rfl⟩
      simp (maxSteps := 1000000) (disch := omega) only [hn, h4, S, S1, S2, S3, S4, ST, eq_self, ne_eq, not_true_eq_false, not_false_eq_true, and_self, true_and, and_true, reduceIte, reduceCtorEq, Nat.reduceEqDiff, Nat.reduceAdd, Nat.zero_add, Nat.add_zero, Option.map_none, Option.map_some, List.map_cons, List.map_nil, List.append_nil, List.cons_append, List.nil_append, List.getElem?_cons_zero, List.getElem?_cons_succ, List.getD_cons_zero, List.getD_cons_succ, List.getD_nil, Bool.not_true, Bool.not_false, decide_true, decide_false]
      refine brD.intro (fun ha => ?_) (fun ha => ?_) <;> simp (maxSteps := 1000000) (disch := omega) only [hn, h4, ha, S, S1, S2, S3, S4, ST, eq_self, ne_eq, not_true_eq_false, not_false_eq_true, and_self, true_and, and_true, reduceIte, reduceCtorEq, Nat.reduceEqDiff, Nat.reduceAdd, Nat.zero_add, Nat.add_zero, Option.map_none, Option.map_some, List.map_cons, List.map_nil, List.append_nil, List.cons_append, List.nil_append, List.getElem?_cons_zero, List.getElem?_cons_succ, List.getD_cons_zero, List.getD_cons_succ, List.getD_nil, Bool.not_true, Bool.not_false, decide_true, decide_false]
      · refine CallH.by (l10Walk_c n w b false H hn hr2 hlen2) ?_
        rintro _ _ ⟨rfl, rfl⟩
        simp (maxSteps := 1000000) (disch := omega) only [hn, h4, ha, S, S1, S2, S3, S4, ST, eq_self, ne_eq, not_true_eq_false, not_false_eq_true, and_self, true_and, and_true, reduceIte, reduceCtorEq, Nat.reduceEqDiff, Nat.reduceAdd, Nat.zero_add, Nat.add_zero, Option.map_none, Option.map_some, List.map_cons, List.map_nil, List.append_nil, List.cons_append, List.nil_append, List.getElem?_cons_zero, List.getElem?_cons_succ, List.getD_cons_zero, List.getD_cons_succ, List.getD_nil, Bool.not_true, Bool.not_false, decide_true, decide_false]
        refine brD.intro (fun hb => ?_) (fun hb => ?_) <;> simp (maxSteps := 1000000) (disch := omega) only [hn, h4, ha, hb, hr.len Try.underlying25, hr2.len Try.underlying25, S, S1, S2, S3, S4, ST, eq_self, ne_eq, not_true_eq_false, not_false_eq_true, and_self, true_and, and_true, reduceIte, reduceCtorEq, Nat.reduceEqDiff, Nat.reduceAdd, Nat.zero_add, Nat.add_zero, Option.map_none, Option.map_some, List.map_cons, List.map_nil, List.append_nil, List.cons_append, List.nil_append, List.getElem?_cons_zero, List.getElem?_cons_succ, List.getD_cons_zero, List.getD_cons_succ, List.getD_nil, Bool.not_true, Bool.not_false, decide_true, decide_false]
        · refine brD.intro (fun hl => ?_) (fun hl => ?_) <;> simp (maxSteps := 1000000) (disch := omega) only [hn, h4, ha, hb, S, S1, S2, S3, S4, ST, eq_self, ne_eq, not_true_eq_false, not_false_eq_true, and_self, true_and, and_true, reduceIte, reduceCtorEq, Nat.reduceEqDiff, Nat.reduceAdd, Nat.zero_add, Nat.add_zero, Option.map_none, Option.map_some, List.map_cons, List.map_nil, List.append_nil, List.cons_append, List.nil_append, List.getElem?_cons_zero, List.getElem?_cons_succ, List.getD_cons_zero, List.getD_cons_succ, List.getD_nil, Bool.not_true, Bool.not_false, decide_true, decide_false]
          · refine hQ _ _ _ ?_
            simp (maxSteps := 1000000) (disch := omega) only [S, S1, S2, S3, S4, ST, eq_self, ne_eq, not_true_eq_false, not_false_eq_true, and_self, true_and, and_true, reduceIte, reduceCtorEq, Nat.reduceEqDiff, Nat.reduceAdd, Nat.zero_add, Nat.add_zero, Option.map_none, Option.map_some, List.map_cons, List.map_nil, List.append_nil, List.cons_append, List.nil_append, List.getElem?_cons_zero, List.getElem?_cons_succ, List.getD_cons_zero, List.getD_cons_succ, List.getD_nil, Bool.not_true, Bool.not_false, decide_true, decide_false]
            exact no (fun h => hl (by rw [h.2.2.2])) _ (List.prefix_refl _)
          · have hl' : a.length = b.length := by omega
            have hc : Cmp n a b := ⟨⟨hn, h4⟩, ha, hb, hl'⟩
            refine CallH.by (l1Same_c v w a b H hr hr2 hlen) ?_
            rintro _ _ ⟨rfl, rfl⟩
            simp (maxSteps := 1000000) (disch := omega) only [S, S1, S2, S3, S4, ST, eq_self, ne_eq, not_true_eq_false, not_false_eq_true, and_self, true_and, and_true, reduceIte, reduceCtorEq, Nat.reduceEqDiff, Nat.reduceAdd, Nat.zero_add, Nat.add_zero, Option.map_none, Option.map_some, List.map_cons, List.map_nil, List.append_nil, List.cons_append, List.nil_append, List.getElem?_cons_zero, List.getElem?_cons_succ, List.getD_cons_zero, List.getD_cons_succ, List.getD_nil, Bool.not_true, Bool.not_false, decide_true, decide_false]
            refine brD.intro (fun he => ?_) (fun he => ?_) <;> simp (maxSteps := 1000000) (disch := omega) only [hn, h4, ha, hb, S, S1, S2, S3, S4, ST, eq_self, ne_eq, not_true_eq_false, not_false_eq_true, and_self, true_and, and_true, reduceIte, reduceCtorEq, Nat.reduceEqDiff, Nat.reduceAdd, Nat.zero_add, Nat.add_zero, Option.map_none, Option.map_some, List.map_cons, List.map_nil, List.append_nil, List.cons_append, List.nil_append, List.getElem?_cons_zero, List.getElem?_cons_succ, List.getD_cons_zero, List.getD_cons_succ, List.getD_nil, Bool.not_true, Bool.not_false, decide_true, decide_false]
            · refine hQ _ _ _ ?_
              simp (maxSteps := 1000000) (disch := omega) only [S, S1, S2, S3, S4, ST, eq_self, ne_eq, not_true_eq_false, not_false_eq_true, and_self, true_and, and_true, reduceIte, reduceCtorEq, Nat.reduceEqDiff, Nat.reduceAdd, Nat.zero_add, Nat.add_zero, Option.map_none, Option.map_some, List.map_cons, List.map_nil, List.append_nil, List.cons_append, List.nil_append, List.getElem?_cons_zero, List.getElem?_cons_succ, List.getD_cons_zero, List.getD_cons_succ, List.getD_nil, Bool.not_true, Bool.not_false, decide_true, decide_false]
              have : Cls n a b := .inl he
              exact ⟨by simp [hc, this], List.prefix_refl _⟩
            · have hga := ha.lazy
              have hgb := hb.lazy
              have a0 := ha.1 0 (by have := ha.2.2.1; omega)
              have b0 := hb.1 0 (by have := hb.2.2.1; omega)
              have l1 := ha.2.2.1
              have l2 := hb.2.2.1
              unfold inr at a0 b0
              refine CallH.by (windS_c n v a H hn hga hr) ?_
              rintro _ H1 ⟨rfl, hp1⟩
              simp (maxSteps := 1000000) (disch := omega) only [S, S1, S2, S3, S4, ST, eq_self, ne_eq, not_true_eq_false, not_false_eq_true, and_self, true_and, and_true, reduceIte, reduceCtorEq, Nat.reduceEqDiff, Nat.reduceAdd, Nat.zero_add, Nat.add_zero, Option.map_none, Option.map_some, List.map_cons, List.map_nil, List.append_nil, List.cons_append, List.nil_append, List.getElem?_cons_zero, List.getElem?_cons_succ, List.getD_cons_zero, List.getD_cons_succ, List.getD_nil, Bool.not_true, Bool.not_false, decide_true, decide_false]
              refine CallH.by (windS_c n w b H1 hn hgb (hr2.pre hp1)) ?_
              rintro _ H2 ⟨rfl, hp2⟩
              have hp := hp1.trans hp2
              simp (maxSteps := 1000000) (disch := omega) only [S, S1, S2, S3, S4, ST, eq_self, ne_eq, not_true_eq_false, not_false_eq_true, and_self, true_and, and_true, reduceIte, reduceCtorEq, Nat.reduceEqDiff, Nat.reduceAdd, Nat.zero_add, Nat.add_zero, Option.map_none, Option.map_some, List.map_cons, List.map_nil, List.append_nil, List.cons_append, List.nil_append, List.getElem?_cons_zero, List.getElem?_cons_succ, List.getD_cons_zero, List.getD_cons_succ, List.getD_nil, Bool.not_true, Bool.not_false, decide_true, decide_false]
              refine brD.intro (fun hw => ?_) (fun hw => ?_) <;> simp (maxSteps := 1000000) (disch := omega) only [hw, S, S1, S2, S3, S4, ST, eq_self, ne_eq, not_true_eq_false, not_false_eq_true, and_self, true_and, and_true, reduceIte, reduceCtorEq, Nat.reduceEqDiff, Nat.reduceAdd, Nat.zero_add, Nat.add_zero, Option.map_none, Option.map_some, List.map_cons, List.map_nil, List.append_nil, List.cons_append, List.nil_append, List.getElem?_cons_zero, List.getElem?_cons_succ, List.getD_cons_zero, List.getD_cons_succ, List.getD_nil, Bool.not_true, Bool.not_false, decide_true, decide_false]
              · refine CallH.by (slackS_c n v a H2 hn hga (hr.pre hp)) ?_
                rintro _ H3 ⟨rfl, hp3⟩
                simp (maxSteps := 1000000) (disch := omega) only [S, S1, S2, S3, S4, ST, eq_self, ne_eq, not_true_eq_false, not_false_eq_true, and_self, true_and, and_true, reduceIte, reduceCtorEq, Nat.reduceEqDiff, Nat.reduceAdd, Nat.zero_add, Nat.add_zero, Option.map_none, Option.map_some, List.map_cons, List.map_nil, List.append_nil, List.cons_append, List.nil_append, List.getElem?_cons_zero, List.getElem?_cons_succ, List.getD_cons_zero, List.getD_cons_succ, List.getD_nil, Bool.not_true, Bool.not_false, decide_true, decide_false]
                have hrp := hr.pre (hp.trans hp3)
                have hr2p := hr2.pre (hp.trans hp3)
                have hca : cellA H3 (rowO v) (rowK v) = some (.int .i64 (a.getD 0 0)) := hrp.cell (j := 0) (by omega)
                have hcb : cellA H3 (rowO w) (rowK w) = some (.int .i64 (b.getD 0 0)) := hr2p.cell (j := 0) (by omega)
                refine brD.intro (fun hs => ?_) (fun hs => ?_) <;> simp (maxSteps := 1000000) (disch := omega) only [hw, hs, S, S1, S2, S3, S4, ST, eq_self, ne_eq, not_true_eq_false, not_false_eq_true, and_self, true_and, and_true, reduceIte, reduceCtorEq, Nat.reduceEqDiff, Nat.reduceAdd, Nat.zero_add, Nat.add_zero, Option.map_none, Option.map_some, List.map_cons, List.map_nil, List.append_nil, List.cons_append, List.nil_append, List.getElem?_cons_zero, List.getElem?_cons_succ, List.getD_cons_zero, List.getD_cons_succ, List.getD_nil, Bool.not_true, Bool.not_false, decide_true, decide_false]
                · refine brD.intro (fun hd => ?_) (fun hd => ?_) <;> simp (maxSteps := 1000000) (disch := omega) only [hw, hs, hd, hrp.ix Try.underlying25 cs3, hr2p.ix Try.underlying25 cs3, hca, hcb, Int.toNat_zero, wrap64, S, S1, S2, S3, S4, ST, eq_self, ne_eq, not_true_eq_false, not_false_eq_true, and_self, true_and, and_true, reduceIte, reduceCtorEq, Nat.reduceEqDiff, Nat.reduceAdd, Nat.zero_add, Nat.add_zero, Option.map_none, Option.map_some, List.map_cons, List.map_nil, List.append_nil, List.cons_append, List.nil_append, List.getElem?_cons_zero, List.getElem?_cons_succ, List.getD_cons_zero, List.getD_cons_succ, List.getD_nil, Bool.not_true, Bool.not_false, decide_true, decide_false]
                  · refine hQ _ _ _ ?_
                    simp (maxSteps := 1000000) (disch := omega) only [S, S1, S2, S3, S4, ST, eq_self, ne_eq, not_true_eq_false, not_false_eq_true, and_self, true_and, and_true, reduceIte, reduceCtorEq, Nat.reduceEqDiff, Nat.reduceAdd, Nat.zero_add, Nat.add_zero, Option.map_none, Option.map_some, List.map_cons, List.map_nil, List.append_nil, List.cons_append, List.nil_append, List.getElem?_cons_zero, List.getElem?_cons_succ, List.getD_cons_zero, List.getD_cons_succ, List.getD_nil, Bool.not_true, Bool.not_false, decide_true, decide_false]
                    have : Cls n a b := .inr ⟨hw, hs, .inl ((odd_iff n hn.1).1 hd)⟩
                    exact ⟨by simp [hc, this], hp.trans hp3⟩
                  · refine hQ _ _ _ ?_
                    simp (maxSteps := 1000000) (disch := omega) only [S, S1, S2, S3, S4, ST, eq_self, ne_eq, not_true_eq_false, not_false_eq_true, and_self, true_and, and_true, reduceIte, reduceCtorEq, Nat.reduceEqDiff, Nat.reduceAdd, Nat.zero_add, Nat.add_zero, Option.map_none, Option.map_some, List.map_cons, List.map_nil, List.append_nil, List.cons_append, List.nil_append, List.getElem?_cons_zero, List.getElem?_cons_succ, List.getD_cons_zero, List.getD_cons_succ, List.getD_nil, Bool.not_true, Bool.not_false, decide_true, decide_false]
                    refine ⟨?_, hp.trans hp3⟩
                    have e1 : ((a.getD 0 0 - b.getD 0 0).tmod 2 = 0) ↔ Cls n a b := by
                      rw [par _ _ a0.1 b0.1]
                      constructor
                      · intro h; exact .inr ⟨hw, hs, .inr h⟩
                      · rintro (h | ⟨_, _, h | h⟩)
                        · exact absurd h he
                        · exact absurd ((odd_iff n hn.1).2 h) hd
                        · exact h
                    simp only [hc, e1, true_and, decide_true]
                · refine hQ _ _ _ ?_
                  simp (maxSteps := 1000000) (disch := omega) only [S, S1, S2, S3, S4, ST, eq_self, ne_eq, not_true_eq_false, not_false_eq_true, and_self, true_and, and_true, reduceIte, reduceCtorEq, Nat.reduceEqDiff, Nat.reduceAdd, Nat.zero_add, Nat.add_zero, Option.map_none, Option.map_some, List.map_cons, List.map_nil, List.append_nil, List.cons_append, List.nil_append, List.getElem?_cons_zero, List.getElem?_cons_succ, List.getD_cons_zero, List.getD_cons_succ, List.getD_nil, Bool.not_true, Bool.not_false, decide_true, decide_false]
                  refine ⟨?_, hp.trans hp3⟩
                  have : ¬ Cls n a b := by
                    rintro (h | ⟨_, h, _⟩)
                    · exact he h
                    · exact hs h
                  simp [hc, this]
              · refine hQ _ _ _ ?_
                simp (maxSteps := 1000000) (disch := omega) only [S, S1, S2, S3, S4, ST, eq_self, ne_eq, not_true_eq_false, not_false_eq_true, and_self, true_and, and_true, reduceIte, reduceCtorEq, Nat.reduceEqDiff, Nat.reduceAdd, Nat.zero_add, Nat.add_zero, Option.map_none, Option.map_some, List.map_cons, List.map_nil, List.append_nil, List.cons_append, List.nil_append, List.getElem?_cons_zero, List.getElem?_cons_succ, List.getD_cons_zero, List.getD_cons_succ, List.getD_nil, Bool.not_true, Bool.not_false, decide_true, decide_false]
                refine ⟨?_, hp⟩
                have : ¬ Cls n a b := by
                  rintro (h | ⟨h, _, _⟩)
                  · exact he h
                  · exact hw h
                simp [hc, this]
        · refine hQ _ _ _ ?_
          simp (maxSteps := 1000000) (disch := omega) only [S, S1, S2, S3, S4, ST, eq_self, ne_eq, not_true_eq_false, not_false_eq_true, and_self, true_and, and_true, reduceIte, reduceCtorEq, Nat.reduceEqDiff, Nat.reduceAdd, Nat.zero_add, Nat.add_zero, Option.map_none, Option.map_some, List.map_cons, List.map_nil, List.append_nil, List.cons_append, List.nil_append, List.getElem?_cons_zero, List.getElem?_cons_succ, List.getD_cons_zero, List.getD_cons_succ, List.getD_nil, Bool.not_true, Bool.not_false, decide_true, decide_false]
          exact no (fun h => hb h.2.2.1) _ (List.prefix_refl _)
      · refine hQ _ _ _ ?_
        simp (maxSteps := 1000000) (disch := omega) only [S, S1, S2, S3, S4, ST, eq_self, ne_eq, not_true_eq_false, not_false_eq_true, and_self, true_and, and_true, reduceIte, reduceCtorEq, Nat.reduceEqDiff, Nat.reduceAdd, Nat.zero_add, Nat.add_zero, Option.map_none, Option.map_some, List.map_cons, List.map_nil, List.append_nil, List.cons_append, List.nil_append, List.getElem?_cons_zero, List.getElem?_cons_succ, List.getD_cons_zero, List.getD_cons_succ, List.getD_nil, Bool.not_true, Bool.not_false, decide_true, decide_false]
        exact no (fun h => ha h.2.1) _ (List.prefix_refl _)
  · refine hQ _ _ _ ?_
    simp (maxSteps := 1000000) (disch := omega) only [S, S1, S2, S3, S4, ST, eq_self, ne_eq, not_true_eq_false, not_false_eq_true, and_self, true_and, and_true, reduceIte, reduceCtorEq, Nat.reduceEqDiff, Nat.reduceAdd, Nat.zero_add, Nat.add_zero, Option.map_none, Option.map_some, List.map_cons, List.map_nil, List.append_nil, List.cons_append, List.nil_append, List.getElem?_cons_zero, List.getElem?_cons_succ, List.getD_cons_zero, List.getD_cons_succ, List.getD_nil, Bool.not_true, Bool.not_false, decide_true, decide_false]
    exact no (fun h => hn h.1.1) _ (List.prefix_refl _)

set_option maxHeartbeats 4000000 in
theorem SameI_c (n : Int) (v w : Value) (a b : List Int) (H : AH) (hr : Row 3 H v a) (hlen : a.length ≤ 1099511627776) (hxs : ∀ y ∈ a, I64 y) (hr2 : Row 3 H w b) (hlen2 : b.length ≤ 1099511627776) (hys : ∀ y ∈ b, I64 y) :
    ACalls Try.prog 39 [.int .i64 n, v, w] H fun r H' => r = .tuple (List.toArray [.bool (decide (Cmp n a b ∧ Cls n a b)), .bool (decide (Cmp n a b))]) ∧ H <+: H' := by
  refine in39 rfl ?_
  intro Q hQ
  have no : ¬ Cmp n a b → ∀ H', H <+: H' → (Value.tuple (List.toArray [.bool false, .bool false]) = .tuple (List.toArray [.bool (decide (Cmp n a b ∧ Cls n a b)), .bool (decide (Cmp n a b))]) ∧ H <+: H') := fun h H' hp => ⟨by simp [h], hp⟩
  simp (maxSteps := 1000000) (disch := omega) only [cd39, S, S1, S2, S3, S4, ST, eq_self, ne_eq, not_true_eq_false, not_false_eq_true, and_self, true_and, and_true, reduceIte, reduceCtorEq, Nat.reduceEqDiff, Nat.reduceAdd, Nat.zero_add, Nat.add_zero, Option.map_none, Option.map_some, List.map_cons, List.map_nil, List.append_nil, List.cons_append, List.nil_append, List.getElem?_cons_zero, List.getElem?_cons_succ, List.getD_cons_zero, List.getD_cons_succ, List.getD_nil, Bool.not_true, Bool.not_false, decide_true, decide_false]
  refine CallH.by (iClosed_c n v a false H hr hlen) ?_
  rintro _ H1 ⟨rfl, hp1⟩
  simp (maxSteps := 1000000) (disch := omega) only [S, S1, S2, S3, S4, ST, eq_self, ne_eq, not_true_eq_false, not_false_eq_true, and_self, true_and, and_true, reduceIte, reduceCtorEq, Nat.reduceEqDiff, Nat.reduceAdd, Nat.zero_add, Nat.add_zero, Option.map_none, Option.map_some, List.map_cons, List.map_nil, List.append_nil, List.cons_append, List.nil_append, List.getElem?_cons_zero, List.getElem?_cons_succ, List.getD_cons_zero, List.getD_cons_succ, List.getD_nil, Bool.not_true, Bool.not_false, decide_true, decide_false]
  refine CallH.by (iClosed_c n w b false H1 (hr2.pre hp1) hlen2) ?_
  rintro _ H2 ⟨rfl, hp2⟩
  have hp := hp1.trans hp2
  have hra := hr.pre hp
  have hrb := hr2.pre hp
  simp (maxSteps := 1000000) (disch := omega) only [S, S1, S2, S3, S4, ST, eq_self, ne_eq, not_true_eq_false, not_false_eq_true, and_self, true_and, and_true, reduceIte, reduceCtorEq, Nat.reduceEqDiff, Nat.reduceAdd, Nat.zero_add, Nat.add_zero, Option.map_none, Option.map_some, List.map_cons, List.map_nil, List.append_nil, List.cons_append, List.nil_append, List.getElem?_cons_zero, List.getElem?_cons_succ, List.getD_cons_zero, List.getD_cons_succ, List.getD_nil, Bool.not_true, Bool.not_false, decide_true, decide_false]
  refine brD.intro (fun ha => ?_) (fun ha => ?_) <;> simp (maxSteps := 1000000) (disch := omega) only [ha, S, S1, S2, S3, S4, ST, eq_self, ne_eq, not_true_eq_false, not_false_eq_true, and_self, true_and, and_true, reduceIte, reduceCtorEq, Nat.reduceEqDiff, Nat.reduceAdd, Nat.zero_add, Nat.add_zero, Option.map_none, Option.map_some, List.map_cons, List.map_nil, List.append_nil, List.cons_append, List.nil_append, List.getElem?_cons_zero, List.getElem?_cons_succ, List.getD_cons_zero, List.getD_cons_succ, List.getD_nil, Bool.not_true, Bool.not_false, decide_true, decide_false]
  · refine brD.intro (fun hb => ?_) (fun hb => ?_) <;> simp (maxSteps := 1000000) (disch := omega) only [ha, hb, hra.len Try.underlying25, hrb.len Try.underlying25, S, S1, S2, S3, S4, ST, eq_self, ne_eq, not_true_eq_false, not_false_eq_true, and_self, true_and, and_true, reduceIte, reduceCtorEq, Nat.reduceEqDiff, Nat.reduceAdd, Nat.zero_add, Nat.add_zero, Option.map_none, Option.map_some, List.map_cons, List.map_nil, List.append_nil, List.cons_append, List.nil_append, List.getElem?_cons_zero, List.getElem?_cons_succ, List.getD_cons_zero, List.getD_cons_succ, List.getD_nil, Bool.not_true, Bool.not_false, decide_true, decide_false]
    · refine brD.intro (fun hl => ?_) (fun hl => ?_) <;> simp (maxSteps := 1000000) (disch := omega) only [ha, hb, hl, S, S1, S2, S3, S4, ST, eq_self, ne_eq, not_true_eq_false, not_false_eq_true, and_self, true_and, and_true, reduceIte, reduceCtorEq, Nat.reduceEqDiff, Nat.reduceAdd, Nat.zero_add, Nat.add_zero, Option.map_none, Option.map_some, List.map_cons, List.map_nil, List.append_nil, List.cons_append, List.nil_append, List.getElem?_cons_zero, List.getElem?_cons_succ, List.getD_cons_zero, List.getD_cons_succ, List.getD_nil, Bool.not_true, Bool.not_false, decide_true, decide_false]
      · refine hQ _ _ _ ?_
        simp (maxSteps := 1000000) (disch := omega) only [S, S1, S2, S3, S4, ST, eq_self, ne_eq, not_true_eq_false, not_false_eq_true, and_self, true_and, and_true, reduceIte, reduceCtorEq, Nat.reduceEqDiff, Nat.reduceAdd, Nat.zero_add, Nat.add_zero, Option.map_none, Option.map_some, List.map_cons, List.map_nil, List.append_nil, List.cons_append, List.nil_append, List.getElem?_cons_zero, List.getElem?_cons_succ, List.getD_cons_zero, List.getD_cons_succ, List.getD_nil, Bool.not_true, Bool.not_false, decide_true, decide_false]
        exact no (fun h => hl (by rw [h.2.2.2])) _ hp
      · refine brD.intro (fun h4 => ?_) (fun h4 => ?_) <;> simp (maxSteps := 1000000) (disch := omega) only [ha, hb, hl, h4, S, S1, S2, S3, S4, ST, eq_self, ne_eq, not_true_eq_false, not_false_eq_true, and_self, true_and, and_true, reduceIte, reduceCtorEq, Nat.reduceEqDiff, Nat.reduceAdd, Nat.zero_add, Nat.add_zero, Option.map_none, Option.map_some, List.map_cons, List.map_nil, List.append_nil, List.cons_append, List.nil_append, List.getElem?_cons_zero, List.getElem?_cons_succ, List.getD_cons_zero, List.getD_cons_succ, List.getD_nil, Bool.not_true, Bool.not_false, decide_true, decide_false]
        · refine hQ _ _ _ ?_
          simp (maxSteps := 1000000) (disch := omega) only [S, S1, S2, S3, S4, ST, eq_self, ne_eq, not_true_eq_false, not_false_eq_true, and_self, true_and, and_true, reduceIte, reduceCtorEq, Nat.reduceEqDiff, Nat.reduceAdd, Nat.zero_add, Nat.add_zero, Option.map_none, Option.map_some, List.map_cons, List.map_nil, List.append_nil, List.cons_append, List.nil_append, List.getElem?_cons_zero, List.getElem?_cons_succ, List.getD_cons_zero, List.getD_cons_succ, List.getD_nil, Bool.not_true, Bool.not_false, decide_true, decide_false]
          exact no (fun h => h.1.2 h4) _ hp
        · have hl' : a.length = b.length := by omega
          obtain ⟨hn, ha⟩ := ha
          have hc : Cmp n a b := ⟨⟨hn, h4⟩, ha, hb, hl'⟩
          refine CallH.by (Equal_c v w a b H2 hra hrb hlen) ?_
          rintro _ _ ⟨rfl, rfl⟩
          simp (maxSteps := 1000000) (disch := omega) only [S, S1, S2, S3, S4, ST, eq_self, ne_eq, not_true_eq_false, not_false_eq_true, and_self, true_and, and_true, reduceIte, reduceCtorEq, Nat.reduceEqDiff, Nat.reduceAdd, Nat.zero_add, Nat.add_zero, Option.map_none, Option.map_some, List.map_cons, List.map_nil, List.append_nil, List.cons_append, List.nil_append, List.getElem?_cons_zero, List.getElem?_cons_succ, List.getD_cons_zero, List.getD_cons_succ, List.getD_nil, Bool.not_true, Bool.not_false, decide_true, decide_false]
          refine brD.intro (fun he => ?_) (fun he => ?_) <;> simp (maxSteps := 1000000) (disch := omega) only [S, S1, S2, S3, S4, ST, eq_self, ne_eq, not_true_eq_false, not_false_eq_true, and_self, true_and, and_true, reduceIte, reduceCtorEq, Nat.reduceEqDiff, Nat.reduceAdd, Nat.zero_add, Nat.add_zero, Option.map_none, Option.map_some, List.map_cons, List.map_nil, List.append_nil, List.cons_append, List.nil_append, List.getElem?_cons_zero, List.getElem?_cons_succ, List.getD_cons_zero, List.getD_cons_succ, List.getD_nil, Bool.not_true, Bool.not_false, decide_true, decide_false]
          · refine hQ _ _ _ ?_
            simp (maxSteps := 1000000) (disch := omega) only [S, S1, S2, S3, S4, ST, eq_self, ne_eq, not_true_eq_false, not_false_eq_true, and_self, true_and, and_true, reduceIte, reduceCtorEq, Nat.reduceEqDiff, Nat.reduceAdd, Nat.zero_add, Nat.add_zero, Option.map_none, Option.map_some, List.map_cons, List.map_nil, List.append_nil, List.cons_append, List.nil_append, List.getElem?_cons_zero, List.getElem?_cons_succ, List.getD_cons_zero, List.getD_cons_succ, List.getD_nil, Bool.not_true, Bool.not_false, decide_true, decide_false]
            have : Cls n a b := .inl he
            exact ⟨by simp [hc, this], hp⟩
          · have hga := ha.lazy
            have hgb := hb.lazy
            have l1 := ha.2.2.1
            have l2 := hb.2.2.1
            refine CallH.by (windI_c n v a H2 hn hga hra) ?_
            rintro _ H3 ⟨rfl, hp3⟩
            simp (maxSteps := 1000000) (disch := omega) only [S, S1, S2, S3, S4, ST, eq_self, ne_eq, not_true_eq_false, not_false_eq_true, and_self, true_and, and_true, reduceIte, reduceCtorEq, Nat.reduceEqDiff, Nat.reduceAdd, Nat.zero_add, Nat.add_zero, Option.map_none, Option.map_some, List.map_cons, List.map_nil, List.append_nil, List.cons_append, List.nil_append, List.getElem?_cons_zero, List.getElem?_cons_succ, List.getD_cons_zero, List.getD_cons_succ, List.getD_nil, Bool.not_true, Bool.not_false, decide_true, decide_false]
            refine CallH.by (windI_c n w b H3 hn hgb (hrb.pre hp3)) ?_
            rintro _ H4 ⟨rfl, hp4⟩
            have hq := (hp.trans hp3).trans hp4
            simp (maxSteps := 1000000) (disch := omega) only [S, S1, S2, S3, S4, ST, eq_self, ne_eq, not_true_eq_false, not_false_eq_true, and_self, true_and, and_true, reduceIte, reduceCtorEq, Nat.reduceEqDiff, Nat.reduceAdd, Nat.zero_add, Nat.add_zero, Option.map_none, Option.map_some, List.map_cons, List.map_nil, List.append_nil, List.cons_append, List.nil_append, List.getElem?_cons_zero, List.getElem?_cons_succ, List.getD_cons_zero, List.getD_cons_succ, List.getD_nil, Bool.not_true, Bool.not_false, decide_true, decide_false]
            refine brD.intro (fun hw => ?_) (fun hw => ?_) <;> simp (maxSteps := 1000000) (disch := omega) only [hw, S, S1, S2, S3, S4, ST, eq_self, ne_eq, not_true_eq_false, not_false_eq_true, and_self, true_and, and_true, reduceIte, reduceCtorEq, Nat.reduceEqDiff, Nat.reduceAdd, Nat.zero_add, Nat.add_zero, Option.map_none, Option.map_some, List.map_cons, List.map_nil, List.append_nil, List.cons_append, List.nil_append, List.getElem?_cons_zero, List.getElem?_cons_succ, List.getD_cons_zero, List.getD_cons_succ, List.getD_nil, Bool.not_true, Bool.not_false, decide_true, decide_false]
            · refine CallH.by (slackI_c n v a H4 hn hga (hr.pre hq)) ?_
              rintro _ H5 ⟨rfl, hp5⟩
              simp (maxSteps := 1000000) (disch := omega) only [S, S1, S2, S3, S4, ST, eq_self, ne_eq, not_true_eq_false, not_false_eq_true, and_self, true_and, and_true, reduceIte, reduceCtorEq, Nat.reduceEqDiff, Nat.reduceAdd, Nat.zero_add, Nat.add_zero, Option.map_none, Option.map_some, List.map_cons, List.map_nil, List.append_nil, List.cons_append, List.nil_append, List.getElem?_cons_zero, List.getElem?_cons_succ, List.getD_cons_zero, List.getD_cons_succ, List.getD_nil, Bool.not_true, Bool.not_false, decide_true, decide_false]
              have hrp := hr.pre (hq.trans hp5)
              have hr2p := hr2.pre (hq.trans hp5)
              have hca : cellA H5 (rowO v) (rowK v) = some (.int .i64 (a.getD 0 0)) := hrp.cell (j := 0) (by omega)
              have hcb : cellA H5 (rowO w) (rowK w) = some (.int .i64 (b.getD 0 0)) := hr2p.cell (j := 0) (by omega)
              refine brD.intro (fun hs => ?_) (fun hs => ?_) <;> simp (maxSteps := 1000000) (disch := omega) only [hw, hs, S, S1, S2, S3, S4, ST, eq_self, ne_eq, not_true_eq_false, not_false_eq_true, and_self, true_and, and_true, reduceIte, reduceCtorEq, Nat.reduceEqDiff, Nat.reduceAdd, Nat.zero_add, Nat.add_zero, Option.map_none, Option.map_some, List.map_cons, List.map_nil, List.append_nil, List.cons_append, List.nil_append, List.getElem?_cons_zero, List.getElem?_cons_succ, List.getD_cons_zero, List.getD_cons_succ, List.getD_nil, Bool.not_true, Bool.not_false, decide_true, decide_false]
              · refine brD.intro (fun hd => ?_) (fun hd => ?_) <;> simp (maxSteps := 1000000) (disch := omega) only [hw, hs, hd, hrp.ix Try.underlying25 cs3, hr2p.ix Try.underlying25 cs3, hca, hcb, Int.toNat_zero, wrap64, S, S1, S2, S3, S4, ST, eq_self, ne_eq, not_true_eq_false, not_false_eq_true, and_self, true_and, and_true, reduceIte, reduceCtorEq, Nat.reduceEqDiff, Nat.reduceAdd, Nat.zero_add, Nat.add_zero, Option.map_none, Option.map_some, List.map_cons, List.map_nil, List.append_nil, List.cons_append, List.nil_append, List.getElem?_cons_zero, List.getElem?_cons_succ, List.getD_cons_zero, List.getD_cons_succ, List.getD_nil, Bool.not_true, Bool.not_false, decide_true, decide_false]
                · refine hQ _ _ _ ?_
                  simp (maxSteps := 1000000) (disch := omega) only [S, S1, S2, S3, S4, ST, eq_self, ne_eq, not_true_eq_false, not_false_eq_true, and_self, true_and, and_true, reduceIte, reduceCtorEq, Nat.reduceEqDiff, Nat.reduceAdd, Nat.zero_add, Nat.add_zero, Option.map_none, Option.map_some, List.map_cons, List.map_nil, List.append_nil, List.cons_append, List.nil_append, List.getElem?_cons_zero, List.getElem?_cons_succ, List.getD_cons_zero, List.getD_cons_succ, List.getD_nil, Bool.not_true, Bool.not_false, decide_true, decide_false]
                  have : Cls n a b := .inr ⟨hw, hs, .inl hd⟩
                  exact ⟨by simp [hc, this], hq.trans hp5⟩
                · refine hQ _ _ _ ?_
                  simp (maxSteps := 1000000) (disch := omega) only [S, S1, S2, S3, S4, ST, eq_self, ne_eq, not_true_eq_false, not_false_eq_true, and_self, true_and, and_true, reduceIte, reduceCtorEq, Nat.reduceEqDiff, Nat.reduceAdd, Nat.zero_add, Nat.add_zero, Option.map_none, Option.map_some, List.map_cons, List.map_nil, List.append_nil, List.cons_append, List.nil_append, List.getElem?_cons_zero, List.getElem?_cons_succ, List.getD_cons_zero, List.getD_cons_succ, List.getD_nil, Bool.not_true, Bool.not_false, decide_true, decide_false]
                  refine ⟨?_, hq.trans hp5⟩
                  have e1 : ((a.getD 0 0).tmod 2 = (b.getD 0 0).tmod 2) ↔ Cls n a b := by
                    constructor
                    · intro h; exact .inr ⟨hw, hs, .inr h⟩
                    · rintro (h | ⟨_, _, h | h⟩)
                      · exact absurd h he
                      · exact absurd h hd
                      · exact h
                  simp only [hc, e1, true_and, decide_true]
              · refine hQ _ _ _ ?_
                simp (maxSteps := 1000000) (disch := omega) only [S, S1, S2, S3, S4, ST, eq_self, ne_eq, not_true_eq_false, not_false_eq_true, and_self, true_and, and_true, reduceIte, reduceCtorEq, Nat.reduceEqDiff, Nat.reduceAdd, Nat.zero_add, Nat.add_zero, Option.map_none, Option.map_some, List.map_cons, List.map_nil, List.append_nil, List.cons_append, List.nil_append, List.getElem?_cons_zero, List.getElem?_cons_succ, List.getD_cons_zero, List.getD_cons_succ, List.getD_nil, Bool.not_true, Bool.not_false, decide_true, decide_false]
                refine ⟨?_, hq.trans hp5⟩
                have : ¬ Cls n a b := by
                  rintro (h | ⟨_, h, _⟩)
                  · exact he h
                  · exact hs h
                simp [hc, this]
            · refine hQ _ _ _ ?_
              simp (maxSteps := 1000000) (disch := omega) only [S, S1, S2, S3, S4, ST, eq_self, ne_eq, not_true_eq_false, not_false_eq_true, and_self, true_and, and_true, reduceIte, reduceCtorEq, Nat.reduceEqDiff, Nat.reduceAdd, Nat.zero_add, Nat.add_zero, Option.map_none, Option.map_some, List.map_cons, List.map_nil, List.append_nil, List.cons_append, List.nil_append, List.getElem?_cons_zero, List.getElem?_cons_succ, List.getD_cons_zero, List.getD_cons_succ, List.getD_nil, Bool.not_true, Bool.not_false, decide_true, decide_false]
              refine ⟨?_, hq⟩
              have : ¬ Cls n a b := by
                rintro (h | ⟨h, _, _⟩)
                · exact he h
                · exact hw h
              simp [hc, this]
    · refine hQ _ _ _ ?_
      simp (maxSteps := 1000000) (disch := omega) only [S, S1, S2, S3, S4, ST, eq_self, ne_eq, not_true_eq_false, not_false_eq_true, and_self, true_and, and_true, reduceIte, reduceCtorEq, Nat.reduceEqDiff, Nat.reduceAdd, Nat.zero_add, Nat.add_zero, Option.map_none, Option.map_some, List.map_cons, List.map_nil, List.append_nil, List.cons_append, List.nil_append, List.getElem?_cons_zero, List.getElem?_cons_succ, List.getD_cons_zero, List.getD_cons_succ, List.getD_nil, Bool.not_true, Bool.not_false, decide_true, decide_false]
      exact no (fun h => hb h.2.2.1) _ hp
  · refine hQ _ _ _ ?_
    simp (maxSteps := 1000000) (disch := omega) only [S, S1, S2, S3, S4, ST, eq_self, ne_eq, not_true_eq_false, not_false_eq_true, and_self, true_and, and_true, reduceIte, reduceCtorEq, Nat.reduceEqDiff, Nat.reduceAdd, Nat.zero_add, Nat.add_zero, Option.map_none, Option.map_some, List.map_cons, List.map_nil, List.append_nil, List.cons_append, List.nil_append, List.getElem?_cons_zero, List.getElem?_cons_succ, List.getD_cons_zero, List.getD_cons_succ, List.getD_nil, Bool.not_true, Bool.not_false, decide_true, decide_false]
    exact no (fun h => ha ⟨h.1.1, h.2.1⟩) _ hp
end Go.Proofs.Ytedlnjcfacadgaa.Ai
