/- BackWalk, both sides. -/
import Derived.Test.YtedlnjcfacadgaaWind
import Derived.Test.YtedlnjcfacadgaaCdBack
namespace Go.Proofs.Ytedlnjcfacadgaa.Ai
open Go Go.RowKit
set_option linter.unusedVariables false
set_option linter.unusedSimpArgs false

theorem Clone_c (v : Value) (xs : List Int) (H : AH) (hr : Row 3 H v xs) (hlen : xs.length ≤ 1099511627776) : ACalls Try.prog 61 [v] H fun r H' => Own 3 H H' r xs ∧ H <+: H' := by
  refine in61 rfl ?_
  intro Q hQ
  obtain ⟨p, e⟩ := hr.shape
  subst e
  simp (maxSteps := 1000000) (disch := omega) only [cd61, S, S1, S2, S3, S4, ST, eq_self, ne_eq, not_true_eq_false, not_false_eq_true, and_self, true_and, and_true, reduceIte, reduceCtorEq, Nat.reduceEqDiff, Nat.reduceAdd, Nat.zero_add, Nat.add_zero, Option.map_none, Option.map_some, List.map_cons, List.map_nil, List.append_nil, List.cons_append, List.nil_append, List.getElem?_cons_zero, List.getElem?_cons_succ, List.getD_cons_zero, List.getD_cons_succ, List.getD_nil, Bool.not_true, Bool.not_false, decide_true, decide_false]
  refine brH.intro (fun g => ?_) (fun g => ?_) <;> simp (maxSteps := 1000000) (disch := omega) only [S, S1, S2, S3, S4, ST, eq_self, ne_eq, not_true_eq_false, not_false_eq_true, and_self, true_and, and_true, reduceIte, reduceCtorEq, Nat.reduceEqDiff, Nat.reduceAdd, Nat.zero_add, Nat.add_zero, Option.map_none, Option.map_some, List.map_cons, List.map_nil, List.append_nil, List.cons_append, List.nil_append, List.getElem?_cons_zero, List.getElem?_cons_succ, List.getD_cons_zero, List.getD_cons_succ, List.getD_nil, Bool.not_true, Bool.not_false, decide_true, decide_false]
  · refine hQ _ _ _ ?_
    simp (maxSteps := 1000000) (disch := omega) only [S, S1, S2, S3, S4, ST, eq_self, ne_eq, not_true_eq_false, not_false_eq_true, and_self, true_and, and_true, reduceIte, reduceCtorEq, Nat.reduceEqDiff, Nat.reduceAdd, Nat.zero_add, Nat.add_zero, Option.map_none, Option.map_some, List.map_cons, List.map_nil, List.append_nil, List.cons_append, List.nil_append, List.getElem?_cons_zero, List.getElem?_cons_succ, List.getD_cons_zero, List.getD_cons_succ, List.getD_nil, Bool.not_true, Bool.not_false, decide_true, decide_false]
    have : xs = [] := by
      rcases hr with h | ⟨o, k, vs, ro, h1, _⟩
      · exact h.2
      · cases p with
        | none => cases h1
        | some p => cases g
    exact ⟨.inl ⟨rfl, this⟩, List.prefix_refl _⟩
  · have hp := List.prefix_append H [AObj.cells [] 3 false]
    have ho : Own 3 H (H ++ [AObj.cells [] 3 false]) (.slice (some ⟨H.length, 0, none⟩) 0 0) [] := .inr ⟨H.length, rfl, Nat.le_refl _, at_new ..⟩
    obtain ⟨v', H2, k1, k2, k3, _⟩ := ho.app (P := Try.prog) (t := 25) Try.underlying25 cs3 (by rw [by3]; decide) zk3 (hr.pre hp) hp (by simp; omega)
    simp (maxSteps := 1000000) (disch := omega) only [k1, S, S1, S2, S3, S4, ST, eq_self, ne_eq, not_true_eq_false, not_false_eq_true, and_self, true_and, and_true, reduceIte, reduceCtorEq, Nat.reduceEqDiff, Nat.reduceAdd, Nat.zero_add, Nat.add_zero, Option.map_none, Option.map_some, List.map_cons, List.map_nil, List.append_nil, List.cons_append, List.nil_append, List.getElem?_cons_zero, List.getElem?_cons_succ, List.getD_cons_zero, List.getD_cons_succ, List.getD_nil, Bool.not_true, Bool.not_false, decide_true, decide_false]
    refine hQ _ _ _ ?_
    simp (maxSteps := 1000000) (disch := omega) only [k2.row.tup, S, S1, S2, S3, S4, ST, eq_self, ne_eq, not_true_eq_false, not_false_eq_true, and_self, true_and, and_true, reduceIte, reduceCtorEq, Nat.reduceEqDiff, Nat.reduceAdd, Nat.zero_add, Nat.add_zero, Option.map_none, Option.map_some, List.map_cons, List.map_nil, List.append_nil, List.cons_append, List.nil_append, List.getElem?_cons_zero, List.getElem?_cons_succ, List.getD_cons_zero, List.getD_cons_succ, List.getD_nil, Bool.not_true, Bool.not_false, decide_true, decide_false]
    exact ⟨k2, k3⟩

set_option maxHeartbeats 1000000 in
theorem Reverse_c (v : Value) (xs : List Int) (H0 H : AH) (ho : Own 3 H0 H v xs) (hlen : xs.length ≤ 1099511627776) : ACalls Try.prog 62 [v] H fun r H' => Own 3 H0 H' v xs.reverse ∧ Else v H H' := by
  refine in62 rfl ?_
  intro Q hQ
  rcases ho with ⟨rfl, rfl⟩ | ⟨o, rfl, hoo, hc⟩
  · simp (maxSteps := 1000000) (disch := omega) only [cd62, wrap64, S, S1, S2, S3, S4, ST, eq_self, ne_eq, not_true_eq_false, not_false_eq_true, and_self, true_and, and_true, reduceIte, reduceCtorEq, Nat.reduceEqDiff, Nat.reduceAdd, Nat.zero_add, Nat.add_zero, Option.map_none, Option.map_some, List.map_cons, List.map_nil, List.append_nil, List.cons_append, List.nil_append, List.getElem?_cons_zero, List.getElem?_cons_succ, List.getD_cons_zero, List.getD_cons_succ, List.getD_nil, Bool.not_true, Bool.not_false, decide_true, decide_false]
    refine LoopH.by (fun m s H' => s 2 = .int .i64 0 ∧ s 3 = .int .i64 (-1) ∧ H = H') 0 ?_ ?_
    · exact ⟨rfl, by simp [S, S1, S2, S3, S4, ST, eq_self, ne_eq, not_true_eq_false, not_false_eq_true, and_self, true_and, and_true, reduceIte, reduceCtorEq, Nat.reduceEqDiff, Nat.reduceAdd, Nat.zero_add, Nat.add_zero, Option.map_none, Option.map_some, List.map_cons, List.map_nil, List.append_nil, List.cons_append, List.nil_append, List.getElem?_cons_zero, List.getElem?_cons_succ, List.getD_cons_zero, List.getD_cons_succ, List.getD_nil, Bool.not_true, Bool.not_false, decide_true, decide_false], rfl⟩
    · rintro m s H' ⟨h2, h3, rfl⟩
      simp (maxSteps := 1000000) (disch := omega) only [h2, h3, S, S1, S2, S3, S4, ST, eq_self, ne_eq, not_true_eq_false, not_false_eq_true, and_self, true_and, and_true, reduceIte, reduceCtorEq, Nat.reduceEqDiff, Nat.reduceAdd, Nat.zero_add, Nat.add_zero, Option.map_none, Option.map_some, List.map_cons, List.map_nil, List.append_nil, List.cons_append, List.nil_append, List.getElem?_cons_zero, List.getElem?_cons_succ, List.getD_cons_zero, List.getD_cons_succ, List.getD_nil, Bool.not_true, Bool.not_false, decide_true, decide_false]
      refine brD.intro (fun g => absurd g (by decide)) (fun _ => ?_)
      simp (maxSteps := 1000000) (disch := omega) only [S, S1, S2, S3, S4, ST, eq_self, ne_eq, not_true_eq_false, not_false_eq_true, and_self, true_and, and_true, reduceIte, reduceCtorEq, Nat.reduceEqDiff, Nat.reduceAdd, Nat.zero_add, Nat.add_zero, Option.map_none, Option.map_some, List.map_cons, List.map_nil, List.append_nil, List.cons_append, List.nil_append, List.getElem?_cons_zero, List.getElem?_cons_succ, List.getD_cons_zero, List.getD_cons_succ, List.getD_nil, Bool.not_true, Bool.not_false, decide_true, decide_false]
      refine hQ _ _ _ ?_
      simp (maxSteps := 1000000) (disch := omega) only [S, S1, S2, S3, S4, ST, eq_self, ne_eq, not_true_eq_false, not_false_eq_true, and_self, true_and, and_true, reduceIte, reduceCtorEq, Nat.reduceEqDiff, Nat.reduceAdd, Nat.zero_add, Nat.add_zero, Option.map_none, Option.map_some, List.map_cons, List.map_nil, List.append_nil, List.cons_append, List.nil_append, List.getElem?_cons_zero, List.getElem?_cons_succ, List.getD_cons_zero, List.getD_cons_succ, List.getD_nil, Bool.not_true, Bool.not_false, decide_true, decide_false]
      exact ⟨.inl ⟨rfl, rfl⟩, Else.refl _ _⟩
  · simp (maxSteps := 1000000) (disch := omega) only [cd62, wrap64, S, S1, S2, S3, S4, ST, eq_self, ne_eq, not_true_eq_false, not_false_eq_true, and_self, true_and, and_true, reduceIte, reduceCtorEq, Nat.reduceEqDiff, Nat.reduceAdd, Nat.zero_add, Nat.add_zero, Option.map_none, Option.map_some, List.map_cons, List.map_nil, List.append_nil, List.cons_append, List.nil_append, List.getElem?_cons_zero, List.getElem?_cons_succ, List.getD_cons_zero, List.getD_cons_succ, List.getD_nil, Bool.not_true, Bool.not_false, decide_true, decide_false]
    refine LoopH.by (fun m s H' => ∃ i ys, m + i = xs.length ∧ s 0 = .slice (some ⟨o, 0, none⟩) xs.length xs.length ∧ s 2 = .int .i64 ((i : Nat) : Int) ∧ s 3 = .int .i64 ((xs.length : Int) - 1 - (i : Nat)) ∧ H' = H.set o (.cells (ints ys) 3 false) ∧ ys.length = xs.length ∧ ∀ k, k < xs.length → ys.getD k 0 = if k < i ∨ xs.length ≤ k + i then xs.getD (xs.length - 1 - k) 0 else xs.getD k 0) xs.length ?_ ?_
    · refine ⟨0, xs, by simp, rfl, rfl, by simp [S, S1, S2, S3, S4, ST, eq_self, ne_eq, not_true_eq_false, not_false_eq_true, and_self, true_and, and_true, reduceIte, reduceCtorEq, Nat.reduceEqDiff, Nat.reduceAdd, Nat.zero_add, Nat.add_zero, Option.map_none, Option.map_some, List.map_cons, List.map_nil, List.append_nil, List.cons_append, List.nil_append, List.getElem?_cons_zero, List.getElem?_cons_succ, List.getD_cons_zero, List.getD_cons_succ, List.getD_nil, Bool.not_true, Bool.not_false, decide_true, decide_false], ?_, rfl, ?_⟩
      · apply List.ext_getElem?
        intro j
        rw [List.getElem?_set]
        by_cases hj : o = j
        · subst hj; rw [if_pos rfl, if_pos (at_lt hc), hc]
        · rw [if_neg hj]
      · intro k hk; rw [if_neg (by omega)]
    · rintro m s H' ⟨i, ys, hm, h0, h2, h3, rfl, hyl, hy⟩
      have hc' : (H.set o (.cells (ints ys) 3 false))[o]? = some (.cells (ints ys) 3 false) := at_set hc
      simp (maxSteps := 1000000) (disch := omega) only [h0, h2, h3, S, S1, S2, S3, S4, ST, eq_self, ne_eq, not_true_eq_false, not_false_eq_true, and_self, true_and, and_true, reduceIte, reduceCtorEq, Nat.reduceEqDiff, Nat.reduceAdd, Nat.zero_add, Nat.add_zero, Option.map_none, Option.map_some, List.map_cons, List.map_nil, List.append_nil, List.cons_append, List.nil_append, List.getElem?_cons_zero, List.getElem?_cons_succ, List.getD_cons_zero, List.getD_cons_succ, List.getD_nil, Bool.not_true, Bool.not_false, decide_true, decide_false]
      refine brD.intro (fun g => ?_) (fun g => ?_)
      · have hi : i < xs.length := by omega
        have hj : ((xs.length : Int) - 1 - (i : Nat)).toNat = xs.length - 1 - i := by omega
        have st1 : ∀ x, storeA Try.prog 3 (.pointer (some ⟨o, i, none⟩)) (.int .i64 x) (H.set o (.cells (ints ys) 3 false)) = some (H.set o (.cells (ints (ys.set i x)) 3 false)) := by
          intro x; rw [st_ints cs3 hc' (by omega), List.set_set]
        have st2 : ∀ x y, storeA Try.prog 3 (.pointer (some ⟨o, xs.length - 1 - i, none⟩)) (.int .i64 x) (H.set o (.cells (ints (ys.set i y)) 3 false)) = some (H.set o (.cells (ints ((ys.set i y).set (xs.length - 1 - i) x)) 3 false)) := by
          intro x y
          have : (H.set o (.cells (ints (ys.set i y)) 3 false))[o]? = some (.cells (ints (ys.set i y)) 3 false) := at_set hc
          rw [st_ints cs3 this (by simp; omega), List.set_set]
        have c1 : cellA (H.set o (.cells (ints ys) 3 false)) o (xs.length - 1 - i) = some (.int .i64 (ys.getD (xs.length - 1 - i) 0)) := cell_ints hc' (by omega)
        have c2 : cellA (H.set o (.cells (ints ys) 3 false)) o i = some (.int .i64 (ys.getD i 0)) := cell_ints hc' (by omega)
        simp (maxSteps := 1000000) (disch := omega) only [h0, h2, h3, Int.toNat_natCast, Nat.zero_add, hj, c1, c2, st1, st2, wrap64, S, S1, S2, S3, S4, ST, eq_self, ne_eq, not_true_eq_false, not_false_eq_true, and_self, true_and, and_true, reduceIte, reduceCtorEq, Nat.reduceEqDiff, Nat.reduceAdd, Nat.zero_add, Nat.add_zero, Option.map_none, Option.map_some, List.map_cons, List.map_nil, List.append_nil, List.cons_append, List.nil_append, List.getElem?_cons_zero, List.getElem?_cons_succ, List.getD_cons_zero, List.getD_cons_succ, List.getD_nil, Bool.not_true, Bool.not_false, decide_true, decide_false]
        have e1 : ((ys.set i (ys.getD (xs.length - 1 - i) 0)).set (xs.length - 1 - i) (ys.getD i 0)).length = xs.length := by simp [hyl]
        have e2 : ∀ k, k < xs.length → ((ys.set i (ys.getD (xs.length - 1 - i) 0)).set (xs.length - 1 - i) (ys.getD i 0)).getD k 0 = if k < i + 1 ∨ xs.length ≤ k + (i + 1) then xs.getD (xs.length - 1 - k) 0 else xs.getD k 0 := by
          intro k hk
          rw [List.getD_eq_getElem?_getD, List.getElem?_set, List.getElem?_set]
          have y1 := hy i hi
          have y2 := hy (xs.length - 1 - i) (by omega)
          rw [if_neg (by omega)] at y1 y2
          by_cases k1 : xs.length - 1 - i = k
          · subst k1
            rw [if_pos rfl, if_pos (by simp; omega), if_pos (by omega), Option.getD_some, y1, show xs.length - 1 - (xs.length - 1 - i) = i by omega]
          · rw [if_neg k1]
            by_cases k2 : i = k
            · subst k2
              rw [if_pos rfl, if_pos (by omega), if_pos (by omega), Option.getD_some, y2]
            · rw [if_neg k2, ← List.getD_eq_getElem?_getD, hy k hk]
              by_cases k3 : k < i ∨ xs.length ≤ k + i
              · rw [if_pos k3, if_pos (by omega)]
              · rw [if_neg k3, if_neg (by omega)]
        refine ⟨m - 1, by omega, i + 1, (ys.set i (ys.getD (xs.length - 1 - i) 0)).set (xs.length - 1 - i) (ys.getD i 0), ?_⟩
        (repeat' apply And.intro) <;> first | rfl | trivial | assumption | omega | (simp only [Value.int.injEq, true_and]; omega) | (simp; done) | (simp; omega) | exact e1 | exact e2
      · simp (maxSteps := 1000000) (disch := omega) only [S, S1, S2, S3, S4, ST, eq_self, ne_eq, not_true_eq_false, not_false_eq_true, and_self, true_and, and_true, reduceIte, reduceCtorEq, Nat.reduceEqDiff, Nat.reduceAdd, Nat.zero_add, Nat.add_zero, Option.map_none, Option.map_some, List.map_cons, List.map_nil, List.append_nil, List.cons_append, List.nil_append, List.getElem?_cons_zero, List.getElem?_cons_succ, List.getD_cons_zero, List.getD_cons_succ, List.getD_nil, Bool.not_true, Bool.not_false, decide_true, decide_false]
        refine hQ _ _ _ ?_
        simp (maxSteps := 1000000) (disch := omega) only [S, S1, S2, S3, S4, ST, eq_self, ne_eq, not_true_eq_false, not_false_eq_true, and_self, true_and, and_true, reduceIte, reduceCtorEq, Nat.reduceEqDiff, Nat.reduceAdd, Nat.zero_add, Nat.add_zero, Option.map_none, Option.map_some, List.map_cons, List.map_nil, List.append_nil, List.cons_append, List.nil_append, List.getElem?_cons_zero, List.getElem?_cons_succ, List.getD_cons_zero, List.getD_cons_succ, List.getD_nil, Bool.not_true, Bool.not_false, decide_true, decide_false]
        have : ys = xs.reverse := by
          apply List.ext_getElem?
          intro k
          by_cases hk : k < xs.length
          · have h := hy k hk
            rw [List.getElem?_reverse hk, List.getElem?_eq_getElem (by omega), List.getElem?_eq_getElem (by omega)]
            rw [List.getD_eq_getElem?_getD, List.getElem?_eq_getElem (by omega), Option.getD_some] at h
            rw [h]
            by_cases k1 : k < i ∨ xs.length ≤ k + i
            · rw [if_pos k1, List.getD_eq_getElem?_getD, List.getElem?_eq_getElem (by omega), Option.getD_some]
            · rw [if_neg k1, List.getD_eq_getElem?_getD, List.getElem?_eq_getElem (by omega), Option.getD_some]
              have : k = xs.length - 1 - k := by omega
              congr 1
              simp only [← this]
          · rw [List.getElem?_eq_none (by omega), List.getElem?_eq_none (by simp; omega)]
        rw [← this]
        exact ⟨.inr ⟨o, by rw [hyl], hoo, hc'⟩, Else.set _ _⟩

def backR (n : Int) (l : List Int) : List Int := if (3 ≤ n ∧ n ≤ 8) ∧ Wk n true l then l.reverse else []
theorem backR_len (n : Int) (l : List Int) (h : l.length ≤ 1099511627776) : (backR n l).length ≤ 1099511627776 := by
  unfold backR; split <;> simp <;> omega

set_option maxHeartbeats 1000000 in
theorem BackS_c (n : Int) (v : Value) (l : List Int) (H : AH) (hr : Row 3 H v l) (hlen : l.length ≤ 1099511627776) (hxs : ∀ y ∈ l, I64 y) :
    ACalls Try.prog 34 [.int .i64 n, v] H fun r H' => ∃ g, r = .tuple (List.toArray [g, .bool (decide ((3 ≤ n ∧ n ≤ 8) ∧ Wk n true l))]) ∧ Mine 3 H H' g (backR n l) ∧ H <+: H' := by
  refine in34 rfl ?_
  intro Q hQ
  have hp0 := List.prefix_append H [AObj.cells [] 3 false]
  have hown0 : Own 3 H (H ++ [AObj.cells [] 3 false]) (.slice (some ⟨H.length, 0, none⟩) 0 0) [] := .inr ⟨H.length, rfl, Nat.le_refl _, at_new ..⟩
  have hr0 := hr.pre hp0
  simp (maxSteps := 1000000) (disch := omega) only [cd34, S, S1, S2, S3, S4, ST, eq_self, ne_eq, not_true_eq_false, not_false_eq_true, and_self, true_and, and_true, reduceIte, reduceCtorEq, Nat.reduceEqDiff, Nat.reduceAdd, Nat.zero_add, Nat.add_zero, Option.map_none, Option.map_some, List.map_cons, List.map_nil, List.append_nil, List.cons_append, List.nil_append, List.getElem?_cons_zero, List.getElem?_cons_succ, List.getD_cons_zero, List.getD_cons_succ, List.getD_nil, Bool.not_true, Bool.not_false, decide_true, decide_false]
  refine CallH.by (l10Closed_c n v l _ hr0 hlen) ?_
  rintro _ _ ⟨rfl, rfl⟩
  simp (maxSteps := 1000000) (disch := omega) only [S, S1, S2, S3, S4, ST, eq_self, ne_eq, not_true_eq_false, not_false_eq_true, and_self, true_and, and_true, reduceIte, reduceCtorEq, Nat.reduceEqDiff, Nat.reduceAdd, Nat.zero_add, Nat.add_zero, Option.map_none, Option.map_some, List.map_cons, List.map_nil, List.append_nil, List.cons_append, List.nil_append, List.getElem?_cons_zero, List.getElem?_cons_succ, List.getD_cons_zero, List.getD_cons_succ, List.getD_nil, Bool.not_true, Bool.not_false, decide_true, decide_false]
  refine brD.intro (fun h => ?_) (fun h => ?_) <;> simp (maxSteps := 1000000) (disch := omega) only [h, hr0.len Try.underlying25, wrap64, S, S1, S2, S3, S4, ST, eq_self, ne_eq, not_true_eq_false, not_false_eq_true, and_self, true_and, and_true, reduceIte, reduceCtorEq, Nat.reduceEqDiff, Nat.reduceAdd, Nat.zero_add, Nat.add_zero, Option.map_none, Option.map_some, List.map_cons, List.map_nil, List.append_nil, List.cons_append, List.nil_append, List.getElem?_cons_zero, List.getElem?_cons_succ, List.getD_cons_zero, List.getD_cons_succ, List.getD_nil, Bool.not_true, Bool.not_false, decide_true, decide_false]
  · have h24 := h.2.2.2.2
    refine LoopH.by (fun m s H' => ∃ i, m + i = l.length ∧ s 1 = v ∧ s 7 = .int .i64 ((m : Int) - 1) ∧ Own 3 H H' (s 6) (l.reverse.take i) ∧ H <+: H') l.length ?_ ?_
    · refine ⟨0, by simp, rfl, by simp [S, S1, S2, S3, S4, ST, eq_self, ne_eq, not_true_eq_false, not_false_eq_true, and_self, true_and, and_true, reduceIte, reduceCtorEq, Nat.reduceEqDiff, Nat.reduceAdd, Nat.zero_add, Nat.add_zero, Option.map_none, Option.map_some, List.map_cons, List.map_nil, List.append_nil, List.cons_append, List.nil_append, List.getElem?_cons_zero, List.getElem?_cons_succ, List.getD_cons_zero, List.getD_cons_succ, List.getD_nil, Bool.not_true, Bool.not_false, decide_true, decide_false], ?_, hp0⟩
      simp (maxSteps := 1000000) (disch := omega) only [S, S1, S2, S3, S4, ST, eq_self, ne_eq, not_true_eq_false, not_false_eq_true, and_self, true_and, and_true, reduceIte, reduceCtorEq, Nat.reduceEqDiff, Nat.reduceAdd, Nat.zero_add, Nat.add_zero, Option.map_none, Option.map_some, List.map_cons, List.map_nil, List.append_nil, List.cons_append, List.nil_append, List.getElem?_cons_zero, List.getElem?_cons_succ, List.getD_cons_zero, List.getD_cons_succ, List.getD_nil, Bool.not_true, Bool.not_false, decide_true, decide_false]; simp only [List.take_zero]; exact hown0
    · rintro m s H' ⟨i, hm, h1, h7, hown, hpp⟩
      have hr' := hr.pre hpp
      generalize hw : s 6 = w at *
      simp (maxSteps := 1000000) (disch := omega) only [h1, h7, hw, S, S1, S2, S3, S4, ST, eq_self, ne_eq, not_true_eq_false, not_false_eq_true, and_self, true_and, and_true, reduceIte, reduceCtorEq, Nat.reduceEqDiff, Nat.reduceAdd, Nat.zero_add, Nat.add_zero, Option.map_none, Option.map_some, List.map_cons, List.map_nil, List.append_nil, List.cons_append, List.nil_append, List.getElem?_cons_zero, List.getElem?_cons_succ, List.getD_cons_zero, List.getD_cons_succ, List.getD_nil, Bool.not_true, Bool.not_false, decide_true, decide_false]
      refine brD.intro (fun g => ?_) (fun g => ?_)
      · have hj : ((m : Int) - 1).toNat = m - 1 := by omega
        have hst : l.reverse.take (i + 1) = l.reverse.take i ++ [l.getD (m - 1) 0] := by
          rw [List.take_add_one, List.getElem?_reverse (by omega), show l.length - 1 - i = m - 1 by omega]
          simp [show m - 1 < l.length by omega]
        obtain ⟨w', H2, k1, k2, k3, k4, k5, k6⟩ := own1_25 hown hpp (by simp; omega) (l.getD (m - 1) 0)
        rw [← hst] at k2
        simp (maxSteps := 1000000) (disch := omega) only [h1, h7, hw, hr'.ix Try.underlying25 cs3, hr'.cell, hj, k1, wrap64, S, S1, S2, S3, S4, ST, eq_self, ne_eq, not_true_eq_false, not_false_eq_true, and_self, true_and, and_true, reduceIte, reduceCtorEq, Nat.reduceEqDiff, Nat.reduceAdd, Nat.zero_add, Nat.add_zero, Option.map_none, Option.map_some, List.map_cons, List.map_nil, List.append_nil, List.cons_append, List.nil_append, List.getElem?_cons_zero, List.getElem?_cons_succ, List.getD_cons_zero, List.getD_cons_succ, List.getD_nil, Bool.not_true, Bool.not_false, decide_true, decide_false]
        refine ⟨m - 1, by omega, i + 1, ?_⟩
        (repeat' apply And.intro) <;> first | rfl | trivial | assumption | omega | (simp only [Value.int.injEq, true_and]; omega) | (simp; done) | (simp; omega) | exact k2 | exact k3
      · simp (maxSteps := 1000000) (disch := omega) only [h1, h7, hw, S, S1, S2, S3, S4, ST, eq_self, ne_eq, not_true_eq_false, not_false_eq_true, and_self, true_and, and_true, reduceIte, reduceCtorEq, Nat.reduceEqDiff, Nat.reduceAdd, Nat.zero_add, Nat.add_zero, Option.map_none, Option.map_some, List.map_cons, List.map_nil, List.append_nil, List.cons_append, List.nil_append, List.getElem?_cons_zero, List.getElem?_cons_succ, List.getD_cons_zero, List.getD_cons_succ, List.getD_nil, Bool.not_true, Bool.not_false, decide_true, decide_false]
        refine hQ _ _ _ ?_
        simp (maxSteps := 1000000) (disch := omega) only [hw, hown.row.tup, S, S1, S2, S3, S4, ST, eq_self, ne_eq, not_true_eq_false, not_false_eq_true, and_self, true_and, and_true, reduceIte, reduceCtorEq, Nat.reduceEqDiff, Nat.reduceAdd, Nat.zero_add, Nat.add_zero, Option.map_none, Option.map_some, List.map_cons, List.map_nil, List.append_nil, List.cons_append, List.nil_append, List.getElem?_cons_zero, List.getElem?_cons_succ, List.getD_cons_zero, List.getD_cons_succ, List.getD_nil, Bool.not_true, Bool.not_false, decide_true, decide_false]
        have e : backR n l = l.reverse := if_pos h
        have e2 : l.reverse.take i = l.reverse := List.take_of_length_le (by simp; omega)
        rw [e2] at hown
        rw [e]
        exact ⟨w, by simp [h], hown.mine, hpp⟩
  · refine hQ _ _ _ ?_
    simp (maxSteps := 1000000) (disch := omega) only [S, S1, S2, S3, S4, ST, eq_self, ne_eq, not_true_eq_false, not_false_eq_true, and_self, true_and, and_true, reduceIte, reduceCtorEq, Nat.reduceEqDiff, Nat.reduceAdd, Nat.zero_add, Nat.add_zero, Option.map_none, Option.map_some, List.map_cons, List.map_nil, List.append_nil, List.cons_append, List.nil_append, List.getElem?_cons_zero, List.getElem?_cons_succ, List.getD_cons_zero, List.getD_cons_succ, List.getD_nil, Bool.not_true, Bool.not_false, decide_true, decide_false]
    have e : backR n l = [] := if_neg h
    rw [e]
    exact ⟨_, by simp [h], hown0.mine, hp0⟩

set_option maxHeartbeats 1000000 in
theorem BackI_c (n : Int) (v : Value) (l : List Int) (H : AH) (hr : Row 3 H v l) (hlen : l.length ≤ 1099511627776) (hxs : ∀ y ∈ l, I64 y) :
    ACalls Try.prog 35 [.int .i64 n, v] H fun r H' => ∃ g, r = .tuple (List.toArray [g, .bool (decide ((3 ≤ n ∧ n ≤ 8) ∧ Wk n true l))]) ∧ Mine 3 H H' g (backR n l) ∧ H <+: H' := by
  refine in35 rfl ?_
  intro Q hQ
  simp (maxSteps := 1000000) (disch := omega) only [cd35, S, S1, S2, S3, S4, ST, eq_self, ne_eq, not_true_eq_false, not_false_eq_true, and_self, true_and, and_true, reduceIte, reduceCtorEq, Nat.reduceEqDiff, Nat.reduceAdd, Nat.zero_add, Nat.add_zero, Option.map_none, Option.map_some, List.map_cons, List.map_nil, List.append_nil, List.cons_append, List.nil_append, List.getElem?_cons_zero, List.getElem?_cons_succ, List.getD_cons_zero, List.getD_cons_succ, List.getD_nil, Bool.not_true, Bool.not_false, decide_true, decide_false]
  refine CallH.by (iClosed_c n v l true H hr hlen) ?_
  rintro _ H1 ⟨rfl, hp⟩
  simp (maxSteps := 1000000) (disch := omega) only [S, S1, S2, S3, S4, ST, eq_self, ne_eq, not_true_eq_false, not_false_eq_true, and_self, true_and, and_true, reduceIte, reduceCtorEq, Nat.reduceEqDiff, Nat.reduceAdd, Nat.zero_add, Nat.add_zero, Option.map_none, Option.map_some, List.map_cons, List.map_nil, List.append_nil, List.cons_append, List.nil_append, List.getElem?_cons_zero, List.getElem?_cons_succ, List.getD_cons_zero, List.getD_cons_succ, List.getD_nil, Bool.not_true, Bool.not_false, decide_true, decide_false]
  refine brD.intro (fun h => ?_) (fun h => ?_) <;> simp (maxSteps := 1000000) (disch := omega) only [h, S, S1, S2, S3, S4, ST, eq_self, ne_eq, not_true_eq_false, not_false_eq_true, and_self, true_and, and_true, reduceIte, reduceCtorEq, Nat.reduceEqDiff, Nat.reduceAdd, Nat.zero_add, Nat.add_zero, Option.map_none, Option.map_some, List.map_cons, List.map_nil, List.append_nil, List.cons_append, List.nil_append, List.getElem?_cons_zero, List.getElem?_cons_succ, List.getD_cons_zero, List.getD_cons_succ, List.getD_nil, Bool.not_true, Bool.not_false, decide_true, decide_false]
  · refine CallH.by (Clone_c v l H1 (hr.pre hp) hlen) ?_
    rintro w H2 ⟨hown, hp2⟩
    simp (maxSteps := 1000000) (disch := omega) only [S, S1, S2, S3, S4, ST, eq_self, ne_eq, not_true_eq_false, not_false_eq_true, and_self, true_and, and_true, reduceIte, reduceCtorEq, Nat.reduceEqDiff, Nat.reduceAdd, Nat.zero_add, Nat.add_zero, Option.map_none, Option.map_some, List.map_cons, List.map_nil, List.append_nil, List.cons_append, List.nil_append, List.getElem?_cons_zero, List.getElem?_cons_succ, List.getD_cons_zero, List.getD_cons_succ, List.getD_nil, Bool.not_true, Bool.not_false, decide_true, decide_false]
    refine CallH.by (Reverse_c w l H1 H2 hown hlen) ?_
    rintro _ H3 ⟨hown2, hel⟩
    simp (maxSteps := 1000000) (disch := omega) only [hown2.row.tup, S, S1, S2, S3, S4, ST, eq_self, ne_eq, not_true_eq_false, not_false_eq_true, and_self, true_and, and_true, reduceIte, reduceCtorEq, Nat.reduceEqDiff, Nat.reduceAdd, Nat.zero_add, Nat.add_zero, Option.map_none, Option.map_some, List.map_cons, List.map_nil, List.append_nil, List.cons_append, List.nil_append, List.getElem?_cons_zero, List.getElem?_cons_succ, List.getD_cons_zero, List.getD_cons_succ, List.getD_nil, Bool.not_true, Bool.not_false, decide_true, decide_false]
    refine hQ _ _ _ ?_
    simp (maxSteps := 1000000) (disch := omega) only [hown2.row.tup, S, S1, S2, S3, S4, ST, eq_self, ne_eq, not_true_eq_false, not_false_eq_true, and_self, true_and, and_true, reduceIte, reduceCtorEq, Nat.reduceEqDiff, Nat.reduceAdd, Nat.zero_add, Nat.add_zero, Option.map_none, Option.map_some, List.map_cons, List.map_nil, List.append_nil, List.cons_append, List.nil_append, List.getElem?_cons_zero, List.getElem?_cons_succ, List.getD_cons_zero, List.getD_cons_succ, List.getD_nil, Bool.not_true, Bool.not_false, decide_true, decide_false]
    have e : backR n l = l.reverse := if_pos h
    rw [e]
    have hp3 : H1 <+: H3 := by
      rcases hown with ⟨hw, _⟩ | ⟨o, hw, ho, hc⟩
      · exact hp2.trans (else_pre_nil hw hel)
      · exact else_pre hp2 (by rw [hw]; exact ho) hel
    exact ⟨w, by simp [h], (hown2.base hp).mine, hp.trans hp3⟩
  · refine hQ _ _ _ ?_
    simp (maxSteps := 1000000) (disch := omega) only [S, S1, S2, S3, S4, ST, eq_self, ne_eq, not_true_eq_false, not_false_eq_true, and_self, true_and, and_true, reduceIte, reduceCtorEq, Nat.reduceEqDiff, Nat.reduceAdd, Nat.zero_add, Nat.add_zero, Option.map_none, Option.map_some, List.map_cons, List.map_nil, List.append_nil, List.cons_append, List.nil_append, List.getElem?_cons_zero, List.getElem?_cons_succ, List.getD_cons_zero, List.getD_cons_succ, List.getD_nil, Bool.not_true, Bool.not_false, decide_true, decide_false]
    have e : backR n l = [] := if_neg h
    rw [e]
    exact ⟨_, by simp [h], .inl ⟨rfl, rfl⟩, hp⟩
end Go.Proofs.Ytedlnjcfacadgaa.Ai
