/- Two places exchanged, both sides (spec.l1Own, l9At, l9Swap; impl.swapped). -/
import Derived.Test.YtahakecifgjcnaaSrtP
import Derived.Test.YtahakecifgjcnaaClone
import Derived.Test.YtahakecifgjcnaaArr
import Derived.Test.YtahakecifgjcnaaCdSwp
namespace Go.Proofs.Ytahakecifgjcnaa.Ai
open Go Go.RowKit
set_option linter.unusedVariables false
set_option linter.unusedSimpArgs false

set_option maxRecDepth 20000 in
theorem l1Own_c (v : Value) (xs : List Int) (H : AH) (hr : Row 3 H v xs) (hlen : xs.length ≤ 1099511627776) : ACalls Try.prog 58 [v] H fun r H' => Own 3 H H' r xs ∧ H <+: H' := by
  refine in58 rfl ?_
  intro Q hQ
  simp (maxSteps := 1000000) (disch := omega) only [cd58, S, S1, S2, S3, S4, ST, eq_self, ne_eq, not_true_eq_false, not_false_eq_true, and_self, true_and, and_true, reduceIte, reduceCtorEq, Nat.reduceEqDiff, Nat.reduceAdd, Nat.zero_add, Nat.add_zero, Option.map_none, Option.map_some, List.map_cons, List.map_nil, List.append_nil, List.cons_append, List.nil_append, List.getElem?_cons_zero, List.getElem?_cons_succ, List.getD_cons_zero, List.getD_cons_succ, List.getD_nil, Bool.not_true, Bool.not_false, decide_true, decide_false]
  have hp := List.prefix_append H [AObj.cells [] 3 false]
  have ho : Own 3 H (H ++ [AObj.cells [] 3 false]) (.slice (some ⟨H.length, 0, none⟩) 0 0) [] := .inr ⟨H.length, rfl, Nat.le_refl _, at_new ..⟩
  obtain ⟨v', H2, k1, k2, k3, _⟩ := ho.app (P := Try.prog) (t := 22) Try.underlying22 cs3 (by rw [by3]; decide) zk3 (hr.pre hp) hp (by simp; omega)
  simp (maxSteps := 1000000) (disch := omega) only [k1, S, S1, S2, S3, S4, ST, eq_self, ne_eq, not_true_eq_false, not_false_eq_true, and_self, true_and, and_true, reduceIte, reduceCtorEq, Nat.reduceEqDiff, Nat.reduceAdd, Nat.zero_add, Nat.add_zero, Option.map_none, Option.map_some, List.map_cons, List.map_nil, List.append_nil, List.cons_append, List.nil_append, List.getElem?_cons_zero, List.getElem?_cons_succ, List.getD_cons_zero, List.getD_cons_succ, List.getD_nil, Bool.not_true, Bool.not_false, decide_true, decide_false]
  refine hQ _ _ _ ?_
  simp (maxSteps := 1000000) (disch := omega) only [k2.row.tup, S, S1, S2, S3, S4, ST, eq_self, ne_eq, not_true_eq_false, not_false_eq_true, and_self, true_and, and_true, reduceIte, reduceCtorEq, Nat.reduceEqDiff, Nat.reduceAdd, Nat.zero_add, Nat.add_zero, Option.map_none, Option.map_some, List.map_cons, List.map_nil, List.append_nil, List.cons_append, List.nil_append, List.getElem?_cons_zero, List.getElem?_cons_succ, List.getD_cons_zero, List.getD_cons_succ, List.getD_nil, Bool.not_true, Bool.not_false, decide_true, decide_false]
  exact ⟨k2, k3⟩

theorem l9At_c (v : Value) (xs : List Int) (x : Int) (H : AH) (hr : Row 3 H v xs) (hlen : xs.length ≤ 1099511627776) (hx : x ∈ xs) :
    ACalls Try.prog 99 [v, .int .i64 x] H fun r H' => r = .int .i64 (ax xs x) ∧ H = H' := by
  refine in99 rfl ?_
  intro Q hQ
  simp (maxSteps := 1000000) (disch := omega) only [cd99, S, S1, S2, S3, S4, ST, eq_self, ne_eq, not_true_eq_false, not_false_eq_true, and_self, true_and, and_true, reduceIte, reduceCtorEq, Nat.reduceEqDiff, Nat.reduceAdd, Nat.zero_add, Nat.add_zero, Option.map_none, Option.map_some, List.map_cons, List.map_nil, List.append_nil, List.cons_append, List.nil_append, List.getElem?_cons_zero, List.getElem?_cons_succ, List.getD_cons_zero, List.getD_cons_succ, List.getD_nil, Bool.not_true, Bool.not_false, decide_true, decide_false]
  have h0x : 0 ≤ ax xs x := (idxP_any (fun y => decide (x = y)) xs 0).2 (by simpa using hx)
  refine LoopH.by (fun m s H' => ∃ i, m + i = xs.length ∧ s 0 = v ∧ s 1 = .int .i64 x ∧ s 5 = .int .i64 ((i : Nat) : Int) ∧ H = H' ∧ ax xs x = idxP (fun y => decide (x = y)) (xs.drop i) i) xs.length ?_ ?_
  · exact ⟨0, by simp, rfl, rfl, rfl, rfl, by simp [ax]⟩
  · rintro m s H' ⟨i, hm, h0, h1, h5, rfl, hn⟩
    have hi : i < xs.length := by
      by_cases hi : i < xs.length
      · exact hi
      · rw [List.drop_of_length_le (by omega)] at hn
        simp only [idxP] at hn
        omega
    rw [idxP_step _ xs i hi] at hn
    simp (maxSteps := 1000000) (disch := omega) only [h0, h1, h5, hr.ix Try.underlying22 cs3, hr.cell, Int.toNat_natCast, S, S1, S2, S3, S4, ST, eq_self, ne_eq, not_true_eq_false, not_false_eq_true, and_self, true_and, and_true, reduceIte, reduceCtorEq, Nat.reduceEqDiff, Nat.reduceAdd, Nat.zero_add, Nat.add_zero, Option.map_none, Option.map_some, List.map_cons, List.map_nil, List.append_nil, List.cons_append, List.nil_append, List.getElem?_cons_zero, List.getElem?_cons_succ, List.getD_cons_zero, List.getD_cons_succ, List.getD_nil, Bool.not_true, Bool.not_false, decide_true, decide_false]
    refine brD.intro (fun e => ?_) (fun e => ?_) <;> simp (maxSteps := 1000000) (disch := omega) only [h0, h1, h5, wrap64, S, S1, S2, S3, S4, ST, eq_self, ne_eq, not_true_eq_false, not_false_eq_true, and_self, true_and, and_true, reduceIte, reduceCtorEq, Nat.reduceEqDiff, Nat.reduceAdd, Nat.zero_add, Nat.add_zero, Option.map_none, Option.map_some, List.map_cons, List.map_nil, List.append_nil, List.cons_append, List.nil_append, List.getElem?_cons_zero, List.getElem?_cons_succ, List.getD_cons_zero, List.getD_cons_succ, List.getD_nil, Bool.not_true, Bool.not_false, decide_true, decide_false]
    · rw [if_neg (by simp only [decide_eq_true_eq]; exact fun h => e h.symm)] at hn
      refine ⟨m - 1, by omega, i + 1, ?_⟩
      (repeat' apply And.intro) <;> first | exact hn | (simp only [Value.int.injEq, true_and]; omega) | omega | rfl | assumption | (simp; done) | (simp; omega)
    · rw [if_pos (by simp only [decide_eq_true_eq]; exact (Decidable.not_not.1 e).symm)] at hn
      refine hQ _ _ _ ?_
      simp (maxSteps := 1000000) (disch := omega) only [S, S1, S2, S3, S4, ST, eq_self, ne_eq, not_true_eq_false, not_false_eq_true, and_self, true_and, and_true, reduceIte, reduceCtorEq, Nat.reduceEqDiff, Nat.reduceAdd, Nat.zero_add, Nat.add_zero, Option.map_none, Option.map_some, List.map_cons, List.map_nil, List.append_nil, List.cons_append, List.nil_append, List.getElem?_cons_zero, List.getElem?_cons_succ, List.getD_cons_zero, List.getD_cons_succ, List.getD_nil, Bool.not_true, Bool.not_false, decide_true, decide_false]
      rw [hn]

theorem l9Swap_c (v : Value) (xs : List Int) (a b : Nat) (H : AH) (hr : Row 3 H v xs) (hlen : xs.length ≤ 1099511627776) (ha : a < xs.length) (hb : b < xs.length) :
    ACalls Try.prog 59 [v, .int .i64 ((a : Nat) : Int), .int .i64 ((b : Nat) : Int)] H fun r H' => Own 3 H H' r (swp xs a b) ∧ H <+: H' := by
  refine in59 rfl ?_
  intro Q hQ
  simp (maxSteps := 1000000) (disch := omega) only [cd59, S, S1, S2, S3, S4, ST, eq_self, ne_eq, not_true_eq_false, not_false_eq_true, and_self, true_and, and_true, reduceIte, reduceCtorEq, Nat.reduceEqDiff, Nat.reduceAdd, Nat.zero_add, Nat.add_zero, Option.map_none, Option.map_some, List.map_cons, List.map_nil, List.append_nil, List.cons_append, List.nil_append, List.getElem?_cons_zero, List.getElem?_cons_succ, List.getD_cons_zero, List.getD_cons_succ, List.getD_nil, Bool.not_true, Bool.not_false, decide_true, decide_false]
  refine CallH.by (l1Own_c v xs H hr hlen) ?_
  rintro w H1 ⟨ho, hp⟩
  have hr1 := hr.pre hp
  rcases ho with ⟨_, h2⟩ | ⟨o, rfl, hoo, hc⟩
  · subst h2; simp at ha
  · have hne : v = .slice none 0 0 ∨ rowO v ≠ o := by
      rcases hr.nil with g | g
      · exact .inl g.1
      · exact .inr (by omega)
    have hr2 : Row 3 (H1.set o (.cells (ints (xs.set a (xs.getD b 0))) 3 false)) v xs := by
      refine hr1.mono fun y hy => ?_
      rcases hne with g | g
      · have := hr.nilv g; subst this; simp at ha
      · rw [List.getElem?_set_ne (fun e => g e.symm)]; exact hy
    have hc2 := at_set (d := .cells (ints (xs.set a (xs.getD b 0))) 3 false) hc
    simp (maxSteps := 1000000) (disch := omega) only [hr1.ix Try.underlying22 cs3, hr1.cell, Int.toNat_natCast, Nat.zero_add, st_ints cs3 hc ha, hr2.ix Try.underlying22 cs3, hr2.cell, S, S1, S2, S3, S4, ST, eq_self, ne_eq, not_true_eq_false, not_false_eq_true, and_self, true_and, and_true, reduceIte, reduceCtorEq, Nat.reduceEqDiff, Nat.reduceAdd, Nat.zero_add, Nat.add_zero, Option.map_none, Option.map_some, List.map_cons, List.map_nil, List.append_nil, List.cons_append, List.nil_append, List.getElem?_cons_zero, List.getElem?_cons_succ, List.getD_cons_zero, List.getD_cons_succ, List.getD_nil, Bool.not_true, Bool.not_false, decide_true, decide_false]
    simp (maxSteps := 1000000) (disch := omega) only [Int.toNat_natCast, Nat.zero_add, st_ints cs3 hc2 (show b < (xs.set a (xs.getD b 0)).length by simpa using hb), S, S1, S2, S3, S4, ST, eq_self, ne_eq, not_true_eq_false, not_false_eq_true, and_self, true_and, and_true, reduceIte, reduceCtorEq, Nat.reduceEqDiff, Nat.reduceAdd, Nat.zero_add, Nat.add_zero, Option.map_none, Option.map_some, List.map_cons, List.map_nil, List.append_nil, List.cons_append, List.nil_append, List.getElem?_cons_zero, List.getElem?_cons_succ, List.getD_cons_zero, List.getD_cons_succ, List.getD_nil, Bool.not_true, Bool.not_false, decide_true, decide_false]
    refine hQ _ _ _ ?_
    simp (maxSteps := 1000000) (disch := omega) only [List.set_set, S, S1, S2, S3, S4, ST, eq_self, ne_eq, not_true_eq_false, not_false_eq_true, and_self, true_and, and_true, reduceIte, reduceCtorEq, Nat.reduceEqDiff, Nat.reduceAdd, Nat.zero_add, Nat.add_zero, Option.map_none, Option.map_some, List.map_cons, List.map_nil, List.append_nil, List.cons_append, List.nil_append, List.getElem?_cons_zero, List.getElem?_cons_succ, List.getD_cons_zero, List.getD_cons_succ, List.getD_nil, Bool.not_true, Bool.not_false, decide_true, decide_false]
    refine ⟨.inr ⟨o, by rw [swp_len], hoo, ?_⟩, ?_⟩
    · exact at_set hc
    · exact pre_set hp hoo _

set_option maxRecDepth 20000 in
theorem swapped_c (v : Value) (xs : List Int) (a b : Nat) (H : AH) (hr : Row 3 H v xs) (hlen : xs.length ≤ 1099511627776) (ha : a < xs.length) (hb : b < xs.length) :
    ACalls Try.prog 63 [v, .agg (List.toArray [.int .i64 ((a : Nat) : Int), .int .i64 ((b : Nat) : Int)])] H fun r H' => Own 3 H H' r (swp xs a b) ∧ H <+: H' := by
  refine in63 rfl ?_
  intro Q hQ
  simp (maxSteps := 1000000) (disch := omega) only [cd63, box_a2, S, S1, S2, S3, S4, ST, eq_self, ne_eq, not_true_eq_false, not_false_eq_true, and_self, true_and, and_true, reduceIte, reduceCtorEq, Nat.reduceEqDiff, Nat.reduceAdd, Nat.zero_add, Nat.add_zero, Option.map_none, Option.map_some, List.map_cons, List.map_nil, List.append_nil, List.cons_append, List.nil_append, List.getElem?_cons_zero, List.getElem?_cons_succ, List.getD_cons_zero, List.getD_cons_succ, List.getD_nil, Bool.not_true, Bool.not_false, decide_true, decide_false]
  generalize hA : H ++ [AObj.cells [.int .i64 ((a : Nat) : Int), .int .i64 ((b : Nat) : Int)] 66 false] = A
  have a0 : A[H.length]? = some (.cells [.int .i64 ((a : Nat) : Int), .int .i64 ((b : Nat) : Int)] 66 false) := by rw [← hA]; exact at_new ..
  have pA : H <+: A := by rw [← hA]; exact List.prefix_append _ _
  have lA : H.length < A.length := by rw [← hA]; simp
  refine CallH.by (Clone_c v xs A (hr.pre pA) hlen) ?_
  rintro w H1 ⟨ho, hp⟩
  rcases ho with ⟨_, h2⟩ | ⟨o, rfl, hoo, hc⟩
  · subst h2; simp at ha
  · have b0 := pre_at hp a0
    have c0 : cellA H1 H.length 0 = some (.int .i64 ((a : Nat) : Int)) := by rw [cell_of b0]; rfl
    have c1 : cellA H1 H.length 1 = some (.int .i64 ((b : Nat) : Int)) := by rw [cell_of b0]; rfl
    have b2 : (H1.set o (.cells (ints (xs.set a (xs.getD b 0))) 3 false))[H.length]? = some (.cells [.int .i64 ((a : Nat) : Int), .int .i64 ((b : Nat) : Int)] 66 false) := by
      rw [List.getElem?_set_ne (by omega)]; exact b0
    have d1 : cellA (H1.set o (.cells (ints (xs.set a (xs.getD b 0))) 3 false)) H.length 1 = some (.int .i64 ((b : Nat) : Int)) := by rw [cell_of b2]; rfl
    have hc2 := at_set (d := .cells (ints (xs.set a (xs.getD b 0))) 3 false) hc
    simp (maxSteps := 1000000) (disch := omega) only [c0, c1, Int.toNat_natCast, Nat.zero_add, cell_ints hc ha, cell_ints hc hb, st_ints cs3 hc ha, d1, st_ints cs3 hc2 (show b < (xs.set a (xs.getD b 0)).length by simpa using hb), S, S1, S2, S3, S4, ST, eq_self, ne_eq, not_true_eq_false, not_false_eq_true, and_self, true_and, and_true, reduceIte, reduceCtorEq, Nat.reduceEqDiff, Nat.reduceAdd, Nat.zero_add, Nat.add_zero, Option.map_none, Option.map_some, List.map_cons, List.map_nil, List.append_nil, List.cons_append, List.nil_append, List.getElem?_cons_zero, List.getElem?_cons_succ, List.getD_cons_zero, List.getD_cons_succ, List.getD_nil, Bool.not_true, Bool.not_false, decide_true, decide_false]
    refine hQ _ _ _ ?_
    simp (maxSteps := 1000000) (disch := omega) only [List.set_set, S, S1, S2, S3, S4, ST, eq_self, ne_eq, not_true_eq_false, not_false_eq_true, and_self, true_and, and_true, reduceIte, reduceCtorEq, Nat.reduceEqDiff, Nat.reduceAdd, Nat.zero_add, Nat.add_zero, Option.map_none, Option.map_some, List.map_cons, List.map_nil, List.append_nil, List.cons_append, List.nil_append, List.getElem?_cons_zero, List.getElem?_cons_succ, List.getD_cons_zero, List.getD_cons_succ, List.getD_nil, Bool.not_true, Bool.not_false, decide_true, decide_false]
    refine ⟨.inr ⟨o, by rw [swp_len], by omega, ?_⟩, ?_⟩
    · exact at_set hc
    · exact pre_set (pA.trans hp) (by omega) _
end Go.Proofs.Ytahakecifgjcnaa.Ai
