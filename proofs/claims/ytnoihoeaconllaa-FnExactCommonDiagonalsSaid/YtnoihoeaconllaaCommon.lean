/- CommonDiagonals, both sides. -/
import Derived.Test.YtnoihoeaconllaaAt
import Derived.Test.YtnoihoeaconllaaAiH
import Derived.Test.YtnoihoeaconllaaCdCommon
namespace Go.Proofs.Ytnoihoeaconllaa.Ai
open Go Go.RowKit
set_option linter.unusedVariables false
set_option linter.unusedSimpArgs false

/-- the place of a number, or -1 -/
theorem Index_c (v : Value) (xs : List Int) (x : Int) (H : AH) (hr : Row 3 H v xs) (hlen : xs.length ≤ 1099511627776) :
    ACalls Try.prog 74 [v, .int .i64 x] H fun r H' => r = .int .i64 (idxP (fun y => decide (x = y)) xs 0) ∧ H = H' := by
  refine in74 rfl ?_
  intro Q hQ
  simp (maxSteps := 1000000) (disch := omega) only [cd74, hr.len Try.underlying22, S, S1, S2, S3, S4, ST, eq_self, ne_eq, not_true_eq_false, not_false_eq_true, and_self, true_and, and_true, reduceIte, reduceCtorEq, Nat.reduceEqDiff, Nat.reduceAdd, Nat.zero_add, Nat.add_zero, Option.map_none, Option.map_some, List.map_cons, List.map_nil, List.append_nil, List.cons_append, List.nil_append, List.getElem?_cons_zero, List.getElem?_cons_succ, List.getD_cons_zero, List.getD_cons_succ, List.getD_nil, Bool.not_true, Bool.not_false, decide_true, decide_false]
  refine LoopH.by (fun m s H' => ∃ i, m + i = xs.length ∧ s 0 = v ∧ s 1 = .int .i64 x ∧ s 7 = .int .i64 (xs.length : Int) ∧ s 8 = .int .i64 ((i : Nat) : Int) ∧ H = H' ∧ idxP (fun y => decide (x = y)) xs 0 = idxP (fun y => decide (x = y)) (xs.drop i) i) xs.length ?_ ?_
  · exact ⟨0, by simp, rfl, rfl, rfl, rfl, rfl, by simp⟩
  · rintro m s H' ⟨i, hm, h0, h1, h7, h8, rfl, hn⟩
    simp (maxSteps := 1000000) (disch := omega) only [h0, h1, h7, h8, S, S1, S2, S3, S4, ST, eq_self, ne_eq, not_true_eq_false, not_false_eq_true, and_self, true_and, and_true, reduceIte, reduceCtorEq, Nat.reduceEqDiff, Nat.reduceAdd, Nat.zero_add, Nat.add_zero, Option.map_none, Option.map_some, List.map_cons, List.map_nil, List.append_nil, List.cons_append, List.nil_append, List.getElem?_cons_zero, List.getElem?_cons_succ, List.getD_cons_zero, List.getD_cons_succ, List.getD_nil, Bool.not_true, Bool.not_false, decide_true, decide_false]
    refine brD.intro (fun g => ?_) (fun g => ?_) <;> simp (maxSteps := 1000000) (disch := omega) only [h0, h1, h8, h7, hr.ix Try.underlying22 cs3, hr.cell, Int.toNat_natCast, S, S1, S2, S3, S4, ST, eq_self, ne_eq, not_true_eq_false, not_false_eq_true, and_self, true_and, and_true, reduceIte, reduceCtorEq, Nat.reduceEqDiff, Nat.reduceAdd, Nat.zero_add, Nat.add_zero, Option.map_none, Option.map_some, List.map_cons, List.map_nil, List.append_nil, List.cons_append, List.nil_append, List.getElem?_cons_zero, List.getElem?_cons_succ, List.getD_cons_zero, List.getD_cons_succ, List.getD_nil, Bool.not_true, Bool.not_false, decide_true, decide_false]
    · have hi : i < xs.length := by omega
      rw [idxP_step _ xs i hi] at hn
      refine brD.intro (fun e => ?_) (fun e => ?_) <;> simp (maxSteps := 1000000) (disch := omega) only [h0, h1, h7, h8, wrap64, S, S1, S2, S3, S4, ST, eq_self, ne_eq, not_true_eq_false, not_false_eq_true, and_self, true_and, and_true, reduceIte, reduceCtorEq, Nat.reduceEqDiff, Nat.reduceAdd, Nat.zero_add, Nat.add_zero, Option.map_none, Option.map_some, List.map_cons, List.map_nil, List.append_nil, List.cons_append, List.nil_append, List.getElem?_cons_zero, List.getElem?_cons_succ, List.getD_cons_zero, List.getD_cons_succ, List.getD_nil, Bool.not_true, Bool.not_false, decide_true, decide_false]
      · refine hQ _ _ _ ?_
        simp (maxSteps := 1000000) (disch := omega) only [S, S1, S2, S3, S4, ST, eq_self, ne_eq, not_true_eq_false, not_false_eq_true, and_self, true_and, and_true, reduceIte, reduceCtorEq, Nat.reduceEqDiff, Nat.reduceAdd, Nat.zero_add, Nat.add_zero, Option.map_none, Option.map_some, List.map_cons, List.map_nil, List.append_nil, List.cons_append, List.nil_append, List.getElem?_cons_zero, List.getElem?_cons_succ, List.getD_cons_zero, List.getD_cons_succ, List.getD_nil, Bool.not_true, Bool.not_false, decide_true, decide_false]
        rw [hn, if_pos (by simpa using e)]
      · rw [if_neg (by simpa using e)] at hn
        refine ⟨m - 1, by omega, i + 1, by omega, ?_⟩
        (repeat' apply And.intro) <;> first | exact hn | (simp only [Value.int.injEq, true_and]; omega) | omega | rfl | assumption | (simp; done) | (simp; omega)
    · refine hQ _ _ _ ?_
      simp (maxSteps := 1000000) (disch := omega) only [S, S1, S2, S3, S4, ST, eq_self, ne_eq, not_true_eq_false, not_false_eq_true, and_self, true_and, and_true, reduceIte, reduceCtorEq, Nat.reduceEqDiff, Nat.reduceAdd, Nat.zero_add, Nat.add_zero, Option.map_none, Option.map_some, List.map_cons, List.map_nil, List.append_nil, List.cons_append, List.nil_append, List.getElem?_cons_zero, List.getElem?_cons_succ, List.getD_cons_zero, List.getD_cons_succ, List.getD_nil, Bool.not_true, Bool.not_false, decide_true, decide_false]
      rw [hn, List.drop_of_length_le (by omega)]; rfl

theorem Contains_c (v : Value) (xs : List Int) (x : Int) (H : AH) (hr : Row 3 H v xs) (hlen : xs.length ≤ 1099511627776) :
    ACalls Try.prog 83 [v, .int .i64 x] H fun r H' => r = .bool (decide (x ∈ xs)) ∧ H = H' := by
  refine in83 rfl ?_
  intro Q hQ
  simp (maxSteps := 1000000) (disch := omega) only [cd83, S, S1, S2, S3, S4, ST, eq_self, ne_eq, not_true_eq_false, not_false_eq_true, and_self, true_and, and_true, reduceIte, reduceCtorEq, Nat.reduceEqDiff, Nat.reduceAdd, Nat.zero_add, Nat.add_zero, Option.map_none, Option.map_some, List.map_cons, List.map_nil, List.append_nil, List.cons_append, List.nil_append, List.getElem?_cons_zero, List.getElem?_cons_succ, List.getD_cons_zero, List.getD_cons_succ, List.getD_nil, Bool.not_true, Bool.not_false, decide_true, decide_false]
  refine CallH.by (Index_c v xs x H hr hlen) ?_
  rintro _ _ ⟨rfl, rfl⟩
  simp (maxSteps := 1000000) (disch := omega) only [S, S1, S2, S3, S4, ST, eq_self, ne_eq, not_true_eq_false, not_false_eq_true, and_self, true_and, and_true, reduceIte, reduceCtorEq, Nat.reduceEqDiff, Nat.reduceAdd, Nat.zero_add, Nat.add_zero, Option.map_none, Option.map_some, List.map_cons, List.map_nil, List.append_nil, List.cons_append, List.nil_append, List.getElem?_cons_zero, List.getElem?_cons_succ, List.getD_cons_zero, List.getD_cons_succ, List.getD_nil, Bool.not_true, Bool.not_false, decide_true, decide_false]
  refine hQ _ _ _ ?_
  simp (maxSteps := 1000000) (disch := omega) only [S, S1, S2, S3, S4, ST, eq_self, ne_eq, not_true_eq_false, not_false_eq_true, and_self, true_and, and_true, reduceIte, reduceCtorEq, Nat.reduceEqDiff, Nat.reduceAdd, Nat.zero_add, Nat.add_zero, Option.map_none, Option.map_some, List.map_cons, List.map_nil, List.append_nil, List.cons_append, List.nil_append, List.getElem?_cons_zero, List.getElem?_cons_succ, List.getD_cons_zero, List.getD_cons_succ, List.getD_nil, Bool.not_true, Bool.not_false, decide_true, decide_false]
  have h1 := idxP_any (fun y => decide (x = y)) xs 0
  have h2 : xs.any (fun y => decide (x = y)) = true ↔ x ∈ xs := by simp
  have : (0 ≤ idxP (fun y => decide (x = y)) xs 0) ↔ x ∈ xs := h1.trans h2
  simp only [this]

/-- what of a list another one does not have -/
def without (xs ys : List Int) : List Int := xs.filter fun x => decide (¬ x ∈ ys)
theorem without_step (xs ys : List Int) (i : Nat) (hi : i < xs.length) : without (xs.take (i + 1)) ys = without (xs.take i) ys ++ if xs.getD i 0 ∈ ys then [] else [xs.getD i 0] := by
  unfold without
  rw [List.take_add_one, List.getElem?_eq_getElem hi, List.filter_append]
  have hx : xs.getD i 0 = xs[i] := by simp [hi]
  rw [hx]
  by_cases h : xs[i] ∈ ys <;> simp [h]
theorem without_len (xs ys : List Int) : (without xs ys).length ≤ xs.length := List.length_filter_le _ _

set_option maxHeartbeats 1000000 in
theorem without_c (v w : Value) (xs ys : List Int) (H : AH) (hr : Row 3 H v xs) (hlen : xs.length ≤ 1099511627776) (hr2 : Row 3 H w ys) (hlen2 : ys.length ≤ 1099511627776) :
    ACalls Try.prog 60 [v, w] H fun r H' => Own 3 H H' r (without xs ys) ∧ H <+: H' := by
  refine in60 rfl ?_
  intro Q hQ
  have hp0 := List.prefix_append H [AObj.cells [] 3 false]
  have hown0 : Own 3 H (H ++ [AObj.cells [] 3 false]) (.slice (some ⟨H.length, 0, none⟩) 0 0) [] := .inr ⟨H.length, rfl, Nat.le_refl _, at_new ..⟩
  simp (maxSteps := 1000000) (disch := omega) only [cd60, hr.len Try.underlying22, S, S1, S2, S3, S4, ST, eq_self, ne_eq, not_true_eq_false, not_false_eq_true, and_self, true_and, and_true, reduceIte, reduceCtorEq, Nat.reduceEqDiff, Nat.reduceAdd, Nat.zero_add, Nat.add_zero, Option.map_none, Option.map_some, List.map_cons, List.map_nil, List.append_nil, List.cons_append, List.nil_append, List.getElem?_cons_zero, List.getElem?_cons_succ, List.getD_cons_zero, List.getD_cons_succ, List.getD_nil, Bool.not_true, Bool.not_false, decide_true, decide_false]
  refine LoopH.by (fun m s H' => ∃ i, m + i = xs.length ∧ s 1 = w ∧ s 9 = v ∧ s 10 = .int .i64 (xs.length : Int) ∧ s 11 = .int .i64 ((i : Nat) : Int) ∧ Own 3 H H' (s 5) (without (xs.take i) ys) ∧ H <+: H') xs.length ?_ ?_
  · refine ⟨0, by simp, rfl, rfl, rfl, rfl, ?_, hp0⟩
    simp (maxSteps := 1000000) (disch := omega) only [S, S1, S2, S3, S4, ST, eq_self, ne_eq, not_true_eq_false, not_false_eq_true, and_self, true_and, and_true, reduceIte, reduceCtorEq, Nat.reduceEqDiff, Nat.reduceAdd, Nat.zero_add, Nat.add_zero, Option.map_none, Option.map_some, List.map_cons, List.map_nil, List.append_nil, List.cons_append, List.nil_append, List.getElem?_cons_zero, List.getElem?_cons_succ, List.getD_cons_zero, List.getD_cons_succ, List.getD_nil, Bool.not_true, Bool.not_false, decide_true, decide_false]; exact hown0
  · rintro m s H' ⟨i, hm, h1, hl, hn, hi', hown, hpp⟩
    have hr' := hr.pre hpp
    have hr2' := hr2.pre hpp
    have wl := without_len (xs.take i) ys
    have wl2 : (xs.take i).length ≤ i := by simp; omega
    have st0 := fun hi => without_step xs ys i hi
    have we : xs.length ≤ i → without xs ys = without (xs.take i) ys := fun h => by rw [List.take_of_length_le h]
    generalize hW : without (xs.take i) ys = W at *
    generalize hw : s 5 = u at *
    simp (maxSteps := 1000000) (disch := omega) only [h1, hl, hn, hi', hw, S, S1, S2, S3, S4, ST, eq_self, ne_eq, not_true_eq_false, not_false_eq_true, and_self, true_and, and_true, reduceIte, reduceCtorEq, Nat.reduceEqDiff, Nat.reduceAdd, Nat.zero_add, Nat.add_zero, Option.map_none, Option.map_some, List.map_cons, List.map_nil, List.append_nil, List.cons_append, List.nil_append, List.getElem?_cons_zero, List.getElem?_cons_succ, List.getD_cons_zero, List.getD_cons_succ, List.getD_nil, Bool.not_true, Bool.not_false, decide_true, decide_false]
    refine brD.intro (fun g => ?_) (fun g => ?_) <;> simp (maxSteps := 1000000) (disch := omega) only [h1, hl, hn, hi', hw, hr'.ix Try.underlying22 cs3, hr'.cell, Int.toNat_natCast, S, S1, S2, S3, S4, ST, eq_self, ne_eq, not_true_eq_false, not_false_eq_true, and_self, true_and, and_true, reduceIte, reduceCtorEq, Nat.reduceEqDiff, Nat.reduceAdd, Nat.zero_add, Nat.add_zero, Option.map_none, Option.map_some, List.map_cons, List.map_nil, List.append_nil, List.cons_append, List.nil_append, List.getElem?_cons_zero, List.getElem?_cons_succ, List.getD_cons_zero, List.getD_cons_succ, List.getD_nil, Bool.not_true, Bool.not_false, decide_true, decide_false]
    · have hi : i < xs.length := by omega
      have st := st0 hi
      refine CallH.by (Contains_c w ys _ H' hr2' hlen2) ?_
      rintro _ _ ⟨rfl, rfl⟩
      simp (maxSteps := 1000000) (disch := omega) only [S, S1, S2, S3, S4, ST, eq_self, ne_eq, not_true_eq_false, not_false_eq_true, and_self, true_and, and_true, reduceIte, reduceCtorEq, Nat.reduceEqDiff, Nat.reduceAdd, Nat.zero_add, Nat.add_zero, Option.map_none, Option.map_some, List.map_cons, List.map_nil, List.append_nil, List.cons_append, List.nil_append, List.getElem?_cons_zero, List.getElem?_cons_succ, List.getD_cons_zero, List.getD_cons_succ, List.getD_nil, Bool.not_true, Bool.not_false, decide_true, decide_false]
      refine brD.intro (fun e => ?_) (fun e => ?_)
      · rw [if_pos e, List.append_nil] at st
        simp (maxSteps := 1000000) (disch := omega) only [h1, hl, hn, hi', hw, wrap64, S, S1, S2, S3, S4, ST, eq_self, ne_eq, not_true_eq_false, not_false_eq_true, and_self, true_and, and_true, reduceIte, reduceCtorEq, Nat.reduceEqDiff, Nat.reduceAdd, Nat.zero_add, Nat.add_zero, Option.map_none, Option.map_some, List.map_cons, List.map_nil, List.append_nil, List.cons_append, List.nil_append, List.getElem?_cons_zero, List.getElem?_cons_succ, List.getD_cons_zero, List.getD_cons_succ, List.getD_nil, Bool.not_true, Bool.not_false, decide_true, decide_false]
        refine ⟨m - 1, by omega, i + 1, by omega, ?_⟩
        rw [st]
        (repeat' apply And.intro) <;> first | (simp only [Value.int.injEq, true_and]; omega) | omega | rfl | assumption | (simp; done) | (simp; omega)
      · rw [if_neg e] at st
        obtain ⟨w', H2, k1, k2, k3, k4, k5, k6⟩ := own1_22 hown hpp (by omega) (xs.getD i 0)
        rw [← st] at k2
        simp (maxSteps := 1000000) (disch := omega) only [h1, hl, hn, hi', hw, k1, wrap64, S, S1, S2, S3, S4, ST, eq_self, ne_eq, not_true_eq_false, not_false_eq_true, and_self, true_and, and_true, reduceIte, reduceCtorEq, Nat.reduceEqDiff, Nat.reduceAdd, Nat.zero_add, Nat.add_zero, Option.map_none, Option.map_some, List.map_cons, List.map_nil, List.append_nil, List.cons_append, List.nil_append, List.getElem?_cons_zero, List.getElem?_cons_succ, List.getD_cons_zero, List.getD_cons_succ, List.getD_nil, Bool.not_true, Bool.not_false, decide_true, decide_false]
        refine ⟨m - 1, by omega, i + 1, by omega, ?_⟩
        (repeat' apply And.intro) <;> first | exact k2 | exact k3 | (simp only [Value.int.injEq, true_and]; omega) | omega | rfl | assumption | (simp; done) | (simp; omega)
    · refine hQ _ _ _ ?_
      simp (maxSteps := 1000000) (disch := omega) only [hw, hown.row.tup, S, S1, S2, S3, S4, ST, eq_self, ne_eq, not_true_eq_false, not_false_eq_true, and_self, true_and, and_true, reduceIte, reduceCtorEq, Nat.reduceEqDiff, Nat.reduceAdd, Nat.zero_add, Nat.add_zero, Option.map_none, Option.map_some, List.map_cons, List.map_nil, List.append_nil, List.cons_append, List.nil_append, List.getElem?_cons_zero, List.getElem?_cons_succ, List.getD_cons_zero, List.getD_cons_succ, List.getD_nil, Bool.not_true, Bool.not_false, decide_true, decide_false]
      rw [we (by omega)]
      exact ⟨hown, hpp⟩

def comR (n : Int) (xs ys : List Int) : List Int := if Tri2 n xs ys then xs.filter fun x => decide (x ∈ ys) else []
theorem comR_len (n : Int) (xs ys : List Int) (h : xs.length ≤ 1099511627776) : (comR n xs ys).length ≤ 1099511627776 := by
  unfold comR
  split
  · have := List.length_filter_le (fun x => decide (x ∈ ys)) xs; omega
  · simp
theorem without2 (xs ys : List Int) : without xs (without xs ys) = xs.filter fun x => decide (x ∈ ys) := by
  unfold without
  apply List.filter_congr
  intro x hx
  simp only [List.mem_filter, hx, true_and, decide_eq_true_eq, Decidable.not_not]

set_option maxHeartbeats 2000000 in
theorem CommonS_c (n : Int) (v w : Value) (xs ys : List Int) (H : AH) (hr : Row 3 H v xs) (hlen : xs.length ≤ 1099511627776) (hxs : ∀ y ∈ xs, I64 y) (hr2 : Row 3 H w ys) (hlen2 : ys.length ≤ 1099511627776) (hys : ∀ y ∈ ys, I64 y) :
    ACalls Try.prog 19 [.int .i64 n, v, w] H fun r H' => ∃ g, r = .tuple (List.toArray [g, .bool (decide (Tri2 n xs ys))]) ∧ Mine 3 H H' g (comR n xs ys) ∧ H <+: H' := by
  refine in19 rfl ?_
  intro Q hQ
  have hp0 := List.prefix_append H [AObj.cells [] 3 false]
  have hown0 : Own 3 H (H ++ [AObj.cells [] 3 false]) (.slice (some ⟨H.length, 0, none⟩) 0 0) [] := .inr ⟨H.length, rfl, Nat.le_refl _, at_new ..⟩
  simp (maxSteps := 1000000) (disch := omega) only [cd19, S, S1, S2, S3, S4, ST, eq_self, ne_eq, not_true_eq_false, not_false_eq_true, and_self, true_and, and_true, reduceIte, reduceCtorEq, Nat.reduceEqDiff, Nat.reduceAdd, Nat.zero_add, Nat.add_zero, Option.map_none, Option.map_some, List.map_cons, List.map_nil, List.append_nil, List.cons_append, List.nil_append, List.getElem?_cons_zero, List.getElem?_cons_succ, List.getD_cons_zero, List.getD_cons_succ, List.getD_nil, Bool.not_true, Bool.not_false, decide_true, decide_false]
  refine CallH.by (valid_c n v xs _ (hr.pre hp0) hlen hxs) ?_
  rintro _ H1 ⟨rfl, hp1⟩
  have hq1 := hp0.trans hp1
  have no : ¬ Tri2 n xs ys → comR n xs ys = [] := fun h => if_neg h
  simp (maxSteps := 1000000) (disch := omega) only [S, S1, S2, S3, S4, ST, eq_self, ne_eq, not_true_eq_false, not_false_eq_true, and_self, true_and, and_true, reduceIte, reduceCtorEq, Nat.reduceEqDiff, Nat.reduceAdd, Nat.zero_add, Nat.add_zero, Option.map_none, Option.map_some, List.map_cons, List.map_nil, List.append_nil, List.cons_append, List.nil_append, List.getElem?_cons_zero, List.getElem?_cons_succ, List.getD_cons_zero, List.getD_cons_succ, List.getD_nil, Bool.not_true, Bool.not_false, decide_true, decide_false]
  refine brD.intro (fun ha => ?_) (fun ha => ?_) <;> simp (maxSteps := 1000000) (disch := omega) only [ha, S, S1, S2, S3, S4, ST, eq_self, ne_eq, not_true_eq_false, not_false_eq_true, and_self, true_and, and_true, reduceIte, reduceCtorEq, Nat.reduceEqDiff, Nat.reduceAdd, Nat.zero_add, Nat.add_zero, Option.map_none, Option.map_some, List.map_cons, List.map_nil, List.append_nil, List.cons_append, List.nil_append, List.getElem?_cons_zero, List.getElem?_cons_succ, List.getD_cons_zero, List.getD_cons_succ, List.getD_nil, Bool.not_true, Bool.not_false, decide_true, decide_false]
  · refine CallH.by (valid_c n w ys H1 (hr2.pre hq1) hlen2 hys) ?_
    rintro _ H2 ⟨rfl, hp2⟩
    have hp := hq1.trans hp2
    simp (maxSteps := 1000000) (disch := omega) only [ha, S, S1, S2, S3, S4, ST, eq_self, ne_eq, not_true_eq_false, not_false_eq_true, and_self, true_and, and_true, reduceIte, reduceCtorEq, Nat.reduceEqDiff, Nat.reduceAdd, Nat.zero_add, Nat.add_zero, Option.map_none, Option.map_some, List.map_cons, List.map_nil, List.append_nil, List.cons_append, List.nil_append, List.getElem?_cons_zero, List.getElem?_cons_succ, List.getD_cons_zero, List.getD_cons_succ, List.getD_nil, Bool.not_true, Bool.not_false, decide_true, decide_false]
    refine brD.intro (fun hb => ?_) (fun hb => ?_) <;> simp (maxSteps := 1000000) (disch := omega) only [ha, hb, S, S1, S2, S3, S4, ST, eq_self, ne_eq, not_true_eq_false, not_false_eq_true, and_self, true_and, and_true, reduceIte, reduceCtorEq, Nat.reduceEqDiff, Nat.reduceAdd, Nat.zero_add, Nat.add_zero, Option.map_none, Option.map_some, List.map_cons, List.map_nil, List.append_nil, List.cons_append, List.nil_append, List.getElem?_cons_zero, List.getElem?_cons_succ, List.getD_cons_zero, List.getD_cons_succ, List.getD_nil, Bool.not_true, Bool.not_false, decide_true, decide_false]
    · have ht : Tri2 n xs ys := ⟨ha.1, ha.2, hb.2⟩
      refine LoopH.by (fun m s H' => ∃ i, m + i = xs.length ∧ s 1 = v ∧ s 2 = w ∧ s 9 = .int .i64 ((i : Nat) : Int) ∧ Own 3 H H' (s 8) ((xs.take i).filter fun x => decide (x ∈ ys)) ∧ H <+: H') xs.length ?_ ?_
      · refine ⟨0, by simp, rfl, rfl, rfl, ?_, hp⟩
        simp (maxSteps := 1000000) (disch := omega) only [S, S1, S2, S3, S4, ST, eq_self, ne_eq, not_true_eq_false, not_false_eq_true, and_self, true_and, and_true, reduceIte, reduceCtorEq, Nat.reduceEqDiff, Nat.reduceAdd, Nat.zero_add, Nat.add_zero, Option.map_none, Option.map_some, List.map_cons, List.map_nil, List.append_nil, List.cons_append, List.nil_append, List.getElem?_cons_zero, List.getElem?_cons_succ, List.getD_cons_zero, List.getD_cons_succ, List.getD_nil, Bool.not_true, Bool.not_false, decide_true, decide_false]; exact hown0.pre (hp1.trans hp2)
      · rintro m s H' ⟨i, hm, h1, h2, h9, hown, hpp⟩
        have hr' := hr.pre hpp
        have hr2' := hr2.pre hpp
        have wl := List.length_filter_le (fun x => decide (x ∈ ys)) (xs.take i)
        have wl2 : (xs.take i).length ≤ i := by simp; omega
        have st0 : ∀ hi : i < xs.length, (xs.take (i + 1)).filter (fun x => decide (x ∈ ys)) = (xs.take i).filter (fun x => decide (x ∈ ys)) ++ if xs.getD i 0 ∈ ys then [xs.getD i 0] else [] := by
          intro hi
          have hx : xs.getD i 0 = xs[i] := by simp [hi]
          rw [List.take_add_one, List.getElem?_eq_getElem hi, List.filter_append, hx]
          by_cases h : xs[i] ∈ ys <;> simp [h]
        have we : xs.length ≤ i → xs.filter (fun x => decide (x ∈ ys)) = (xs.take i).filter (fun x => decide (x ∈ ys)) := fun h => by rw [List.take_of_length_le h]
        generalize hW : (xs.take i).filter (fun x => decide (x ∈ ys)) = W at *
        generalize hw : s 8 = u at *
        simp (maxSteps := 1000000) (disch := omega) only [h1, h2, h9, hw, hr'.len Try.underlying22, S, S1, S2, S3, S4, ST, eq_self, ne_eq, not_true_eq_false, not_false_eq_true, and_self, true_and, and_true, reduceIte, reduceCtorEq, Nat.reduceEqDiff, Nat.reduceAdd, Nat.zero_add, Nat.add_zero, Option.map_none, Option.map_some, List.map_cons, List.map_nil, List.append_nil, List.cons_append, List.nil_append, List.getElem?_cons_zero, List.getElem?_cons_succ, List.getD_cons_zero, List.getD_cons_succ, List.getD_nil, Bool.not_true, Bool.not_false, decide_true, decide_false]
        refine brD.intro (fun g => ?_) (fun g => ?_) <;> simp (maxSteps := 1000000) (disch := omega) only [h1, h2, h9, hw, hr'.ix Try.underlying22 cs3, hr'.cell, Int.toNat_natCast, S, S1, S2, S3, S4, ST, eq_self, ne_eq, not_true_eq_false, not_false_eq_true, and_self, true_and, and_true, reduceIte, reduceCtorEq, Nat.reduceEqDiff, Nat.reduceAdd, Nat.zero_add, Nat.add_zero, Option.map_none, Option.map_some, List.map_cons, List.map_nil, List.append_nil, List.cons_append, List.nil_append, List.getElem?_cons_zero, List.getElem?_cons_succ, List.getD_cons_zero, List.getD_cons_succ, List.getD_nil, Bool.not_true, Bool.not_false, decide_true, decide_false]
        · have hi : i < xs.length := by omega
          have st := st0 hi
          refine CallH.by (l1Has_c w ys _ H' hr2' hlen2) ?_
          rintro _ _ ⟨rfl, rfl⟩
          simp (maxSteps := 1000000) (disch := omega) only [S, S1, S2, S3, S4, ST, eq_self, ne_eq, not_true_eq_false, not_false_eq_true, and_self, true_and, and_true, reduceIte, reduceCtorEq, Nat.reduceEqDiff, Nat.reduceAdd, Nat.zero_add, Nat.add_zero, Option.map_none, Option.map_some, List.map_cons, List.map_nil, List.append_nil, List.cons_append, List.nil_append, List.getElem?_cons_zero, List.getElem?_cons_succ, List.getD_cons_zero, List.getD_cons_succ, List.getD_nil, Bool.not_true, Bool.not_false, decide_true, decide_false]
          refine brD.intro (fun e => ?_) (fun e => ?_)
          · rw [if_pos e] at st
            obtain ⟨w', H3, k1, k2, k3, k4, k5, k6⟩ := own1_22 hown hpp (by omega) (xs.getD i 0)
            rw [← st] at k2
            simp (maxSteps := 1000000) (disch := omega) only [h1, h2, h9, hw, hr'.ix Try.underlying22 cs3, hr'.cell, Int.toNat_natCast, k1, wrap64, S, S1, S2, S3, S4, ST, eq_self, ne_eq, not_true_eq_false, not_false_eq_true, and_self, true_and, and_true, reduceIte, reduceCtorEq, Nat.reduceEqDiff, Nat.reduceAdd, Nat.zero_add, Nat.add_zero, Option.map_none, Option.map_some, List.map_cons, List.map_nil, List.append_nil, List.cons_append, List.nil_append, List.getElem?_cons_zero, List.getElem?_cons_succ, List.getD_cons_zero, List.getD_cons_succ, List.getD_nil, Bool.not_true, Bool.not_false, decide_true, decide_false]
            refine ⟨m - 1, by omega, i + 1, by omega, ?_⟩
            (repeat' apply And.intro) <;> first | exact k2 | exact k3 | (simp only [Value.int.injEq, true_and]; omega) | omega | rfl | assumption | (simp; done) | (simp; omega)
          · rw [if_neg e, List.append_nil] at st
            simp (maxSteps := 1000000) (disch := omega) only [h1, h2, h9, hw, wrap64, S, S1, S2, S3, S4, ST, eq_self, ne_eq, not_true_eq_false, not_false_eq_true, and_self, true_and, and_true, reduceIte, reduceCtorEq, Nat.reduceEqDiff, Nat.reduceAdd, Nat.zero_add, Nat.add_zero, Option.map_none, Option.map_some, List.map_cons, List.map_nil, List.append_nil, List.cons_append, List.nil_append, List.getElem?_cons_zero, List.getElem?_cons_succ, List.getD_cons_zero, List.getD_cons_succ, List.getD_nil, Bool.not_true, Bool.not_false, decide_true, decide_false]
            refine ⟨m - 1, by omega, i + 1, by omega, ?_⟩
            rw [st]
            (repeat' apply And.intro) <;> first | (simp only [Value.int.injEq, true_and]; omega) | omega | rfl | assumption | (simp; done) | (simp; omega)
        · refine hQ _ _ _ ?_
          simp (maxSteps := 1000000) (disch := omega) only [hw, hown.row.tup, S, S1, S2, S3, S4, ST, eq_self, ne_eq, not_true_eq_false, not_false_eq_true, and_self, true_and, and_true, reduceIte, reduceCtorEq, Nat.reduceEqDiff, Nat.reduceAdd, Nat.zero_add, Nat.add_zero, Option.map_none, Option.map_some, List.map_cons, List.map_nil, List.append_nil, List.cons_append, List.nil_append, List.getElem?_cons_zero, List.getElem?_cons_succ, List.getD_cons_zero, List.getD_cons_succ, List.getD_nil, Bool.not_true, Bool.not_false, decide_true, decide_false]
          have e : comR n xs ys = xs.filter fun x => decide (x ∈ ys) := if_pos ht
          rw [e, we (by omega)]
          exact ⟨u, by simp [ht], hown.mine, hpp⟩
    · refine hQ _ _ _ ?_
      simp (maxSteps := 1000000) (disch := omega) only [S, S1, S2, S3, S4, ST, eq_self, ne_eq, not_true_eq_false, not_false_eq_true, and_self, true_and, and_true, reduceIte, reduceCtorEq, Nat.reduceEqDiff, Nat.reduceAdd, Nat.zero_add, Nat.add_zero, Option.map_none, Option.map_some, List.map_cons, List.map_nil, List.append_nil, List.cons_append, List.nil_append, List.getElem?_cons_zero, List.getElem?_cons_succ, List.getD_cons_zero, List.getD_cons_succ, List.getD_nil, Bool.not_true, Bool.not_false, decide_true, decide_false]
      have hh : ¬ Tri2 n xs ys := fun h => hb h.b
      rw [no hh]
      exact ⟨_, by simp [hh], (hown0.pre (hp1.trans hp2)).mine, hp⟩
  · refine hQ _ _ _ ?_
    simp (maxSteps := 1000000) (disch := omega) only [S, S1, S2, S3, S4, ST, eq_self, ne_eq, not_true_eq_false, not_false_eq_true, and_self, true_and, and_true, reduceIte, reduceCtorEq, Nat.reduceEqDiff, Nat.reduceAdd, Nat.zero_add, Nat.add_zero, Option.map_none, Option.map_some, List.map_cons, List.map_nil, List.append_nil, List.cons_append, List.nil_append, List.getElem?_cons_zero, List.getElem?_cons_succ, List.getD_cons_zero, List.getD_cons_succ, List.getD_nil, Bool.not_true, Bool.not_false, decide_true, decide_false]
    have hh : ¬ Tri2 n xs ys := fun h => ha h.a
    rw [no hh]
    exact ⟨_, by simp [hh], (hown0.pre hp1).mine, hq1⟩

set_option maxHeartbeats 2000000 in
theorem CommonI_c (n : Int) (v w : Value) (xs ys : List Int) (H : AH) (hr : Row 3 H v xs) (hlen : xs.length ≤ 1099511627776) (hxs : ∀ y ∈ xs, I64 y) (hr2 : Row 3 H w ys) (hlen2 : ys.length ≤ 1099511627776) (hys : ∀ y ∈ ys, I64 y) :
    ACalls Try.prog 20 [.int .i64 n, v, w] H fun r H' => ∃ g, r = .tuple (List.toArray [g, .bool (decide (Tri2 n xs ys))]) ∧ Mine 3 H H' g (comR n xs ys) ∧ H <+: H' := by
  refine in20 rfl ?_
  intro Q hQ
  obtain ⟨pv, ev⟩ := hr.shape
  obtain ⟨pw, ew⟩ := hr2.shape
  subst ev
  subst ew
  simp (maxSteps := 1000000) (disch := omega) only [cd20, S, S1, S2, S3, S4, ST, eq_self, ne_eq, not_true_eq_false, not_false_eq_true, and_self, true_and, and_true, reduceIte, reduceCtorEq, Nat.reduceEqDiff, Nat.reduceAdd, Nat.zero_add, Nat.add_zero, Option.map_none, Option.map_some, List.map_cons, List.map_nil, List.append_nil, List.cons_append, List.nil_append, List.getElem?_cons_zero, List.getElem?_cons_succ, List.getD_cons_zero, List.getD_cons_succ, List.getD_nil, Bool.not_true, Bool.not_false, decide_true, decide_false]
  generalize hv : Value.slice pv xs.length xs.length = v at *
  generalize hw : Value.slice pw ys.length ys.length = w at *
  have hp0 : H <+: H ++ [AObj.cells [v, w] 22 false] := List.prefix_append _ _
  refine CallH.by (are2_c n v w xs ys _ _ H rfl rfl hr hlen hxs hr2 hlen2 hys) ?_
  rintro _ H2 ⟨rfl, hp1⟩
  have hp := hp0.trans hp1
  have hra := hr.pre hp
  have hrb := hr2.pre hp
  simp (maxSteps := 1000000) (disch := omega) only [S, S1, S2, S3, S4, ST, eq_self, ne_eq, not_true_eq_false, not_false_eq_true, and_self, true_and, and_true, reduceIte, reduceCtorEq, Nat.reduceEqDiff, Nat.reduceAdd, Nat.zero_add, Nat.add_zero, Option.map_none, Option.map_some, List.map_cons, List.map_nil, List.append_nil, List.cons_append, List.nil_append, List.getElem?_cons_zero, List.getElem?_cons_succ, List.getD_cons_zero, List.getD_cons_succ, List.getD_nil, Bool.not_true, Bool.not_false, decide_true, decide_false]
  refine brD.intro (fun ht => ?_) (fun ht => ?_) <;> simp (maxSteps := 1000000) (disch := omega) only [ht, S, S1, S2, S3, S4, ST, eq_self, ne_eq, not_true_eq_false, not_false_eq_true, and_self, true_and, and_true, reduceIte, reduceCtorEq, Nat.reduceEqDiff, Nat.reduceAdd, Nat.zero_add, Nat.add_zero, Option.map_none, Option.map_some, List.map_cons, List.map_nil, List.append_nil, List.cons_append, List.nil_append, List.getElem?_cons_zero, List.getElem?_cons_succ, List.getD_cons_zero, List.getD_cons_succ, List.getD_nil, Bool.not_true, Bool.not_false, decide_true, decide_false]
  · refine CallH.by (without_c v w xs ys H2 hra hlen hrb hlen2) ?_
    rintro u H3 ⟨hown, hp3⟩
    simp (maxSteps := 1000000) (disch := omega) only [S, S1, S2, S3, S4, ST, eq_self, ne_eq, not_true_eq_false, not_false_eq_true, and_self, true_and, and_true, reduceIte, reduceCtorEq, Nat.reduceEqDiff, Nat.reduceAdd, Nat.zero_add, Nat.add_zero, Option.map_none, Option.map_some, List.map_cons, List.map_nil, List.append_nil, List.cons_append, List.nil_append, List.getElem?_cons_zero, List.getElem?_cons_succ, List.getD_cons_zero, List.getD_cons_succ, List.getD_nil, Bool.not_true, Bool.not_false, decide_true, decide_false]
    have wl := without_len xs ys
    refine CallH.by (without_c v u xs _ H3 (hra.pre hp3) hlen hown.row (by omega)) ?_
    rintro u2 H4 ⟨hown2, hp4⟩
    simp (maxSteps := 1000000) (disch := omega) only [S, S1, S2, S3, S4, ST, eq_self, ne_eq, not_true_eq_false, not_false_eq_true, and_self, true_and, and_true, reduceIte, reduceCtorEq, Nat.reduceEqDiff, Nat.reduceAdd, Nat.zero_add, Nat.add_zero, Option.map_none, Option.map_some, List.map_cons, List.map_nil, List.append_nil, List.cons_append, List.nil_append, List.getElem?_cons_zero, List.getElem?_cons_succ, List.getD_cons_zero, List.getD_cons_succ, List.getD_nil, Bool.not_true, Bool.not_false, decide_true, decide_false]
    refine hQ _ _ _ ?_
    simp (maxSteps := 1000000) (disch := omega) only [hown2.row.tup, S, S1, S2, S3, S4, ST, eq_self, ne_eq, not_true_eq_false, not_false_eq_true, and_self, true_and, and_true, reduceIte, reduceCtorEq, Nat.reduceEqDiff, Nat.reduceAdd, Nat.zero_add, Nat.add_zero, Option.map_none, Option.map_some, List.map_cons, List.map_nil, List.append_nil, List.cons_append, List.nil_append, List.getElem?_cons_zero, List.getElem?_cons_succ, List.getD_cons_zero, List.getD_cons_succ, List.getD_nil, Bool.not_true, Bool.not_false, decide_true, decide_false]
    have e : comR n xs ys = xs.filter fun x => decide (x ∈ ys) := if_pos ht
    rw [e, ← without2]
    have hq := hp.trans hp3
    exact ⟨u2, by simp [ht], (hown2.base hq).mine, hq.trans hp4⟩
  · refine hQ _ _ _ ?_
    simp (maxSteps := 1000000) (disch := omega) only [S, S1, S2, S3, S4, ST, eq_self, ne_eq, not_true_eq_false, not_false_eq_true, and_self, true_and, and_true, reduceIte, reduceCtorEq, Nat.reduceEqDiff, Nat.reduceAdd, Nat.zero_add, Nat.add_zero, Option.map_none, Option.map_some, List.map_cons, List.map_nil, List.append_nil, List.cons_append, List.nil_append, List.getElem?_cons_zero, List.getElem?_cons_succ, List.getD_cons_zero, List.getD_cons_succ, List.getD_nil, Bool.not_true, Bool.not_false, decide_true, decide_false]
    have e : comR n xs ys = [] := if_neg ht
    rw [e]
    exact ⟨_, by simp [ht], .inl ⟨rfl, rfl⟩, hp⟩
end Go.Proofs.Ytnoihoeaconllaa.Ai
