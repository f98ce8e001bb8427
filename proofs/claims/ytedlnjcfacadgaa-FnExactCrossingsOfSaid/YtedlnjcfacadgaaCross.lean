/- FnExactCrossingsOf: both sides and the law. -/
import Derived.Test.YtedlnjcfacadgaaValid
import Derived.Test.YtedlnjcfacadgaaLTri
import Derived.Test.YtedlnjcfacadgaaCdCross

namespace Go.Proofs.Ytedlnjcfacadgaa.Ai
open Go Go.RowKit
set_option linter.unusedVariables false
set_option linter.unusedSimpArgs false

/-- how many of a list cross one -/
def crsRow (x : Int) (ys : List Int) : Nat := (ys.filter fun y => decide (Crs x y)).length
def crsAll : List Int → List Int → Nat
  | [], _ => 0
  | x :: xs, ys => crsRow x ys + crsAll xs ys
theorem crsRow_step (x : Int) (ys : List Int) (k : Nat) (hk : k < ys.length) : crsRow x (ys.take (k + 1)) = crsRow x (ys.take k) + if Crs x (ys.getD k 0) then 1 else 0 := by
  unfold crsRow
  rw [List.take_add_one, List.getElem?_eq_getElem hk, List.filter_append, List.length_append]
  have : ys.getD k 0 = ys[k] := by simp [hk]
  rw [this]
  by_cases h : Crs x ys[k] <;> simp [h]
theorem crsRow_le (x : Int) (ys : List Int) : crsRow x ys ≤ ys.length := List.length_filter_le _ _
theorem crsAll_app (xs zs ys : List Int) : crsAll (xs ++ zs) ys = crsAll xs ys + crsAll zs ys := by
  induction xs with
  | nil => simp [crsAll]
  | cons x xs ih => simp [crsAll, ih]; omega
theorem crsAll_step (xs ys : List Int) (i : Nat) (hi : i < xs.length) : crsAll (xs.take (i + 1)) ys = crsAll (xs.take i) ys + crsRow (xs.getD i 0) ys := by
  rw [List.take_add_one, List.getElem?_eq_getElem hi, crsAll_app]
  have : xs.getD i 0 = xs[i] := by simp [hi]
  rw [this]; simp [crsAll]
theorem crsAll_le (xs ys : List Int) : crsAll xs ys ≤ xs.length * ys.length := by
  induction xs with
  | nil => simp [crsAll]
  | cons x xs ih =>
    have := crsRow_le x ys
    simp only [crsAll, List.length_cons, Nat.succ_mul]; omega
theorem triS_len {n : Int} {xs : List Int} (h : triS n xs = true) : (xs.length : Int) = n - 3 := by
  unfold triS at h
  simp only [Bool.and_eq_true, decide_eq_true_eq] at h
  exact h.2

set_option maxHeartbeats 2000000 in
theorem crossS_c (n : Int) (v w : Value) (xs ys : List Int) (H : AH) (hr : Row 3 H v xs) (hlen : xs.length ≤ 1099511627776) (hxs : ∀ y ∈ xs, I64 y) (hr2 : Row 3 H w ys) (hlen2 : ys.length ≤ 1099511627776) (hys : ∀ y ∈ ys, I64 y) :
    ACalls Try.prog 36 [.int .i64 n, v, w] H fun r H' => r = (if (3 ≤ n ∧ n ≤ 8) ∧ triS n xs = true ∧ triS n ys = true then .tuple (List.toArray [.int .i64 (crsAll xs ys : Int), .bool true]) else .tuple (List.toArray [.int .i64 0, .bool false])) ∧ H <+: H' := by
  refine in36 rfl ?_
  intro Q hQ
  simp (disch := omega) only [cd36, S, S1, S2, S3, ST, eq_self, ne_eq, not_true_eq_false, not_false_eq_true, and_self, true_and, and_true, reduceIte, reduceCtorEq, Nat.reduceEqDiff, Nat.reduceAdd, Nat.zero_add, Nat.add_zero, Option.map_none, Option.map_some, List.map_cons, List.map_nil, List.append_nil, List.cons_append, List.nil_append, List.getElem?_cons_zero, List.getElem?_cons_succ, List.getD_cons_zero, List.getD_cons_succ, List.getD_nil, Bool.not_true, Bool.not_false, decide_true, decide_false]
  refine CallH.by (l8Valid_c n v xs H hr hlen hxs) ?_
  rintro _ H1 ⟨rfl, hp1⟩
  simp (disch := omega) only [S, S1, S2, S3, ST, eq_self, ne_eq, not_true_eq_false, not_false_eq_true, and_self, true_and, and_true, reduceIte, reduceCtorEq, Nat.reduceEqDiff, Nat.reduceAdd, Nat.zero_add, Nat.add_zero, Option.map_none, Option.map_some, List.map_cons, List.map_nil, List.append_nil, List.cons_append, List.nil_append, List.getElem?_cons_zero, List.getElem?_cons_succ, List.getD_cons_zero, List.getD_cons_succ, List.getD_nil, Bool.not_true, Bool.not_false, decide_true, decide_false]
  by_cases hv : (decide (3 ≤ n ∧ n ≤ 8) && triS n xs) = true
  · simp (disch := omega) only [hv, S, S1, S2, S3, ST, eq_self, ne_eq, not_true_eq_false, not_false_eq_true, and_self, true_and, and_true, reduceIte, reduceCtorEq, Nat.reduceEqDiff, Nat.reduceAdd, Nat.zero_add, Nat.add_zero, Option.map_none, Option.map_some, List.map_cons, List.map_nil, List.append_nil, List.cons_append, List.nil_append, List.getElem?_cons_zero, List.getElem?_cons_succ, List.getD_cons_zero, List.getD_cons_succ, List.getD_nil, Bool.not_true, Bool.not_false, decide_true, decide_false]
    refine CallH.by (l8Valid_c n w ys H1 (hr2.pre hp1) hlen2 hys) ?_
    rintro _ H2 ⟨rfl, hp2⟩
    simp (disch := omega) only [hv, S, S1, S2, S3, ST, eq_self, ne_eq, not_true_eq_false, not_false_eq_true, and_self, true_and, and_true, reduceIte, reduceCtorEq, Nat.reduceEqDiff, Nat.reduceAdd, Nat.zero_add, Nat.add_zero, Option.map_none, Option.map_some, List.map_cons, List.map_nil, List.append_nil, List.cons_append, List.nil_append, List.getElem?_cons_zero, List.getElem?_cons_succ, List.getD_cons_zero, List.getD_cons_succ, List.getD_nil, Bool.not_true, Bool.not_false, decide_true, decide_false]
    by_cases hw : (decide (3 ≤ n ∧ n ≤ 8) && triS n ys) = true
    · simp (disch := omega) only [hv, hw, S, S1, S2, S3, ST, eq_self, ne_eq, not_true_eq_false, not_false_eq_true, and_self, true_and, and_true, reduceIte, reduceCtorEq, Nat.reduceEqDiff, Nat.reduceAdd, Nat.zero_add, Nat.add_zero, Option.map_none, Option.map_some, List.map_cons, List.map_nil, List.append_nil, List.cons_append, List.nil_append, List.getElem?_cons_zero, List.getElem?_cons_succ, List.getD_cons_zero, List.getD_cons_succ, List.getD_nil, Bool.not_true, Bool.not_false, decide_true, decide_false]
      have hp := hp1.trans hp2
      have hra := hr.pre hp
      have hrb := hr2.pre hp
      simp only [Bool.and_eq_true, decide_eq_true_eq] at hv hw
      have la := triS_len hv.2
      have lb := triS_len hw.2
      refine LoopH.by (fun m s H' => ∃ i, m + i = xs.length ∧ s 0 = .int .i64 n ∧ s 1 = v ∧ s 2 = w ∧ s 9 = .int .i64 ((i : Nat) : Int) ∧ s 8 = .int .i64 ((crsAll (xs.take i) ys : Nat) : Int) ∧ H2 = H') xs.length ?_ ?_
      · exact ⟨0, by simp, rfl, rfl, rfl, by simp [S, S1, S2, S3, ST, eq_self, ne_eq, not_true_eq_false, not_false_eq_true, and_self, true_and, and_true, reduceIte, reduceCtorEq, Nat.reduceEqDiff, Nat.reduceAdd, Nat.zero_add, Nat.add_zero, Option.map_none, Option.map_some, List.map_cons, List.map_nil, List.append_nil, List.cons_append, List.nil_append, List.getElem?_cons_zero, List.getElem?_cons_succ, List.getD_cons_zero, List.getD_cons_succ, List.getD_nil, Bool.not_true, Bool.not_false, decide_true, decide_false], by simp [S, S1, S2, S3, ST, eq_self, ne_eq, not_true_eq_false, not_false_eq_true, and_self, true_and, and_true, reduceIte, reduceCtorEq, Nat.reduceEqDiff, Nat.reduceAdd, Nat.zero_add, Nat.add_zero, Option.map_none, Option.map_some, List.map_cons, List.map_nil, List.append_nil, List.cons_append, List.nil_append, List.getElem?_cons_zero, List.getElem?_cons_succ, List.getD_cons_zero, List.getD_cons_succ, List.getD_nil, Bool.not_true, Bool.not_false, decide_true, decide_false, crsAll], rfl⟩
      · rintro m s H' ⟨i, hm, h0, h1, h2, h9, h8, rfl⟩
        simp (disch := omega) only [h0, h1, h2, h9, h8, hra.len Try.underlying25, S, S1, S2, S3, ST, eq_self, ne_eq, not_true_eq_false, not_false_eq_true, and_self, true_and, and_true, reduceIte, reduceCtorEq, Nat.reduceEqDiff, Nat.reduceAdd, Nat.zero_add, Nat.add_zero, Option.map_none, Option.map_some, List.map_cons, List.map_nil, List.append_nil, List.cons_append, List.nil_append, List.getElem?_cons_zero, List.getElem?_cons_succ, List.getD_cons_zero, List.getD_cons_succ, List.getD_nil, Bool.not_true, Bool.not_false, decide_true, decide_false]
        refine brD.intro (fun g => ?_) (fun g => ?_) <;> simp (disch := omega) only [h0, h1, h2, h9, h8, wrap64, S, S1, S2, S3, ST, eq_self, ne_eq, not_true_eq_false, not_false_eq_true, and_self, true_and, and_true, reduceIte, reduceCtorEq, Nat.reduceEqDiff, Nat.reduceAdd, Nat.zero_add, Nat.add_zero, Option.map_none, Option.map_some, List.map_cons, List.map_nil, List.append_nil, List.cons_append, List.nil_append, List.getElem?_cons_zero, List.getElem?_cons_succ, List.getD_cons_zero, List.getD_cons_succ, List.getD_nil, Bool.not_true, Bool.not_false, decide_true, decide_false]
        · have hi : i < xs.length := by omega
          have hx : xs.getD i 0 = xs[i] := by simp [hi]
          have b0 := crsAll_le (xs.take i) ys
          have b1 : (xs.take i).length * ys.length ≤ 6 * 6 := Nat.mul_le_mul (by simp; omega) (by omega)
          refine LoopH.by (fun m' s' H'' => ∃ k, m' + k = ys.length ∧ s' 0 = .int .i64 n ∧ s' 1 = v ∧ s' 2 = w ∧ s' 9 = .int .i64 ((i : Nat) : Int) ∧ s' 10 = .int .i64 ((k : Nat) : Int) ∧ s' 8 = .int .i64 (((crsAll (xs.take i) ys + crsRow (xs.getD i 0) (ys.take k) : Nat)) : Int) ∧ H2 = H'') ys.length ?_ ?_
          · exact ⟨0, by simp, by simp [S, S1, S2, S3, ST, eq_self, ne_eq, not_true_eq_false, not_false_eq_true, and_self, true_and, and_true, reduceIte, reduceCtorEq, Nat.reduceEqDiff, Nat.reduceAdd, Nat.zero_add, Nat.add_zero, Option.map_none, Option.map_some, List.map_cons, List.map_nil, List.append_nil, List.cons_append, List.nil_append, List.getElem?_cons_zero, List.getElem?_cons_succ, List.getD_cons_zero, List.getD_cons_succ, List.getD_nil, Bool.not_true, Bool.not_false, decide_true, decide_false, h0], by simp [S, S1, S2, S3, ST, eq_self, ne_eq, not_true_eq_false, not_false_eq_true, and_self, true_and, and_true, reduceIte, reduceCtorEq, Nat.reduceEqDiff, Nat.reduceAdd, Nat.zero_add, Nat.add_zero, Option.map_none, Option.map_some, List.map_cons, List.map_nil, List.append_nil, List.cons_append, List.nil_append, List.getElem?_cons_zero, List.getElem?_cons_succ, List.getD_cons_zero, List.getD_cons_succ, List.getD_nil, Bool.not_true, Bool.not_false, decide_true, decide_false, h1], by simp [S, S1, S2, S3, ST, eq_self, ne_eq, not_true_eq_false, not_false_eq_true, and_self, true_and, and_true, reduceIte, reduceCtorEq, Nat.reduceEqDiff, Nat.reduceAdd, Nat.zero_add, Nat.add_zero, Option.map_none, Option.map_some, List.map_cons, List.map_nil, List.append_nil, List.cons_append, List.nil_append, List.getElem?_cons_zero, List.getElem?_cons_succ, List.getD_cons_zero, List.getD_cons_succ, List.getD_nil, Bool.not_true, Bool.not_false, decide_true, decide_false, h2], by simp [S, S1, S2, S3, ST, eq_self, ne_eq, not_true_eq_false, not_false_eq_true, and_self, true_and, and_true, reduceIte, reduceCtorEq, Nat.reduceEqDiff, Nat.reduceAdd, Nat.zero_add, Nat.add_zero, Option.map_none, Option.map_some, List.map_cons, List.map_nil, List.append_nil, List.cons_append, List.nil_append, List.getElem?_cons_zero, List.getElem?_cons_succ, List.getD_cons_zero, List.getD_cons_succ, List.getD_nil, Bool.not_true, Bool.not_false, decide_true, decide_false, h9], by simp [S, S1, S2, S3, ST, eq_self, ne_eq, not_true_eq_false, not_false_eq_true, and_self, true_and, and_true, reduceIte, reduceCtorEq, Nat.reduceEqDiff, Nat.reduceAdd, Nat.zero_add, Nat.add_zero, Option.map_none, Option.map_some, List.map_cons, List.map_nil, List.append_nil, List.cons_append, List.nil_append, List.getElem?_cons_zero, List.getElem?_cons_succ, List.getD_cons_zero, List.getD_cons_succ, List.getD_nil, Bool.not_true, Bool.not_false, decide_true, decide_false], by simp [S, S1, S2, S3, ST, eq_self, ne_eq, not_true_eq_false, not_false_eq_true, and_self, true_and, and_true, reduceIte, reduceCtorEq, Nat.reduceEqDiff, Nat.reduceAdd, Nat.zero_add, Nat.add_zero, Option.map_none, Option.map_some, List.map_cons, List.map_nil, List.append_nil, List.cons_append, List.nil_append, List.getElem?_cons_zero, List.getElem?_cons_succ, List.getD_cons_zero, List.getD_cons_succ, List.getD_nil, Bool.not_true, Bool.not_false, decide_true, decide_false, h8, crsRow], rfl⟩
          · rintro m' s' H'' ⟨k, hm', g0, g1, g2, g9, g10, g8, rfl⟩
            simp (disch := omega) only [g0, g1, g2, g9, g10, g8, hrb.len Try.underlying25, S, S1, S2, S3, ST, eq_self, ne_eq, not_true_eq_false, not_false_eq_true, and_self, true_and, and_true, reduceIte, reduceCtorEq, Nat.reduceEqDiff, Nat.reduceAdd, Nat.zero_add, Nat.add_zero, Option.map_none, Option.map_some, List.map_cons, List.map_nil, List.append_nil, List.cons_append, List.nil_append, List.getElem?_cons_zero, List.getElem?_cons_succ, List.getD_cons_zero, List.getD_cons_succ, List.getD_nil, Bool.not_true, Bool.not_false, decide_true, decide_false]
            refine brD.intro (fun q => ?_) (fun q => ?_) <;> simp (disch := omega) only [g0, g1, g2, g9, g10, g8, hra.ix Try.underlying25 cs3, hra.cell, hrb.ix Try.underlying25 cs3, hrb.cell, Int.toNat_natCast, wrap64, S, S1, S2, S3, ST, eq_self, ne_eq, not_true_eq_false, not_false_eq_true, and_self, true_and, and_true, reduceIte, reduceCtorEq, Nat.reduceEqDiff, Nat.reduceAdd, Nat.zero_add, Nat.add_zero, Option.map_none, Option.map_some, List.map_cons, List.map_nil, List.append_nil, List.cons_append, List.nil_append, List.getElem?_cons_zero, List.getElem?_cons_succ, List.getD_cons_zero, List.getD_cons_succ, List.getD_nil, Bool.not_true, Bool.not_false, decide_true, decide_false]
            · have hk : k < ys.length := by omega
              have hy : ys.getD k 0 = ys[k] := by simp [hk]
              have b2 := crsRow_le (xs.getD i 0) (ys.take k)
              have b3 : (ys.take k).length ≤ 6 := by simp; omega
              have st := crsRow_step (xs.getD i 0) ys k hk
              refine CallH.by (l8Cross_c _ _ _ (by rw [hx]; exact hxs _ (List.getElem_mem hi)) (by rw [hy]; exact hys _ (List.getElem_mem hk))) ?_
              rintro _ _ ⟨rfl, rfl⟩
              simp (disch := omega) only [S, S1, S2, S3, ST, eq_self, ne_eq, not_true_eq_false, not_false_eq_true, and_self, true_and, and_true, reduceIte, reduceCtorEq, Nat.reduceEqDiff, Nat.reduceAdd, Nat.zero_add, Nat.add_zero, Option.map_none, Option.map_some, List.map_cons, List.map_nil, List.append_nil, List.cons_append, List.nil_append, List.getElem?_cons_zero, List.getElem?_cons_succ, List.getD_cons_zero, List.getD_cons_succ, List.getD_nil, Bool.not_true, Bool.not_false, decide_true, decide_false]
              refine brD.intro (fun e => ?_) (fun e => ?_) <;> simp (disch := omega) only [g0, g1, g2, g9, g10, g8, wrap64, S, S1, S2, S3, ST, eq_self, ne_eq, not_true_eq_false, not_false_eq_true, and_self, true_and, and_true, reduceIte, reduceCtorEq, Nat.reduceEqDiff, Nat.reduceAdd, Nat.zero_add, Nat.add_zero, Option.map_none, Option.map_some, List.map_cons, List.map_nil, List.append_nil, List.cons_append, List.nil_append, List.getElem?_cons_zero, List.getElem?_cons_succ, List.getD_cons_zero, List.getD_cons_succ, List.getD_nil, Bool.not_true, Bool.not_false, decide_true, decide_false]
              · rw [if_pos e] at st
                refine ⟨m' - 1, by omega, k + 1, by omega, ?_⟩
                (repeat' apply And.intro) <;> first | rfl | trivial | assumption | omega | (simp only [Value.int.injEq, true_and]; omega) | (simp; done) | (simp; omega)
              · rw [if_neg e] at st
                refine ⟨m' - 1, by omega, k + 1, by omega, ?_⟩
                (repeat' apply And.intro) <;> first | rfl | trivial | assumption | omega | (simp only [Value.int.injEq, true_and]; omega) | (simp; done) | (simp; omega)
            · have st := crsAll_step xs ys i hi
              refine ⟨m - 1, by omega, i + 1, by omega, ?_⟩
              rw [List.take_of_length_le (show ys.length ≤ k by omega)]
              (repeat' apply And.intro) <;> first | rfl | trivial | assumption | omega | (simp only [Value.int.injEq, true_and]; omega) | (simp; done) | (simp; omega)
        · refine hQ _ _ _ ?_
          simp (disch := omega) only [h8, S, S1, S2, S3, ST, eq_self, ne_eq, not_true_eq_false, not_false_eq_true, and_self, true_and, and_true, reduceIte, reduceCtorEq, Nat.reduceEqDiff, Nat.reduceAdd, Nat.zero_add, Nat.add_zero, Option.map_none, Option.map_some, List.map_cons, List.map_nil, List.append_nil, List.cons_append, List.nil_append, List.getElem?_cons_zero, List.getElem?_cons_succ, List.getD_cons_zero, List.getD_cons_succ, List.getD_nil, Bool.not_true, Bool.not_false, decide_true, decide_false]
          rw [if_pos ⟨hv.1, hv.2, hw.2⟩, List.take_of_length_le (by omega)]
          exact ⟨rfl, hp⟩
    · simp (disch := omega) only [hv, hw, S, S1, S2, S3, ST, eq_self, ne_eq, not_true_eq_false, not_false_eq_true, and_self, true_and, and_true, reduceIte, reduceCtorEq, Nat.reduceEqDiff, Nat.reduceAdd, Nat.zero_add, Nat.add_zero, Option.map_none, Option.map_some, List.map_cons, List.map_nil, List.append_nil, List.cons_append, List.nil_append, List.getElem?_cons_zero, List.getElem?_cons_succ, List.getD_cons_zero, List.getD_cons_succ, List.getD_nil, Bool.not_true, Bool.not_false, decide_true, decide_false]
      refine hQ _ _ _ ?_
      simp (disch := omega) only [S, S1, S2, S3, ST, eq_self, ne_eq, not_true_eq_false, not_false_eq_true, and_self, true_and, and_true, reduceIte, reduceCtorEq, Nat.reduceEqDiff, Nat.reduceAdd, Nat.zero_add, Nat.add_zero, Option.map_none, Option.map_some, List.map_cons, List.map_nil, List.append_nil, List.cons_append, List.nil_append, List.getElem?_cons_zero, List.getElem?_cons_succ, List.getD_cons_zero, List.getD_cons_succ, List.getD_nil, Bool.not_true, Bool.not_false, decide_true, decide_false]
      rw [if_neg]
      · exact ⟨rfl, hp1.trans hp2⟩
      · rintro ⟨c1, c2, c3⟩
        exact hw (by simp [c1, c3])
  · simp (disch := omega) only [hv, S, S1, S2, S3, ST, eq_self, ne_eq, not_true_eq_false, not_false_eq_true, and_self, true_and, and_true, reduceIte, reduceCtorEq, Nat.reduceEqDiff, Nat.reduceAdd, Nat.zero_add, Nat.add_zero, Option.map_none, Option.map_some, List.map_cons, List.map_nil, List.append_nil, List.cons_append, List.nil_append, List.getElem?_cons_zero, List.getElem?_cons_succ, List.getD_cons_zero, List.getD_cons_succ, List.getD_nil, Bool.not_true, Bool.not_false, decide_true, decide_false]
    refine hQ _ _ _ ?_
    simp (disch := omega) only [S, S1, S2, S3, ST, eq_self, ne_eq, not_true_eq_false, not_false_eq_true, and_self, true_and, and_true, reduceIte, reduceCtorEq, Nat.reduceEqDiff, Nat.reduceAdd, Nat.zero_add, Nat.add_zero, Option.map_none, Option.map_some, List.map_cons, List.map_nil, List.append_nil, List.cons_append, List.nil_append, List.getElem?_cons_zero, List.getElem?_cons_succ, List.getD_cons_zero, List.getD_cons_succ, List.getD_nil, Bool.not_true, Bool.not_false, decide_true, decide_false]
    rw [if_neg]
    · exact ⟨rfl, hp1⟩
    · rintro ⟨c1, c2, c3⟩
      exact hv (by simp [c1, c2])

set_option maxHeartbeats 2000000 in
theorem crossI_c (n : Int) (v w : Value) (xs ys : List Int) (H : AH) (hr : Row 3 H v xs) (hlen : xs.length ≤ 1099511627776) (hxs : ∀ y ∈ xs, I64 y) (hr2 : Row 3 H w ys) (hlen2 : ys.length ≤ 1099511627776) (hys : ∀ y ∈ ys, I64 y) :
    ACalls Try.prog 37 [.int .i64 n, v, w] H fun r H' => r = (if (3 ≤ n ∧ n ≤ 8) ∧ triI n xs = true ∧ triI n ys = true then .tuple (List.toArray [.int .i64 (crsAll xs ys : Int), .bool true]) else .tuple (List.toArray [.int .i64 0, .bool false])) ∧ H <+: H' := by
  refine in37 rfl ?_
  intro Q hQ
  obtain ⟨pv, ev⟩ := hr.shape
  obtain ⟨pw, ew⟩ := hr2.shape
  subst ev
  subst ew
  simp (disch := omega) only [cd37, S, S1, S2, S3, ST, eq_self, ne_eq, not_true_eq_false, not_false_eq_true, and_self, true_and, and_true, reduceIte, reduceCtorEq, Nat.reduceEqDiff, Nat.reduceAdd, Nat.zero_add, Nat.add_zero, Option.map_none, Option.map_some, List.map_cons, List.map_nil, List.append_nil, List.cons_append, List.nil_append, List.getElem?_cons_zero, List.getElem?_cons_succ, List.getD_cons_zero, List.getD_cons_succ, List.getD_nil, Bool.not_true, Bool.not_false, decide_true, decide_false]
  generalize hv : Value.slice pv xs.length xs.length = v at *
  generalize hw : Value.slice pw ys.length ys.length = w at *
  have hnew := RowV.new 25 H [v, w]
  have hp0 : H <+: H ++ [AObj.cells [v, w] 25 false] := List.prefix_append _ _
  refine CallH.by (areTri_c n _ [v, w] [xs, ys] _ hnew (by simp) rfl ?_) ?_
  · intro i hi
    match i, hi with
    | 0, _ => exact ⟨hr.pre hp0, hlen, hxs⟩
    | 1, _ => exact ⟨hr2.pre hp0, hlen2, hys⟩
  rintro _ H2 ⟨rfl, hp1⟩
  simp (disch := omega) only [S, S1, S2, S3, ST, eq_self, ne_eq, not_true_eq_false, not_false_eq_true, and_self, true_and, and_true, reduceIte, reduceCtorEq, Nat.reduceEqDiff, Nat.reduceAdd, Nat.zero_add, Nat.add_zero, Option.map_none, Option.map_some, List.map_cons, List.map_nil, List.append_nil, List.cons_append, List.nil_append, List.getElem?_cons_zero, List.getElem?_cons_succ, List.getD_cons_zero, List.getD_cons_succ, List.getD_nil, Bool.not_true, Bool.not_false, decide_true, decide_false]
  have hp := hp0.trans hp1
  have hra := hr.pre hp
  have hrb := hr2.pre hp
  by_cases hc : (decide (3 ≤ n ∧ n ≤ 8) && [xs, ys].all (triI n)) = true
  · simp (disch := omega) only [hc, hra.len Try.underlying25, S, S1, S2, S3, ST, eq_self, ne_eq, not_true_eq_false, not_false_eq_true, and_self, true_and, and_true, reduceIte, reduceCtorEq, Nat.reduceEqDiff, Nat.reduceAdd, Nat.zero_add, Nat.add_zero, Option.map_none, Option.map_some, List.map_cons, List.map_nil, List.append_nil, List.cons_append, List.nil_append, List.getElem?_cons_zero, List.getElem?_cons_succ, List.getD_cons_zero, List.getD_cons_succ, List.getD_nil, Bool.not_true, Bool.not_false, decide_true, decide_false]
    simp only [Bool.and_eq_true, decide_eq_true_eq, List.all_cons, List.all_nil, Bool.and_true] at hc
    obtain ⟨hn, hx1, hy1⟩ := hc
    have la : (xs.length : Int) = n - 3 := by rw [tri_same n xs hn] at hx1; exact triS_len hx1
    have lb : (ys.length : Int) = n - 3 := by rw [tri_same n ys hn] at hy1; exact triS_len hy1
    refine LoopH.by (fun m s H' => ∃ i, m + i = xs.length ∧ s 2 = w ∧ s 19 = v ∧ s 20 = .int .i64 (xs.length : Int) ∧ s 21 = .int .i64 ((i : Nat) : Int) ∧ s 8 = .int .i64 ((crsAll (xs.take i) ys : Nat) : Int) ∧ H2 = H') xs.length ?_ ?_
    · exact ⟨0, by simp, rfl, rfl, rfl, rfl, by simp [S, S1, S2, S3, ST, eq_self, ne_eq, not_true_eq_false, not_false_eq_true, and_self, true_and, and_true, reduceIte, reduceCtorEq, Nat.reduceEqDiff, Nat.reduceAdd, Nat.zero_add, Nat.add_zero, Option.map_none, Option.map_some, List.map_cons, List.map_nil, List.append_nil, List.cons_append, List.nil_append, List.getElem?_cons_zero, List.getElem?_cons_succ, List.getD_cons_zero, List.getD_cons_succ, List.getD_nil, Bool.not_true, Bool.not_false, decide_true, decide_false, crsAll], rfl⟩
    · rintro m s H' ⟨i, hm, h2, h19, h20, h21, h8, rfl⟩
      simp (disch := omega) only [h2, h19, h20, h21, h8, S, S1, S2, S3, ST, eq_self, ne_eq, not_true_eq_false, not_false_eq_true, and_self, true_and, and_true, reduceIte, reduceCtorEq, Nat.reduceEqDiff, Nat.reduceAdd, Nat.zero_add, Nat.add_zero, Option.map_none, Option.map_some, List.map_cons, List.map_nil, List.append_nil, List.cons_append, List.nil_append, List.getElem?_cons_zero, List.getElem?_cons_succ, List.getD_cons_zero, List.getD_cons_succ, List.getD_nil, Bool.not_true, Bool.not_false, decide_true, decide_false]
      refine brD.intro (fun g => ?_) (fun g => ?_) <;> simp (disch := omega) only [h2, h19, h20, h21, h8, wrap64, hra.ix Try.underlying25 cs3, hra.cell, hrb.len Try.underlying25, Int.toNat_natCast, S, S1, S2, S3, ST, eq_self, ne_eq, not_true_eq_false, not_false_eq_true, and_self, true_and, and_true, reduceIte, reduceCtorEq, Nat.reduceEqDiff, Nat.reduceAdd, Nat.zero_add, Nat.add_zero, Option.map_none, Option.map_some, List.map_cons, List.map_nil, List.append_nil, List.cons_append, List.nil_append, List.getElem?_cons_zero, List.getElem?_cons_succ, List.getD_cons_zero, List.getD_cons_succ, List.getD_nil, Bool.not_true, Bool.not_false, decide_true, decide_false]
      · have hi : i < xs.length := by omega
        have hx : xs.getD i 0 = xs[i] := by simp [hi]
        have b0 := crsAll_le (xs.take i) ys
        have b1 : (xs.take i).length * ys.length ≤ 6 * 6 := Nat.mul_le_mul (by simp; omega) (by omega)
        refine LoopH.by (fun m' s' H'' => ∃ k, m' + k = ys.length ∧ s' 2 = w ∧ s' 19 = v ∧ s' 20 = .int .i64 (xs.length : Int) ∧ s' 21 = .int .i64 ((i : Nat) : Int) ∧ s' 10 = .int .i64 (xs.getD i 0) ∧ s' 25 = w ∧ s' 26 = .int .i64 (ys.length : Int) ∧ s' 27 = .int .i64 ((k : Nat) : Int) ∧ s' 8 = .int .i64 (((crsAll (xs.take i) ys + crsRow (xs.getD i 0) (ys.take k) : Nat)) : Int) ∧ H2 = H'') ys.length ?_ ?_
        · exact ⟨0, by simp, by simp only [S, S1, S2, S3, ST, eq_self, ne_eq, not_true_eq_false, not_false_eq_true, and_self, true_and, and_true, reduceIte, reduceCtorEq, Nat.reduceEqDiff, Nat.reduceAdd, Nat.zero_add, Nat.add_zero, Option.map_none, Option.map_some, List.map_cons, List.map_nil, List.append_nil, List.cons_append, List.nil_append, List.getElem?_cons_zero, List.getElem?_cons_succ, List.getD_cons_zero, List.getD_cons_succ, List.getD_nil, Bool.not_true, Bool.not_false, decide_true, decide_false, h2], by simp only [S, S1, S2, S3, ST, eq_self, ne_eq, not_true_eq_false, not_false_eq_true, and_self, true_and, and_true, reduceIte, reduceCtorEq, Nat.reduceEqDiff, Nat.reduceAdd, Nat.zero_add, Nat.add_zero, Option.map_none, Option.map_some, List.map_cons, List.map_nil, List.append_nil, List.cons_append, List.nil_append, List.getElem?_cons_zero, List.getElem?_cons_succ, List.getD_cons_zero, List.getD_cons_succ, List.getD_nil, Bool.not_true, Bool.not_false, decide_true, decide_false, h19], by simp only [S, S1, S2, S3, ST, eq_self, ne_eq, not_true_eq_false, not_false_eq_true, and_self, true_and, and_true, reduceIte, reduceCtorEq, Nat.reduceEqDiff, Nat.reduceAdd, Nat.zero_add, Nat.add_zero, Option.map_none, Option.map_some, List.map_cons, List.map_nil, List.append_nil, List.cons_append, List.nil_append, List.getElem?_cons_zero, List.getElem?_cons_succ, List.getD_cons_zero, List.getD_cons_succ, List.getD_nil, Bool.not_true, Bool.not_false, decide_true, decide_false, h20], by simp only [S, S1, S2, S3, ST, eq_self, ne_eq, not_true_eq_false, not_false_eq_true, and_self, true_and, and_true, reduceIte, reduceCtorEq, Nat.reduceEqDiff, Nat.reduceAdd, Nat.zero_add, Nat.add_zero, Option.map_none, Option.map_some, List.map_cons, List.map_nil, List.append_nil, List.cons_append, List.nil_append, List.getElem?_cons_zero, List.getElem?_cons_succ, List.getD_cons_zero, List.getD_cons_succ, List.getD_nil, Bool.not_true, Bool.not_false, decide_true, decide_false, h21], by simp only [S, S1, S2, S3, ST, eq_self, ne_eq, not_true_eq_false, not_false_eq_true, and_self, true_and, and_true, reduceIte, reduceCtorEq, Nat.reduceEqDiff, Nat.reduceAdd, Nat.zero_add, Nat.add_zero, Option.map_none, Option.map_some, List.map_cons, List.map_nil, List.append_nil, List.cons_append, List.nil_append, List.getElem?_cons_zero, List.getElem?_cons_succ, List.getD_cons_zero, List.getD_cons_succ, List.getD_nil, Bool.not_true, Bool.not_false, decide_true, decide_false], by simp only [S, S1, S2, S3, ST, eq_self, ne_eq, not_true_eq_false, not_false_eq_true, and_self, true_and, and_true, reduceIte, reduceCtorEq, Nat.reduceEqDiff, Nat.reduceAdd, Nat.zero_add, Nat.add_zero, Option.map_none, Option.map_some, List.map_cons, List.map_nil, List.append_nil, List.cons_append, List.nil_append, List.getElem?_cons_zero, List.getElem?_cons_succ, List.getD_cons_zero, List.getD_cons_succ, List.getD_nil, Bool.not_true, Bool.not_false, decide_true, decide_false, h2], by simp only [S, S1, S2, S3, ST, eq_self, ne_eq, not_true_eq_false, not_false_eq_true, and_self, true_and, and_true, reduceIte, reduceCtorEq, Nat.reduceEqDiff, Nat.reduceAdd, Nat.zero_add, Nat.add_zero, Option.map_none, Option.map_some, List.map_cons, List.map_nil, List.append_nil, List.cons_append, List.nil_append, List.getElem?_cons_zero, List.getElem?_cons_succ, List.getD_cons_zero, List.getD_cons_succ, List.getD_nil, Bool.not_true, Bool.not_false, decide_true, decide_false], by simp [S, S1, S2, S3, ST, eq_self, ne_eq, not_true_eq_false, not_false_eq_true, and_self, true_and, and_true, reduceIte, reduceCtorEq, Nat.reduceEqDiff, Nat.reduceAdd, Nat.zero_add, Nat.add_zero, Option.map_none, Option.map_some, List.map_cons, List.map_nil, List.append_nil, List.cons_append, List.nil_append, List.getElem?_cons_zero, List.getElem?_cons_succ, List.getD_cons_zero, List.getD_cons_succ, List.getD_nil, Bool.not_true, Bool.not_false, decide_true, decide_false], by simp [S, S1, S2, S3, ST, eq_self, ne_eq, not_true_eq_false, not_false_eq_true, and_self, true_and, and_true, reduceIte, reduceCtorEq, Nat.reduceEqDiff, Nat.reduceAdd, Nat.zero_add, Nat.add_zero, Option.map_none, Option.map_some, List.map_cons, List.map_nil, List.append_nil, List.cons_append, List.nil_append, List.getElem?_cons_zero, List.getElem?_cons_succ, List.getD_cons_zero, List.getD_cons_succ, List.getD_nil, Bool.not_true, Bool.not_false, decide_true, decide_false, h8, crsRow], rfl⟩
        · rintro m' s' H'' ⟨k, hm', g2, g19, g20, g21, g10, g25, g26, g27, g8, rfl⟩
          simp (disch := omega) only [g2, g19, g20, g21, g10, g25, g26, g27, g8, S, S1, S2, S3, ST, eq_self, ne_eq, not_true_eq_false, not_false_eq_true, and_self, true_and, and_true, reduceIte, reduceCtorEq, Nat.reduceEqDiff, Nat.reduceAdd, Nat.zero_add, Nat.add_zero, Option.map_none, Option.map_some, List.map_cons, List.map_nil, List.append_nil, List.cons_append, List.nil_append, List.getElem?_cons_zero, List.getElem?_cons_succ, List.getD_cons_zero, List.getD_cons_succ, List.getD_nil, Bool.not_true, Bool.not_false, decide_true, decide_false]
          refine brD.intro (fun q => ?_) (fun q => ?_) <;> simp (disch := omega) only [g2, g19, g20, g21, g10, g25, g26, g27, g8, hrb.ix Try.underlying25 cs3, hrb.cell, Int.toNat_natCast, wrap64, S, S1, S2, S3, ST, eq_self, ne_eq, not_true_eq_false, not_false_eq_true, and_self, true_and, and_true, reduceIte, reduceCtorEq, Nat.reduceEqDiff, Nat.reduceAdd, Nat.zero_add, Nat.add_zero, Option.map_none, Option.map_some, List.map_cons, List.map_nil, List.append_nil, List.cons_append, List.nil_append, List.getElem?_cons_zero, List.getElem?_cons_succ, List.getD_cons_zero, List.getD_cons_succ, List.getD_nil, Bool.not_true, Bool.not_false, decide_true, decide_false]
          · have hk : k < ys.length := by omega
            have hy : ys.getD k 0 = ys[k] := by simp [hk]
            have b2 := crsRow_le (xs.getD i 0) (ys.take k)
            have b3 : (ys.take k).length ≤ 6 := by simp; omega
            have st := crsRow_step (xs.getD i 0) ys k hk
            refine CallH.by (cross_c _ _ _ (by rw [hx]; exact hxs _ (List.getElem_mem hi)) (by rw [hy]; exact hys _ (List.getElem_mem hk))) ?_
            rintro _ _ ⟨rfl, rfl⟩
            simp (disch := omega) only [S, S1, S2, S3, ST, eq_self, ne_eq, not_true_eq_false, not_false_eq_true, and_self, true_and, and_true, reduceIte, reduceCtorEq, Nat.reduceEqDiff, Nat.reduceAdd, Nat.zero_add, Nat.add_zero, Option.map_none, Option.map_some, List.map_cons, List.map_nil, List.append_nil, List.cons_append, List.nil_append, List.getElem?_cons_zero, List.getElem?_cons_succ, List.getD_cons_zero, List.getD_cons_succ, List.getD_nil, Bool.not_true, Bool.not_false, decide_true, decide_false]
            refine brD.intro (fun e => ?_) (fun e => ?_) <;> simp (disch := omega) only [g2, g19, g20, g21, g10, g25, g26, g27, g8, wrap64, S, S1, S2, S3, ST, eq_self, ne_eq, not_true_eq_false, not_false_eq_true, and_self, true_and, and_true, reduceIte, reduceCtorEq, Nat.reduceEqDiff, Nat.reduceAdd, Nat.zero_add, Nat.add_zero, Option.map_none, Option.map_some, List.map_cons, List.map_nil, List.append_nil, List.cons_append, List.nil_append, List.getElem?_cons_zero, List.getElem?_cons_succ, List.getD_cons_zero, List.getD_cons_succ, List.getD_nil, Bool.not_true, Bool.not_false, decide_true, decide_false]
            · rw [if_pos e] at st
              refine ⟨m' - 1, by omega, k + 1, by omega, ?_⟩
              (repeat' apply And.intro) <;> first | rfl | trivial | assumption | omega | (simp only [Value.int.injEq, true_and]; omega) | (simp; done) | (simp; omega)
            · rw [if_neg e] at st
              refine ⟨m' - 1, by omega, k + 1, by omega, ?_⟩
              (repeat' apply And.intro) <;> first | rfl | trivial | assumption | omega | (simp only [Value.int.injEq, true_and]; omega) | (simp; done) | (simp; omega)
          · have st := crsAll_step xs ys i hi
            refine ⟨m - 1, by omega, i + 1, by omega, ?_⟩
            rw [List.take_of_length_le (show ys.length ≤ k by omega)]
            (repeat' apply And.intro) <;> first | rfl | trivial | assumption | omega | (simp only [Value.int.injEq, true_and]; omega) | (simp; done) | (simp; omega)
      · refine hQ _ _ _ ?_
        simp (disch := omega) only [h8, S, S1, S2, S3, ST, eq_self, ne_eq, not_true_eq_false, not_false_eq_true, and_self, true_and, and_true, reduceIte, reduceCtorEq, Nat.reduceEqDiff, Nat.reduceAdd, Nat.zero_add, Nat.add_zero, Option.map_none, Option.map_some, List.map_cons, List.map_nil, List.append_nil, List.cons_append, List.nil_append, List.getElem?_cons_zero, List.getElem?_cons_succ, List.getD_cons_zero, List.getD_cons_succ, List.getD_nil, Bool.not_true, Bool.not_false, decide_true, decide_false]
        rw [if_pos ⟨hn, hx1, hy1⟩, List.take_of_length_le (by omega)]
        exact ⟨rfl, hp⟩
  · simp (disch := omega) only [hc, S, S1, S2, S3, ST, eq_self, ne_eq, not_true_eq_false, not_false_eq_true, and_self, true_and, and_true, reduceIte, reduceCtorEq, Nat.reduceEqDiff, Nat.reduceAdd, Nat.zero_add, Nat.add_zero, Option.map_none, Option.map_some, List.map_cons, List.map_nil, List.append_nil, List.cons_append, List.nil_append, List.getElem?_cons_zero, List.getElem?_cons_succ, List.getD_cons_zero, List.getD_cons_succ, List.getD_nil, Bool.not_true, Bool.not_false, decide_true, decide_false]
    refine hQ _ _ _ ?_
    simp (disch := omega) only [S, S1, S2, S3, ST, eq_self, ne_eq, not_true_eq_false, not_false_eq_true, and_self, true_and, and_true, reduceIte, reduceCtorEq, Nat.reduceEqDiff, Nat.reduceAdd, Nat.zero_add, Nat.add_zero, Option.map_none, Option.map_some, List.map_cons, List.map_nil, List.append_nil, List.cons_append, List.nil_append, List.getElem?_cons_zero, List.getElem?_cons_succ, List.getD_cons_zero, List.getD_cons_succ, List.getD_nil, Bool.not_true, Bool.not_false, decide_true, decide_false]
    rw [if_neg]
    · exact ⟨rfl, hp⟩
    · rintro ⟨c1, c2, c3⟩
      exact hc (by simp [c1, c2, c3])

theorem crossLaw_c (n : Int) (v w : Value) (xs ys : List Int) (H : AH) (hr : Row 3 H v xs) (hxs : ∀ y ∈ xs, I64 y) (hr2 : Row 3 H w ys) (hys : ∀ y ∈ ys, I64 y) :
    ACalls Try.prog 12 [.int .i64 n, v, w] H fun r H' => r = .bool true := by
  have same : ∀ r : Value, r = (if (3 ≤ n ∧ n ≤ 8) ∧ triI n xs = true ∧ triI n ys = true then .tuple (List.toArray [.int .i64 (crsAll xs ys : Int), .bool true]) else .tuple (List.toArray [.int .i64 0, .bool false])) ↔ r = (if (3 ≤ n ∧ n ≤ 8) ∧ triS n xs = true ∧ triS n ys = true then .tuple (List.toArray [.int .i64 (crsAll xs ys : Int), .bool true]) else .tuple (List.toArray [.int .i64 0, .bool false])) := by
    intro r
    by_cases h : 3 ≤ n ∧ n ≤ 8
    · rw [tri_same n xs h, tri_same n ys h]
    · simp [h]
  refine in12 rfl ?_
  intro Q hQ
  simp (disch := omega) only [cd12, hr.len Try.underlying25, S, S1, S2, S3, ST, eq_self, ne_eq, not_true_eq_false, not_false_eq_true, and_self, true_and, and_true, reduceIte, reduceCtorEq, Nat.reduceEqDiff, Nat.reduceAdd, Nat.zero_add, Nat.add_zero, Option.map_none, Option.map_some, List.map_cons, List.map_nil, List.append_nil, List.cons_append, List.nil_append, List.getElem?_cons_zero, List.getElem?_cons_succ, List.getD_cons_zero, List.getD_cons_succ, List.getD_nil, Bool.not_true, Bool.not_false, decide_true, decide_false]
  refine brD.intro (fun h => ?_) (fun h => ?_) <;> simp (disch := omega) only [hr2.len Try.underlying25, S, S1, S2, S3, ST, eq_self, ne_eq, not_true_eq_false, not_false_eq_true, and_self, true_and, and_true, reduceIte, reduceCtorEq, Nat.reduceEqDiff, Nat.reduceAdd, Nat.zero_add, Nat.add_zero, Option.map_none, Option.map_some, List.map_cons, List.map_nil, List.append_nil, List.cons_append, List.nil_append, List.getElem?_cons_zero, List.getElem?_cons_succ, List.getD_cons_zero, List.getD_cons_succ, List.getD_nil, Bool.not_true, Bool.not_false, decide_true, decide_false]
  · refine hQ _ _ _ ?_
    simp (disch := omega) only [S, S1, S2, S3, ST, eq_self, ne_eq, not_true_eq_false, not_false_eq_true, and_self, true_and, and_true, reduceIte, reduceCtorEq, Nat.reduceEqDiff, Nat.reduceAdd, Nat.zero_add, Nat.add_zero, Option.map_none, Option.map_some, List.map_cons, List.map_nil, List.append_nil, List.cons_append, List.nil_append, List.getElem?_cons_zero, List.getElem?_cons_succ, List.getD_cons_zero, List.getD_cons_succ, List.getD_nil, Bool.not_true, Bool.not_false, decide_true, decide_false]
  · have hlen : xs.length ≤ 1099511627776 := by omega
    refine brD.intro (fun h' => ?_) (fun h' => ?_) <;> simp (disch := omega) only [S, S1, S2, S3, ST, eq_self, ne_eq, not_true_eq_false, not_false_eq_true, and_self, true_and, and_true, reduceIte, reduceCtorEq, Nat.reduceEqDiff, Nat.reduceAdd, Nat.zero_add, Nat.add_zero, Option.map_none, Option.map_some, List.map_cons, List.map_nil, List.append_nil, List.cons_append, List.nil_append, List.getElem?_cons_zero, List.getElem?_cons_succ, List.getD_cons_zero, List.getD_cons_succ, List.getD_nil, Bool.not_true, Bool.not_false, decide_true, decide_false]
    · refine hQ _ _ _ ?_
      simp (disch := omega) only [S, S1, S2, S3, ST, eq_self, ne_eq, not_true_eq_false, not_false_eq_true, and_self, true_and, and_true, reduceIte, reduceCtorEq, Nat.reduceEqDiff, Nat.reduceAdd, Nat.zero_add, Nat.add_zero, Option.map_none, Option.map_some, List.map_cons, List.map_nil, List.append_nil, List.cons_append, List.nil_append, List.getElem?_cons_zero, List.getElem?_cons_succ, List.getD_cons_zero, List.getD_cons_succ, List.getD_nil, Bool.not_true, Bool.not_false, decide_true, decide_false]
    · have hlen2 : ys.length ≤ 1099511627776 := by omega
      refine CallH.by (toIntS_c v xs H hr hlen) ?_
      rintro c1 H1 ⟨hc1, hp1⟩
      simp (disch := omega) only [S, S1, S2, S3, ST, eq_self, ne_eq, not_true_eq_false, not_false_eq_true, and_self, true_and, and_true, reduceIte, reduceCtorEq, Nat.reduceEqDiff, Nat.reduceAdd, Nat.zero_add, Nat.add_zero, Option.map_none, Option.map_some, List.map_cons, List.map_nil, List.append_nil, List.cons_append, List.nil_append, List.getElem?_cons_zero, List.getElem?_cons_succ, List.getD_cons_zero, List.getD_cons_succ, List.getD_nil, Bool.not_true, Bool.not_false, decide_true, decide_false]
      refine CallH.by (toIntS_c w ys H1 (hr2.pre hp1) hlen2) ?_
      rintro c2 H2 ⟨hc2, hp2⟩
      simp (disch := omega) only [S, S1, S2, S3, ST, eq_self, ne_eq, not_true_eq_false, not_false_eq_true, and_self, true_and, and_true, reduceIte, reduceCtorEq, Nat.reduceEqDiff, Nat.reduceAdd, Nat.zero_add, Nat.add_zero, Option.map_none, Option.map_some, List.map_cons, List.map_nil, List.append_nil, List.cons_append, List.nil_append, List.getElem?_cons_zero, List.getElem?_cons_succ, List.getD_cons_zero, List.getD_cons_succ, List.getD_nil, Bool.not_true, Bool.not_false, decide_true, decide_false]
      refine CallH.by (crossS_c n c1 c2 xs ys H2 (hc1.row.pre hp2) hlen hxs hc2.row hlen2 hys) ?_
      rintro r1 H3 ⟨hr1, hp3⟩
      have q3 := (hp1.trans hp2).trans hp3
      have hsh : ∃ a b, r1 = .tuple (List.toArray [.int .i64 a, .bool b]) := by
        rw [hr1]; split <;> exact ⟨_, _, rfl⟩
      obtain ⟨ra, rb, e1⟩ := hsh
      subst e1
      simp (disch := omega) only [S, S1, S2, S3, ST, eq_self, ne_eq, not_true_eq_false, not_false_eq_true, and_self, true_and, and_true, reduceIte, reduceCtorEq, Nat.reduceEqDiff, Nat.reduceAdd, Nat.zero_add, Nat.add_zero, Option.map_none, Option.map_some, List.map_cons, List.map_nil, List.append_nil, List.cons_append, List.nil_append, List.getElem?_cons_zero, List.getElem?_cons_succ, List.getD_cons_zero, List.getD_cons_succ, List.getD_nil, Bool.not_true, Bool.not_false, decide_true, decide_false]
      refine CallH.by (toIntS_c v xs H3 (hr.pre q3) hlen) ?_
      rintro c3 H4 ⟨hc3, hp4⟩
      simp (disch := omega) only [S, S1, S2, S3, ST, eq_self, ne_eq, not_true_eq_false, not_false_eq_true, and_self, true_and, and_true, reduceIte, reduceCtorEq, Nat.reduceEqDiff, Nat.reduceAdd, Nat.zero_add, Nat.add_zero, Option.map_none, Option.map_some, List.map_cons, List.map_nil, List.append_nil, List.cons_append, List.nil_append, List.getElem?_cons_zero, List.getElem?_cons_succ, List.getD_cons_zero, List.getD_cons_succ, List.getD_nil, Bool.not_true, Bool.not_false, decide_true, decide_false]
      refine CallH.by (toIntS_c w ys H4 (hr2.pre (q3.trans hp4)) hlen2) ?_
      rintro c4 H5 ⟨hc4, hp5⟩
      simp (disch := omega) only [S, S1, S2, S3, ST, eq_self, ne_eq, not_true_eq_false, not_false_eq_true, and_self, true_and, and_true, reduceIte, reduceCtorEq, Nat.reduceEqDiff, Nat.reduceAdd, Nat.zero_add, Nat.add_zero, Option.map_none, Option.map_some, List.map_cons, List.map_nil, List.append_nil, List.cons_append, List.nil_append, List.getElem?_cons_zero, List.getElem?_cons_succ, List.getD_cons_zero, List.getD_cons_succ, List.getD_nil, Bool.not_true, Bool.not_false, decide_true, decide_false]
      refine CallH.by (crossI_c n c3 c4 xs ys H5 (hc3.row.pre hp5) hlen hxs hc4.row hlen2 hys) ?_
      rintro r2 H6 ⟨hr2', hp6⟩
      have e2 : r2 = .tuple (List.toArray [.int .i64 ra, .bool rb]) := by rw [(same r2).1 hr2', ← hr1]
      subst e2
      simp (disch := omega) only [S, S1, S2, S3, ST, eq_self, ne_eq, not_true_eq_false, not_false_eq_true, and_self, true_and, and_true, reduceIte, reduceCtorEq, Nat.reduceEqDiff, Nat.reduceAdd, Nat.zero_add, Nat.add_zero, Option.map_none, Option.map_some, List.map_cons, List.map_nil, List.append_nil, List.cons_append, List.nil_append, List.getElem?_cons_zero, List.getElem?_cons_succ, List.getD_cons_zero, List.getD_cons_succ, List.getD_nil, Bool.not_true, Bool.not_false, decide_true, decide_false]
      have q6 := ((q3.trans hp4).trans hp5).trans hp6
      refine CallH.by (toIntS_c v xs H6 (hr.pre q6) hlen) ?_
      rintro c5 H7 ⟨hc5, hp7⟩
      simp (disch := omega) only [S, S1, S2, S3, ST, eq_self, ne_eq, not_true_eq_false, not_false_eq_true, and_self, true_and, and_true, reduceIte, reduceCtorEq, Nat.reduceEqDiff, Nat.reduceAdd, Nat.zero_add, Nat.add_zero, Option.map_none, Option.map_some, List.map_cons, List.map_nil, List.append_nil, List.cons_append, List.nil_append, List.getElem?_cons_zero, List.getElem?_cons_succ, List.getD_cons_zero, List.getD_cons_succ, List.getD_nil, Bool.not_true, Bool.not_false, decide_true, decide_false]
      refine CallH.by (eqIntS_c c3 c5 xs xs H7 (hc3.row.pre ((hp5.trans hp6).trans hp7)) hc5.row hlen) ?_
      rintro _ _ ⟨rfl, rfl⟩
      simp (disch := omega) only [S, S1, S2, S3, ST, eq_self, ne_eq, not_true_eq_false, not_false_eq_true, and_self, true_and, and_true, reduceIte, reduceCtorEq, Nat.reduceEqDiff, Nat.reduceAdd, Nat.zero_add, Nat.add_zero, Option.map_none, Option.map_some, List.map_cons, List.map_nil, List.append_nil, List.cons_append, List.nil_append, List.getElem?_cons_zero, List.getElem?_cons_succ, List.getD_cons_zero, List.getD_cons_succ, List.getD_nil, Bool.not_true, Bool.not_false, decide_true, decide_false]
      refine CallH.by (toIntS_c w ys H7 (hr2.pre (q6.trans hp7)) hlen2) ?_
      rintro c6 H8 ⟨hc6, hp8⟩
      simp (disch := omega) only [S, S1, S2, S3, ST, eq_self, ne_eq, not_true_eq_false, not_false_eq_true, and_self, true_and, and_true, reduceIte, reduceCtorEq, Nat.reduceEqDiff, Nat.reduceAdd, Nat.zero_add, Nat.add_zero, Option.map_none, Option.map_some, List.map_cons, List.map_nil, List.append_nil, List.cons_append, List.nil_append, List.getElem?_cons_zero, List.getElem?_cons_succ, List.getD_cons_zero, List.getD_cons_succ, List.getD_nil, Bool.not_true, Bool.not_false, decide_true, decide_false]
      refine CallH.by (eqIntS_c c4 c6 ys ys H8 (hc4.row.pre ((hp6.trans hp7).trans hp8)) hc6.row hlen2) ?_
      rintro _ _ ⟨rfl, rfl⟩
      simp (disch := omega) only [S, S1, S2, S3, ST, eq_self, ne_eq, not_true_eq_false, not_false_eq_true, and_self, true_and, and_true, reduceIte, reduceCtorEq, Nat.reduceEqDiff, Nat.reduceAdd, Nat.zero_add, Nat.add_zero, Option.map_none, Option.map_some, List.map_cons, List.map_nil, List.append_nil, List.cons_append, List.nil_append, List.getElem?_cons_zero, List.getElem?_cons_succ, List.getD_cons_zero, List.getD_cons_succ, List.getD_nil, Bool.not_true, Bool.not_false, decide_true, decide_false]
      refine hQ _ _ _ ?_
      simp (disch := omega) only [S, S1, S2, S3, ST, eq_self, ne_eq, not_true_eq_false, not_false_eq_true, and_self, true_and, and_true, reduceIte, reduceCtorEq, Nat.reduceEqDiff, Nat.reduceAdd, Nat.zero_add, Nat.add_zero, Option.map_none, Option.map_some, List.map_cons, List.map_nil, List.append_nil, List.cons_append, List.nil_append, List.getElem?_cons_zero, List.getElem?_cons_succ, List.getD_cons_zero, List.getD_cons_succ, List.getD_nil, Bool.not_true, Bool.not_false, decide_true, decide_false]
end Go.Proofs.Ytedlnjcfacadgaa.Ai
