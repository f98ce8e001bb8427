/- FanBound, both sides. -/
import Derived.Test.YtnoihoeaconllaaAt
import Derived.Test.YtnoihoeaconllaaCdBound
namespace Go.Proofs.Ytnoihoeaconllaa.Ai
open Go Go.RowKit
set_option linter.unusedVariables false
set_option linter.unusedSimpArgs false

def fanT (n : Int) (xs ys : List Int) (k : Nat) : Int := 2 * (n - 3) - (atN xs (k : Int) : Nat) - (atN ys (k : Int) : Nat)
def fanB (n : Int) (xs ys : List Int) : Nat → Int
  | 0 => 2 * n
  | k + 1 => if fanB n xs ys k < fanT n xs ys k then fanB n xs ys k else fanT n xs ys k
theorem fanT_bd {n : Int} {xs ys : List Int} (h : Tri2 n xs ys) (k : Nat) : -20 ≤ fanT n xs ys k ∧ fanT n xs ys k ≤ 20 := by
  have h1 := h.1
  have l1 := h.a.len
  have l2 := h.b.len
  have a1 := atN_le xs (k : Int)
  have a2 := atN_le ys (k : Int)
  unfold fanT; omega
theorem fanB_bd {n : Int} {xs ys : List Int} (h : Tri2 n xs ys) (k : Nat) : -20 ≤ fanB n xs ys k ∧ fanB n xs ys k ≤ 20 := by
  have h1 := h.1
  induction k with
  | zero => simp only [fanB]; omega
  | succ k ih =>
    have := fanT_bd h k
    simp only [fanB]; split <;> omega

theorem l1Least_c (a b : Int) (H : AH) : ACalls Try.prog 55 [.int .i64 a, .int .i64 b] H fun r H' => r = .int .i64 (if a < b then a else b) ∧ H = H' := by
  refine in55 rfl ?_
  intro Q hQ
  simp (maxSteps := 1000000) (disch := omega) only [cd55, S, S1, S2, S3, S4, ST, eq_self, ne_eq, not_true_eq_false, not_false_eq_true, and_self, true_and, and_true, reduceIte, reduceCtorEq, Nat.reduceEqDiff, Nat.reduceAdd, Nat.zero_add, Nat.add_zero, Option.map_none, Option.map_some, List.map_cons, List.map_nil, List.append_nil, List.cons_append, List.nil_append, List.getElem?_cons_zero, List.getElem?_cons_succ, List.getD_cons_zero, List.getD_cons_succ, List.getD_nil, Bool.not_true, Bool.not_false, decide_true, decide_false]
  refine brD.intro (fun h => ?_) (fun h => ?_) <;> simp (maxSteps := 1000000) (disch := omega) only [h, S, S1, S2, S3, S4, ST, eq_self, ne_eq, not_true_eq_false, not_false_eq_true, and_self, true_and, and_true, reduceIte, reduceCtorEq, Nat.reduceEqDiff, Nat.reduceAdd, Nat.zero_add, Nat.add_zero, Option.map_none, Option.map_some, List.map_cons, List.map_nil, List.append_nil, List.cons_append, List.nil_append, List.getElem?_cons_zero, List.getElem?_cons_succ, List.getD_cons_zero, List.getD_cons_succ, List.getD_nil, Bool.not_true, Bool.not_false, decide_true, decide_false] <;> refine hQ _ _ _ ?_ <;> simp (maxSteps := 1000000) (disch := omega) only [h, S, S1, S2, S3, S4, ST, eq_self, ne_eq, not_true_eq_false, not_false_eq_true, and_self, true_and, and_true, reduceIte, reduceCtorEq, Nat.reduceEqDiff, Nat.reduceAdd, Nat.zero_add, Nat.add_zero, Option.map_none, Option.map_some, List.map_cons, List.map_nil, List.append_nil, List.cons_append, List.nil_append, List.getElem?_cons_zero, List.getElem?_cons_succ, List.getD_cons_zero, List.getD_cons_succ, List.getD_nil, Bool.not_true, Bool.not_false, decide_true, decide_false]

def boundR (n : Int) (xs ys : List Int) : Int := if Tri2 n xs ys then fanB n xs ys n.toNat else 0

set_option maxHeartbeats 2000000 in
theorem BoundS_c (n : Int) (v w : Value) (xs ys : List Int) (H : AH) (hr : Row 3 H v xs) (hlen : xs.length ≤ 1099511627776) (hxs : ∀ y ∈ xs, I64 y) (hr2 : Row 3 H w ys) (hlen2 : ys.length ≤ 1099511627776) (hys : ∀ y ∈ ys, I64 y) :
    ACalls Try.prog 15 [.int .i64 n, v, w] H fun r H' => r = .tuple (List.toArray [.int .i64 (boundR n xs ys), .bool (decide (Tri2 n xs ys))]) ∧ H <+: H' := by
  refine in15 rfl ?_
  intro Q hQ
  have no : ¬ Tri2 n xs ys → Value.tuple (List.toArray [.int .i64 0, .bool false]) = .tuple (List.toArray [.int .i64 (boundR n xs ys), .bool (decide (Tri2 n xs ys))]) := fun h => by simp [h, boundR]
  simp (maxSteps := 1000000) (disch := omega) only [cd15, S, S1, S2, S3, S4, ST, eq_self, ne_eq, not_true_eq_false, not_false_eq_true, and_self, true_and, and_true, reduceIte, reduceCtorEq, Nat.reduceEqDiff, Nat.reduceAdd, Nat.zero_add, Nat.add_zero, Option.map_none, Option.map_some, List.map_cons, List.map_nil, List.append_nil, List.cons_append, List.nil_append, List.getElem?_cons_zero, List.getElem?_cons_succ, List.getD_cons_zero, List.getD_cons_succ, List.getD_nil, Bool.not_true, Bool.not_false, decide_true, decide_false]
  refine CallH.by (valid_c n v xs H hr hlen hxs) ?_
  rintro _ H1 ⟨rfl, hp1⟩
  simp (maxSteps := 1000000) (disch := omega) only [S, S1, S2, S3, S4, ST, eq_self, ne_eq, not_true_eq_false, not_false_eq_true, and_self, true_and, and_true, reduceIte, reduceCtorEq, Nat.reduceEqDiff, Nat.reduceAdd, Nat.zero_add, Nat.add_zero, Option.map_none, Option.map_some, List.map_cons, List.map_nil, List.append_nil, List.cons_append, List.nil_append, List.getElem?_cons_zero, List.getElem?_cons_succ, List.getD_cons_zero, List.getD_cons_succ, List.getD_nil, Bool.not_true, Bool.not_false, decide_true, decide_false]
  refine brD.intro (fun ha => ?_) (fun ha => ?_) <;> simp (maxSteps := 1000000) (disch := omega) only [ha, S, S1, S2, S3, S4, ST, eq_self, ne_eq, not_true_eq_false, not_false_eq_true, and_self, true_and, and_true, reduceIte, reduceCtorEq, Nat.reduceEqDiff, Nat.reduceAdd, Nat.zero_add, Nat.add_zero, Option.map_none, Option.map_some, List.map_cons, List.map_nil, List.append_nil, List.cons_append, List.nil_append, List.getElem?_cons_zero, List.getElem?_cons_succ, List.getD_cons_zero, List.getD_cons_succ, List.getD_nil, Bool.not_true, Bool.not_false, decide_true, decide_false]
  · refine CallH.by (valid_c n w ys H1 (hr2.pre hp1) hlen2 hys) ?_
    rintro _ H2 ⟨rfl, hp2⟩
    have hp := hp1.trans hp2
    have hra := hr.pre hp
    have hrb := hr2.pre hp
    simp (maxSteps := 1000000) (disch := omega) only [ha, S, S1, S2, S3, S4, ST, eq_self, ne_eq, not_true_eq_false, not_false_eq_true, and_self, true_and, and_true, reduceIte, reduceCtorEq, Nat.reduceEqDiff, Nat.reduceAdd, Nat.zero_add, Nat.add_zero, Option.map_none, Option.map_some, List.map_cons, List.map_nil, List.append_nil, List.cons_append, List.nil_append, List.getElem?_cons_zero, List.getElem?_cons_succ, List.getD_cons_zero, List.getD_cons_succ, List.getD_nil, Bool.not_true, Bool.not_false, decide_true, decide_false]
    refine brD.intro (fun hb => ?_) (fun hb => ?_) <;> simp (maxSteps := 1000000) (disch := omega) only [ha, hb, S, S1, S2, S3, S4, ST, eq_self, ne_eq, not_true_eq_false, not_false_eq_true, and_self, true_and, and_true, reduceIte, reduceCtorEq, Nat.reduceEqDiff, Nat.reduceAdd, Nat.zero_add, Nat.add_zero, Option.map_none, Option.map_some, List.map_cons, List.map_nil, List.append_nil, List.cons_append, List.nil_append, List.getElem?_cons_zero, List.getElem?_cons_succ, List.getD_cons_zero, List.getD_cons_succ, List.getD_nil, Bool.not_true, Bool.not_false, decide_true, decide_false]
    · have ht : Tri2 n xs ys := ⟨ha.1, ha.2, hb.2⟩
      have hn := ha.1
      simp (maxSteps := 1000000) (disch := omega) only [wrap64, S, S1, S2, S3, S4, ST, eq_self, ne_eq, not_true_eq_false, not_false_eq_true, and_self, true_and, and_true, reduceIte, reduceCtorEq, Nat.reduceEqDiff, Nat.reduceAdd, Nat.zero_add, Nat.add_zero, Option.map_none, Option.map_some, List.map_cons, List.map_nil, List.append_nil, List.cons_append, List.nil_append, List.getElem?_cons_zero, List.getElem?_cons_succ, List.getD_cons_zero, List.getD_cons_succ, List.getD_nil, Bool.not_true, Bool.not_false, decide_true, decide_false]
      refine LoopH.by (fun m s H' => ∃ i, m + i = n.toNat ∧ s 0 = .int .i64 n ∧ s 1 = v ∧ s 2 = w ∧ s 9 = .int .i64 ((i : Nat) : Int) ∧ s 8 = .int .i64 (fanB n xs ys i) ∧ H2 = H') n.toNat ?_ ?_
      · exact ⟨0, by simp, rfl, rfl, rfl, by simp [S, S1, S2, S3, S4, ST, eq_self, ne_eq, not_true_eq_false, not_false_eq_true, and_self, true_and, and_true, reduceIte, reduceCtorEq, Nat.reduceEqDiff, Nat.reduceAdd, Nat.zero_add, Nat.add_zero, Option.map_none, Option.map_some, List.map_cons, List.map_nil, List.append_nil, List.cons_append, List.nil_append, List.getElem?_cons_zero, List.getElem?_cons_succ, List.getD_cons_zero, List.getD_cons_succ, List.getD_nil, Bool.not_true, Bool.not_false, decide_true, decide_false], by simp [S, S1, S2, S3, S4, ST, eq_self, ne_eq, not_true_eq_false, not_false_eq_true, and_self, true_and, and_true, reduceIte, reduceCtorEq, Nat.reduceEqDiff, Nat.reduceAdd, Nat.zero_add, Nat.add_zero, Option.map_none, Option.map_some, List.map_cons, List.map_nil, List.append_nil, List.cons_append, List.nil_append, List.getElem?_cons_zero, List.getElem?_cons_succ, List.getD_cons_zero, List.getD_cons_succ, List.getD_nil, Bool.not_true, Bool.not_false, decide_true, decide_false, fanB], rfl⟩
      · rintro m s H' ⟨i, hm, h0, h1, h2, h9, h8, rfl⟩
        have bt := fanT_bd ht i
        have bb := fanB_bd ht i
        simp (maxSteps := 1000000) (disch := omega) only [h0, h1, h2, h9, h8, S, S1, S2, S3, S4, ST, eq_self, ne_eq, not_true_eq_false, not_false_eq_true, and_self, true_and, and_true, reduceIte, reduceCtorEq, Nat.reduceEqDiff, Nat.reduceAdd, Nat.zero_add, Nat.add_zero, Option.map_none, Option.map_some, List.map_cons, List.map_nil, List.append_nil, List.cons_append, List.nil_append, List.getElem?_cons_zero, List.getElem?_cons_succ, List.getD_cons_zero, List.getD_cons_succ, List.getD_nil, Bool.not_true, Bool.not_false, decide_true, decide_false]
        refine brD.intro (fun g => ?_) (fun g => ?_) <;> simp (maxSteps := 1000000) (disch := omega) only [h0, h1, h2, h9, h8, wrap64, S, S1, S2, S3, S4, ST, eq_self, ne_eq, not_true_eq_false, not_false_eq_true, and_self, true_and, and_true, reduceIte, reduceCtorEq, Nat.reduceEqDiff, Nat.reduceAdd, Nat.zero_add, Nat.add_zero, Option.map_none, Option.map_some, List.map_cons, List.map_nil, List.append_nil, List.cons_append, List.nil_append, List.getElem?_cons_zero, List.getElem?_cons_succ, List.getD_cons_zero, List.getD_cons_succ, List.getD_nil, Bool.not_true, Bool.not_false, decide_true, decide_false]
        · refine CallH.by (l8At_c v xs _ H2 hra hlen hxs) ?_
          rintro _ _ ⟨rfl, rfl⟩
          have a1 := atN_le xs (i : Int)
          have a2 := atN_le ys (i : Int)
          have l1 := ha.len
          have l2 := hb.len
          simp (maxSteps := 1000000) (disch := omega) only [h0, h1, h2, h9, h8, wrap64, S, S1, S2, S3, S4, ST, eq_self, ne_eq, not_true_eq_false, not_false_eq_true, and_self, true_and, and_true, reduceIte, reduceCtorEq, Nat.reduceEqDiff, Nat.reduceAdd, Nat.zero_add, Nat.add_zero, Option.map_none, Option.map_some, List.map_cons, List.map_nil, List.append_nil, List.cons_append, List.nil_append, List.getElem?_cons_zero, List.getElem?_cons_succ, List.getD_cons_zero, List.getD_cons_succ, List.getD_nil, Bool.not_true, Bool.not_false, decide_true, decide_false]
          refine CallH.by (l8At_c w ys _ H2 hrb hlen2 hys) ?_
          rintro _ _ ⟨rfl, rfl⟩
          have e : 2 * (n - 3) - (atN xs (i : Int) : Nat) - (atN ys (i : Int) : Nat) = fanT n xs ys i := rfl
          simp (maxSteps := 1000000) (disch := omega) only [h0, h1, h2, h9, h8, wrap64, e, S, S1, S2, S3, S4, ST, eq_self, ne_eq, not_true_eq_false, not_false_eq_true, and_self, true_and, and_true, reduceIte, reduceCtorEq, Nat.reduceEqDiff, Nat.reduceAdd, Nat.zero_add, Nat.add_zero, Option.map_none, Option.map_some, List.map_cons, List.map_nil, List.append_nil, List.cons_append, List.nil_append, List.getElem?_cons_zero, List.getElem?_cons_succ, List.getD_cons_zero, List.getD_cons_succ, List.getD_nil, Bool.not_true, Bool.not_false, decide_true, decide_false]
          refine CallH.by (l1Least_c ..) ?_
          rintro _ _ ⟨rfl, rfl⟩
          simp (maxSteps := 1000000) (disch := omega) only [h0, h1, h2, h9, h8, wrap64, S, S1, S2, S3, S4, ST, eq_self, ne_eq, not_true_eq_false, not_false_eq_true, and_self, true_and, and_true, reduceIte, reduceCtorEq, Nat.reduceEqDiff, Nat.reduceAdd, Nat.zero_add, Nat.add_zero, Option.map_none, Option.map_some, List.map_cons, List.map_nil, List.append_nil, List.cons_append, List.nil_append, List.getElem?_cons_zero, List.getElem?_cons_succ, List.getD_cons_zero, List.getD_cons_succ, List.getD_nil, Bool.not_true, Bool.not_false, decide_true, decide_false]
          refine ⟨m - 1, by omega, i + 1, by omega, ?_⟩
          rw [fanB]
          (repeat' apply And.intro) <;> first | rfl | trivial | assumption | omega | (simp only [Value.int.injEq, true_and]; omega) | (simp; done) | (simp; omega)
        · refine hQ _ _ _ ?_
          simp (maxSteps := 1000000) (disch := omega) only [h8, S, S1, S2, S3, S4, ST, eq_self, ne_eq, not_true_eq_false, not_false_eq_true, and_self, true_and, and_true, reduceIte, reduceCtorEq, Nat.reduceEqDiff, Nat.reduceAdd, Nat.zero_add, Nat.add_zero, Option.map_none, Option.map_some, List.map_cons, List.map_nil, List.append_nil, List.cons_append, List.nil_append, List.getElem?_cons_zero, List.getElem?_cons_succ, List.getD_cons_zero, List.getD_cons_succ, List.getD_nil, Bool.not_true, Bool.not_false, decide_true, decide_false]
          have : i = n.toNat := by omega
          subst this
          exact ⟨by simp [boundR, ht], hp⟩
    · refine hQ _ _ _ ?_
      simp (maxSteps := 1000000) (disch := omega) only [S, S1, S2, S3, S4, ST, eq_self, ne_eq, not_true_eq_false, not_false_eq_true, and_self, true_and, and_true, reduceIte, reduceCtorEq, Nat.reduceEqDiff, Nat.reduceAdd, Nat.zero_add, Nat.add_zero, Option.map_none, Option.map_some, List.map_cons, List.map_nil, List.append_nil, List.cons_append, List.nil_append, List.getElem?_cons_zero, List.getElem?_cons_succ, List.getD_cons_zero, List.getD_cons_succ, List.getD_nil, Bool.not_true, Bool.not_false, decide_true, decide_false]
      exact ⟨no fun h => hb h.b, hp⟩
  · refine hQ _ _ _ ?_
    simp (maxSteps := 1000000) (disch := omega) only [S, S1, S2, S3, S4, ST, eq_self, ne_eq, not_true_eq_false, not_false_eq_true, and_self, true_and, and_true, reduceIte, reduceCtorEq, Nat.reduceEqDiff, Nat.reduceAdd, Nat.zero_add, Nat.add_zero, Option.map_none, Option.map_some, List.map_cons, List.map_nil, List.append_nil, List.cons_append, List.nil_append, List.getElem?_cons_zero, List.getElem?_cons_succ, List.getD_cons_zero, List.getD_cons_succ, List.getD_nil, Bool.not_true, Bool.not_false, decide_true, decide_false]
    exact ⟨no fun h => ha h.a, hp1⟩

set_option maxHeartbeats 2000000 in
theorem BoundI_c (n : Int) (v w : Value) (xs ys : List Int) (H : AH) (hr : Row 3 H v xs) (hlen : xs.length ≤ 1099511627776) (hxs : ∀ y ∈ xs, I64 y) (hr2 : Row 3 H w ys) (hlen2 : ys.length ≤ 1099511627776) (hys : ∀ y ∈ ys, I64 y) :
    ACalls Try.prog 17 [.int .i64 n, v, w] H fun r H' => r = .tuple (List.toArray [.int .i64 (boundR n xs ys), .bool (decide (Tri2 n xs ys))]) ∧ H <+: H' := by
  refine in17 rfl ?_
  intro Q hQ
  have no : ¬ Tri2 n xs ys → Value.tuple (List.toArray [.int .i64 0, .bool false]) = .tuple (List.toArray [.int .i64 (boundR n xs ys), .bool (decide (Tri2 n xs ys))]) := fun h => by simp [h, boundR]
  obtain ⟨pv, ev⟩ := hr.shape
  obtain ⟨pw, ew⟩ := hr2.shape
  subst ev
  subst ew
  simp (maxSteps := 1000000) (disch := omega) only [cd17, S, S1, S2, S3, S4, ST, eq_self, ne_eq, not_true_eq_false, not_false_eq_true, and_self, true_and, and_true, reduceIte, reduceCtorEq, Nat.reduceEqDiff, Nat.reduceAdd, Nat.zero_add, Nat.add_zero, Option.map_none, Option.map_some, List.map_cons, List.map_nil, List.append_nil, List.cons_append, List.nil_append, List.getElem?_cons_zero, List.getElem?_cons_succ, List.getD_cons_zero, List.getD_cons_succ, List.getD_nil, Bool.not_true, Bool.not_false, decide_true, decide_false]
  generalize hv : Value.slice pv xs.length xs.length = v at *
  generalize hw : Value.slice pw ys.length ys.length = w at *
  have hp0 : H <+: H ++ [AObj.cells [v, w] 22 false] := List.prefix_append _ _
  refine CallH.by (are2_c n v w xs ys _ _ H rfl rfl hr hlen hxs hr2 hlen2 hys) ?_
  rintro _ H2 ⟨rfl, hp1⟩
  have hp := hp0.trans hp1
  have hra := hr.pre hp
  have hrb := hr2.pre hp
  simp (maxSteps := 1000000) (disch := omega) only [S, S1, S2, S3, S4, ST, eq_self, ne_eq, not_true_eq_false, not_false_eq_true, and_self, true_and, and_true, reduceIte, reduceCtorEq, Nat.reduceEqDiff, Nat.reduceAdd, Nat.zero_add, Nat.add_zero, Option.map_none, Option.map_some, List.map_cons, List.map_nil, List.append_nil, List.cons_append, List.nil_append, List.getElem?_cons_zero, List.getElem?_cons_succ, List.getD_cons_zero, List.getD_cons_succ, List.getD_nil, Bool.not_true, Bool.not_false, decide_true, decide_false]
  refine brD.intro (fun ht => ?_) (fun ht => ?_) <;> simp (maxSteps := 1000000) (disch := omega) only [ht, S, S1, S2, S3, S4, ST, eq_self, ne_eq, not_true_eq_false, not_false_eq_true, and_self, true_and, and_true, reduceIte, reduceCtorEq, Nat.reduceEqDiff, Nat.reduceAdd, Nat.zero_add, Nat.add_zero, Option.map_none, Option.map_some, List.map_cons, List.map_nil, List.append_nil, List.cons_append, List.nil_append, List.getElem?_cons_zero, List.getElem?_cons_succ, List.getD_cons_zero, List.getD_cons_succ, List.getD_nil, Bool.not_true, Bool.not_false, decide_true, decide_false]
  · have hn := ht.1
    simp (maxSteps := 1000000) (disch := omega) only [wrap64, S, S1, S2, S3, S4, ST, eq_self, ne_eq, not_true_eq_false, not_false_eq_true, and_self, true_and, and_true, reduceIte, reduceCtorEq, Nat.reduceEqDiff, Nat.reduceAdd, Nat.zero_add, Nat.add_zero, Option.map_none, Option.map_some, List.map_cons, List.map_nil, List.append_nil, List.cons_append, List.nil_append, List.getElem?_cons_zero, List.getElem?_cons_succ, List.getD_cons_zero, List.getD_cons_succ, List.getD_nil, Bool.not_true, Bool.not_false, decide_true, decide_false]
    refine LoopH.by (fun m s H' => ∃ i, m + i = n.toNat ∧ s 0 = .int .i64 n ∧ s 1 = v ∧ s 2 = w ∧ s 19 = .int .i64 ((i : Nat) : Int) ∧ s 18 = .int .i64 n ∧ s 8 = .int .i64 (fanB n xs ys i) ∧ H2 = H') n.toNat ?_ ?_
    · exact ⟨0, by simp, rfl, rfl, rfl, rfl, rfl, rfl, rfl⟩
    · rintro m s H' ⟨i, hm, h0, h1, h2, h9, h10, h8, rfl⟩
      have bt := fanT_bd ht i
      have bb := fanB_bd ht i
      simp (maxSteps := 1000000) (disch := omega) only [h0, h1, h2, h9, h10, h8, S, S1, S2, S3, S4, ST, eq_self, ne_eq, not_true_eq_false, not_false_eq_true, and_self, true_and, and_true, reduceIte, reduceCtorEq, Nat.reduceEqDiff, Nat.reduceAdd, Nat.zero_add, Nat.add_zero, Option.map_none, Option.map_some, List.map_cons, List.map_nil, List.append_nil, List.cons_append, List.nil_append, List.getElem?_cons_zero, List.getElem?_cons_succ, List.getD_cons_zero, List.getD_cons_succ, List.getD_nil, Bool.not_true, Bool.not_false, decide_true, decide_false]
      refine brD.intro (fun g => ?_) (fun g => ?_) <;> simp (maxSteps := 1000000) (disch := omega) only [h0, h1, h2, h9, h10, h8, wrap64, S, S1, S2, S3, S4, ST, eq_self, ne_eq, not_true_eq_false, not_false_eq_true, and_self, true_and, and_true, reduceIte, reduceCtorEq, Nat.reduceEqDiff, Nat.reduceAdd, Nat.zero_add, Nat.add_zero, Option.map_none, Option.map_some, List.map_cons, List.map_nil, List.append_nil, List.cons_append, List.nil_append, List.getElem?_cons_zero, List.getElem?_cons_succ, List.getD_cons_zero, List.getD_cons_succ, List.getD_nil, Bool.not_true, Bool.not_false, decide_true, decide_false]
      · refine CallH.by (at_c v xs _ H2 hra hlen hxs) ?_
        rintro _ _ ⟨rfl, rfl⟩
        have a1 := atN_le xs (i : Int)
        have a2 := atN_le ys (i : Int)
        have l1 := ht.a.len
        have l2 := ht.b.len
        simp (maxSteps := 1000000) (disch := omega) only [h0, h1, h2, h9, h10, h8, wrap64, S, S1, S2, S3, S4, ST, eq_self, ne_eq, not_true_eq_false, not_false_eq_true, and_self, true_and, and_true, reduceIte, reduceCtorEq, Nat.reduceEqDiff, Nat.reduceAdd, Nat.zero_add, Nat.add_zero, Option.map_none, Option.map_some, List.map_cons, List.map_nil, List.append_nil, List.cons_append, List.nil_append, List.getElem?_cons_zero, List.getElem?_cons_succ, List.getD_cons_zero, List.getD_cons_succ, List.getD_nil, Bool.not_true, Bool.not_false, decide_true, decide_false]
        refine CallH.by (at_c w ys _ H2 hrb hlen2 hys) ?_
        rintro _ _ ⟨rfl, rfl⟩
        have e : 2 * (n - 3) - (atN xs (i : Int) : Nat) - (atN ys (i : Int) : Nat) = fanT n xs ys i := rfl
        have e2 : minI (fanB n xs ys i) (fanT n xs ys i) = fanB n xs ys (i + 1) := by
          simp only [minI, fanB]; split <;> split <;> omega
        simp (maxSteps := 1000000) (disch := omega) only [h0, h1, h2, h9, h10, h8, wrap64, e, e2, S, S1, S2, S3, S4, ST, eq_self, ne_eq, not_true_eq_false, not_false_eq_true, and_self, true_and, and_true, reduceIte, reduceCtorEq, Nat.reduceEqDiff, Nat.reduceAdd, Nat.zero_add, Nat.add_zero, Option.map_none, Option.map_some, List.map_cons, List.map_nil, List.append_nil, List.cons_append, List.nil_append, List.getElem?_cons_zero, List.getElem?_cons_succ, List.getD_cons_zero, List.getD_cons_succ, List.getD_nil, Bool.not_true, Bool.not_false, decide_true, decide_false]
        refine ⟨m - 1, by omega, i + 1, by omega, ?_⟩
        (repeat' apply And.intro) <;> first | rfl | trivial | assumption | omega | (simp only [Value.int.injEq, true_and]; omega) | (simp; done) | (simp; omega)
      · refine hQ _ _ _ ?_
        simp (maxSteps := 1000000) (disch := omega) only [h8, S, S1, S2, S3, S4, ST, eq_self, ne_eq, not_true_eq_false, not_false_eq_true, and_self, true_and, and_true, reduceIte, reduceCtorEq, Nat.reduceEqDiff, Nat.reduceAdd, Nat.zero_add, Nat.add_zero, Option.map_none, Option.map_some, List.map_cons, List.map_nil, List.append_nil, List.cons_append, List.nil_append, List.getElem?_cons_zero, List.getElem?_cons_succ, List.getD_cons_zero, List.getD_cons_succ, List.getD_nil, Bool.not_true, Bool.not_false, decide_true, decide_false]
        have : i = n.toNat := by omega
        subst this
        exact ⟨by simp [boundR, ht], hp⟩
  · refine hQ _ _ _ ?_
    simp (maxSteps := 1000000) (disch := omega) only [S, S1, S2, S3, S4, ST, eq_self, ne_eq, not_true_eq_false, not_false_eq_true, and_self, true_and, and_true, reduceIte, reduceCtorEq, Nat.reduceEqDiff, Nat.reduceAdd, Nat.zero_add, Nat.add_zero, Option.map_none, Option.map_some, List.map_cons, List.map_nil, List.append_nil, List.cons_append, List.nil_append, List.getElem?_cons_zero, List.getElem?_cons_succ, List.getD_cons_zero, List.getD_cons_succ, List.getD_nil, Bool.not_true, Bool.not_false, decide_true, decide_false]
    exact ⟨no ht, hp⟩
end Go.Proofs.Ytnoihoeaconllaa.Ai
