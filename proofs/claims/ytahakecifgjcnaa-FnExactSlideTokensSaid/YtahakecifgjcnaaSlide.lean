/- SlideTokens, both sides. -/
import Derived.Test.YtahakecifgjcnaaTok
import Derived.Test.YtahakecifgjcnaaClone
import Derived.Test.YtahakecifgjcnaaCdSlide
namespace Go.Proofs.Ytahakecifgjcnaa.Ai
open Go Go.RowKit
set_option linter.unusedVariables false
set_option linter.unusedSimpArgs false

/-- the board behind slides, if they are slides -/
def slideF (es : List (Int × Int)) : List Int → List Int → Option (List Int)
  | b, [] => some b
  | b, x :: r => if nearB es (ax b 0) x = true then slideF es (swp b (ax b 0).toNat x.toNat) r else none
theorem slideF_step (es : List (Int × Int)) (b xs : List Int) (i : Nat) (hi : i < xs.length) : slideF es b (xs.drop i) = if nearB es (ax b 0) (xs.getD i 0) = true then slideF es (swp b (ax b 0).toNat (xs.getD i 0).toNat) (xs.drop (i + 1)) else none := by
  rw [List.drop_eq_getElem_cons hi]
  have : xs.getD i 0 = xs[i] := by simp [hi]
  rw [this]; rfl
def slideR (n : Int) (es : List (Int × Int)) (p xs : List Int) : List Int := if Brd n es p then (slideF es p xs).getD [] else []
def slideK (n : Int) (es : List (Int × Int)) (p xs : List Int) : Bool := decide (Brd n es p) && (slideF es p xs).isSome
theorem brd_zero {n : Int} {es : List (Int × Int)} {p : List Int} (h : Brd n es p) : (0 : Int) ∈ p := by
  have := h.1.1.2.2 0 (by have := h.1.2; have := h.2.1; omega)
  exact this
theorem swp_zero {p : List Int} {h x : Nat} (hh : h < p.length) (hx : x < p.length) (h0 : p.getD h 0 = 0) : (0 : Int) ∈ swp p h x := by
  have := swp_at p h x x hh hx hx
  rw [if_pos rfl, h0] at this
  rw [← this]
  exact getD_mem (by rw [swp_len]; exact hx)
theorem slideR_len (n : Int) (es : List (Int × Int)) (p xs : List Int) : (slideR n es p xs).length ≤ 1099511627776 := by
  unfold slideR
  split
  · rename_i h
    have hp : p.length ≤ 8 := h.1.1.2.1
    have : ∀ (xs b : List Int), b.length ≤ 8 → ((slideF es b xs).getD []).length ≤ 8 := by
      intro xs
      induction xs with
      | nil => intro b hb; exact hb
      | cons x r ih =>
        intro b hb
        simp only [slideF]
        split
        · exact ih _ (by rw [swp_len]; exact hb)
        · simp
    have := this xs p hp
    omega
  · simp

set_option maxRecDepth 20000 in
set_option maxHeartbeats 4000000 in
theorem SlideS_c (n : Int) (v w u : Value) (es : List (Int × Int)) (p xs : List Int) (H : AH) (hr : RowP 66 H v es) (hlen : es.length ≤ 1099511627776) (hes : ∀ y ∈ es, I64 y.1 ∧ I64 y.2)
    (hp : Row 3 H w p) (hlp : p.length ≤ 1099511627776) (hxp : ∀ y ∈ p, I64 y) (hx : Row 3 H u xs) (hlx : xs.length ≤ 1099511627776) (hxs : ∀ y ∈ xs, I64 y) (hn : I64 n) :
    ACalls Try.prog 49 [.agg (List.toArray [.int .i64 n, v]), w, u] H fun r H' => ∃ g, r = .tuple (List.toArray [g, .bool (slideK n es p xs)]) ∧ Mine 3 H H' g (slideR n es p xs) ∧ H <+: H' := by
  refine in49 rfl ?_
  intro Q hQ
  simp (maxSteps := 1000000) (disch := omega) only [cd49, hr.boxG, S, S1, S2, S3, S4, ST, eq_self, ne_eq, not_true_eq_false, not_false_eq_true, and_self, true_and, and_true, reduceIte, reduceCtorEq, Nat.reduceEqDiff, Nat.reduceAdd, Nat.zero_add, Nat.add_zero, Option.map_none, Option.map_some, List.map_cons, List.map_nil, List.append_nil, List.cons_append, List.nil_append, List.getElem?_cons_zero, List.getElem?_cons_succ, List.getD_cons_zero, List.getD_cons_succ, List.getD_nil, Bool.not_true, Bool.not_false, decide_true, decide_false]
  generalize hA : H ++ [AObj.cells [.int .i64 n, v] 41 false] = A
  have pA : H <+: A := by rw [← hA]; exact List.prefix_append _ _
  have cA : A[H.length]? = some (.cells [.int .i64 n, v] 41 false) := by rw [← hA]; exact at_new ..
  have rA := hr.pre pA
  simp (maxSteps := 1000000) (disch := omega) only [ld_agg ag41 cs41 cA, S, S1, S2, S3, S4, ST, eq_self, ne_eq, not_true_eq_false, not_false_eq_true, and_self, true_and, and_true, reduceIte, reduceCtorEq, Nat.reduceEqDiff, Nat.reduceAdd, Nat.zero_add, Nat.add_zero, Option.map_none, Option.map_some, List.map_cons, List.map_nil, List.append_nil, List.cons_append, List.nil_append, List.getElem?_cons_zero, List.getElem?_cons_succ, List.getD_cons_zero, List.getD_cons_succ, List.getD_nil, Bool.not_true, Bool.not_false, decide_true, decide_false]
  refine CallH.by (l9Board_c n v w es p A rA hlen (hp.pre pA) hlp) ?_
  rintro _ B ⟨rfl, pB⟩
  have cB := pre_at pB cA
  have pHB := pA.trans pB
  simp (maxSteps := 1000000) (disch := omega) only [S, S1, S2, S3, S4, ST, eq_self, ne_eq, not_true_eq_false, not_false_eq_true, and_self, true_and, and_true, reduceIte, reduceCtorEq, Nat.reduceEqDiff, Nat.reduceAdd, Nat.zero_add, Nat.add_zero, Option.map_none, Option.map_some, List.map_cons, List.map_nil, List.append_nil, List.cons_append, List.nil_append, List.getElem?_cons_zero, List.getElem?_cons_succ, List.getD_cons_zero, List.getD_cons_succ, List.getD_nil, Bool.not_true, Bool.not_false, decide_true, decide_false]
  refine brD.intro (fun e => ?_) (fun e => ?_) <;> simp (maxSteps := 1000000) (disch := omega) only [e, S, S1, S2, S3, S4, ST, eq_self, ne_eq, not_true_eq_false, not_false_eq_true, and_self, true_and, and_true, reduceIte, reduceCtorEq, Nat.reduceEqDiff, Nat.reduceAdd, Nat.zero_add, Nat.add_zero, Option.map_none, Option.map_some, List.map_cons, List.map_nil, List.append_nil, List.cons_append, List.nil_append, List.getElem?_cons_zero, List.getElem?_cons_succ, List.getD_cons_zero, List.getD_cons_succ, List.getD_nil, Bool.not_true, Bool.not_false, decide_true, decide_false]
  · have hz := brd_zero e
    have hg := e.1.1.1
    have hpl := e.1.2
    have hnn := e.2
    have hR : slideR n es p xs = (slideF es p xs).getD [] := by simp [slideR, e]
    have hK : slideK n es p xs = (slideF es p xs).isSome := by simp [slideK, e]
    refine CallH.by (l1Own_c w p B (hp.pre pHB) hlp) ?_
    rintro c C ⟨hc, pC⟩
    have cC := pre_at pC cB
    have pHC := pHB.trans pC
    have hcm := (hc.base pHB).mine
    simp (maxSteps := 1000000) (disch := omega) only [S, S1, S2, S3, S4, ST, eq_self, ne_eq, not_true_eq_false, not_false_eq_true, and_self, true_and, and_true, reduceIte, reduceCtorEq, Nat.reduceEqDiff, Nat.reduceAdd, Nat.zero_add, Nat.add_zero, Option.map_none, Option.map_some, List.map_cons, List.map_nil, List.append_nil, List.cons_append, List.nil_append, List.getElem?_cons_zero, List.getElem?_cons_succ, List.getD_cons_zero, List.getD_cons_succ, List.getD_nil, Bool.not_true, Bool.not_false, decide_true, decide_false]
    refine LoopH.by (fun m s H' => ∃ i cur, m + i = xs.length ∧ s 2 = u ∧ s 3 = .pointer (some ⟨H.length, 0, none⟩) ∧ s 9 = .int .i64 ((i : Nat) : Int) ∧ cur.length = p.length ∧ (0 : Int) ∈ cur ∧ slideF es p xs = slideF es cur (xs.drop i) ∧ Mine 3 H H' (s 8) cur ∧ C <+: H') xs.length ?_ ?_
    · exact ⟨0, p, by simp, rfl, rfl, rfl, rfl, hz, by rw [List.drop_zero], hcm, List.prefix_refl _⟩
    · rintro m s H' ⟨i, cur, hm, h2, h3, h9, hcl, hc0, hF, hmine, hpp⟩
      have hx' := hx.pre (pHC.trans hpp)
      have hrG := hr.pre (pHC.trans hpp)
      have cH := pre_at hpp cC
      have hpH := pHC.trans hpp
      generalize hw : s 8 = b at *
      simp (maxSteps := 1000000) (disch := omega) only [h2, h3, h9, hw, hx'.len Try.underlying22, S, S1, S2, S3, S4, ST, eq_self, ne_eq, not_true_eq_false, not_false_eq_true, and_self, true_and, and_true, reduceIte, reduceCtorEq, Nat.reduceEqDiff, Nat.reduceAdd, Nat.zero_add, Nat.add_zero, Option.map_none, Option.map_some, List.map_cons, List.map_nil, List.append_nil, List.cons_append, List.nil_append, List.getElem?_cons_zero, List.getElem?_cons_succ, List.getD_cons_zero, List.getD_cons_succ, List.getD_nil, Bool.not_true, Bool.not_false, decide_true, decide_false]
      refine brD.intro (fun g => ?_) (fun g => ?_)
      · have hi : i < xs.length := by omega
        rw [slideF_step es cur xs i hi] at hF
        obtain ⟨h, hhl, hhe, hh0⟩ := ax_at hc0
        rw [hhe] at hF
        simp (maxSteps := 1000000) (disch := omega) only [h2, h3, h9, hw, S, S1, S2, S3, S4, ST, eq_self, ne_eq, not_true_eq_false, not_false_eq_true, and_self, true_and, and_true, reduceIte, reduceCtorEq, Nat.reduceEqDiff, Nat.reduceAdd, Nat.zero_add, Nat.add_zero, Option.map_none, Option.map_some, List.map_cons, List.map_nil, List.append_nil, List.cons_append, List.nil_append, List.getElem?_cons_zero, List.getElem?_cons_succ, List.getD_cons_zero, List.getD_cons_succ, List.getD_nil, Bool.not_true, Bool.not_false, decide_true, decide_false]
        refine CallH.by (l9At_c b cur 0 H' hmine.row (by omega) hc0) ?_
        rintro _ _ ⟨rfl, rfl⟩
        rw [hhe]
        simp (maxSteps := 1000000) (disch := omega) only [h2, h3, h9, hw, ld_agg ag41 cs41 cH, hx'.ix Try.underlying22 cs3, hx'.cell, Int.toNat_natCast, S, S1, S2, S3, S4, ST, eq_self, ne_eq, not_true_eq_false, not_false_eq_true, and_self, true_and, and_true, reduceIte, reduceCtorEq, Nat.reduceEqDiff, Nat.reduceAdd, Nat.zero_add, Nat.add_zero, Option.map_none, Option.map_some, List.map_cons, List.map_nil, List.append_nil, List.cons_append, List.nil_append, List.getElem?_cons_zero, List.getElem?_cons_succ, List.getD_cons_zero, List.getD_cons_succ, List.getD_nil, Bool.not_true, Bool.not_false, decide_true, decide_false]
        refine CallH.by (l2Near_c n v es h (xs.getD i 0) H' hrG hlen) ?_
        rintro _ D ⟨rfl, pD⟩
        have hxD := hx'.pre pD
        simp (maxSteps := 1000000) (disch := omega) only [S, S1, S2, S3, S4, ST, eq_self, ne_eq, not_true_eq_false, not_false_eq_true, and_self, true_and, and_true, reduceIte, reduceCtorEq, Nat.reduceEqDiff, Nat.reduceAdd, Nat.zero_add, Nat.add_zero, Option.map_none, Option.map_some, List.map_cons, List.map_nil, List.append_nil, List.cons_append, List.nil_append, List.getElem?_cons_zero, List.getElem?_cons_succ, List.getD_cons_zero, List.getD_cons_succ, List.getD_nil, Bool.not_true, Bool.not_false, decide_true, decide_false]
        refine brH.intro (fun e1 => ?_) (fun e1 => ?_) <;> simp (maxSteps := 1000000) (disch := omega) only [e1, h2, h3, h9, hw, hxD.ix Try.underlying22 cs3, hxD.cell, Int.toNat_natCast, S, S1, S2, S3, S4, ST, eq_self, ne_eq, not_true_eq_false, not_false_eq_true, and_self, true_and, and_true, reduceIte, reduceCtorEq, Nat.reduceEqDiff, Nat.reduceAdd, Nat.zero_add, Nat.add_zero, Option.map_none, Option.map_some, List.map_cons, List.map_nil, List.append_nil, List.cons_append, List.nil_append, List.getElem?_cons_zero, List.getElem?_cons_succ, List.getD_cons_zero, List.getD_cons_succ, List.getD_nil, Bool.not_true, Bool.not_false, decide_true, decide_false]
        · have e1' : nearB es h (xs.getD i 0) = true := by simpa using e1
          obtain ⟨k, hk⟩ : ∃ k : Nat, xs.getD i 0 = k := ⟨(xs.getD i 0).toNat, by have := near_rng hg e1'; omega⟩
          have hkr := (near_rng hg e1').2.1
          rw [if_pos e1', Int.toNat_natCast, hk, Int.toNat_natCast] at hF
          rw [hk] at hkr ⊢
          refine CallH.by (l9Swap_c b cur h k D (hmine.row.pre pD) (by omega) hhl (by omega)) ?_
          rintro c2 E ⟨hc2, pE⟩
          have f1 := (hc2.base (hpH.trans pD)).mine
          have f2 := hpp.trans (pD.trans pE)
          have f3 := swp_zero hhl (show k < cur.length by omega) hh0
          have f4 : (swp cur h k).length = p.length := by rw [swp_len]; exact hcl
          simp (maxSteps := 1000000) (disch := omega) only [h2, h3, h9, wrap64, S, S1, S2, S3, S4, ST, eq_self, ne_eq, not_true_eq_false, not_false_eq_true, and_self, true_and, and_true, reduceIte, reduceCtorEq, Nat.reduceEqDiff, Nat.reduceAdd, Nat.zero_add, Nat.add_zero, Option.map_none, Option.map_some, List.map_cons, List.map_nil, List.append_nil, List.cons_append, List.nil_append, List.getElem?_cons_zero, List.getElem?_cons_succ, List.getD_cons_zero, List.getD_cons_succ, List.getD_nil, Bool.not_true, Bool.not_false, decide_true, decide_false]
          refine ⟨m - 1, by omega, i + 1, swp cur h k, ?_⟩
          (repeat' first | exact f1 | exact f2 | exact f3 | exact f4 | exact hF | apply And.intro) <;> first | (simp only [Value.int.injEq, true_and]; omega) | omega | rfl | assumption | (simp; done) | (simp; omega)
        · have e1' : ¬ nearB es h (xs.getD i 0) = true := by simpa using e1
          rw [if_neg e1'] at hF
          refine hQ _ _ _ ?_
          simp (maxSteps := 1000000) (disch := omega) only [S, S1, S2, S3, S4, ST, eq_self, ne_eq, not_true_eq_false, not_false_eq_true, and_self, true_and, and_true, reduceIte, reduceCtorEq, Nat.reduceEqDiff, Nat.reduceAdd, Nat.zero_add, Nat.add_zero, Option.map_none, Option.map_some, List.map_cons, List.map_nil, List.append_nil, List.cons_append, List.nil_append, List.getElem?_cons_zero, List.getElem?_cons_succ, List.getD_cons_zero, List.getD_cons_succ, List.getD_nil, Bool.not_true, Bool.not_false, decide_true, decide_false]
          rw [hR, hK, hF]
          exact ⟨_, rfl, Own.mine (.inr ⟨D.length, rfl, (hpH.trans pD).length_le, at_new ..⟩), pre_app (hpH.trans pD) _⟩
      · simp (maxSteps := 1000000) (disch := omega) only [hw, S, S1, S2, S3, S4, ST, eq_self, ne_eq, not_true_eq_false, not_false_eq_true, and_self, true_and, and_true, reduceIte, reduceCtorEq, Nat.reduceEqDiff, Nat.reduceAdd, Nat.zero_add, Nat.add_zero, Option.map_none, Option.map_some, List.map_cons, List.map_nil, List.append_nil, List.cons_append, List.nil_append, List.getElem?_cons_zero, List.getElem?_cons_succ, List.getD_cons_zero, List.getD_cons_succ, List.getD_nil, Bool.not_true, Bool.not_false, decide_true, decide_false]
        refine hQ _ _ _ ?_
        simp (maxSteps := 1000000) (disch := omega) only [hw, hmine.row.tup, S, S1, S2, S3, S4, ST, eq_self, ne_eq, not_true_eq_false, not_false_eq_true, and_self, true_and, and_true, reduceIte, reduceCtorEq, Nat.reduceEqDiff, Nat.reduceAdd, Nat.zero_add, Nat.add_zero, Option.map_none, Option.map_some, List.map_cons, List.map_nil, List.append_nil, List.cons_append, List.nil_append, List.getElem?_cons_zero, List.getElem?_cons_succ, List.getD_cons_zero, List.getD_cons_succ, List.getD_nil, Bool.not_true, Bool.not_false, decide_true, decide_false]
        rw [List.drop_of_length_le (by omega)] at hF
        rw [hR, hK, hF]
        exact ⟨b, rfl, hmine, hpH⟩
  · refine hQ _ _ _ ?_
    simp (maxSteps := 1000000) (disch := omega) only [S, S1, S2, S3, S4, ST, eq_self, ne_eq, not_true_eq_false, not_false_eq_true, and_self, true_and, and_true, reduceIte, reduceCtorEq, Nat.reduceEqDiff, Nat.reduceAdd, Nat.zero_add, Nat.add_zero, Option.map_none, Option.map_some, List.map_cons, List.map_nil, List.append_nil, List.cons_append, List.nil_append, List.getElem?_cons_zero, List.getElem?_cons_succ, List.getD_cons_zero, List.getD_cons_succ, List.getD_nil, Bool.not_true, Bool.not_false, decide_true, decide_false]
    have hR : slideR n es p xs = [] := by simp [slideR, e]
    have hK : slideK n es p xs = false := by simp [slideK, e]
    rw [hR, hK]
    exact ⟨_, rfl, Own.mine (.inr ⟨B.length, rfl, pHB.length_le, at_new ..⟩), pre_app pHB _⟩

set_option maxRecDepth 20000 in
set_option maxHeartbeats 4000000 in
theorem SlideI_c (n : Int) (v w u : Value) (es : List (Int × Int)) (p xs : List Int) (H : AH) (hr : RowP 66 H v es) (hlen : es.length ≤ 1099511627776) (hes : ∀ y ∈ es, I64 y.1 ∧ I64 y.2)
    (hp : Row 3 H w p) (hlp : p.length ≤ 1099511627776) (hxp : ∀ y ∈ p, I64 y) (hx : Row 3 H u xs) (hlx : xs.length ≤ 1099511627776) (hxs : ∀ y ∈ xs, I64 y) (hn : I64 n) :
    ACalls Try.prog 50 [.agg (List.toArray [.int .i64 n, v]), w, u] H fun r H' => ∃ g, r = .tuple (List.toArray [g, .bool (slideK n es p xs)]) ∧ Mine 3 H H' g (slideR n es p xs) ∧ H <+: H' := by
  refine in50 rfl ?_
  intro Q hQ
  simp (maxSteps := 1000000) (disch := omega) only [cd50, hr.boxG, S, S1, S2, S3, S4, ST, eq_self, ne_eq, not_true_eq_false, not_false_eq_true, and_self, true_and, and_true, reduceIte, reduceCtorEq, Nat.reduceEqDiff, Nat.reduceAdd, Nat.zero_add, Nat.add_zero, Option.map_none, Option.map_some, List.map_cons, List.map_nil, List.append_nil, List.cons_append, List.nil_append, List.getElem?_cons_zero, List.getElem?_cons_succ, List.getD_cons_zero, List.getD_cons_succ, List.getD_nil, Bool.not_true, Bool.not_false, decide_true, decide_false]
  generalize hA : H ++ [AObj.cells [.int .i64 n, v] 41 false] = A
  have pA : H <+: A := by rw [← hA]; exact List.prefix_append _ _
  have cA : A[H.length]? = some (.cells [.int .i64 n, v] 41 false) := by rw [← hA]; exact at_new ..
  have rA := hr.pre pA
  simp (maxSteps := 1000000) (disch := omega) only [ld_agg ag41 cs41 cA, S, S1, S2, S3, S4, ST, eq_self, ne_eq, not_true_eq_false, not_false_eq_true, and_self, true_and, and_true, reduceIte, reduceCtorEq, Nat.reduceEqDiff, Nat.reduceAdd, Nat.zero_add, Nat.add_zero, Option.map_none, Option.map_some, List.map_cons, List.map_nil, List.append_nil, List.cons_append, List.nil_append, List.getElem?_cons_zero, List.getElem?_cons_succ, List.getD_cons_zero, List.getD_cons_succ, List.getD_nil, Bool.not_true, Bool.not_false, decide_true, decide_false]
  refine CallH.by (isBoard_c n v w es p A rA hlen (hp.pre pA) hlp hxp) ?_
  rintro _ B ⟨rfl, pB⟩
  have cB := pre_at pB cA
  have pHB := pA.trans pB
  simp (maxSteps := 1000000) (disch := omega) only [S, S1, S2, S3, S4, ST, eq_self, ne_eq, not_true_eq_false, not_false_eq_true, and_self, true_and, and_true, reduceIte, reduceCtorEq, Nat.reduceEqDiff, Nat.reduceAdd, Nat.zero_add, Nat.add_zero, Option.map_none, Option.map_some, List.map_cons, List.map_nil, List.append_nil, List.cons_append, List.nil_append, List.getElem?_cons_zero, List.getElem?_cons_succ, List.getD_cons_zero, List.getD_cons_succ, List.getD_nil, Bool.not_true, Bool.not_false, decide_true, decide_false]
  refine brD.intro (fun e => ?_) (fun e => ?_) <;> simp (maxSteps := 1000000) (disch := omega) only [e, S, S1, S2, S3, S4, ST, eq_self, ne_eq, not_true_eq_false, not_false_eq_true, and_self, true_and, and_true, reduceIte, reduceCtorEq, Nat.reduceEqDiff, Nat.reduceAdd, Nat.zero_add, Nat.add_zero, Option.map_none, Option.map_some, List.map_cons, List.map_nil, List.append_nil, List.cons_append, List.nil_append, List.getElem?_cons_zero, List.getElem?_cons_succ, List.getD_cons_zero, List.getD_cons_succ, List.getD_nil, Bool.not_true, Bool.not_false, decide_true, decide_false]
  · have hz := brd_zero e
    have hg := e.1.1.1
    have hpl := e.1.2
    have hnn := e.2
    have hR : slideR n es p xs = (slideF es p xs).getD [] := by simp [slideR, e]
    have hK : slideK n es p xs = (slideF es p xs).isSome := by simp [slideK, e]
    refine CallH.by (Clone_c w p B (hp.pre pHB) hlp) ?_
    rintro c C ⟨hc, pC⟩
    have cC := pre_at pC cB
    have pHC := pHB.trans pC
    have hcm := (hc.base pHB).mine
    simp (maxSteps := 1000000) (disch := omega) only [hx.len Try.underlying22, S, S1, S2, S3, S4, ST, eq_self, ne_eq, not_true_eq_false, not_false_eq_true, and_self, true_and, and_true, reduceIte, reduceCtorEq, Nat.reduceEqDiff, Nat.reduceAdd, Nat.zero_add, Nat.add_zero, Option.map_none, Option.map_some, List.map_cons, List.map_nil, List.append_nil, List.cons_append, List.nil_append, List.getElem?_cons_zero, List.getElem?_cons_succ, List.getD_cons_zero, List.getD_cons_succ, List.getD_nil, Bool.not_true, Bool.not_false, decide_true, decide_false]
    refine LoopH.by (fun m s H' => ∃ i cur, m + i = xs.length ∧ s 3 = .pointer (some ⟨H.length, 0, none⟩) ∧ s 20 = u ∧ s 21 = .int .i64 (xs.length : Int) ∧ s 22 = .int .i64 ((i : Nat) : Int) ∧ cur.length = p.length ∧ (0 : Int) ∈ cur ∧ slideF es p xs = slideF es cur (xs.drop i) ∧ Mine 3 H H' (s 8) cur ∧ C <+: H') xs.length ?_ ?_
    · exact ⟨0, p, by simp, rfl, rfl, rfl, rfl, rfl, hz, by rw [List.drop_zero], hcm, List.prefix_refl _⟩
    · rintro m s H' ⟨i, cur, hm, h3, h20, h21, h22, hcl, hc0, hF, hmine, hpp⟩
      have hx' := hx.pre (pHC.trans hpp)
      have hrG := hr.pre (pHC.trans hpp)
      have cH := pre_at hpp cC
      have hpH := pHC.trans hpp
      generalize hw : s 8 = b at *
      simp (maxSteps := 1000000) (disch := omega) only [h3, h20, h21, h22, hw, S, S1, S2, S3, S4, ST, eq_self, ne_eq, not_true_eq_false, not_false_eq_true, and_self, true_and, and_true, reduceIte, reduceCtorEq, Nat.reduceEqDiff, Nat.reduceAdd, Nat.zero_add, Nat.add_zero, Option.map_none, Option.map_some, List.map_cons, List.map_nil, List.append_nil, List.cons_append, List.nil_append, List.getElem?_cons_zero, List.getElem?_cons_succ, List.getD_cons_zero, List.getD_cons_succ, List.getD_nil, Bool.not_true, Bool.not_false, decide_true, decide_false]
      refine brD.intro (fun g => ?_) (fun g => ?_)
      · have hi : i < xs.length := by omega
        rw [slideF_step es cur xs i hi] at hF
        obtain ⟨h, hhl, hhe, hh0⟩ := ax_at hc0
        rw [hhe] at hF
        simp (maxSteps := 1000000) (disch := omega) only [h3, h20, h21, h22, hw, ld_agg ag41 cs41 cH, hx'.ix Try.underlying22 cs3, hx'.cell, Int.toNat_natCast, S, S1, S2, S3, S4, ST, eq_self, ne_eq, not_true_eq_false, not_false_eq_true, and_self, true_and, and_true, reduceIte, reduceCtorEq, Nat.reduceEqDiff, Nat.reduceAdd, Nat.zero_add, Nat.add_zero, Option.map_none, Option.map_some, List.map_cons, List.map_nil, List.append_nil, List.cons_append, List.nil_append, List.getElem?_cons_zero, List.getElem?_cons_succ, List.getD_cons_zero, List.getD_cons_succ, List.getD_nil, Bool.not_true, Bool.not_false, decide_true, decide_false]
        refine CallH.by (slides_c n v b es cur H' hrG hlen hmine.row hg (by omega) h hhe hhl) ?_
        rintro _ D ⟨L, nd, rfl, hL, hnd, pD⟩
        simp (maxSteps := 1000000) (disch := omega) only [S, S1, S2, S3, S4, ST, eq_self, ne_eq, not_true_eq_false, not_false_eq_true, and_self, true_and, and_true, reduceIte, reduceCtorEq, Nat.reduceEqDiff, Nat.reduceAdd, Nat.zero_add, Nat.add_zero, Option.map_none, Option.map_some, List.map_cons, List.map_nil, List.append_nil, List.cons_append, List.nil_append, List.getElem?_cons_zero, List.getElem?_cons_succ, List.getD_cons_zero, List.getD_cons_succ, List.getD_nil, Bool.not_true, Bool.not_false, decide_true, decide_false]
        have hnl := nbsU_len es h n.toNat
        refine CallH.by (Index_c nd (nbsU es h n.toNat) (xs.getD i 0) D hnd (by omega)) ?_
        rintro _ _ ⟨rfl, rfl⟩
        simp (maxSteps := 1000000) (disch := omega) only [S, S1, S2, S3, S4, ST, eq_self, ne_eq, not_true_eq_false, not_false_eq_true, and_self, true_and, and_true, reduceIte, reduceCtorEq, Nat.reduceEqDiff, Nat.reduceAdd, Nat.zero_add, Nat.add_zero, Option.map_none, Option.map_some, List.map_cons, List.map_nil, List.append_nil, List.cons_append, List.nil_append, List.getElem?_cons_zero, List.getElem?_cons_succ, List.getD_cons_zero, List.getD_cons_succ, List.getD_nil, Bool.not_true, Bool.not_false, decide_true, decide_false]
        by_cases e1 : nearB es h (xs.getD i 0) = true
        · have hrg := near_rng hg e1
          have hin : xs.getD i 0 ∈ nbsU es h n.toNat := (nbsU_mem es h n.toNat _).2 ⟨by omega, e1⟩
          obtain ⟨k, hk⟩ : ∃ k : Nat, xs.getD i 0 = k := ⟨(xs.getD i 0).toNat, by omega⟩
          rw [if_pos e1, Int.toNat_natCast, hk, Int.toNat_natCast] at hF
          rw [hk] at hin hrg ⊢
          obtain ⟨j, hjl, hje, hj0⟩ := ax_at hin
          have hje' : idxP (fun y => decide ((k : Int) = y)) (nbsU es h n.toNat) 0 = (j : Int) := hje
          rw [hje']
          refine brD.intro (fun q => absurd q (by omega)) (fun q => ?_)
          obtain ⟨us, r1, r3, r4⟩ := hL.parts
          have hbl : (brds cur (nbsU es h n.toNat) h).length = (nbsU es h n.toNat).length := by simp [brds]
          have hju : j < us.length := by omega
          have hcell := r1.cell hju
          have hbj : (brds cur (nbsU es h n.toNat) h).getD j [] = swp cur h k := by
            have : (nbsU es h n.toNat)[j] = (k : Int) := by rw [← hj0]; simp [hjl]
            unfold brds
            rw [List.getD_eq_getElem?_getD, List.getElem?_map, List.getElem?_eq_getElem hjl]
            simp only [Option.map_some, Option.getD_some]
            rw [this, Int.toNat_natCast]
            exact swp_comm _ _ _ (by omega)
          have hgI : InI H'.length D.length 3 D (us.getD j undef) (swp cur h k) := by
            have := r4 j (by omega)
            rwa [hbj] at this
          have f1 : Mine 3 H D (us.getD j undef) (swp cur h k) := hgI.mine.base hpH
          have f2 := hpp.trans pD
          have f3 := swp_zero hhl (show k < cur.length by omega) hh0
          have f4 : (swp cur h k).length = p.length := by rw [swp_len]; exact hcl
          simp (maxSteps := 1000000) (disch := omega) only [h3, h20, h21, h22, r1.ix Try.underlying47 cs22, hcell, Int.toNat_natCast, wrap64, S, S1, S2, S3, S4, ST, eq_self, ne_eq, not_true_eq_false, not_false_eq_true, and_self, true_and, and_true, reduceIte, reduceCtorEq, Nat.reduceEqDiff, Nat.reduceAdd, Nat.zero_add, Nat.add_zero, Option.map_none, Option.map_some, List.map_cons, List.map_nil, List.append_nil, List.cons_append, List.nil_append, List.getElem?_cons_zero, List.getElem?_cons_succ, List.getD_cons_zero, List.getD_cons_succ, List.getD_nil, Bool.not_true, Bool.not_false, decide_true, decide_false]
          refine ⟨m - 1, by omega, i + 1, swp cur h k, ?_⟩
          (repeat' first | exact f1 | exact f2 | exact f3 | exact f4 | exact hF | apply And.intro) <;> first | (simp only [Value.int.injEq, true_and]; omega) | omega | rfl | assumption | (simp; done) | (simp; omega)
        · rw [if_neg e1] at hF
          have hno : xs.getD i 0 ∉ nbsU es h n.toNat := fun hm => e1 ((nbsU_mem es h n.toNat _).1 hm).2
          have hneg : idxP (fun y => decide (xs.getD i 0 = y)) (nbsU es h n.toNat) 0 < 0 := by
            have := mt (idxP_any (fun y => decide (xs.getD i 0 = y)) (nbsU es h n.toNat) 0).1 (by simpa using hno)
            omega
          refine brD.intro (fun q => ?_) (fun q => absurd hneg q)
          simp (maxSteps := 1000000) (disch := omega) only [S, S1, S2, S3, S4, ST, eq_self, ne_eq, not_true_eq_false, not_false_eq_true, and_self, true_and, and_true, reduceIte, reduceCtorEq, Nat.reduceEqDiff, Nat.reduceAdd, Nat.zero_add, Nat.add_zero, Option.map_none, Option.map_some, List.map_cons, List.map_nil, List.append_nil, List.cons_append, List.nil_append, List.getElem?_cons_zero, List.getElem?_cons_succ, List.getD_cons_zero, List.getD_cons_succ, List.getD_nil, Bool.not_true, Bool.not_false, decide_true, decide_false]
          refine hQ _ _ _ ?_
          simp (maxSteps := 1000000) (disch := omega) only [S, S1, S2, S3, S4, ST, eq_self, ne_eq, not_true_eq_false, not_false_eq_true, and_self, true_and, and_true, reduceIte, reduceCtorEq, Nat.reduceEqDiff, Nat.reduceAdd, Nat.zero_add, Nat.add_zero, Option.map_none, Option.map_some, List.map_cons, List.map_nil, List.append_nil, List.cons_append, List.nil_append, List.getElem?_cons_zero, List.getElem?_cons_succ, List.getD_cons_zero, List.getD_cons_succ, List.getD_nil, Bool.not_true, Bool.not_false, decide_true, decide_false]
          rw [hR, hK, hF]
          exact ⟨_, rfl, .inl ⟨rfl, rfl⟩, hpH.trans pD⟩
      · simp (maxSteps := 1000000) (disch := omega) only [hw, S, S1, S2, S3, S4, ST, eq_self, ne_eq, not_true_eq_false, not_false_eq_true, and_self, true_and, and_true, reduceIte, reduceCtorEq, Nat.reduceEqDiff, Nat.reduceAdd, Nat.zero_add, Nat.add_zero, Option.map_none, Option.map_some, List.map_cons, List.map_nil, List.append_nil, List.cons_append, List.nil_append, List.getElem?_cons_zero, List.getElem?_cons_succ, List.getD_cons_zero, List.getD_cons_succ, List.getD_nil, Bool.not_true, Bool.not_false, decide_true, decide_false]
        refine hQ _ _ _ ?_
        simp (maxSteps := 1000000) (disch := omega) only [hw, hmine.row.tup, S, S1, S2, S3, S4, ST, eq_self, ne_eq, not_true_eq_false, not_false_eq_true, and_self, true_and, and_true, reduceIte, reduceCtorEq, Nat.reduceEqDiff, Nat.reduceAdd, Nat.zero_add, Nat.add_zero, Option.map_none, Option.map_some, List.map_cons, List.map_nil, List.append_nil, List.cons_append, List.nil_append, List.getElem?_cons_zero, List.getElem?_cons_succ, List.getD_cons_zero, List.getD_cons_succ, List.getD_nil, Bool.not_true, Bool.not_false, decide_true, decide_false]
        rw [List.drop_of_length_le (by omega)] at hF
        rw [hR, hK, hF]
        exact ⟨b, rfl, hmine, hpH⟩
  · refine hQ _ _ _ ?_
    simp (maxSteps := 1000000) (disch := omega) only [S, S1, S2, S3, S4, ST, eq_self, ne_eq, not_true_eq_false, not_false_eq_true, and_self, true_and, and_true, reduceIte, reduceCtorEq, Nat.reduceEqDiff, Nat.reduceAdd, Nat.zero_add, Nat.add_zero, Option.map_none, Option.map_some, List.map_cons, List.map_nil, List.append_nil, List.cons_append, List.nil_append, List.getElem?_cons_zero, List.getElem?_cons_succ, List.getD_cons_zero, List.getD_cons_succ, List.getD_nil, Bool.not_true, Bool.not_false, decide_true, decide_false]
    have hR : slideR n es p xs = [] := by simp [slideR, e]
    have hK : slideK n es p xs = false := by simp [slideK, e]
    rw [hR, hK]
    exact ⟨_, rfl, .inl ⟨rfl, rfl⟩, pHB⟩
end Go.Proofs.Ytahakecifgjcnaa.Ai
