/- SwapPlaces, both sides. -/
import Derived.Test.YtahakecifgjcnaaSwp
import Derived.Test.YtahakecifgjcnaaPerm
import Derived.Test.YtahakecifgjcnaaCdPlace
namespace Go.Proofs.Ytahakecifgjcnaa.Ai
open Go Go.RowKit
set_option linter.unusedVariables false
set_option linter.unusedSimpArgs false

theorem plc_bad {p : List Int} {ss : List (Int × Int)} {i : Nat} (hi : i < ss.length) (h : ¬ swOk p.length (ss.getD i (0, 0))) : ¬ plcOk p ss := by
  intro hh
  refine h (hh.2 _ ?_)
  simp [hi]
theorem plc_all {p : List Int} {ss : List (Int × Int)} (hp : Prm p) (h : ∀ j, j < ss.length → swOk p.length (ss.getD j (0, 0))) : plcOk p ss := by
  refine ⟨hp, fun s hs => ?_⟩
  obtain ⟨i, hi, e⟩ := List.getElem_of_mem hs
  have := h i hi
  rw [show ss.getD i (0, 0) = s from by simp [hi, e]] at this
  exact this

set_option maxRecDepth 20000 in
set_option maxHeartbeats 2000000 in
theorem PlaceS_c (v w : Value) (p : List Int) (ss : List (Int × Int)) (H : AH) (hr : Row 3 H v p) (hlen : p.length ≤ 1099511627776) (hxs : ∀ y ∈ p, I64 y) (hr2 : RowP 66 H w ss) (hlen2 : ss.length ≤ 1099511627776) (hss : ∀ s ∈ ss, I64 s.1 ∧ I64 s.2) :
    ACalls Try.prog 16 [v, w] H fun r H' => ∃ g, r = .tuple (List.toArray [g, .bool (decide (plcOk p ss))]) ∧ Mine 3 H H' g (placeR p ss) ∧ H <+: H' := by
  refine in16 rfl ?_
  intro Q hQ
  simp (maxSteps := 1000000) (disch := omega) only [cd16, S, S1, S2, S3, S4, ST, eq_self, ne_eq, not_true_eq_false, not_false_eq_true, and_self, true_and, and_true, reduceIte, reduceCtorEq, Nat.reduceEqDiff, Nat.reduceAdd, Nat.zero_add, Nat.add_zero, Option.map_none, Option.map_some, List.map_cons, List.map_nil, List.append_nil, List.cons_append, List.nil_append, List.getElem?_cons_zero, List.getElem?_cons_succ, List.getD_cons_zero, List.getD_cons_succ, List.getD_nil, Bool.not_true, Bool.not_false, decide_true, decide_false]
  refine CallH.by (l9Perm_c v p _ hr hlen) ?_
  rintro _ _ ⟨rfl, rfl⟩
  simp (maxSteps := 1000000) (disch := omega) only [S, S1, S2, S3, S4, ST, eq_self, ne_eq, not_true_eq_false, not_false_eq_true, and_self, true_and, and_true, reduceIte, reduceCtorEq, Nat.reduceEqDiff, Nat.reduceAdd, Nat.zero_add, Nat.add_zero, Option.map_none, Option.map_some, List.map_cons, List.map_nil, List.append_nil, List.cons_append, List.nil_append, List.getElem?_cons_zero, List.getElem?_cons_succ, List.getD_cons_zero, List.getD_cons_succ, List.getD_nil, Bool.not_true, Bool.not_false, decide_true, decide_false]
  refine brD.intro (fun hp => ?_) (fun hp => ?_) <;> simp (maxSteps := 1000000) (disch := omega) only [hp, S, S1, S2, S3, S4, ST, eq_self, ne_eq, not_true_eq_false, not_false_eq_true, and_self, true_and, and_true, reduceIte, reduceCtorEq, Nat.reduceEqDiff, Nat.reduceAdd, Nat.zero_add, Nat.add_zero, Option.map_none, Option.map_some, List.map_cons, List.map_nil, List.append_nil, List.cons_append, List.nil_append, List.getElem?_cons_zero, List.getElem?_cons_succ, List.getD_cons_zero, List.getD_cons_succ, List.getD_nil, Bool.not_true, Bool.not_false, decide_true, decide_false]
  · have h8 := hp.1
    refine CallH.by (l1Own_c v p H hr hlen) ?_
    rintro u0 H0 ⟨ho0, hp0⟩
    simp (maxSteps := 1000000) (disch := omega) only [S, S1, S2, S3, S4, ST, eq_self, ne_eq, not_true_eq_false, not_false_eq_true, and_self, true_and, and_true, reduceIte, reduceCtorEq, Nat.reduceEqDiff, Nat.reduceAdd, Nat.zero_add, Nat.add_zero, Option.map_none, Option.map_some, List.map_cons, List.map_nil, List.append_nil, List.cons_append, List.nil_append, List.getElem?_cons_zero, List.getElem?_cons_succ, List.getD_cons_zero, List.getD_cons_succ, List.getD_nil, Bool.not_true, Bool.not_false, decide_true, decide_false]
    refine LoopH.by (fun m s H' => ∃ i, m + i = ss.length ∧ s 0 = v ∧ s 1 = w ∧ s 7 = .int .i64 ((i : Nat) : Int) ∧ Own 3 H H' (s 6) (plcSt p (ss.take i)) ∧ H <+: H' ∧ ∀ j, j < i → swOk p.length (ss.getD j (0, 0))) ss.length ?_ ?_
    · refine ⟨0, by simp, rfl, rfl, rfl, ?_, hp0, by omega⟩
      simp (maxSteps := 1000000) (disch := omega) only [S, S1, S2, S3, S4, ST, eq_self, ne_eq, not_true_eq_false, not_false_eq_true, and_self, true_and, and_true, reduceIte, reduceCtorEq, Nat.reduceEqDiff, Nat.reduceAdd, Nat.zero_add, Nat.add_zero, Option.map_none, Option.map_some, List.map_cons, List.map_nil, List.append_nil, List.cons_append, List.nil_append, List.getElem?_cons_zero, List.getElem?_cons_succ, List.getD_cons_zero, List.getD_cons_succ, List.getD_nil, Bool.not_true, Bool.not_false, decide_true, decide_false]; exact ho0
    · rintro m s H' ⟨i, hm, h0, h1, h7, ho, hpp, hall⟩
      have hr' := hr.pre hpp
      have hr2' := hr2.pre hpp
      have hl := plcSt_len (ss.take i) p
      generalize hw : s 6 = u at *
      simp (maxSteps := 1000000) (disch := omega) only [h0, h1, h7, hw, hr2'.len Try.underlying23, S, S1, S2, S3, S4, ST, eq_self, ne_eq, not_true_eq_false, not_false_eq_true, and_self, true_and, and_true, reduceIte, reduceCtorEq, Nat.reduceEqDiff, Nat.reduceAdd, Nat.zero_add, Nat.add_zero, Option.map_none, Option.map_some, List.map_cons, List.map_nil, List.append_nil, List.cons_append, List.nil_append, List.getElem?_cons_zero, List.getElem?_cons_succ, List.getD_cons_zero, List.getD_cons_succ, List.getD_nil, Bool.not_true, Bool.not_false, decide_true, decide_false]
      refine brD.intro (fun g => ?_) (fun g => ?_)
      · have hi : i < ss.length := by omega
        have hst := plcSt_step p ss i hi
        have hbad := fun h => plc_bad (p := p) hi h
        have hstep : swOk p.length (ss.getD i (0, 0)) → ∀ j, j < i + 1 → swOk p.length (ss.getD j (0, 0)) := by
          intro h j hj
          by_cases e : j = i
          · subst e; exact h
          · exact hall j (by omega)
        simp (maxSteps := 1000000) (disch := omega) only [h0, h1, h7, hw, hr2'.ix Try.underlying23 cs66, Int.toNat_natCast, hr2'.cell0 hi, hr2'.cell1 hi, S, S1, S2, S3, S4, ST, eq_self, ne_eq, not_true_eq_false, not_false_eq_true, and_self, true_and, and_true, reduceIte, reduceCtorEq, Nat.reduceEqDiff, Nat.reduceAdd, Nat.zero_add, Nat.add_zero, Option.map_none, Option.map_some, List.map_cons, List.map_nil, List.append_nil, List.cons_append, List.nil_append, List.getElem?_cons_zero, List.getElem?_cons_succ, List.getD_cons_zero, List.getD_cons_succ, List.getD_nil, Bool.not_true, Bool.not_false, decide_true, decide_false]
        generalize hsi : ss.getD i (0, 0) = sw at *
        obtain ⟨a, b⟩ := sw
        have fail : ¬ swOk p.length (a, b) → placeR p ss = [] ∧ decide (plcOk p ss) = false := fun h => ⟨if_neg (hbad h), decide_eq_false (hbad h)⟩
        refine brD.intro (fun e1 => ?_) (fun e1 => ?_) <;> simp (maxSteps := 1000000) (disch := omega) only [e1, h0, h1, h7, hw, hr'.len Try.underlying22, S, S1, S2, S3, S4, ST, eq_self, ne_eq, not_true_eq_false, not_false_eq_true, and_self, true_and, and_true, reduceIte, reduceCtorEq, Nat.reduceEqDiff, Nat.reduceAdd, Nat.zero_add, Nat.add_zero, Option.map_none, Option.map_some, List.map_cons, List.map_nil, List.append_nil, List.cons_append, List.nil_append, List.getElem?_cons_zero, List.getElem?_cons_succ, List.getD_cons_zero, List.getD_cons_succ, List.getD_nil, Bool.not_true, Bool.not_false, decide_true, decide_false]
        · refine hQ _ _ _ ?_
          simp (maxSteps := 1000000) (disch := omega) only [S, S1, S2, S3, S4, ST, eq_self, ne_eq, not_true_eq_false, not_false_eq_true, and_self, true_and, and_true, reduceIte, reduceCtorEq, Nat.reduceEqDiff, Nat.reduceAdd, Nat.zero_add, Nat.add_zero, Option.map_none, Option.map_some, List.map_cons, List.map_nil, List.append_nil, List.cons_append, List.nil_append, List.getElem?_cons_zero, List.getElem?_cons_succ, List.getD_cons_zero, List.getD_cons_succ, List.getD_nil, Bool.not_true, Bool.not_false, decide_true, decide_false]
          obtain ⟨f1, f2⟩ := fail (fun h => by have := h.1; simp at this; omega)
          rw [f1, f2]
          exact ⟨.slice (some ⟨H'.length, 0, none⟩) 0 0, rfl, (Own.mine (.inr ⟨H'.length, rfl, hpp.length_le, at_new ..⟩)), pre_app hpp _⟩
        · refine brD.intro (fun e2 => ?_) (fun e2 => ?_) <;> simp (maxSteps := 1000000) (disch := omega) only [e1, e2, h0, h1, h7, hw, hr'.len Try.underlying22, S, S1, S2, S3, S4, ST, eq_self, ne_eq, not_true_eq_false, not_false_eq_true, and_self, true_and, and_true, reduceIte, reduceCtorEq, Nat.reduceEqDiff, Nat.reduceAdd, Nat.zero_add, Nat.add_zero, Option.map_none, Option.map_some, List.map_cons, List.map_nil, List.append_nil, List.cons_append, List.nil_append, List.getElem?_cons_zero, List.getElem?_cons_succ, List.getD_cons_zero, List.getD_cons_succ, List.getD_nil, Bool.not_true, Bool.not_false, decide_true, decide_false]
          · refine hQ _ _ _ ?_
            simp (maxSteps := 1000000) (disch := omega) only [S, S1, S2, S3, S4, ST, eq_self, ne_eq, not_true_eq_false, not_false_eq_true, and_self, true_and, and_true, reduceIte, reduceCtorEq, Nat.reduceEqDiff, Nat.reduceAdd, Nat.zero_add, Nat.add_zero, Option.map_none, Option.map_some, List.map_cons, List.map_nil, List.append_nil, List.cons_append, List.nil_append, List.getElem?_cons_zero, List.getElem?_cons_succ, List.getD_cons_zero, List.getD_cons_succ, List.getD_nil, Bool.not_true, Bool.not_false, decide_true, decide_false]
            obtain ⟨f1, f2⟩ := fail (fun h => by have := h.2.1; simp at this; omega)
            rw [f1, f2]
            exact ⟨.slice (some ⟨H'.length, 0, none⟩) 0 0, rfl, (Own.mine (.inr ⟨H'.length, rfl, hpp.length_le, at_new ..⟩)), pre_app hpp _⟩
          · refine brD.intro (fun e3 => ?_) (fun e3 => ?_) <;> simp (maxSteps := 1000000) (disch := omega) only [e1, e2, e3, h0, h1, h7, hw, hr'.len Try.underlying22, S, S1, S2, S3, S4, ST, eq_self, ne_eq, not_true_eq_false, not_false_eq_true, and_self, true_and, and_true, reduceIte, reduceCtorEq, Nat.reduceEqDiff, Nat.reduceAdd, Nat.zero_add, Nat.add_zero, Option.map_none, Option.map_some, List.map_cons, List.map_nil, List.append_nil, List.cons_append, List.nil_append, List.getElem?_cons_zero, List.getElem?_cons_succ, List.getD_cons_zero, List.getD_cons_succ, List.getD_nil, Bool.not_true, Bool.not_false, decide_true, decide_false]
            · refine hQ _ _ _ ?_
              simp (maxSteps := 1000000) (disch := omega) only [S, S1, S2, S3, S4, ST, eq_self, ne_eq, not_true_eq_false, not_false_eq_true, and_self, true_and, and_true, reduceIte, reduceCtorEq, Nat.reduceEqDiff, Nat.reduceAdd, Nat.zero_add, Nat.add_zero, Option.map_none, Option.map_some, List.map_cons, List.map_nil, List.append_nil, List.cons_append, List.nil_append, List.getElem?_cons_zero, List.getElem?_cons_succ, List.getD_cons_zero, List.getD_cons_succ, List.getD_nil, Bool.not_true, Bool.not_false, decide_true, decide_false]
              obtain ⟨f1, f2⟩ := fail (fun h => by have := h.2.2; simp at this; omega)
              rw [f1, f2]
              exact ⟨.slice (some ⟨H'.length, 0, none⟩) 0 0, rfl, (Own.mine (.inr ⟨H'.length, rfl, hpp.length_le, at_new ..⟩)), pre_app hpp _⟩
            · obtain ⟨an, rfl⟩ := Int.eq_ofNat_of_zero_le (show 0 ≤ a by omega)
              obtain ⟨bn, rfl⟩ := Int.eq_ofNat_of_zero_le (show 0 ≤ b by omega)
              have kok := hstep ⟨by simp, by simp; omega, by simp; omega⟩
              refine CallH.by (l9Swap_c u _ an bn H' ho.row (by omega) (by omega) (by omega)) ?_
              rintro r H3 ⟨ho3, hp3⟩
              have ko := ho3.base hpp
              have kpp := hpp.trans hp3
              simp only [Int.toNat_natCast] at hst
              simp (maxSteps := 1000000) (disch := omega) only [h0, h1, h7, hw, wrap64, S, S1, S2, S3, S4, ST, eq_self, ne_eq, not_true_eq_false, not_false_eq_true, and_self, true_and, and_true, reduceIte, reduceCtorEq, Nat.reduceEqDiff, Nat.reduceAdd, Nat.zero_add, Nat.add_zero, Option.map_none, Option.map_some, List.map_cons, List.map_nil, List.append_nil, List.cons_append, List.nil_append, List.getElem?_cons_zero, List.getElem?_cons_succ, List.getD_cons_zero, List.getD_cons_succ, List.getD_nil, Bool.not_true, Bool.not_false, decide_true, decide_false]
              refine ⟨m - 1, by omega, i + 1, ?_⟩
              rw [hst]
              (repeat' first | exact ko | exact kpp | exact kok | apply And.intro) <;> first | (simp only [Value.int.injEq, true_and]; omega) | omega | rfl | assumption | (simp; done) | (simp; omega)
      · simp (maxSteps := 1000000) (disch := omega) only [hw, S, S1, S2, S3, S4, ST, eq_self, ne_eq, not_true_eq_false, not_false_eq_true, and_self, true_and, and_true, reduceIte, reduceCtorEq, Nat.reduceEqDiff, Nat.reduceAdd, Nat.zero_add, Nat.add_zero, Option.map_none, Option.map_some, List.map_cons, List.map_nil, List.append_nil, List.cons_append, List.nil_append, List.getElem?_cons_zero, List.getElem?_cons_succ, List.getD_cons_zero, List.getD_cons_succ, List.getD_nil, Bool.not_true, Bool.not_false, decide_true, decide_false]
        refine hQ _ _ _ ?_
        simp (maxSteps := 1000000) (disch := omega) only [hw, ho.row.tup, S, S1, S2, S3, S4, ST, eq_self, ne_eq, not_true_eq_false, not_false_eq_true, and_self, true_and, and_true, reduceIte, reduceCtorEq, Nat.reduceEqDiff, Nat.reduceAdd, Nat.zero_add, Nat.add_zero, Option.map_none, Option.map_some, List.map_cons, List.map_nil, List.append_nil, List.cons_append, List.nil_append, List.getElem?_cons_zero, List.getElem?_cons_succ, List.getD_cons_zero, List.getD_cons_succ, List.getD_nil, Bool.not_true, Bool.not_false, decide_true, decide_false]
        have hx : i = ss.length := by omega
        subst hx
        rw [List.take_length] at ho
        have hok := plc_all hp hall
        exact ⟨u, by simp [hok], by simpa [placeR, hok] using ho.mine, hpp⟩
  · refine hQ _ _ _ ?_
    simp (maxSteps := 1000000) (disch := omega) only [S, S1, S2, S3, S4, ST, eq_self, ne_eq, not_true_eq_false, not_false_eq_true, and_self, true_and, and_true, reduceIte, reduceCtorEq, Nat.reduceEqDiff, Nat.reduceAdd, Nat.zero_add, Nat.add_zero, Option.map_none, Option.map_some, List.map_cons, List.map_nil, List.append_nil, List.cons_append, List.nil_append, List.getElem?_cons_zero, List.getElem?_cons_succ, List.getD_cons_zero, List.getD_cons_succ, List.getD_nil, Bool.not_true, Bool.not_false, decide_true, decide_false]
    have hok : ¬ plcOk p ss := fun h => hp h.1
    exact ⟨.slice (some ⟨H.length, 0, none⟩) 0 0, by simp [hok], by rw [placeR, if_neg hok]; exact (Own.mine (.inr ⟨H.length, rfl, Nat.le_refl _, at_new ..⟩)), List.prefix_append _ _⟩

set_option maxRecDepth 20000 in
set_option maxHeartbeats 2000000 in
theorem PlaceI_c (v w : Value) (p : List Int) (ss : List (Int × Int)) (H : AH) (hr : Row 3 H v p) (hlen : p.length ≤ 1099511627776) (hxs : ∀ y ∈ p, I64 y) (hr2 : RowP 66 H w ss) (hlen2 : ss.length ≤ 1099511627776) (hss : ∀ s ∈ ss, I64 s.1 ∧ I64 s.2) :
    ACalls Try.prog 19 [v, w] H fun r H' => ∃ g, r = .tuple (List.toArray [g, .bool (decide (plcOk p ss))]) ∧ Mine 3 H H' g (placeR p ss) ∧ H <+: H' := by
  refine in19 rfl ?_
  intro Q hQ
  simp (maxSteps := 1000000) (disch := omega) only [cd19, S, S1, S2, S3, S4, ST, eq_self, ne_eq, not_true_eq_false, not_false_eq_true, and_self, true_and, and_true, reduceIte, reduceCtorEq, Nat.reduceEqDiff, Nat.reduceAdd, Nat.zero_add, Nat.add_zero, Option.map_none, Option.map_some, List.map_cons, List.map_nil, List.append_nil, List.cons_append, List.nil_append, List.getElem?_cons_zero, List.getElem?_cons_succ, List.getD_cons_zero, List.getD_cons_succ, List.getD_nil, Bool.not_true, Bool.not_false, decide_true, decide_false]
  refine CallH.by (PermI_c v p H hr hlen hxs) ?_
  rintro _ H0 ⟨rfl, hq0⟩
  have hr0 := hr.pre hq0
  simp (maxSteps := 1000000) (disch := omega) only [S, S1, S2, S3, S4, ST, eq_self, ne_eq, not_true_eq_false, not_false_eq_true, and_self, true_and, and_true, reduceIte, reduceCtorEq, Nat.reduceEqDiff, Nat.reduceAdd, Nat.zero_add, Nat.add_zero, Option.map_none, Option.map_some, List.map_cons, List.map_nil, List.append_nil, List.cons_append, List.nil_append, List.getElem?_cons_zero, List.getElem?_cons_succ, List.getD_cons_zero, List.getD_cons_succ, List.getD_nil, Bool.not_true, Bool.not_false, decide_true, decide_false]
  refine brD.intro (fun hp => ?_) (fun hp => ?_) <;> simp (maxSteps := 1000000) (disch := omega) only [hp, S, S1, S2, S3, S4, ST, eq_self, ne_eq, not_true_eq_false, not_false_eq_true, and_self, true_and, and_true, reduceIte, reduceCtorEq, Nat.reduceEqDiff, Nat.reduceAdd, Nat.zero_add, Nat.add_zero, Option.map_none, Option.map_some, List.map_cons, List.map_nil, List.append_nil, List.cons_append, List.nil_append, List.getElem?_cons_zero, List.getElem?_cons_succ, List.getD_cons_zero, List.getD_cons_succ, List.getD_nil, Bool.not_true, Bool.not_false, decide_true, decide_false]
  · have h8 := hp.1
    refine CallH.by (Clone_c v p H0 hr0 hlen) ?_
    rintro u0 H1 ⟨ho0', hp1⟩
    have ho0 := ho0'.base hq0
    have hp0 := hq0.trans hp1
    simp (maxSteps := 1000000) (disch := omega) only [(hr2.pre hp0).len Try.underlying23, S, S1, S2, S3, S4, ST, eq_self, ne_eq, not_true_eq_false, not_false_eq_true, and_self, true_and, and_true, reduceIte, reduceCtorEq, Nat.reduceEqDiff, Nat.reduceAdd, Nat.zero_add, Nat.add_zero, Option.map_none, Option.map_some, List.map_cons, List.map_nil, List.append_nil, List.cons_append, List.nil_append, List.getElem?_cons_zero, List.getElem?_cons_succ, List.getD_cons_zero, List.getD_cons_succ, List.getD_nil, Bool.not_true, Bool.not_false, decide_true, decide_false]
    refine LoopH.by (fun m s H' => ∃ i, m + i = ss.length ∧ s 0 = v ∧ s 14 = w ∧ s 15 = .int .i64 (ss.length : Int) ∧ s 16 = .int .i64 ((i : Nat) : Int) ∧ Own 3 H H' (s 6) (plcSt p (ss.take i)) ∧ H <+: H' ∧ ∀ j, j < i → swOk p.length (ss.getD j (0, 0))) ss.length ?_ ?_
    · refine ⟨0, by simp, rfl, rfl, rfl, rfl, ?_, hp0, by omega⟩
      simp (maxSteps := 1000000) (disch := omega) only [S, S1, S2, S3, S4, ST, eq_self, ne_eq, not_true_eq_false, not_false_eq_true, and_self, true_and, and_true, reduceIte, reduceCtorEq, Nat.reduceEqDiff, Nat.reduceAdd, Nat.zero_add, Nat.add_zero, Option.map_none, Option.map_some, List.map_cons, List.map_nil, List.append_nil, List.cons_append, List.nil_append, List.getElem?_cons_zero, List.getElem?_cons_succ, List.getD_cons_zero, List.getD_cons_succ, List.getD_nil, Bool.not_true, Bool.not_false, decide_true, decide_false]; exact ho0
    · rintro m s H' ⟨i, hm, h0, h14, h15, h16, ho, hpp, hall⟩
      have hr' := hr.pre hpp
      have hr2' := hr2.pre hpp
      have hl := plcSt_len (ss.take i) p
      generalize hw : s 6 = u at *
      simp (maxSteps := 1000000) (disch := omega) only [h0, h14, h15, h16, hw, S, S1, S2, S3, S4, ST, eq_self, ne_eq, not_true_eq_false, not_false_eq_true, and_self, true_and, and_true, reduceIte, reduceCtorEq, Nat.reduceEqDiff, Nat.reduceAdd, Nat.zero_add, Nat.add_zero, Option.map_none, Option.map_some, List.map_cons, List.map_nil, List.append_nil, List.cons_append, List.nil_append, List.getElem?_cons_zero, List.getElem?_cons_succ, List.getD_cons_zero, List.getD_cons_succ, List.getD_nil, Bool.not_true, Bool.not_false, decide_true, decide_false]
      refine brD.intro (fun g => ?_) (fun g => ?_)
      · have hi : i < ss.length := by omega
        have hst := plcSt_step p ss i hi
        have hbad := fun h => plc_bad (p := p) hi h
        have hstep : swOk p.length (ss.getD i (0, 0)) → ∀ j, j < i + 1 → swOk p.length (ss.getD j (0, 0)) := by
          intro h j hj
          by_cases e : j = i
          · subst e; exact h
          · exact hall j (by omega)
        have ldi := hr2'.ld ag66 cs66 hi
        generalize hsi : ss.getD i (0, 0) = sw at *
        obtain ⟨a, b⟩ := sw
        have st := store_a2 H' [.int .i64 0, .int .i64 0] rfl (.int .i64 a) (.int .i64 b)
        have pA := List.prefix_append H' [AObj.cells [.int .i64 a, .int .i64 b] 66 false]
        have aA := at_new H' (AObj.cells [.int .i64 a, .int .i64 b] 66 false)
        simp (maxSteps := 1000000) (disch := omega) only [h0, h14, h15, h16, hw, hr2'.ix Try.underlying23 cs66, Int.toNat_natCast, ldi, alloc_a2, st, S, S1, S2, S3, S4, ST, eq_self, ne_eq, not_true_eq_false, not_false_eq_true, and_self, true_and, and_true, reduceIte, reduceCtorEq, Nat.reduceEqDiff, Nat.reduceAdd, Nat.zero_add, Nat.add_zero, Option.map_none, Option.map_some, List.map_cons, List.map_nil, List.append_nil, List.cons_append, List.nil_append, List.getElem?_cons_zero, List.getElem?_cons_succ, List.getD_cons_zero, List.getD_cons_succ, List.getD_nil, Bool.not_true, Bool.not_false, decide_true, decide_false]
        generalize H' ++ [AObj.cells [.int .i64 a, .int .i64 b] 66 false] = A at *
        have hppA := hpp.trans pA
        have hrA := hr'.pre pA
        have c0 : cellA A H'.length 0 = some (.int .i64 a) := by rw [cell_of aA]; rfl
        have c1 : cellA A H'.length 1 = some (.int .i64 b) := by rw [cell_of aA]; rfl
        have ld := ld_a2 aA
        have fail : ¬ swOk p.length (a, b) → placeR p ss = [] ∧ decide (plcOk p ss) = false := fun h => ⟨if_neg (hbad h), decide_eq_false (hbad h)⟩
        simp (maxSteps := 1000000) (disch := omega) only [h0, h14, h15, h16, hw, c0, c1, ld, hrA.len Try.underlying22, S, S1, S2, S3, S4, ST, eq_self, ne_eq, not_true_eq_false, not_false_eq_true, and_self, true_and, and_true, reduceIte, reduceCtorEq, Nat.reduceEqDiff, Nat.reduceAdd, Nat.zero_add, Nat.add_zero, Option.map_none, Option.map_some, List.map_cons, List.map_nil, List.append_nil, List.cons_append, List.nil_append, List.getElem?_cons_zero, List.getElem?_cons_succ, List.getD_cons_zero, List.getD_cons_succ, List.getD_nil, Bool.not_true, Bool.not_false, decide_true, decide_false]
        refine brD.intro (fun e1 => ?_) (fun e1 => ?_) <;> simp (maxSteps := 1000000) (disch := omega) only [e1, h0, h14, h15, h16, hw, c0, c1, ld, hrA.len Try.underlying22, S, S1, S2, S3, S4, ST, eq_self, ne_eq, not_true_eq_false, not_false_eq_true, and_self, true_and, and_true, reduceIte, reduceCtorEq, Nat.reduceEqDiff, Nat.reduceAdd, Nat.zero_add, Nat.add_zero, Option.map_none, Option.map_some, List.map_cons, List.map_nil, List.append_nil, List.cons_append, List.nil_append, List.getElem?_cons_zero, List.getElem?_cons_succ, List.getD_cons_zero, List.getD_cons_succ, List.getD_nil, Bool.not_true, Bool.not_false, decide_true, decide_false]
        · refine hQ _ _ _ ?_
          simp (maxSteps := 1000000) (disch := omega) only [S, S1, S2, S3, S4, ST, eq_self, ne_eq, not_true_eq_false, not_false_eq_true, and_self, true_and, and_true, reduceIte, reduceCtorEq, Nat.reduceEqDiff, Nat.reduceAdd, Nat.zero_add, Nat.add_zero, Option.map_none, Option.map_some, List.map_cons, List.map_nil, List.append_nil, List.cons_append, List.nil_append, List.getElem?_cons_zero, List.getElem?_cons_succ, List.getD_cons_zero, List.getD_cons_succ, List.getD_nil, Bool.not_true, Bool.not_false, decide_true, decide_false]
          obtain ⟨f1, f2⟩ := fail (fun h => by have := h.1; simp at this; omega)
          rw [f1, f2]
          exact ⟨.slice none 0 0, rfl, .inl ⟨rfl, rfl⟩, hppA⟩
        · refine brD.intro (fun e2 => ?_) (fun e2 => ?_) <;> simp (maxSteps := 1000000) (disch := omega) only [e1, e2, h0, h14, h15, h16, hw, c0, c1, ld, hrA.len Try.underlying22, S, S1, S2, S3, S4, ST, eq_self, ne_eq, not_true_eq_false, not_false_eq_true, and_self, true_and, and_true, reduceIte, reduceCtorEq, Nat.reduceEqDiff, Nat.reduceAdd, Nat.zero_add, Nat.add_zero, Option.map_none, Option.map_some, List.map_cons, List.map_nil, List.append_nil, List.cons_append, List.nil_append, List.getElem?_cons_zero, List.getElem?_cons_succ, List.getD_cons_zero, List.getD_cons_succ, List.getD_nil, Bool.not_true, Bool.not_false, decide_true, decide_false]
          · refine hQ _ _ _ ?_
            simp (maxSteps := 1000000) (disch := omega) only [S, S1, S2, S3, S4, ST, eq_self, ne_eq, not_true_eq_false, not_false_eq_true, and_self, true_and, and_true, reduceIte, reduceCtorEq, Nat.reduceEqDiff, Nat.reduceAdd, Nat.zero_add, Nat.add_zero, Option.map_none, Option.map_some, List.map_cons, List.map_nil, List.append_nil, List.cons_append, List.nil_append, List.getElem?_cons_zero, List.getElem?_cons_succ, List.getD_cons_zero, List.getD_cons_succ, List.getD_nil, Bool.not_true, Bool.not_false, decide_true, decide_false]
            obtain ⟨f1, f2⟩ := fail (fun h => by have := h.2.1; simp at this; omega)
            rw [f1, f2]
            exact ⟨.slice none 0 0, rfl, .inl ⟨rfl, rfl⟩, hppA⟩
          · refine brD.intro (fun e3 => ?_) (fun e3 => ?_) <;> simp (maxSteps := 1000000) (disch := omega) only [e1, e2, e3, h0, h14, h15, h16, hw, c0, c1, ld, hrA.len Try.underlying22, S, S1, S2, S3, S4, ST, eq_self, ne_eq, not_true_eq_false, not_false_eq_true, and_self, true_and, and_true, reduceIte, reduceCtorEq, Nat.reduceEqDiff, Nat.reduceAdd, Nat.zero_add, Nat.add_zero, Option.map_none, Option.map_some, List.map_cons, List.map_nil, List.append_nil, List.cons_append, List.nil_append, List.getElem?_cons_zero, List.getElem?_cons_succ, List.getD_cons_zero, List.getD_cons_succ, List.getD_nil, Bool.not_true, Bool.not_false, decide_true, decide_false]
            · refine hQ _ _ _ ?_
              simp (maxSteps := 1000000) (disch := omega) only [S, S1, S2, S3, S4, ST, eq_self, ne_eq, not_true_eq_false, not_false_eq_true, and_self, true_and, and_true, reduceIte, reduceCtorEq, Nat.reduceEqDiff, Nat.reduceAdd, Nat.zero_add, Nat.add_zero, Option.map_none, Option.map_some, List.map_cons, List.map_nil, List.append_nil, List.cons_append, List.nil_append, List.getElem?_cons_zero, List.getElem?_cons_succ, List.getD_cons_zero, List.getD_cons_succ, List.getD_nil, Bool.not_true, Bool.not_false, decide_true, decide_false]
              obtain ⟨f1, f2⟩ := fail (fun h => by have := h.2.2; simp at this; omega)
              rw [f1, f2]
              exact ⟨.slice none 0 0, rfl, .inl ⟨rfl, rfl⟩, hppA⟩
            · obtain ⟨an, rfl⟩ := Int.eq_ofNat_of_zero_le (show 0 ≤ a by omega)
              obtain ⟨bn, rfl⟩ := Int.eq_ofNat_of_zero_le (show 0 ≤ b by omega)
              have kok := hstep ⟨by simp, by simp; omega, by simp; omega⟩
              refine CallH.by (swapped_c u _ an bn A (ho.row.pre pA) (by omega) (by omega) (by omega)) ?_
              rintro r H3 ⟨ho3, hp3⟩
              have ko := ho3.base hppA
              have kpp := hppA.trans hp3
              simp only [Int.toNat_natCast] at hst
              simp (maxSteps := 1000000) (disch := omega) only [h0, h14, h15, h16, hw, wrap64, S, S1, S2, S3, S4, ST, eq_self, ne_eq, not_true_eq_false, not_false_eq_true, and_self, true_and, and_true, reduceIte, reduceCtorEq, Nat.reduceEqDiff, Nat.reduceAdd, Nat.zero_add, Nat.add_zero, Option.map_none, Option.map_some, List.map_cons, List.map_nil, List.append_nil, List.cons_append, List.nil_append, List.getElem?_cons_zero, List.getElem?_cons_succ, List.getD_cons_zero, List.getD_cons_succ, List.getD_nil, Bool.not_true, Bool.not_false, decide_true, decide_false]
              refine ⟨m - 1, by omega, i + 1, ?_⟩
              rw [hst]
              (repeat' first | exact ko | exact kpp | exact kok | apply And.intro) <;> first | (simp only [Value.int.injEq, true_and]; omega) | omega | rfl | assumption | (simp; done) | (simp; omega)
      · simp (maxSteps := 1000000) (disch := omega) only [hw, S, S1, S2, S3, S4, ST, eq_self, ne_eq, not_true_eq_false, not_false_eq_true, and_self, true_and, and_true, reduceIte, reduceCtorEq, Nat.reduceEqDiff, Nat.reduceAdd, Nat.zero_add, Nat.add_zero, Option.map_none, Option.map_some, List.map_cons, List.map_nil, List.append_nil, List.cons_append, List.nil_append, List.getElem?_cons_zero, List.getElem?_cons_succ, List.getD_cons_zero, List.getD_cons_succ, List.getD_nil, Bool.not_true, Bool.not_false, decide_true, decide_false]
        refine hQ _ _ _ ?_
        simp (maxSteps := 1000000) (disch := omega) only [hw, ho.row.tup, S, S1, S2, S3, S4, ST, eq_self, ne_eq, not_true_eq_false, not_false_eq_true, and_self, true_and, and_true, reduceIte, reduceCtorEq, Nat.reduceEqDiff, Nat.reduceAdd, Nat.zero_add, Nat.add_zero, Option.map_none, Option.map_some, List.map_cons, List.map_nil, List.append_nil, List.cons_append, List.nil_append, List.getElem?_cons_zero, List.getElem?_cons_succ, List.getD_cons_zero, List.getD_cons_succ, List.getD_nil, Bool.not_true, Bool.not_false, decide_true, decide_false]
        have hx : i = ss.length := by omega
        subst hx
        rw [List.take_length] at ho
        have hok := plc_all hp hall
        exact ⟨u, by simp [hok], by simpa [placeR, hok] using ho.mine, hpp⟩
  · refine hQ _ _ _ ?_
    simp (maxSteps := 1000000) (disch := omega) only [S, S1, S2, S3, S4, ST, eq_self, ne_eq, not_true_eq_false, not_false_eq_true, and_self, true_and, and_true, reduceIte, reduceCtorEq, Nat.reduceEqDiff, Nat.reduceAdd, Nat.zero_add, Nat.add_zero, Option.map_none, Option.map_some, List.map_cons, List.map_nil, List.append_nil, List.cons_append, List.nil_append, List.getElem?_cons_zero, List.getElem?_cons_succ, List.getD_cons_zero, List.getD_cons_succ, List.getD_nil, Bool.not_true, Bool.not_false, decide_true, decide_false]
    have hok : ¬ plcOk p ss := fun h => hp h.1
    exact ⟨.slice none 0 0, by simp [hok], by rw [placeR, if_neg hok]; exact .inl ⟨rfl, rfl⟩, hq0⟩
end Go.Proofs.Ytahakecifgjcnaa.Ai
