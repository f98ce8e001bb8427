/- SortSwaps, both sides. -/
import Derived.Test.YtnoihoeaconllaaSwp
import Derived.Test.YtnoihoeaconllaaPerm
import Derived.Test.YtnoihoeaconllaaIndex
import Derived.Test.YtnoihoeaconllaaPair
import Derived.Test.YtnoihoeaconllaaCdSwaps
namespace Go.Proofs.Ytnoihoeaconllaa.Ai
open Go Go.RowKit
set_option linter.unusedVariables false
set_option linter.unusedSimpArgs false

theorem Own.new_apart {e e' : TypeId} {H0 H H' : AH} {r v : Value} {xs : List Int} {ps : List (Int × Int)} (ho : Own e H H' r xs) (hm : MineP e' H0 H v ps) : Apart r v := by
  rcases hm.row.nil with g | g
  · exact .inl g.1
  · rcases ho with h | ⟨o, h1, h2, h3⟩
    · exact .inr (.inl h.1)
    · subst h1
      refine .inr (.inr ?_)
      show o ≠ rowO v
      omega

set_option maxRecDepth 20000 in
set_option maxHeartbeats 2000000 in
theorem SortS_c (v : Value) (p : List Int) (H : AH) (hr : Row 3 H v p) (hlen : p.length ≤ 1099511627776) (hxs : ∀ y ∈ p, I64 y) :
    ACalls Try.prog 38 [v] H fun r H' => ∃ g, r = .tuple (List.toArray [g, .bool (decide (Prm p))]) ∧ MineP 70 H H' g (sortR p) ∧ H <+: H' := by
  refine in38 rfl ?_
  intro Q hQ
  have hp0 := List.prefix_append H [AObj.cells [] 70 false]
  have hm0 : MineP 70 H (H ++ [AObj.cells [] 70 false]) (.slice (some ⟨H.length, 0, none⟩) 0 0) [] := MineP.new _ H H [] (Nat.le_refl _)
  simp (maxSteps := 1000000) (disch := omega) only [cd38, S, S1, S2, S3, S4, ST, eq_self, ne_eq, not_true_eq_false, not_false_eq_true, and_self, true_and, and_true, reduceIte, reduceCtorEq, Nat.reduceEqDiff, Nat.reduceAdd, Nat.zero_add, Nat.add_zero, Option.map_none, Option.map_some, List.map_cons, List.map_nil, List.append_nil, List.cons_append, List.nil_append, List.getElem?_cons_zero, List.getElem?_cons_succ, List.getD_cons_zero, List.getD_cons_succ, List.getD_nil, Bool.not_true, Bool.not_false, decide_true, decide_false]
  refine CallH.by (l9Perm_c v p _ (hr.pre hp0) hlen) ?_
  rintro _ _ ⟨rfl, rfl⟩
  simp (maxSteps := 1000000) (disch := omega) only [S, S1, S2, S3, S4, ST, eq_self, ne_eq, not_true_eq_false, not_false_eq_true, and_self, true_and, and_true, reduceIte, reduceCtorEq, Nat.reduceEqDiff, Nat.reduceAdd, Nat.zero_add, Nat.add_zero, Option.map_none, Option.map_some, List.map_cons, List.map_nil, List.append_nil, List.cons_append, List.nil_append, List.getElem?_cons_zero, List.getElem?_cons_succ, List.getD_cons_zero, List.getD_cons_succ, List.getD_nil, Bool.not_true, Bool.not_false, decide_true, decide_false]
  refine brD.intro (fun hp => ?_) (fun hp => ?_) <;> simp (maxSteps := 1000000) (disch := omega) only [hp, S, S1, S2, S3, S4, ST, eq_self, ne_eq, not_true_eq_false, not_false_eq_true, and_self, true_and, and_true, reduceIte, reduceCtorEq, Nat.reduceEqDiff, Nat.reduceAdd, Nat.zero_add, Nat.add_zero, Option.map_none, Option.map_some, List.map_cons, List.map_nil, List.append_nil, List.cons_append, List.nil_append, List.getElem?_cons_zero, List.getElem?_cons_succ, List.getD_cons_zero, List.getD_cons_succ, List.getD_nil, Bool.not_true, Bool.not_false, decide_true, decide_false]
  · have h8 := hp.1
    refine LoopH.by (fun m s H' => ∃ x, m + x = p.length ∧ s 5 = .int .i64 ((x : Nat) : Int) ∧ MineP 70 H H' (s 4) (srtSt p x).1 ∧ H <+: H' ∧ Row 3 H' (s 0) (srtSt p x).2 ∧ Apart (s 0) (s 4)) p.length ?_ ?_
    · refine ⟨0, by simp, rfl, ?_, hp0, ?_, ?_⟩
      · simp (maxSteps := 1000000) (disch := omega) only [S, S1, S2, S3, S4, ST, eq_self, ne_eq, not_true_eq_false, not_false_eq_true, and_self, true_and, and_true, reduceIte, reduceCtorEq, Nat.reduceEqDiff, Nat.reduceAdd, Nat.zero_add, Nat.add_zero, Option.map_none, Option.map_some, List.map_cons, List.map_nil, List.append_nil, List.cons_append, List.nil_append, List.getElem?_cons_zero, List.getElem?_cons_succ, List.getD_cons_zero, List.getD_cons_succ, List.getD_nil, Bool.not_true, Bool.not_false, decide_true, decide_false]; exact hm0
      · exact hr.pre hp0
      · exact hr.apartP hm0
    · rintro m s H' ⟨x, hm, h5, hmi, hpp, hrow, hap⟩
      have ok := srt_ok hp x (by omega)
      have hfew := ok.few
      have hql := ok.len
      have hqp := ok.prm
      generalize hw : s 4 = w at *
      generalize hu : s 0 = u at *
      simp (maxSteps := 1000000) (disch := omega) only [h5, hw, hu, hrow.len Try.underlying22, S, S1, S2, S3, S4, ST, eq_self, ne_eq, not_true_eq_false, not_false_eq_true, and_self, true_and, and_true, reduceIte, reduceCtorEq, Nat.reduceEqDiff, Nat.reduceAdd, Nat.zero_add, Nat.add_zero, Option.map_none, Option.map_some, List.map_cons, List.map_nil, List.append_nil, List.cons_append, List.nil_append, List.getElem?_cons_zero, List.getElem?_cons_succ, List.getD_cons_zero, List.getD_cons_succ, List.getD_nil, Bool.not_true, Bool.not_false, decide_true, decide_false]
      refine brD.intro (fun g => ?_) (fun g => ?_)
      · have hx : x < p.length := by omega
        obtain ⟨i, i1, i2, i3, i4, i5⟩ := srt_step hp hx
        simp (maxSteps := 1000000) (disch := omega) only [h5, hw, hu, S, S1, S2, S3, S4, ST, eq_self, ne_eq, not_true_eq_false, not_false_eq_true, and_self, true_and, and_true, reduceIte, reduceCtorEq, Nat.reduceEqDiff, Nat.reduceAdd, Nat.zero_add, Nat.add_zero, Option.map_none, Option.map_some, List.map_cons, List.map_nil, List.append_nil, List.cons_append, List.nil_append, List.getElem?_cons_zero, List.getElem?_cons_succ, List.getD_cons_zero, List.getD_cons_succ, List.getD_nil, Bool.not_true, Bool.not_false, decide_true, decide_false]
        refine CallH.by (l9At_c u _ (x : Nat) H' hrow (by omega) (hqp.2 x (by omega))) ?_
        rintro _ _ ⟨rfl, rfl⟩
        simp (maxSteps := 1000000) (disch := omega) only [h5, hw, hu, i3, S, S1, S2, S3, S4, ST, eq_self, ne_eq, not_true_eq_false, not_false_eq_true, and_self, true_and, and_true, reduceIte, reduceCtorEq, Nat.reduceEqDiff, Nat.reduceAdd, Nat.zero_add, Nat.add_zero, Option.map_none, Option.map_some, List.map_cons, List.map_nil, List.append_nil, List.cons_append, List.nil_append, List.getElem?_cons_zero, List.getElem?_cons_succ, List.getD_cons_zero, List.getD_cons_succ, List.getD_nil, Bool.not_true, Bool.not_false, decide_true, decide_false]
        refine brD.intro (fun hc => ?_) (fun hc => ?_)
        · have hne : i ≠ x := by omega
          rw [if_neg hne] at i5
          obtain ⟨v', H2, k1, k2, k3, k4, k5, k6⟩ := own1_42 hmi hpp (by omega) ((x : Nat) : Int) ((i : Nat) : Int)
          have hrow2 := hrow.kept hap k4
          simp (maxSteps := 1000000) (disch := omega) only [h5, hw, hu, build_a2, k1, S, S1, S2, S3, S4, ST, eq_self, ne_eq, not_true_eq_false, not_false_eq_true, and_self, true_and, and_true, reduceIte, reduceCtorEq, Nat.reduceEqDiff, Nat.reduceAdd, Nat.zero_add, Nat.add_zero, Option.map_none, Option.map_some, List.map_cons, List.map_nil, List.append_nil, List.cons_append, List.nil_append, List.getElem?_cons_zero, List.getElem?_cons_succ, List.getD_cons_zero, List.getD_cons_succ, List.getD_nil, Bool.not_true, Bool.not_false, decide_true, decide_false]
          refine CallH.by (l9Swap_c u _ x i H2 hrow2 (by omega) (by omega) (by omega)) ?_
          rintro r H3 ⟨ho3, hp3⟩
          have kap := ho3.new_apart k2
          have kmi := k2.pre hp3
          have kpp := k3.trans hp3
          have krow := ho3.row
          simp (maxSteps := 1000000) (disch := omega) only [h5, hw, hu, wrap64, S, S1, S2, S3, S4, ST, eq_self, ne_eq, not_true_eq_false, not_false_eq_true, and_self, true_and, and_true, reduceIte, reduceCtorEq, Nat.reduceEqDiff, Nat.reduceAdd, Nat.zero_add, Nat.add_zero, Option.map_none, Option.map_some, List.map_cons, List.map_nil, List.append_nil, List.cons_append, List.nil_append, List.getElem?_cons_zero, List.getElem?_cons_succ, List.getD_cons_zero, List.getD_cons_succ, List.getD_nil, Bool.not_true, Bool.not_false, decide_true, decide_false]
          refine ⟨m - 1, by omega, x + 1, ?_⟩
          rw [i5]
          (repeat' first | exact kap | exact kmi | exact kpp | exact krow | apply And.intro) <;> first | (simp only [Value.int.injEq, true_and]; omega) | omega | rfl | assumption | (simp; done) | (simp; omega)
        · have hne : i = x := by omega
          rw [if_pos hne] at i5
          simp (maxSteps := 1000000) (disch := omega) only [h5, hw, hu, wrap64, S, S1, S2, S3, S4, ST, eq_self, ne_eq, not_true_eq_false, not_false_eq_true, and_self, true_and, and_true, reduceIte, reduceCtorEq, Nat.reduceEqDiff, Nat.reduceAdd, Nat.zero_add, Nat.add_zero, Option.map_none, Option.map_some, List.map_cons, List.map_nil, List.append_nil, List.cons_append, List.nil_append, List.getElem?_cons_zero, List.getElem?_cons_succ, List.getD_cons_zero, List.getD_cons_succ, List.getD_nil, Bool.not_true, Bool.not_false, decide_true, decide_false]
          refine ⟨m - 1, by omega, x + 1, ?_⟩
          rw [i5]
          (repeat' first | exact hmi | exact hpp | exact hrow | exact hap | apply And.intro) <;> first | (simp only [Value.int.injEq, true_and]; omega) | omega | rfl | assumption | (simp; done) | (simp; omega)
      · simp (maxSteps := 1000000) (disch := omega) only [hw, S, S1, S2, S3, S4, ST, eq_self, ne_eq, not_true_eq_false, not_false_eq_true, and_self, true_and, and_true, reduceIte, reduceCtorEq, Nat.reduceEqDiff, Nat.reduceAdd, Nat.zero_add, Nat.add_zero, Option.map_none, Option.map_some, List.map_cons, List.map_nil, List.append_nil, List.cons_append, List.nil_append, List.getElem?_cons_zero, List.getElem?_cons_succ, List.getD_cons_zero, List.getD_cons_succ, List.getD_nil, Bool.not_true, Bool.not_false, decide_true, decide_false]
        refine hQ _ _ _ ?_
        simp (maxSteps := 1000000) (disch := omega) only [hw, hmi.row.tup, S, S1, S2, S3, S4, ST, eq_self, ne_eq, not_true_eq_false, not_false_eq_true, and_self, true_and, and_true, reduceIte, reduceCtorEq, Nat.reduceEqDiff, Nat.reduceAdd, Nat.zero_add, Nat.add_zero, Option.map_none, Option.map_some, List.map_cons, List.map_nil, List.append_nil, List.cons_append, List.nil_append, List.getElem?_cons_zero, List.getElem?_cons_succ, List.getD_cons_zero, List.getD_cons_succ, List.getD_nil, Bool.not_true, Bool.not_false, decide_true, decide_false]
        have hx : x = p.length := by omega
        subst hx
        exact ⟨w, by simp [hp], by simpa [sortR, hp] using hmi, hpp⟩
  · refine hQ _ _ _ ?_
    simp (maxSteps := 1000000) (disch := omega) only [S, S1, S2, S3, S4, ST, eq_self, ne_eq, not_true_eq_false, not_false_eq_true, and_self, true_and, and_true, reduceIte, reduceCtorEq, Nat.reduceEqDiff, Nat.reduceAdd, Nat.zero_add, Nat.add_zero, Option.map_none, Option.map_some, List.map_cons, List.map_nil, List.append_nil, List.cons_append, List.nil_append, List.getElem?_cons_zero, List.getElem?_cons_succ, List.getD_cons_zero, List.getD_cons_succ, List.getD_nil, Bool.not_true, Bool.not_false, decide_true, decide_false]
    exact ⟨.slice (some ⟨H.length, 0, none⟩) 0 0, by simp [hp], by simpa [sortR, hp] using hm0, hp0⟩

set_option maxRecDepth 20000 in
set_option maxHeartbeats 2000000 in
theorem SortI_c (v : Value) (p : List Int) (H : AH) (hr : Row 3 H v p) (hlen : p.length ≤ 1099511627776) (hxs : ∀ y ∈ p, I64 y) :
    ACalls Try.prog 39 [v] H fun r H' => ∃ g, r = .tuple (List.toArray [g, .bool (decide (Prm p))]) ∧ MineP 70 H H' g (sortR p) ∧ H <+: H' := by
  refine in39 rfl ?_
  intro Q hQ
  simp (maxSteps := 1000000) (disch := omega) only [cd39, S, S1, S2, S3, S4, ST, eq_self, ne_eq, not_true_eq_false, not_false_eq_true, and_self, true_and, and_true, reduceIte, reduceCtorEq, Nat.reduceEqDiff, Nat.reduceAdd, Nat.zero_add, Nat.add_zero, Option.map_none, Option.map_some, List.map_cons, List.map_nil, List.append_nil, List.cons_append, List.nil_append, List.getElem?_cons_zero, List.getElem?_cons_succ, List.getD_cons_zero, List.getD_cons_succ, List.getD_nil, Bool.not_true, Bool.not_false, decide_true, decide_false]
  refine CallH.by (PermI_c v p H hr hlen hxs) ?_
  rintro _ H0 ⟨rfl, hq0⟩
  have hr0 := hr.pre hq0
  simp (maxSteps := 1000000) (disch := omega) only [S, S1, S2, S3, S4, ST, eq_self, ne_eq, not_true_eq_false, not_false_eq_true, and_self, true_and, and_true, reduceIte, reduceCtorEq, Nat.reduceEqDiff, Nat.reduceAdd, Nat.zero_add, Nat.add_zero, Option.map_none, Option.map_some, List.map_cons, List.map_nil, List.append_nil, List.cons_append, List.nil_append, List.getElem?_cons_zero, List.getElem?_cons_succ, List.getD_cons_zero, List.getD_cons_succ, List.getD_nil, Bool.not_true, Bool.not_false, decide_true, decide_false]
  refine brD.intro (fun hp => ?_) (fun hp => ?_) <;> simp (maxSteps := 1000000) (disch := omega) only [hp, hr0.len Try.underlying22, S, S1, S2, S3, S4, ST, eq_self, ne_eq, not_true_eq_false, not_false_eq_true, and_self, true_and, and_true, reduceIte, reduceCtorEq, Nat.reduceEqDiff, Nat.reduceAdd, Nat.zero_add, Nat.add_zero, Option.map_none, Option.map_some, List.map_cons, List.map_nil, List.append_nil, List.cons_append, List.nil_append, List.getElem?_cons_zero, List.getElem?_cons_succ, List.getD_cons_zero, List.getD_cons_succ, List.getD_nil, Bool.not_true, Bool.not_false, decide_true, decide_false]
  · have h8 := hp.1
    have hp0 := pre_app hq0 [AObj.cells [] 70 false]
    have hm0 : MineP 70 H (H0 ++ [AObj.cells [] 70 false]) (.slice (some ⟨H0.length, 0, none⟩) 0 0) [] := MineP.new _ H H0 [] hq0.length_le
    refine LoopH.by (fun m s H' => ∃ x, m + x = p.length ∧ s 14 = .int .i64 (p.length : Int) ∧ s 15 = .int .i64 ((x : Nat) : Int) ∧ MineP 70 H H' (s 4) (srtSt p x).1 ∧ H <+: H' ∧ Row 3 H' (s 5) (srtSt p x).2 ∧ Apart (s 5) (s 4)) p.length ?_ ?_
    · refine ⟨0, by simp, rfl, rfl, ?_, hp0, ?_, ?_⟩
      · simp (maxSteps := 1000000) (disch := omega) only [S, S1, S2, S3, S4, ST, eq_self, ne_eq, not_true_eq_false, not_false_eq_true, and_self, true_and, and_true, reduceIte, reduceCtorEq, Nat.reduceEqDiff, Nat.reduceAdd, Nat.zero_add, Nat.add_zero, Option.map_none, Option.map_some, List.map_cons, List.map_nil, List.append_nil, List.cons_append, List.nil_append, List.getElem?_cons_zero, List.getElem?_cons_succ, List.getD_cons_zero, List.getD_cons_succ, List.getD_nil, Bool.not_true, Bool.not_false, decide_true, decide_false]; exact hm0
      · simp (maxSteps := 1000000) (disch := omega) only [S, S1, S2, S3, S4, ST, eq_self, ne_eq, not_true_eq_false, not_false_eq_true, and_self, true_and, and_true, reduceIte, reduceCtorEq, Nat.reduceEqDiff, Nat.reduceAdd, Nat.zero_add, Nat.add_zero, Option.map_none, Option.map_some, List.map_cons, List.map_nil, List.append_nil, List.cons_append, List.nil_append, List.getElem?_cons_zero, List.getElem?_cons_succ, List.getD_cons_zero, List.getD_cons_succ, List.getD_nil, Bool.not_true, Bool.not_false, decide_true, decide_false]; exact hr.pre hp0
      · simp (maxSteps := 1000000) (disch := omega) only [S, S1, S2, S3, S4, ST, eq_self, ne_eq, not_true_eq_false, not_false_eq_true, and_self, true_and, and_true, reduceIte, reduceCtorEq, Nat.reduceEqDiff, Nat.reduceAdd, Nat.zero_add, Nat.add_zero, Option.map_none, Option.map_some, List.map_cons, List.map_nil, List.append_nil, List.cons_append, List.nil_append, List.getElem?_cons_zero, List.getElem?_cons_succ, List.getD_cons_zero, List.getD_cons_succ, List.getD_nil, Bool.not_true, Bool.not_false, decide_true, decide_false]; exact hr.apartP hm0
    · rintro m s H' ⟨x, hm, h14, h15, hmi, hpp, hrow, hap⟩
      have ok := srt_ok hp x (by omega)
      have hfew := ok.few
      have hql := ok.len
      have hqp := ok.prm
      generalize hw : s 4 = w at *
      generalize hu : s 5 = u at *
      simp (maxSteps := 1000000) (disch := omega) only [h14, h15, hw, hu, S, S1, S2, S3, S4, ST, eq_self, ne_eq, not_true_eq_false, not_false_eq_true, and_self, true_and, and_true, reduceIte, reduceCtorEq, Nat.reduceEqDiff, Nat.reduceAdd, Nat.zero_add, Nat.add_zero, Option.map_none, Option.map_some, List.map_cons, List.map_nil, List.append_nil, List.cons_append, List.nil_append, List.getElem?_cons_zero, List.getElem?_cons_succ, List.getD_cons_zero, List.getD_cons_succ, List.getD_nil, Bool.not_true, Bool.not_false, decide_true, decide_false]
      refine brD.intro (fun g => ?_) (fun g => ?_)
      · have hx : x < p.length := by omega
        obtain ⟨i, i1, i2, i3, i4, i5⟩ := srt_step hp hx
        simp (maxSteps := 1000000) (disch := omega) only [h14, h15, hw, hu, hrow.ix Try.underlying22 cs3, hrow.cell, Int.toNat_natCast, S, S1, S2, S3, S4, ST, eq_self, ne_eq, not_true_eq_false, not_false_eq_true, and_self, true_and, and_true, reduceIte, reduceCtorEq, Nat.reduceEqDiff, Nat.reduceAdd, Nat.zero_add, Nat.add_zero, Option.map_none, Option.map_some, List.map_cons, List.map_nil, List.append_nil, List.cons_append, List.nil_append, List.getElem?_cons_zero, List.getElem?_cons_succ, List.getD_cons_zero, List.getD_cons_succ, List.getD_nil, Bool.not_true, Bool.not_false, decide_true, decide_false]
        refine brD.intro (fun hc => ?_) (fun hc => ?_)
        · have hne : i ≠ x := fun e => hc (i4.2 e)
          rw [if_neg hne] at i5
          simp (maxSteps := 1000000) (disch := omega) only [h14, h15, hw, hu, S, S1, S2, S3, S4, ST, eq_self, ne_eq, not_true_eq_false, not_false_eq_true, and_self, true_and, and_true, reduceIte, reduceCtorEq, Nat.reduceEqDiff, Nat.reduceAdd, Nat.zero_add, Nat.add_zero, Option.map_none, Option.map_some, List.map_cons, List.map_nil, List.append_nil, List.cons_append, List.nil_append, List.getElem?_cons_zero, List.getElem?_cons_succ, List.getD_cons_zero, List.getD_cons_succ, List.getD_nil, Bool.not_true, Bool.not_false, decide_true, decide_false]
          refine CallH.by (Index_c u _ (x : Nat) H' hrow (by omega)) ?_
          rintro _ _ ⟨rfl, rfl⟩
          have i3' : idxP (fun y => decide (((x : Nat) : Int) = y)) (srtSt p x).2 0 = (i : Int) := i3
          simp (maxSteps := 1000000) (disch := omega) only [h14, h15, hw, hu, i3', S, S1, S2, S3, S4, ST, eq_self, ne_eq, not_true_eq_false, not_false_eq_true, and_self, true_and, and_true, reduceIte, reduceCtorEq, Nat.reduceEqDiff, Nat.reduceAdd, Nat.zero_add, Nat.add_zero, Option.map_none, Option.map_some, List.map_cons, List.map_nil, List.append_nil, List.cons_append, List.nil_append, List.getElem?_cons_zero, List.getElem?_cons_succ, List.getD_cons_zero, List.getD_cons_succ, List.getD_nil, Bool.not_true, Bool.not_false, decide_true, decide_false]
          refine CallH.by (pair_c ((x : Nat) : Int) ((i : Nat) : Int) H') ?_
          rintro _ H1 ⟨rfl, hp1⟩
          have mn : minI ((x : Nat) : Int) ((i : Nat) : Int) = ((x : Nat) : Int) := by unfold minI; split <;> omega
          have mx : maxI ((x : Nat) : Int) ((i : Nat) : Int) = ((i : Nat) : Int) := by unfold maxI; split <;> omega
          rw [mn, mx]
          have st := store_a2 H1 [.int .i64 0, .int .i64 0] rfl (.int .i64 ((x : Nat) : Int)) (.int .i64 ((i : Nat) : Int))
          have ld := load_a2 H1 (.int .i64 ((x : Nat) : Int)) (.int .i64 ((i : Nat) : Int))
          have pA := hp1.trans (List.prefix_append H1 [AObj.cells [.int .i64 ((x : Nat) : Int), .int .i64 ((i : Nat) : Int)] 70 false])
          have aA := at_new H1 (AObj.cells [.int .i64 ((x : Nat) : Int), .int .i64 ((i : Nat) : Int)] 70 false)
          have hl1 := hp1.length_le
          simp (maxSteps := 1000000) (disch := omega) only [h14, h15, hw, hu, alloc_a2, st, ld, S, S1, S2, S3, S4, ST, eq_self, ne_eq, not_true_eq_false, not_false_eq_true, and_self, true_and, and_true, reduceIte, reduceCtorEq, Nat.reduceEqDiff, Nat.reduceAdd, Nat.zero_add, Nat.add_zero, Option.map_none, Option.map_some, List.map_cons, List.map_nil, List.append_nil, List.cons_append, List.nil_append, List.getElem?_cons_zero, List.getElem?_cons_succ, List.getD_cons_zero, List.getD_cons_succ, List.getD_nil, Bool.not_true, Bool.not_false, decide_true, decide_false]
          generalize H1 ++ [AObj.cells [.int .i64 ((x : Nat) : Int), .int .i64 ((i : Nat) : Int)] 70 false] = A at *
          have hmA := hmi.pre pA
          have hrA := hrow.pre pA
          obtain ⟨v', H2, k1, k2, k3, k4, k5, k6⟩ := own1_42 hmA (hpp.trans pA) (by omega) ((x : Nat) : Int) ((i : Nat) : Int)
          have hrow2 := hrA.kept hap k4
          have a2 : H2[H1.length]? = some (AObj.cells [.int .i64 ((x : Nat) : Int), .int .i64 ((i : Nat) : Int)] 70 false) := by
            refine k4 _ _ ?_ aA
            rcases hmi.row.nil with q | q
            · exact .inl q.1
            · exact .inr (by omega)
          have ld2 := ld_a2 a2
          have ld1 := ld_a2 (at_app aA [AObj.cells [.int .i64 ((x : Nat) : Int), .int .i64 ((i : Nat) : Int)] 70 false])
          simp (maxSteps := 1000000) (disch := omega) only [h14, h15, hw, hu, k1, ld1, ld2, S, S1, S2, S3, S4, ST, eq_self, ne_eq, not_true_eq_false, not_false_eq_true, and_self, true_and, and_true, reduceIte, reduceCtorEq, Nat.reduceEqDiff, Nat.reduceAdd, Nat.zero_add, Nat.add_zero, Option.map_none, Option.map_some, List.map_cons, List.map_nil, List.append_nil, List.cons_append, List.nil_append, List.getElem?_cons_zero, List.getElem?_cons_succ, List.getD_cons_zero, List.getD_cons_succ, List.getD_nil, Bool.not_true, Bool.not_false, decide_true, decide_false]
          refine CallH.by (swapped_c u _ x i H2 hrow2 (by omega) (by omega) (by omega)) ?_
          rintro r H3 ⟨ho3, hp3⟩
          have kap := ho3.new_apart k2
          have kmi := k2.pre hp3
          have kpp := k3.trans hp3
          have krow := ho3.row
          simp (maxSteps := 1000000) (disch := omega) only [h14, h15, hw, hu, wrap64, S, S1, S2, S3, S4, ST, eq_self, ne_eq, not_true_eq_false, not_false_eq_true, and_self, true_and, and_true, reduceIte, reduceCtorEq, Nat.reduceEqDiff, Nat.reduceAdd, Nat.zero_add, Nat.add_zero, Option.map_none, Option.map_some, List.map_cons, List.map_nil, List.append_nil, List.cons_append, List.nil_append, List.getElem?_cons_zero, List.getElem?_cons_succ, List.getD_cons_zero, List.getD_cons_succ, List.getD_nil, Bool.not_true, Bool.not_false, decide_true, decide_false]
          refine ⟨m - 1, by omega, x + 1, ?_⟩
          rw [i5]
          (repeat' first | exact kap | exact kmi | exact kpp | exact krow | apply And.intro) <;> first | (simp only [Value.int.injEq, true_and]; omega) | omega | rfl | assumption | (simp; done) | (simp; omega)
        · have hne : i = x := i4.1 (Decidable.not_not.1 hc)
          rw [if_pos hne] at i5
          simp (maxSteps := 1000000) (disch := omega) only [h14, h15, hw, hu, wrap64, S, S1, S2, S3, S4, ST, eq_self, ne_eq, not_true_eq_false, not_false_eq_true, and_self, true_and, and_true, reduceIte, reduceCtorEq, Nat.reduceEqDiff, Nat.reduceAdd, Nat.zero_add, Nat.add_zero, Option.map_none, Option.map_some, List.map_cons, List.map_nil, List.append_nil, List.cons_append, List.nil_append, List.getElem?_cons_zero, List.getElem?_cons_succ, List.getD_cons_zero, List.getD_cons_succ, List.getD_nil, Bool.not_true, Bool.not_false, decide_true, decide_false]
          refine ⟨m - 1, by omega, x + 1, ?_⟩
          rw [i5]
          (repeat' first | exact hmi | exact hpp | exact hrow | exact hap | apply And.intro) <;> first | (simp only [Value.int.injEq, true_and]; omega) | omega | rfl | assumption | (simp; done) | (simp; omega)
      · simp (maxSteps := 1000000) (disch := omega) only [hw, S, S1, S2, S3, S4, ST, eq_self, ne_eq, not_true_eq_false, not_false_eq_true, and_self, true_and, and_true, reduceIte, reduceCtorEq, Nat.reduceEqDiff, Nat.reduceAdd, Nat.zero_add, Nat.add_zero, Option.map_none, Option.map_some, List.map_cons, List.map_nil, List.append_nil, List.cons_append, List.nil_append, List.getElem?_cons_zero, List.getElem?_cons_succ, List.getD_cons_zero, List.getD_cons_succ, List.getD_nil, Bool.not_true, Bool.not_false, decide_true, decide_false]
        refine hQ _ _ _ ?_
        simp (maxSteps := 1000000) (disch := omega) only [hw, hmi.row.tup, S, S1, S2, S3, S4, ST, eq_self, ne_eq, not_true_eq_false, not_false_eq_true, and_self, true_and, and_true, reduceIte, reduceCtorEq, Nat.reduceEqDiff, Nat.reduceAdd, Nat.zero_add, Nat.add_zero, Option.map_none, Option.map_some, List.map_cons, List.map_nil, List.append_nil, List.cons_append, List.nil_append, List.getElem?_cons_zero, List.getElem?_cons_succ, List.getD_cons_zero, List.getD_cons_succ, List.getD_nil, Bool.not_true, Bool.not_false, decide_true, decide_false]
        have hx : x = p.length := by omega
        subst hx
        exact ⟨w, by simp [hp], by simpa [sortR, hp] using hmi, hpp⟩
  · refine hQ _ _ _ ?_
    simp (maxSteps := 1000000) (disch := omega) only [S, S1, S2, S3, S4, ST, eq_self, ne_eq, not_true_eq_false, not_false_eq_true, and_self, true_and, and_true, reduceIte, reduceCtorEq, Nat.reduceEqDiff, Nat.reduceAdd, Nat.zero_add, Nat.add_zero, Option.map_none, Option.map_some, List.map_cons, List.map_nil, List.append_nil, List.cons_append, List.nil_append, List.getElem?_cons_zero, List.getElem?_cons_succ, List.getD_cons_zero, List.getD_cons_succ, List.getD_nil, Bool.not_true, Bool.not_false, decide_true, decide_false]
    exact ⟨.slice none 0 0, by simp [hp], .inl ⟨rfl, by simp [sortR, hp]⟩, hq0⟩
end Go.Proofs.Ytnoihoeaconllaa.Ai
