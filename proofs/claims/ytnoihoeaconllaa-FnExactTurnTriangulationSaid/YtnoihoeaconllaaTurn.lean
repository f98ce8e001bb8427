/- TurnTriangulation, both sides. -/
import Derived.Test.YtnoihoeaconllaaTurnP
import Derived.Test.YtnoihoeaconllaaPut
import Derived.Test.YtnoihoeaconllaaSort
import Derived.Test.YtnoihoeaconllaaBound
import Derived.Test.YtnoihoeaconllaaCdTurn
namespace Go.Proofs.Ytnoihoeaconllaa.Ai
open Go Go.RowKit
set_option linter.unusedVariables false
set_option linter.unusedSimpArgs false

theorem l1Most_c (a b : Int) (H : AH) : ACalls Try.prog 67 [.int .i64 a, .int .i64 b] H fun r H' => r = .int .i64 (if b < a then a else b) ∧ H = H' := by
  refine in67 rfl ?_
  intro Q hQ
  simp (maxSteps := 1000000) (disch := omega) only [cd67, S, S1, S2, S3, S4, ST, eq_self, ne_eq, not_true_eq_false, not_false_eq_true, and_self, true_and, and_true, reduceIte, reduceCtorEq, Nat.reduceEqDiff, Nat.reduceAdd, Nat.zero_add, Nat.add_zero, Option.map_none, Option.map_some, List.map_cons, List.map_nil, List.append_nil, List.cons_append, List.nil_append, List.getElem?_cons_zero, List.getElem?_cons_succ, List.getD_cons_zero, List.getD_cons_succ, List.getD_nil, Bool.not_true, Bool.not_false, decide_true, decide_false]
  refine brD.intro (fun h => ?_) (fun h => ?_) <;> simp (maxSteps := 1000000) (disch := omega) only [h, S, S1, S2, S3, S4, ST, eq_self, ne_eq, not_true_eq_false, not_false_eq_true, and_self, true_and, and_true, reduceIte, reduceCtorEq, Nat.reduceEqDiff, Nat.reduceAdd, Nat.zero_add, Nat.add_zero, Option.map_none, Option.map_some, List.map_cons, List.map_nil, List.append_nil, List.cons_append, List.nil_append, List.getElem?_cons_zero, List.getElem?_cons_succ, List.getD_cons_zero, List.getD_cons_succ, List.getD_nil, Bool.not_true, Bool.not_false, decide_true, decide_false] <;> refine hQ _ _ _ ?_ <;> simp (maxSteps := 1000000) (disch := omega) only [h, S, S1, S2, S3, S4, ST, eq_self, ne_eq, not_true_eq_false, not_false_eq_true, and_self, true_and, and_true, reduceIte, reduceCtorEq, Nat.reduceEqDiff, Nat.reduceAdd, Nat.zero_add, Nat.add_zero, Option.map_none, Option.map_some, List.map_cons, List.map_nil, List.append_nil, List.cons_append, List.nil_append, List.getElem?_cons_zero, List.getElem?_cons_succ, List.getD_cons_zero, List.getD_cons_succ, List.getD_nil, Bool.not_true, Bool.not_false, decide_true, decide_false]

theorem map_take_succ (f : Int → Int) (xs : List Int) (i : Nat) (hi : i < xs.length) : (xs.take (i + 1)).map f = (xs.take i).map f ++ [f (xs.getD i 0)] := by
  rw [List.take_add_one, List.getElem?_eq_getElem hi, List.map_append]
  simp [hi]

set_option maxHeartbeats 4000000 in
theorem TurnS_c (n b : Int) (mir : Bool) (v : Value) (xs : List Int) (H : AH) (hr : Row 3 H v xs) (hlen : xs.length ≤ 1099511627776) (hxs : ∀ y ∈ xs, I64 y) :
    ACalls Try.prog 36 [.int .i64 n, v, .int .i64 b, .bool mir] H fun r H' => ∃ g, r = .tuple (List.toArray [g, .bool (decide (turnOk n xs b))]) ∧ Mine 3 H H' g (turnR n xs b mir) ∧ H <+: H' := by
  refine in36 rfl ?_
  intro Q hQ
  have hp0 := List.prefix_append H [AObj.cells [] 3 false]
  have hown0 : Own 3 H (H ++ [AObj.cells [] 3 false]) (.slice (some ⟨H.length, 0, none⟩) 0 0) [] := .inr ⟨H.length, rfl, Nat.le_refl _, at_new ..⟩
  have no : ¬ turnOk n xs b → turnR n xs b mir = [] := fun h => if_neg h
  simp (maxSteps := 1000000) (disch := omega) only [cd36, S, S1, S2, S3, S4, ST, eq_self, ne_eq, not_true_eq_false, not_false_eq_true, and_self, true_and, and_true, reduceIte, reduceCtorEq, Nat.reduceEqDiff, Nat.reduceAdd, Nat.zero_add, Nat.add_zero, Option.map_none, Option.map_some, List.map_cons, List.map_nil, List.append_nil, List.cons_append, List.nil_append, List.getElem?_cons_zero, List.getElem?_cons_succ, List.getD_cons_zero, List.getD_cons_succ, List.getD_nil, Bool.not_true, Bool.not_false, decide_true, decide_false]
  refine CallH.by (valid_c n v xs _ (hr.pre hp0) hlen hxs) ?_
  rintro _ H1 ⟨rfl, hp1⟩
  have hp := hp0.trans hp1
  simp (maxSteps := 1000000) (disch := omega) only [S, S1, S2, S3, S4, ST, eq_self, ne_eq, not_true_eq_false, not_false_eq_true, and_self, true_and, and_true, reduceIte, reduceCtorEq, Nat.reduceEqDiff, Nat.reduceAdd, Nat.zero_add, Nat.add_zero, Option.map_none, Option.map_some, List.map_cons, List.map_nil, List.append_nil, List.cons_append, List.nil_append, List.getElem?_cons_zero, List.getElem?_cons_succ, List.getD_cons_zero, List.getD_cons_succ, List.getD_nil, Bool.not_true, Bool.not_false, decide_true, decide_false]
  refine brD.intro (fun ha => ?_) (fun ha => ?_) <;> simp (maxSteps := 1000000) (disch := omega) only [ha, S, S1, S2, S3, S4, ST, eq_self, ne_eq, not_true_eq_false, not_false_eq_true, and_self, true_and, and_true, reduceIte, reduceCtorEq, Nat.reduceEqDiff, Nat.reduceAdd, Nat.zero_add, Nat.add_zero, Option.map_none, Option.map_some, List.map_cons, List.map_nil, List.append_nil, List.cons_append, List.nil_append, List.getElem?_cons_zero, List.getElem?_cons_succ, List.getD_cons_zero, List.getD_cons_succ, List.getD_nil, Bool.not_true, Bool.not_false, decide_true, decide_false]
  · have hn := ha.1
    have hln := ha.len
    simp (maxSteps := 1000000) (disch := omega) only [wrap64, S, S1, S2, S3, S4, ST, eq_self, ne_eq, not_true_eq_false, not_false_eq_true, and_self, true_and, and_true, reduceIte, reduceCtorEq, Nat.reduceEqDiff, Nat.reduceAdd, Nat.zero_add, Nat.add_zero, Option.map_none, Option.map_some, List.map_cons, List.map_nil, List.append_nil, List.cons_append, List.nil_append, List.getElem?_cons_zero, List.getElem?_cons_succ, List.getD_cons_zero, List.getD_cons_succ, List.getD_nil, Bool.not_true, Bool.not_false, decide_true, decide_false]
    refine CallH.by (l1In_c ..) ?_
    rintro _ _ ⟨rfl, rfl⟩
    simp (maxSteps := 1000000) (disch := omega) only [ha, S, S1, S2, S3, S4, ST, eq_self, ne_eq, not_true_eq_false, not_false_eq_true, and_self, true_and, and_true, reduceIte, reduceCtorEq, Nat.reduceEqDiff, Nat.reduceAdd, Nat.zero_add, Nat.add_zero, Option.map_none, Option.map_some, List.map_cons, List.map_nil, List.append_nil, List.cons_append, List.nil_append, List.getElem?_cons_zero, List.getElem?_cons_succ, List.getD_cons_zero, List.getD_cons_succ, List.getD_nil, Bool.not_true, Bool.not_false, decide_true, decide_false]
    refine brD.intro (fun hb => ?_) (fun hb => ?_) <;> simp (maxSteps := 1000000) (disch := omega) only [ha, hb, S, S1, S2, S3, S4, ST, eq_self, ne_eq, not_true_eq_false, not_false_eq_true, and_self, true_and, and_true, reduceIte, reduceCtorEq, Nat.reduceEqDiff, Nat.reduceAdd, Nat.zero_add, Nat.add_zero, Option.map_none, Option.map_some, List.map_cons, List.map_nil, List.append_nil, List.cons_append, List.nil_append, List.getElem?_cons_zero, List.getElem?_cons_succ, List.getD_cons_zero, List.getD_cons_succ, List.getD_nil, Bool.not_true, Bool.not_false, decide_true, decide_false]
    · have hok : turnOk n xs b := ⟨ha, hb⟩
      have hnd := trn_list (mir := mir) ha hb
      have hre : turnR n xs b mir = puts (xs.map (trnD n b mir)) := if_pos hok
      refine LoopH.by (fun m s H' => ∃ i, m + i = xs.length ∧ s 0 = .int .i64 n ∧ s 1 = v ∧ s 2 = .int .i64 b ∧ s 3 = .bool mir ∧ s 11 = .int .i64 ((i : Nat) : Int) ∧ Own 3 H H' (s 10) (puts ((xs.take i).map (trnD n b mir))) ∧ H <+: H') xs.length ?_ ?_
      · refine ⟨0, by simp, rfl, rfl, rfl, rfl, rfl, ?_, hp⟩
        simp (maxSteps := 1000000) (disch := omega) only [S, S1, S2, S3, S4, ST, eq_self, ne_eq, not_true_eq_false, not_false_eq_true, and_self, true_and, and_true, reduceIte, reduceCtorEq, Nat.reduceEqDiff, Nat.reduceAdd, Nat.zero_add, Nat.add_zero, Option.map_none, Option.map_some, List.map_cons, List.map_nil, List.append_nil, List.cons_append, List.nil_append, List.getElem?_cons_zero, List.getElem?_cons_succ, List.getD_cons_zero, List.getD_cons_succ, List.getD_nil, Bool.not_true, Bool.not_false, decide_true, decide_false]; exact hown0.pre hp1
      · rintro m s H' ⟨i, hm, h0, h1, h2, h3, h11, hown, hpp⟩
        have hr' := hr.pre hpp
        have we : xs.length ≤ i → puts (xs.map (trnD n b mir)) = puts ((xs.take i).map (trnD n b mir)) := fun h => by rw [List.take_of_length_le h]
        have step : ∀ hi : i < xs.length, puts ((xs.take (i + 1)).map (trnD n b mir)) = put (puts ((xs.take i).map (trnD n b mir))) (trnD n b mir (xs.getD i 0)) ∧ trnD n b mir (xs.getD i 0) ∉ puts ((xs.take i).map (trnD n b mir)) ∧ (puts ((xs.take i).map (trnD n b mir))).length = i := by
          intro hi
          have e := map_take_succ (trnD n b mir) xs i hi
          have nd1 : ((xs.take (i + 1)).map (trnD n b mir)).Nodup := by
            have : (xs.take (i + 1)).map (trnD n b mir) = (xs.map (trnD n b mir)).take (i + 1) := by rw [List.map_take]
            rw [this]; exact hnd.sublist (List.take_sublist _ _)
          rw [e] at nd1
          have nd2 := List.nodup_append.1 nd1
          have pp := (puts_perm _ _ rfl nd2.1).1
          refine ⟨by rw [e, puts_step], fun hm => nd2.2.2 _ (pp.mem_iff.1 hm) _ (by simp) rfl, by rw [pp.length_eq]; simp; omega⟩
        generalize hL : puts ((xs.take i).map (trnD n b mir)) = L at *
        generalize hw : s 10 = w at *
        simp (maxSteps := 1000000) (disch := omega) only [h0, h1, h2, h3, h11, hw, hr'.len Try.underlying22, S, S1, S2, S3, S4, ST, eq_self, ne_eq, not_true_eq_false, not_false_eq_true, and_self, true_and, and_true, reduceIte, reduceCtorEq, Nat.reduceEqDiff, Nat.reduceAdd, Nat.zero_add, Nat.add_zero, Option.map_none, Option.map_some, List.map_cons, List.map_nil, List.append_nil, List.cons_append, List.nil_append, List.getElem?_cons_zero, List.getElem?_cons_succ, List.getD_cons_zero, List.getD_cons_succ, List.getD_nil, Bool.not_true, Bool.not_false, decide_true, decide_false]
        refine brD.intro (fun g => ?_) (fun g => ?_)
        · have hi : i < xs.length := by omega
          obtain ⟨st1, st2, st3⟩ := step hi
          have hx : xs.getD i 0 = xs[i] := by simp [hi]
          have hmem : xs.getD i 0 ∈ xs := by rw [hx]; exact List.getElem_mem hi
          have hd := hxs _ hmem
          obtain ⟨c1, c2⟩ := corner_bd ha hmem
          have t1 := trnC_bd (mir := mir) hn hb c1
          have t2 := trnC_bd (mir := mir) hn hb c2
          have tD := trnD_bd (mir := mir) ha hmem hb
          have key : trnD n b mir (xs.getD i 0) = 10 * (if trnC n b mir ((xs.getD i 0).tdiv 10) < trnC n b mir ((xs.getD i 0).tmod 10) then trnC n b mir ((xs.getD i 0).tdiv 10) else trnC n b mir ((xs.getD i 0).tmod 10)) + (if trnC n b mir ((xs.getD i 0).tmod 10) < trnC n b mir ((xs.getD i 0).tdiv 10) then trnC n b mir ((xs.getD i 0).tdiv 10) else trnC n b mir ((xs.getD i 0).tmod 10)) := rfl
          simp (maxSteps := 1000000) (disch := omega) only [h0, h1, h2, h3, h11, hw, hr'.ix Try.underlying22 cs3, hr'.cell, Int.toNat_natCast, hd.tdiv, wrap64, S, S1, S2, S3, S4, ST, eq_self, ne_eq, not_true_eq_false, not_false_eq_true, and_self, true_and, and_true, reduceIte, reduceCtorEq, Nat.reduceEqDiff, Nat.reduceAdd, Nat.zero_add, Nat.add_zero, Option.map_none, Option.map_some, List.map_cons, List.map_nil, List.append_nil, List.cons_append, List.nil_append, List.getElem?_cons_zero, List.getElem?_cons_succ, List.getD_cons_zero, List.getD_cons_succ, List.getD_nil, Bool.not_true, Bool.not_false, decide_true, decide_false]
          generalize hA : (xs.getD i 0).tdiv 10 = A at *
          generalize hB : (xs.getD i 0).tmod 10 = B at *
          have hX : ∃ X, (if trnC n b mir A < trnC n b mir B then trnC n b mir A else trnC n b mir B) = X ∧ 0 ≤ X ∧ X ≤ 8 := ⟨_, rfl, by split <;> omega, by split <;> omega⟩
          have hY : ∃ Y, (if trnC n b mir B < trnC n b mir A then trnC n b mir A else trnC n b mir B) = Y ∧ 0 ≤ Y ∧ Y ≤ 8 := ⟨_, rfl, by split <;> omega, by split <;> omega⟩
          obtain ⟨X, hX, bX0, bX1⟩ := hX
          obtain ⟨Y, hY, bY0, bY1⟩ := hY
          rw [hX, hY] at key
          refine brH.intro (fun y => ?_) (fun y => ?_)
          · have e1 : (n - 1 - A + b).tmod n = trnC n b mir A := by unfold trnC; rw [if_pos y]
            have e2 : (n - 1 - B + b).tmod n = trnC n b mir B := by unfold trnC; rw [if_pos y]
            simp (maxSteps := 1000000) (disch := omega) only [h0, h1, h2, h3, h11, hw, wrap64, e1, e2, S, S1, S2, S3, S4, ST, eq_self, ne_eq, not_true_eq_false, not_false_eq_true, and_self, true_and, and_true, reduceIte, reduceCtorEq, Nat.reduceEqDiff, Nat.reduceAdd, Nat.zero_add, Nat.add_zero, Option.map_none, Option.map_some, List.map_cons, List.map_nil, List.append_nil, List.cons_append, List.nil_append, List.getElem?_cons_zero, List.getElem?_cons_succ, List.getD_cons_zero, List.getD_cons_succ, List.getD_nil, Bool.not_true, Bool.not_false, decide_true, decide_false]
            refine CallH.by (l1Least_c ..) ?_
            rintro _ _ ⟨rfl, rfl⟩
            simp (maxSteps := 1000000) (disch := omega) only [hX, wrap64, S, S1, S2, S3, S4, ST, eq_self, ne_eq, not_true_eq_false, not_false_eq_true, and_self, true_and, and_true, reduceIte, reduceCtorEq, Nat.reduceEqDiff, Nat.reduceAdd, Nat.zero_add, Nat.add_zero, Option.map_none, Option.map_some, List.map_cons, List.map_nil, List.append_nil, List.cons_append, List.nil_append, List.getElem?_cons_zero, List.getElem?_cons_succ, List.getD_cons_zero, List.getD_cons_succ, List.getD_nil, Bool.not_true, Bool.not_false, decide_true, decide_false]
            refine CallH.by (l1Most_c ..) ?_
            rintro _ _ ⟨rfl, rfl⟩
            simp (maxSteps := 1000000) (disch := omega) only [hX, hY, wrap64, h0, h1, h2, h3, h11, hw, S, S1, S2, S3, S4, ST, eq_self, ne_eq, not_true_eq_false, not_false_eq_true, and_self, true_and, and_true, reduceIte, reduceCtorEq, Nat.reduceEqDiff, Nat.reduceAdd, Nat.zero_add, Nat.add_zero, Option.map_none, Option.map_some, List.map_cons, List.map_nil, List.append_nil, List.cons_append, List.nil_append, List.getElem?_cons_zero, List.getElem?_cons_succ, List.getD_cons_zero, List.getD_cons_succ, List.getD_nil, Bool.not_true, Bool.not_false, decide_true, decide_false]
            rw [← key]
            refine CallH.by (l1Put_c w L _ H' hown.row (by omega) st2) ?_
            rintro w' H2 ⟨hown2, hp2⟩
            have hown3 := hown2.base hpp
            have hp3 := hpp.trans hp2
            simp (maxSteps := 1000000) (disch := omega) only [h0, h1, h2, h3, h11, wrap64, S, S1, S2, S3, S4, ST, eq_self, ne_eq, not_true_eq_false, not_false_eq_true, and_self, true_and, and_true, reduceIte, reduceCtorEq, Nat.reduceEqDiff, Nat.reduceAdd, Nat.zero_add, Nat.add_zero, Option.map_none, Option.map_some, List.map_cons, List.map_nil, List.append_nil, List.cons_append, List.nil_append, List.getElem?_cons_zero, List.getElem?_cons_succ, List.getD_cons_zero, List.getD_cons_succ, List.getD_nil, Bool.not_true, Bool.not_false, decide_true, decide_false]
            refine ⟨m - 1, by omega, i + 1, ?_⟩
            rw [st1]
            (repeat' apply And.intro) <;> first | exact hown3 | exact hp3 | (simp only [Value.int.injEq, true_and]; omega) | omega | rfl | assumption | (simp; done) | (simp; omega)
          · have e1 : (A + b).tmod n = trnC n b mir A := by unfold trnC; rw [if_neg (by rw [y]; decide)]
            have e2 : (B + b).tmod n = trnC n b mir B := by unfold trnC; rw [if_neg (by rw [y]; decide)]
            simp (maxSteps := 1000000) (disch := omega) only [h0, h1, h2, h3, h11, hw, wrap64, e1, e2, S, S1, S2, S3, S4, ST, eq_self, ne_eq, not_true_eq_false, not_false_eq_true, and_self, true_and, and_true, reduceIte, reduceCtorEq, Nat.reduceEqDiff, Nat.reduceAdd, Nat.zero_add, Nat.add_zero, Option.map_none, Option.map_some, List.map_cons, List.map_nil, List.append_nil, List.cons_append, List.nil_append, List.getElem?_cons_zero, List.getElem?_cons_succ, List.getD_cons_zero, List.getD_cons_succ, List.getD_nil, Bool.not_true, Bool.not_false, decide_true, decide_false]
            refine CallH.by (l1Least_c ..) ?_
            rintro _ _ ⟨rfl, rfl⟩
            simp (maxSteps := 1000000) (disch := omega) only [hX, wrap64, S, S1, S2, S3, S4, ST, eq_self, ne_eq, not_true_eq_false, not_false_eq_true, and_self, true_and, and_true, reduceIte, reduceCtorEq, Nat.reduceEqDiff, Nat.reduceAdd, Nat.zero_add, Nat.add_zero, Option.map_none, Option.map_some, List.map_cons, List.map_nil, List.append_nil, List.cons_append, List.nil_append, List.getElem?_cons_zero, List.getElem?_cons_succ, List.getD_cons_zero, List.getD_cons_succ, List.getD_nil, Bool.not_true, Bool.not_false, decide_true, decide_false]
            refine CallH.by (l1Most_c ..) ?_
            rintro _ _ ⟨rfl, rfl⟩
            simp (maxSteps := 1000000) (disch := omega) only [hX, hY, wrap64, h0, h1, h2, h3, h11, hw, S, S1, S2, S3, S4, ST, eq_self, ne_eq, not_true_eq_false, not_false_eq_true, and_self, true_and, and_true, reduceIte, reduceCtorEq, Nat.reduceEqDiff, Nat.reduceAdd, Nat.zero_add, Nat.add_zero, Option.map_none, Option.map_some, List.map_cons, List.map_nil, List.append_nil, List.cons_append, List.nil_append, List.getElem?_cons_zero, List.getElem?_cons_succ, List.getD_cons_zero, List.getD_cons_succ, List.getD_nil, Bool.not_true, Bool.not_false, decide_true, decide_false]
            rw [← key]
            refine CallH.by (l1Put_c w L _ H' hown.row (by omega) st2) ?_
            rintro w' H2 ⟨hown2, hp2⟩
            have hown3 := hown2.base hpp
            have hp3 := hpp.trans hp2
            simp (maxSteps := 1000000) (disch := omega) only [h0, h1, h2, h3, h11, wrap64, S, S1, S2, S3, S4, ST, eq_self, ne_eq, not_true_eq_false, not_false_eq_true, and_self, true_and, and_true, reduceIte, reduceCtorEq, Nat.reduceEqDiff, Nat.reduceAdd, Nat.zero_add, Nat.add_zero, Option.map_none, Option.map_some, List.map_cons, List.map_nil, List.append_nil, List.cons_append, List.nil_append, List.getElem?_cons_zero, List.getElem?_cons_succ, List.getD_cons_zero, List.getD_cons_succ, List.getD_nil, Bool.not_true, Bool.not_false, decide_true, decide_false]
            refine ⟨m - 1, by omega, i + 1, ?_⟩
            rw [st1]
            (repeat' apply And.intro) <;> first | exact hown3 | exact hp3 | (simp only [Value.int.injEq, true_and]; omega) | omega | rfl | assumption | (simp; done) | (simp; omega)
        · simp (maxSteps := 1000000) (disch := omega) only [h0, h1, h2, h3, h11, hw, S, S1, S2, S3, S4, ST, eq_self, ne_eq, not_true_eq_false, not_false_eq_true, and_self, true_and, and_true, reduceIte, reduceCtorEq, Nat.reduceEqDiff, Nat.reduceAdd, Nat.zero_add, Nat.add_zero, Option.map_none, Option.map_some, List.map_cons, List.map_nil, List.append_nil, List.cons_append, List.nil_append, List.getElem?_cons_zero, List.getElem?_cons_succ, List.getD_cons_zero, List.getD_cons_succ, List.getD_nil, Bool.not_true, Bool.not_false, decide_true, decide_false]
          refine hQ _ _ _ ?_
          simp (maxSteps := 1000000) (disch := omega) only [hw, hown.row.tup, S, S1, S2, S3, S4, ST, eq_self, ne_eq, not_true_eq_false, not_false_eq_true, and_self, true_and, and_true, reduceIte, reduceCtorEq, Nat.reduceEqDiff, Nat.reduceAdd, Nat.zero_add, Nat.add_zero, Option.map_none, Option.map_some, List.map_cons, List.map_nil, List.append_nil, List.cons_append, List.nil_append, List.getElem?_cons_zero, List.getElem?_cons_succ, List.getD_cons_zero, List.getD_cons_succ, List.getD_nil, Bool.not_true, Bool.not_false, decide_true, decide_false]
          rw [hre, we (by omega)]
          exact ⟨w, by simp [hok], hown.mine, hpp⟩
    · refine hQ _ _ _ ?_
      simp (maxSteps := 1000000) (disch := omega) only [S, S1, S2, S3, S4, ST, eq_self, ne_eq, not_true_eq_false, not_false_eq_true, and_self, true_and, and_true, reduceIte, reduceCtorEq, Nat.reduceEqDiff, Nat.reduceAdd, Nat.zero_add, Nat.add_zero, Option.map_none, Option.map_some, List.map_cons, List.map_nil, List.append_nil, List.cons_append, List.nil_append, List.getElem?_cons_zero, List.getElem?_cons_succ, List.getD_cons_zero, List.getD_cons_succ, List.getD_nil, Bool.not_true, Bool.not_false, decide_true, decide_false]
      have hh : ¬ turnOk n xs b := fun h => hb h.2
      rw [no hh]
      exact ⟨_, by simp [hh], (hown0.pre hp1).mine, hp⟩
  · refine hQ _ _ _ ?_
    simp (maxSteps := 1000000) (disch := omega) only [S, S1, S2, S3, S4, ST, eq_self, ne_eq, not_true_eq_false, not_false_eq_true, and_self, true_and, and_true, reduceIte, reduceCtorEq, Nat.reduceEqDiff, Nat.reduceAdd, Nat.zero_add, Nat.add_zero, Option.map_none, Option.map_some, List.map_cons, List.map_nil, List.append_nil, List.cons_append, List.nil_append, List.getElem?_cons_zero, List.getElem?_cons_succ, List.getD_cons_zero, List.getD_cons_succ, List.getD_nil, Bool.not_true, Bool.not_false, decide_true, decide_false]
    have hh : ¬ turnOk n xs b := fun h => ha h.1
    rw [no hh]
    exact ⟨_, by simp [hh], (hown0.pre hp1).mine, hp⟩

theorem mkf_3 (f : FuncId) (p q r : Addr) : makeFuncA (.func f) [] [.pointer (some p), .pointer (some q), .pointer (some r)] = some (.func (.func f) #[] (List.toArray [.pointer (some p), .pointer (some q), .pointer (some r)])) := rfl
theorem box_bool (H : AH) (x : Bool) : boxA Try.prog 4 (.bool x) H = some (.pointer (some ⟨H.length, 0, none⟩), H ++ [.cells [.bool x] 4 false]) := by kernel_rfl
theorem alloc_a2 (H : AH) : allocA Try.prog 70 H = some (.pointer (some ⟨H.length, 0, none⟩), H ++ [.cells [.int .i64 0, .int .i64 0] 70 false]) := by kernel_rfl
theorem build_a2 (a b : Int) : buildA Try.prog 70 [(0, .int .i64 a), (1, .int .i64 b)] = some (.agg (List.toArray [.int .i64 a, .int .i64 b])) := by kernel_rfl
theorem store_a2 (H : AH) (vs : List Value) (hv : vs.length = 2) (a b : Value) : storeA Try.prog 70 (.pointer (some ⟨H.length, 0, none⟩)) (.agg (List.toArray [a, b])) (H ++ [.cells vs 70 false]) = some (H ++ [.cells [a, b] 70 false]) :=
  st_new rfl (by rw [cs70]; rfl) (by rw [cs70]; decide) (by rw [cs70]; exact hv)
theorem load_a2 (H : AH) (a b : Value) : loadA Try.prog 70 (.pointer (some ⟨H.length, 0, none⟩)) (H ++ [.cells [a, b] 70 false]) = some (.agg (List.toArray [a, b])) := by
  simp only [loadA, at_new, ag70, cs70]
  rfl

theorem end_cell (P : Program) (a : Nat) (t : TypeId) (R : Value → AH → Prop) (s : Sl) (H : AH) (v : Value) (h : loadA P t (s a) H = some v) (ht : isTup v = false) (hr : R v H) : endA P [.cell a t] R .ret s H := by
  simp only [endA, resA, h, ht]
  simp [outA]
  exact hr

theorem pair_c (a b : Int) (H : AH) : ACalls Try.prog 70 [.int .i64 a, .int .i64 b] H fun r H' => r = .agg (List.toArray [.int .i64 (minI a b), .int .i64 (maxI a b)]) ∧ H <+: H' := by
  refine in70 rfl ?_
  intro Q hQ
  have st := store_a2 H [.int .i64 0, .int .i64 0] rfl
  simp (maxSteps := 1000000) (disch := omega) only [cd70, alloc_a2, build_a2, st, S, S1, S2, S3, S4, ST, eq_self, ne_eq, not_true_eq_false, not_false_eq_true, and_self, true_and, and_true, reduceIte, reduceCtorEq, Nat.reduceEqDiff, Nat.reduceAdd, Nat.zero_add, Nat.add_zero, Option.map_none, Option.map_some, List.map_cons, List.map_nil, List.append_nil, List.cons_append, List.nil_append, List.getElem?_cons_zero, List.getElem?_cons_succ, List.getD_cons_zero, List.getD_cons_succ, List.getD_nil, Bool.not_true, Bool.not_false, decide_true, decide_false]
  refine hQ _ _ _ (end_cell _ _ _ _ _ _ (.agg (List.toArray [.int .i64 (minI a b), .int .i64 (maxI a b)])) ?_ rfl ⟨rfl, List.prefix_append _ _⟩)
  simp only [S, S1, S2, S3, S4, ST, eq_self, ne_eq, not_true_eq_false, not_false_eq_true, and_self, true_and, and_true, reduceIte, reduceCtorEq, Nat.reduceEqDiff, Nat.reduceAdd, Nat.zero_add, Nat.add_zero, Option.map_none, Option.map_some, List.map_cons, List.map_nil, List.append_nil, List.cons_append, List.nil_append, List.getElem?_cons_zero, List.getElem?_cons_succ, List.getD_cons_zero, List.getD_cons_succ, List.getD_nil, Bool.not_true, Bool.not_false, decide_true, decide_false]
  exact load_a2 ..

theorem min_max (x y : Int) : 10 * (if x < y then x else y) + (if y < x then x else y) = 10 * minI x y + maxI x y := by
  unfold minI maxI
  by_cases h1 : x < y
  · have h2 : ¬ y < x := by omega
    have h3 : y > x := h1
    rw [if_pos h1, if_neg h2, if_neg h2, if_pos h3]
  · by_cases h2 : y < x
    · have h3 : ¬ y > x := h1
      rw [if_neg h1, if_pos h2, if_pos h2, if_neg h3]
    · have h3 : ¬ y > x := h1
      rw [if_neg h1, if_neg h2, if_neg h2, if_neg h3]; omega

theorem turnClos_c (n b x : Int) (mir : Bool) (p q r : Nat) (H : AH) (hn : 3 ≤ n ∧ n ≤ 8) (hb : 0 ≤ b ∧ b ≤ n - 1) (hx : 0 ≤ x ∧ x ≤ n - 1) (hp : cellA H p 0 = some (.bool mir)) (hq : cellA H q 0 = some (.int .i64 n)) (hr : cellA H r 0 = some (.int .i64 b)) :
    ACalls Try.prog 69 [.int .i64 x, .pointer (some ⟨p, 0, none⟩), .pointer (some ⟨q, 0, none⟩), .pointer (some ⟨r, 0, none⟩)] H fun v H' => v = .int .i64 (trnC n b mir x) ∧ H = H' := by
  refine in69 rfl ?_
  intro Q hQ
  simp (maxSteps := 1000000) (disch := omega) only [cd69, hp, hq, hr, S, S1, S2, S3, S4, ST, eq_self, ne_eq, not_true_eq_false, not_false_eq_true, and_self, true_and, and_true, reduceIte, reduceCtorEq, Nat.reduceEqDiff, Nat.reduceAdd, Nat.zero_add, Nat.add_zero, Option.map_none, Option.map_some, List.map_cons, List.map_nil, List.append_nil, List.cons_append, List.nil_append, List.getElem?_cons_zero, List.getElem?_cons_succ, List.getD_cons_zero, List.getD_cons_succ, List.getD_nil, Bool.not_true, Bool.not_false, decide_true, decide_false]
  refine brH.intro (fun y => ?_) (fun y => ?_)
  · have e1 : (n - 1 - x + b).tmod n = trnC n b mir x := by unfold trnC; rw [if_pos y]
    simp (maxSteps := 1000000) (disch := omega) only [hp, hq, hr, wrap64, e1, S, S1, S2, S3, S4, ST, eq_self, ne_eq, not_true_eq_false, not_false_eq_true, and_self, true_and, and_true, reduceIte, reduceCtorEq, Nat.reduceEqDiff, Nat.reduceAdd, Nat.zero_add, Nat.add_zero, Option.map_none, Option.map_some, List.map_cons, List.map_nil, List.append_nil, List.cons_append, List.nil_append, List.getElem?_cons_zero, List.getElem?_cons_succ, List.getD_cons_zero, List.getD_cons_succ, List.getD_nil, Bool.not_true, Bool.not_false, decide_true, decide_false]
    refine hQ _ _ _ ?_
    simp (maxSteps := 1000000) (disch := omega) only [S, S1, S2, S3, S4, ST, eq_self, ne_eq, not_true_eq_false, not_false_eq_true, and_self, true_and, and_true, reduceIte, reduceCtorEq, Nat.reduceEqDiff, Nat.reduceAdd, Nat.zero_add, Nat.add_zero, Option.map_none, Option.map_some, List.map_cons, List.map_nil, List.append_nil, List.cons_append, List.nil_append, List.getElem?_cons_zero, List.getElem?_cons_succ, List.getD_cons_zero, List.getD_cons_succ, List.getD_nil, Bool.not_true, Bool.not_false, decide_true, decide_false]
  · have e1 : (x + b).tmod n = trnC n b mir x := by unfold trnC; rw [if_neg (by rw [y]; decide)]
    simp (maxSteps := 1000000) (disch := omega) only [hp, hq, hr, wrap64, e1, S, S1, S2, S3, S4, ST, eq_self, ne_eq, not_true_eq_false, not_false_eq_true, and_self, true_and, and_true, reduceIte, reduceCtorEq, Nat.reduceEqDiff, Nat.reduceAdd, Nat.zero_add, Nat.add_zero, Option.map_none, Option.map_some, List.map_cons, List.map_nil, List.append_nil, List.cons_append, List.nil_append, List.getElem?_cons_zero, List.getElem?_cons_succ, List.getD_cons_zero, List.getD_cons_succ, List.getD_nil, Bool.not_true, Bool.not_false, decide_true, decide_false]
    refine hQ _ _ _ ?_
    simp (maxSteps := 1000000) (disch := omega) only [S, S1, S2, S3, S4, ST, eq_self, ne_eq, not_true_eq_false, not_false_eq_true, and_self, true_and, and_true, reduceIte, reduceCtorEq, Nat.reduceEqDiff, Nat.reduceAdd, Nat.zero_add, Nat.add_zero, Option.map_none, Option.map_some, List.map_cons, List.map_nil, List.append_nil, List.cons_append, List.nil_append, List.getElem?_cons_zero, List.getElem?_cons_succ, List.getD_cons_zero, List.getD_cons_succ, List.getD_nil, Bool.not_true, Bool.not_false, decide_true, decide_false]

set_option maxRecDepth 20000 in
set_option maxHeartbeats 4000000 in
theorem TurnI_c (n b : Int) (mir : Bool) (v : Value) (xs : List Int) (H : AH) (hr : Row 3 H v xs) (hlen : xs.length ≤ 1099511627776) (hxs : ∀ y ∈ xs, I64 y) :
    ACalls Try.prog 37 [.int .i64 n, v, .int .i64 b, .bool mir] H fun r H' => ∃ g, r = .tuple (List.toArray [g, .bool (decide (turnOk n xs b))]) ∧ Mine 3 H H' g (turnR n xs b mir) ∧ H <+: H' := by
  refine in37 rfl ?_
  intro Q hQ
  have no : ¬ turnOk n xs b → turnR n xs b mir = [] := fun h => if_neg h
  obtain ⟨pv, ev⟩ := hr.shape
  subst ev
  have q4 : (H ++ [AObj.cells [.int .i64 n] 3 false] ++ [AObj.cells [.int .i64 b] 3 false] ++ [AObj.cells [.bool mir] 4 false])[H.length]? = some (.cells [.int .i64 n] 3 false) := at_app (at_app (at_new ..) _) _
  have q6 : (H ++ [AObj.cells [.int .i64 n] 3 false] ++ [AObj.cells [.int .i64 b] 3 false] ++ [AObj.cells [.bool mir] 4 false])[(H ++ [AObj.cells [.int .i64 n] 3 false]).length]? = some (.cells [.int .i64 b] 3 false) := at_app (at_new ..) _
  have q7 : (H ++ [AObj.cells [.int .i64 n] 3 false] ++ [AObj.cells [.int .i64 b] 3 false] ++ [AObj.cells [.bool mir] 4 false])[(H ++ [AObj.cells [.int .i64 n] 3 false] ++ [AObj.cells [.int .i64 b] 3 false]).length]? = some (.cells [.bool mir] 4 false) := at_new ..
  have hp3 : H <+: H ++ [AObj.cells [.int .i64 n] 3 false] ++ [AObj.cells [.int .i64 b] 3 false] ++ [AObj.cells [.bool mir] 4 false] := pre_app (pre_app (List.prefix_append _ _) _) _
  have cellp : ∀ {H1 H' : AH} {o : Nat} {x : Value} {t : TypeId}, H1 <+: H' → H1[o]? = some (.cells [x] t false) → cellA H' o 0 = some x := by
    intro H1 H' o x t hp h
    rw [cell_of (pre_at hp h)]; rfl
  have c4 := cellp (List.prefix_refl _) q4
  simp (maxSteps := 1000000) (disch := omega) only [cd37, box_int, box_bool, c4, S, S1, S2, S3, S4, ST, eq_self, ne_eq, not_true_eq_false, not_false_eq_true, and_self, true_and, and_true, reduceIte, reduceCtorEq, Nat.reduceEqDiff, Nat.reduceAdd, Nat.zero_add, Nat.add_zero, Option.map_none, Option.map_some, List.map_cons, List.map_nil, List.append_nil, List.cons_append, List.nil_append, List.getElem?_cons_zero, List.getElem?_cons_succ, List.getD_cons_zero, List.getD_cons_succ, List.getD_nil, Bool.not_true, Bool.not_false, decide_true, decide_false]
  generalize hv : Value.slice pv xs.length xs.length = v at *
  generalize (H ++ [AObj.cells [.int .i64 n] 3 false]).length = o6 at *
  generalize (H ++ [AObj.cells [.int .i64 n] 3 false] ++ [AObj.cells [.int .i64 b] 3 false]).length = o7 at *
  generalize H ++ [AObj.cells [.int .i64 n] 3 false] ++ [AObj.cells [.int .i64 b] 3 false] ++ [AObj.cells [.bool mir] 4 false] = H3 at *
  refine CallH.by (are1_c n v xs _ _ H3 rfl rfl (hr.pre hp3) hlen hxs) ?_
  rintro _ H4 ⟨rfl, hp4⟩
  have hp34 : H3 <+: H4 := (List.prefix_append _ _).trans hp4
  simp (maxSteps := 1000000) (disch := omega) only [S, S1, S2, S3, S4, ST, eq_self, ne_eq, not_true_eq_false, not_false_eq_true, and_self, true_and, and_true, reduceIte, reduceCtorEq, Nat.reduceEqDiff, Nat.reduceAdd, Nat.zero_add, Nat.add_zero, Option.map_none, Option.map_some, List.map_cons, List.map_nil, List.append_nil, List.cons_append, List.nil_append, List.getElem?_cons_zero, List.getElem?_cons_succ, List.getD_cons_zero, List.getD_cons_succ, List.getD_nil, Bool.not_true, Bool.not_false, decide_true, decide_false]
  refine brD.intro (fun ha => ?_) (fun ha => ?_) <;> simp (maxSteps := 1000000) (disch := omega) only [ha, cellp hp34 q4, cellp hp34 q6, S, S1, S2, S3, S4, ST, eq_self, ne_eq, not_true_eq_false, not_false_eq_true, and_self, true_and, and_true, reduceIte, reduceCtorEq, Nat.reduceEqDiff, Nat.reduceAdd, Nat.zero_add, Nat.add_zero, Option.map_none, Option.map_some, List.map_cons, List.map_nil, List.append_nil, List.cons_append, List.nil_append, List.getElem?_cons_zero, List.getElem?_cons_succ, List.getD_cons_zero, List.getD_cons_succ, List.getD_nil, Bool.not_true, Bool.not_false, decide_true, decide_false]
  · have hn := ha.1
    have hln := ha.len
    simp (maxSteps := 1000000) (disch := omega) only [wrap64, S, S1, S2, S3, S4, ST, eq_self, ne_eq, not_true_eq_false, not_false_eq_true, and_self, true_and, and_true, reduceIte, reduceCtorEq, Nat.reduceEqDiff, Nat.reduceAdd, Nat.zero_add, Nat.add_zero, Option.map_none, Option.map_some, List.map_cons, List.map_nil, List.append_nil, List.cons_append, List.nil_append, List.getElem?_cons_zero, List.getElem?_cons_succ, List.getD_cons_zero, List.getD_cons_succ, List.getD_nil, Bool.not_true, Bool.not_false, decide_true, decide_false]
    refine CallH.by (between_c ..) ?_
    rintro _ _ ⟨rfl, rfl⟩
    simp (maxSteps := 1000000) (disch := omega) only [ha, S, S1, S2, S3, S4, ST, eq_self, ne_eq, not_true_eq_false, not_false_eq_true, and_self, true_and, and_true, reduceIte, reduceCtorEq, Nat.reduceEqDiff, Nat.reduceAdd, Nat.zero_add, Nat.add_zero, Option.map_none, Option.map_some, List.map_cons, List.map_nil, List.append_nil, List.cons_append, List.nil_append, List.getElem?_cons_zero, List.getElem?_cons_succ, List.getD_cons_zero, List.getD_cons_succ, List.getD_nil, Bool.not_true, Bool.not_false, decide_true, decide_false]
    refine brD.intro (fun hb => ?_) (fun hb => ?_) <;> simp (maxSteps := 1000000) (disch := omega) only [ha, hb, mkf_3, S, S1, S2, S3, S4, ST, eq_self, ne_eq, not_true_eq_false, not_false_eq_true, and_self, true_and, and_true, reduceIte, reduceCtorEq, Nat.reduceEqDiff, Nat.reduceAdd, Nat.zero_add, Nat.add_zero, Option.map_none, Option.map_some, List.map_cons, List.map_nil, List.append_nil, List.cons_append, List.nil_append, List.getElem?_cons_zero, List.getElem?_cons_succ, List.getD_cons_zero, List.getD_cons_succ, List.getD_nil, Bool.not_true, Bool.not_false, decide_true, decide_false]
    · have hok : turnOk n xs b := ⟨ha, hb⟩
      have hnd := trn_list (mir := mir) ha hb
      have hre : turnR n xs b mir = puts (xs.map (trnD n b mir)) := if_pos hok
      have hr4 := hr.pre (hp3.trans hp34)
      have hr5 := hr4.pre (List.prefix_append H4 [AObj.cells [] 3 false])
      simp (maxSteps := 1000000) (disch := omega) only [hr5.len Try.underlying22, S, S1, S2, S3, S4, ST, eq_self, ne_eq, not_true_eq_false, not_false_eq_true, and_self, true_and, and_true, reduceIte, reduceCtorEq, Nat.reduceEqDiff, Nat.reduceAdd, Nat.zero_add, Nat.add_zero, Option.map_none, Option.map_some, List.map_cons, List.map_nil, List.append_nil, List.cons_append, List.nil_append, List.getElem?_cons_zero, List.getElem?_cons_succ, List.getD_cons_zero, List.getD_cons_succ, List.getD_nil, Bool.not_true, Bool.not_false, decide_true, decide_false]
      have hown0 : Own 3 H3 (H4 ++ [AObj.cells [] 3 false]) (.slice (some ⟨H4.length, 0, none⟩) 0 0) [] := .inr ⟨H4.length, rfl, hp34.length_le, at_new ..⟩
      refine LoopH.by (fun m s H' => ∃ i, m + i = xs.length ∧ s 29 = v ∧ s 30 = .int .i64 (xs.length : Int) ∧ s 31 = .int .i64 ((i : Nat) : Int) ∧ s 10 = .func (.func 69) #[] (List.toArray [.pointer (some ⟨o7, 0, none⟩), .pointer (some ⟨H.length, 0, none⟩), .pointer (some ⟨o6, 0, none⟩)]) ∧ Own 3 H3 H' (s 11) ((xs.take i).map (trnD n b mir)) ∧ H3 <+: H') xs.length ?_ ?_
      · refine ⟨0, by simp, rfl, rfl, rfl, rfl, ?_, pre_app hp34 _⟩
        simp (maxSteps := 1000000) (disch := omega) only [S, S1, S2, S3, S4, ST, eq_self, ne_eq, not_true_eq_false, not_false_eq_true, and_self, true_and, and_true, reduceIte, reduceCtorEq, Nat.reduceEqDiff, Nat.reduceAdd, Nat.zero_add, Nat.add_zero, Option.map_none, Option.map_some, List.map_cons, List.map_nil, List.append_nil, List.cons_append, List.nil_append, List.getElem?_cons_zero, List.getElem?_cons_succ, List.getD_cons_zero, List.getD_cons_succ, List.getD_nil, Bool.not_true, Bool.not_false, decide_true, decide_false]; exact hown0
      · rintro m s H' ⟨i, hm, h29, h30, h31, h27, hown, hpp⟩
        have hr' := hr.pre (hp3.trans hpp)
        have e := fun hi => map_take_succ (trnD n b mir) xs i hi
        have we : xs.length ≤ i → xs.map (trnD n b mir) = (xs.take i).map (trnD n b mir) := fun h => by rw [List.take_of_length_le h]
        have hll : ((xs.take i).map (trnD n b mir)).length ≤ i := by simp; omega
        generalize hL : (xs.take i).map (trnD n b mir) = L at *
        generalize hw : s 11 = w at *
        simp (maxSteps := 1000000) (disch := omega) only [h29, h30, h31, h27, hw, S, S1, S2, S3, S4, ST, eq_self, ne_eq, not_true_eq_false, not_false_eq_true, and_self, true_and, and_true, reduceIte, reduceCtorEq, Nat.reduceEqDiff, Nat.reduceAdd, Nat.zero_add, Nat.add_zero, Option.map_none, Option.map_some, List.map_cons, List.map_nil, List.append_nil, List.cons_append, List.nil_append, List.getElem?_cons_zero, List.getElem?_cons_succ, List.getD_cons_zero, List.getD_cons_succ, List.getD_nil, Bool.not_true, Bool.not_false, decide_true, decide_false]
        refine brD.intro (fun g => ?_) (fun g => ?_)
        · have hi : i < xs.length := by omega
          have st := e hi
          have hx : xs.getD i 0 = xs[i] := by simp [hi]
          have hmem : xs.getD i 0 ∈ xs := by rw [hx]; exact List.getElem_mem hi
          have hd := hxs _ hmem
          obtain ⟨c1, c2⟩ := corner_bd ha hmem
          have t1 := trnC_bd (mir := mir) hn hb c1
          have t2 := trnC_bd (mir := mir) hn hb c2
          simp (maxSteps := 1000000) (disch := omega) only [h29, h30, h31, h27, hw, hr'.ix Try.underlying22 cs3, hr'.cell, Int.toNat_natCast, hd.tdiv, wrap64, S, S1, S2, S3, S4, ST, eq_self, ne_eq, not_true_eq_false, not_false_eq_true, and_self, true_and, and_true, reduceIte, reduceCtorEq, Nat.reduceEqDiff, Nat.reduceAdd, Nat.zero_add, Nat.add_zero, Option.map_none, Option.map_some, List.map_cons, List.map_nil, List.append_nil, List.cons_append, List.nil_append, List.getElem?_cons_zero, List.getElem?_cons_succ, List.getD_cons_zero, List.getD_cons_succ, List.getD_nil, Bool.not_true, Bool.not_false, decide_true, decide_false]
          have key : trnD n b mir (xs.getD i 0) = 10 * minI (trnC n b mir ((xs.getD i 0).tdiv 10)) (trnC n b mir ((xs.getD i 0).tmod 10)) + maxI (trnC n b mir ((xs.getD i 0).tdiv 10)) (trnC n b mir ((xs.getD i 0).tmod 10)) := by
            exact min_max _ _
          generalize hA : (xs.getD i 0).tdiv 10 = A at *
          generalize hB : (xs.getD i 0).tmod 10 = B at *
          refine CallH.by (turnClos_c n b A mir o7 H.length o6 H' hn hb c1 (cellp hpp q7) (cellp hpp q4) (cellp hpp q6)) ?_
          rintro _ _ ⟨rfl, rfl⟩
          simp (maxSteps := 1000000) (disch := omega) only [h29, h30, h31, h27, hw, hB, S, S1, S2, S3, S4, ST, eq_self, ne_eq, not_true_eq_false, not_false_eq_true, and_self, true_and, and_true, reduceIte, reduceCtorEq, Nat.reduceEqDiff, Nat.reduceAdd, Nat.zero_add, Nat.add_zero, Option.map_none, Option.map_some, List.map_cons, List.map_nil, List.append_nil, List.cons_append, List.nil_append, List.getElem?_cons_zero, List.getElem?_cons_succ, List.getD_cons_zero, List.getD_cons_succ, List.getD_nil, Bool.not_true, Bool.not_false, decide_true, decide_false]
          refine CallH.by (turnClos_c n b B mir o7 H.length o6 H' hn hb c2 (cellp hpp q7) (cellp hpp q4) (cellp hpp q6)) ?_
          rintro _ _ ⟨rfl, rfl⟩
          simp (maxSteps := 1000000) (disch := omega) only [S, S1, S2, S3, S4, ST, eq_self, ne_eq, not_true_eq_false, not_false_eq_true, and_self, true_and, and_true, reduceIte, reduceCtorEq, Nat.reduceEqDiff, Nat.reduceAdd, Nat.zero_add, Nat.add_zero, Option.map_none, Option.map_some, List.map_cons, List.map_nil, List.append_nil, List.cons_append, List.nil_append, List.getElem?_cons_zero, List.getElem?_cons_succ, List.getD_cons_zero, List.getD_cons_succ, List.getD_nil, Bool.not_true, Bool.not_false, decide_true, decide_false]
          refine CallH.by (pair_c ..) ?_
          rintro _ H6 ⟨rfl, hp6⟩
          have bX : ∃ X, minI (trnC n b mir A) (trnC n b mir B) = X ∧ 0 ≤ X ∧ X ≤ 8 := ⟨_, rfl, by unfold minI; split <;> omega, by unfold minI; split <;> omega⟩
          have bY : ∃ Y, maxI (trnC n b mir A) (trnC n b mir B) = Y ∧ 0 ≤ Y ∧ Y ≤ 8 := ⟨_, rfl, by unfold maxI; split <;> omega, by unfold maxI; split <;> omega⟩
          obtain ⟨X, hX, bX0, bX1⟩ := bX
          obtain ⟨Y, hY, bY0, bY1⟩ := bY
          rw [hX, hY] at key
          have ix0 : ∀ o, indexAddrA Try.prog 70 (.pointer (some ⟨o, 0, none⟩)) (.int .i64 0) = some (.pointer (some ⟨o, 0, none⟩)) := fun o => ix_arr Try.underlying70 cs3 _ _ (by decide) (by decide)
          have ix1 : ∀ o, indexAddrA Try.prog 70 (.pointer (some ⟨o, 0, none⟩)) (.int .i64 1) = some (.pointer (some ⟨o, 1, none⟩)) := fun o => ix_arr Try.underlying70 cs3 _ _ (by decide) (by decide)
          have hp7 := hp6.trans (List.prefix_append H6 [AObj.cells [.int .i64 X, .int .i64 Y] 70 false])
          obtain ⟨w', H8, k1, k2, k3, k4, k5, k6⟩ := own1_22 (hown.pre hp7) (hpp.trans hp7) (by omega) (10 * X + Y)
          rw [← key, ← st] at k2
          have st7 := fun a b => store_a2 H6 [.int .i64 0, .int .i64 0] rfl (.int .i64 a) (.int .i64 b)
          simp (maxSteps := 1000000) (disch := omega) only [hX, hY, alloc_a2, st7, ix0, ix1, cell_new, wrap64, h29, h30, h31, h27, hw, k1, S, S1, S2, S3, S4, ST, eq_self, ne_eq, not_true_eq_false, not_false_eq_true, and_self, true_and, and_true, reduceIte, reduceCtorEq, Nat.reduceEqDiff, Nat.reduceAdd, Nat.zero_add, Nat.add_zero, Option.map_none, Option.map_some, List.map_cons, List.map_nil, List.append_nil, List.cons_append, List.nil_append, List.getElem?_cons_zero, List.getElem?_cons_succ, List.getD_cons_zero, List.getD_cons_succ, List.getD_nil, Bool.not_true, Bool.not_false, decide_true, decide_false]
          refine ⟨m - 1, by omega, i + 1, ?_⟩
          (repeat' apply And.intro) <;> first | exact k2 | exact k3 | (simp only [Value.int.injEq, true_and]; omega) | omega | rfl | assumption | (simp; done) | (simp; omega)
        · simp (maxSteps := 1000000) (disch := omega) only [h29, h30, h31, h27, hw, S, S1, S2, S3, S4, ST, eq_self, ne_eq, not_true_eq_false, not_false_eq_true, and_self, true_and, and_true, reduceIte, reduceCtorEq, Nat.reduceEqDiff, Nat.reduceAdd, Nat.zero_add, Nat.add_zero, Option.map_none, Option.map_some, List.map_cons, List.map_nil, List.append_nil, List.cons_append, List.nil_append, List.getElem?_cons_zero, List.getElem?_cons_succ, List.getD_cons_zero, List.getD_cons_succ, List.getD_nil, Bool.not_true, Bool.not_false, decide_true, decide_false]
          have hLl : L.length ≤ 12 := by
            rw [← we (by omega)]; simp; omega
          refine CallH.by (Sort_c w L H3 H' hown hLl) ?_
          rintro _ H9 ⟨ys, hown9, hperm, hasc, hels⟩
          simp (maxSteps := 1000000) (disch := omega) only [hw, hown9.row.tup, S, S1, S2, S3, S4, ST, eq_self, ne_eq, not_true_eq_false, not_false_eq_true, and_self, true_and, and_true, reduceIte, reduceCtorEq, Nat.reduceEqDiff, Nat.reduceAdd, Nat.zero_add, Nat.add_zero, Option.map_none, Option.map_some, List.map_cons, List.map_nil, List.append_nil, List.cons_append, List.nil_append, List.getElem?_cons_zero, List.getElem?_cons_succ, List.getD_cons_zero, List.getD_cons_succ, List.getD_nil, Bool.not_true, Bool.not_false, decide_true, decide_false]
          refine hQ _ _ _ ?_
          simp (maxSteps := 1000000) (disch := omega) only [hw, hown9.row.tup, S, S1, S2, S3, S4, ST, eq_self, ne_eq, not_true_eq_false, not_false_eq_true, and_self, true_and, and_true, reduceIte, reduceCtorEq, Nat.reduceEqDiff, Nat.reduceAdd, Nat.zero_add, Nat.add_zero, Option.map_none, Option.map_some, List.map_cons, List.map_nil, List.append_nil, List.cons_append, List.nil_append, List.getElem?_cons_zero, List.getElem?_cons_succ, List.getD_cons_zero, List.getD_cons_succ, List.getD_nil, Bool.not_true, Bool.not_false, decide_true, decide_false]
          rw [← we (by omega)] at hperm
          have hys := puts_sorted hnd hperm hasc
          rw [hre, ← hys]
          exact ⟨w, by simp [hok], (hown9.base hp3).mine, hp3.trans (hown.else_pre hpp hels)⟩
    · refine hQ _ _ _ ?_
      simp (maxSteps := 1000000) (disch := omega) only [S, S1, S2, S3, S4, ST, eq_self, ne_eq, not_true_eq_false, not_false_eq_true, and_self, true_and, and_true, reduceIte, reduceCtorEq, Nat.reduceEqDiff, Nat.reduceAdd, Nat.zero_add, Nat.add_zero, Option.map_none, Option.map_some, List.map_cons, List.map_nil, List.append_nil, List.cons_append, List.nil_append, List.getElem?_cons_zero, List.getElem?_cons_succ, List.getD_cons_zero, List.getD_cons_succ, List.getD_nil, Bool.not_true, Bool.not_false, decide_true, decide_false]
      have hh : ¬ turnOk n xs b := fun h => hb h.2
      rw [no hh]
      exact ⟨_, by simp [hh], .inl ⟨rfl, rfl⟩, hp3.trans hp34⟩
  · refine hQ _ _ _ ?_
    simp (maxSteps := 1000000) (disch := omega) only [S, S1, S2, S3, S4, ST, eq_self, ne_eq, not_true_eq_false, not_false_eq_true, and_self, true_and, and_true, reduceIte, reduceCtorEq, Nat.reduceEqDiff, Nat.reduceAdd, Nat.zero_add, Nat.add_zero, Option.map_none, Option.map_some, List.map_cons, List.map_nil, List.append_nil, List.cons_append, List.nil_append, List.getElem?_cons_zero, List.getElem?_cons_succ, List.getD_cons_zero, List.getD_cons_succ, List.getD_nil, Bool.not_true, Bool.not_false, decide_true, decide_false]
    have hh : ¬ turnOk n xs b := fun h => ha h.1
    rw [no hh]
    exact ⟨_, by simp [hh], .inl ⟨rfl, rfl⟩, hp3.trans hp34⟩
end Go.Proofs.Ytnoihoeaconllaa.Ai
