/- FnExactFanOf: both sides. -/
import Derived.Test.YtedlnjcfacadgaaMark
import Derived.Test.YtedlnjcfacadgaaLTri
import Derived.Test.YtedlnjcfacadgaaValid
import Derived.Test.YtedlnjcfacadgaaCdFan
namespace Go.Proofs.Ytedlnjcfacadgaa.Ai
open Go Go.RowKit
set_option linter.unusedVariables false
set_option linter.unusedSimpArgs false

/-- a diagonal is at a corner -/
def At (d c : Int) : Prop := d.tdiv 10 = c ∨ d.tmod 10 = c
instance (d c : Int) : Decidable (At d c) := inferInstanceAs (Decidable (_ ∨ _))

theorem isAt_c (d c : Int) (H : AH) (hd : I64 d) : ACalls Try.prog 55 [.int .i64 d, .int .i64 c] H fun r H' => r = .bool (decide (At d c)) ∧ H = H' := by
  refine in55 rfl ?_
  intro Q hQ
  simp (disch := omega) only [cd55, hd.tdiv, S, S1, S2, S3, ST, eq_self, ne_eq, not_true_eq_false, not_false_eq_true, and_self, true_and, and_true, reduceIte, reduceCtorEq, Nat.reduceEqDiff, Nat.reduceAdd, Nat.zero_add, Nat.add_zero, Option.map_none, Option.map_some, List.map_cons, List.map_nil, List.append_nil, List.cons_append, List.nil_append, List.getElem?_cons_zero, List.getElem?_cons_succ, List.getD_cons_zero, List.getD_cons_succ, List.getD_nil, Bool.not_true, Bool.not_false, decide_true, decide_false]
  repeat' (first | (refine brD.intro (fun h => ?_) (fun h => ?_) <;> simp (disch := omega) only [h, S, S1, S2, S3, ST, eq_self, ne_eq, not_true_eq_false, not_false_eq_true, and_self, true_and, and_true, reduceIte, reduceCtorEq, Nat.reduceEqDiff, Nat.reduceAdd, Nat.zero_add, Nat.add_zero, Option.map_none, Option.map_some, List.map_cons, List.map_nil, List.append_nil, List.cons_append, List.nil_append, List.getElem?_cons_zero, List.getElem?_cons_succ, List.getD_cons_zero, List.getD_cons_succ, List.getD_nil, Bool.not_true, Bool.not_false, decide_true, decide_false]) | (refine hQ _ _ _ ?_; simp (disch := omega) only [S, S1, S2, S3, ST, eq_self, ne_eq, not_true_eq_false, not_false_eq_true, and_self, true_and, and_true, reduceIte, reduceCtorEq, Nat.reduceEqDiff, Nat.reduceAdd, Nat.zero_add, Nat.add_zero, Option.map_none, Option.map_some, List.map_cons, List.map_nil, List.append_nil, List.cons_append, List.nil_append, List.getElem?_cons_zero, List.getElem?_cons_succ, List.getD_cons_zero, List.getD_cons_succ, List.getD_nil, Bool.not_true, Bool.not_false, decide_true, decide_false]))
  all_goals (by_cases hC : At d c <;> simp [hC] <;> unfold At at hC <;> simp_all)

theorem fanClos_c (d c : Int) (o : Nat) (H : AH) (hd : I64 d) (ho : cellA H o 0 = some (.int .i64 c)) :
    ACalls Try.prog 54 [.int .i64 d, .pointer (some ⟨o, 0, none⟩)] H fun r H' => r = .bool (!decide (At d c)) ∧ H = H' := by
  refine in54 rfl ?_
  intro Q hQ
  simp (disch := omega) only [cd54, ho, S, S1, S2, S3, ST, eq_self, ne_eq, not_true_eq_false, not_false_eq_true, and_self, true_and, and_true, reduceIte, reduceCtorEq, Nat.reduceEqDiff, Nat.reduceAdd, Nat.zero_add, Nat.add_zero, Option.map_none, Option.map_some, List.map_cons, List.map_nil, List.append_nil, List.cons_append, List.nil_append, List.getElem?_cons_zero, List.getElem?_cons_succ, List.getD_cons_zero, List.getD_cons_succ, List.getD_nil, Bool.not_true, Bool.not_false, decide_true, decide_false]
  refine CallH.by (isAt_c d c H hd) ?_
  rintro _ _ ⟨rfl, rfl⟩
  simp (disch := omega) only [S, S1, S2, S3, ST, eq_self, ne_eq, not_true_eq_false, not_false_eq_true, and_self, true_and, and_true, reduceIte, reduceCtorEq, Nat.reduceEqDiff, Nat.reduceAdd, Nat.zero_add, Nat.add_zero, Option.map_none, Option.map_some, List.map_cons, List.map_nil, List.append_nil, List.cons_append, List.nil_append, List.getElem?_cons_zero, List.getElem?_cons_succ, List.getD_cons_zero, List.getD_cons_succ, List.getD_nil, Bool.not_true, Bool.not_false, decide_true, decide_false]
  refine hQ _ _ _ ?_
  simp (disch := omega) only [S, S1, S2, S3, ST, eq_self, ne_eq, not_true_eq_false, not_false_eq_true, and_self, true_and, and_true, reduceIte, reduceCtorEq, Nat.reduceEqDiff, Nat.reduceAdd, Nat.zero_add, Nat.add_zero, Option.map_none, Option.map_some, List.map_cons, List.map_nil, List.append_nil, List.cons_append, List.nil_append, List.getElem?_cons_zero, List.getElem?_cons_succ, List.getD_cons_zero, List.getD_cons_succ, List.getD_nil, Bool.not_true, Bool.not_false, decide_true, decide_false]

/-- the diagonals below a number, in order -/
def dgI (n : Int) (k : Nat) : List Int := ((List.range k).map fun (i : Nat) => (i : Int)).filter fun d => decide (Diag n d)
theorem dgI_step (n : Int) (k : Nat) : dgI n (k + 1) = dgI n k ++ if Diag n k then [(k : Int)] else [] := by
  unfold dgI
  rw [List.range_succ, List.map_append, List.filter_append]
  by_cases h : Diag n k <;> simp [h]
theorem dgI_len (n : Int) (k : Nat) : (dgI n k).length ≤ k := by
  unfold dgI
  refine Nat.le_trans (List.length_filter_le _ _) ?_
  simp
theorem dgI_eq : ∀ n : Fin 9, 3 ≤ n.val → dgI (n.val : Int) 100 = dgs (n.val : Int) n.val := by decide

set_option maxHeartbeats 1000000 in
theorem diagonals_c (n : Int) (H : AH) (hn : 0 ≤ n ∧ n ≤ 100) : ACalls Try.prog 53 [.int .i64 n] H fun r H' => (∃ o, r = .slice (some ⟨o, 0, none⟩) (dgI n 100).length (dgI n 100).length ∧ H.length ≤ o ∧ H'[o]? = some (.cells (ints (dgI n 100)) 3 false)) ∧ H <+: H' := by
  refine in53 rfl ?_
  intro Q hQ
  simp (disch := omega) only [cd53, S, S1, S2, S3, ST, eq_self, ne_eq, not_true_eq_false, not_false_eq_true, and_self, true_and, and_true, reduceIte, reduceCtorEq, Nat.reduceEqDiff, Nat.reduceAdd, Nat.zero_add, Nat.add_zero, Option.map_none, Option.map_some, List.map_cons, List.map_nil, List.append_nil, List.cons_append, List.nil_append, List.getElem?_cons_zero, List.getElem?_cons_succ, List.getD_cons_zero, List.getD_cons_succ, List.getD_nil, Bool.not_true, Bool.not_false, decide_true, decide_false]
  refine LoopH.by (fun m s H' => ∃ i, m + i = 100 ∧ s 0 = .int .i64 n ∧ s 6 = .int .i64 ((i : Nat) : Int) ∧ (∃ o, s 3 = .slice (some ⟨o, 0, none⟩) (dgI n i).length (dgI n i).length ∧ H.length ≤ o ∧ H'[o]? = some (.cells (ints (dgI n i)) 3 false)) ∧ H <+: H') 100 ?_ ?_
  · exact ⟨0, by simp, rfl, rfl, ⟨H.length, rfl, Nat.le_refl _, at_new ..⟩, List.prefix_append _ _⟩
  · rintro m s H' ⟨i, hm, h0, h6, ⟨o, h3, ho, hc⟩, hp⟩
    have hl := dgI_len n i
    have hs := dgI_step n i
    generalize hL : dgI n i = L at *
    simp (disch := omega) only [h0, h6, S, S1, S2, S3, ST, eq_self, ne_eq, not_true_eq_false, not_false_eq_true, and_self, true_and, and_true, reduceIte, reduceCtorEq, Nat.reduceEqDiff, Nat.reduceAdd, Nat.zero_add, Nat.add_zero, Option.map_none, Option.map_some, List.map_cons, List.map_nil, List.append_nil, List.cons_append, List.nil_append, List.getElem?_cons_zero, List.getElem?_cons_succ, List.getD_cons_zero, List.getD_cons_succ, List.getD_nil, Bool.not_true, Bool.not_false, decide_true, decide_false]
    refine brD.intro (fun g => ?_) (fun g => ?_) <;> simp (disch := omega) only [h0, h6, S, S1, S2, S3, ST, eq_self, ne_eq, not_true_eq_false, not_false_eq_true, and_self, true_and, and_true, reduceIte, reduceCtorEq, Nat.reduceEqDiff, Nat.reduceAdd, Nat.zero_add, Nat.add_zero, Option.map_none, Option.map_some, List.map_cons, List.map_nil, List.append_nil, List.cons_append, List.nil_append, List.getElem?_cons_zero, List.getElem?_cons_succ, List.getD_cons_zero, List.getD_cons_succ, List.getD_nil, Bool.not_true, Bool.not_false, decide_true, decide_false]
    · refine CallH.by (isDiagonal_c n i H' hn ⟨by omega, by omega⟩) ?_
      rintro _ _ ⟨rfl, rfl⟩
      simp (disch := omega) only [S, S1, S2, S3, ST, eq_self, ne_eq, not_true_eq_false, not_false_eq_true, and_self, true_and, and_true, reduceIte, reduceCtorEq, Nat.reduceEqDiff, Nat.reduceAdd, Nat.zero_add, Nat.add_zero, Option.map_none, Option.map_some, List.map_cons, List.map_nil, List.append_nil, List.cons_append, List.nil_append, List.getElem?_cons_zero, List.getElem?_cons_succ, List.getD_cons_zero, List.getD_cons_succ, List.getD_nil, Bool.not_true, Bool.not_false, decide_true, decide_false]
      refine brD.intro (fun e => ?_) (fun e => ?_) <;> simp (disch := omega) only [h0, h6, h3, wrap64, appi25 hc, S, S1, S2, S3, ST, eq_self, ne_eq, not_true_eq_false, not_false_eq_true, and_self, true_and, and_true, reduceIte, reduceCtorEq, Nat.reduceEqDiff, Nat.reduceAdd, Nat.zero_add, Nat.add_zero, Option.map_none, Option.map_some, List.map_cons, List.map_nil, List.append_nil, List.cons_append, List.nil_append, List.getElem?_cons_zero, List.getElem?_cons_succ, List.getD_cons_zero, List.getD_cons_succ, List.getD_nil, Bool.not_true, Bool.not_false, decide_true, decide_false]
      · rw [if_pos e] at hs
        have hlt := at_lt hc
        refine ⟨m - 1, by omega, i + 1, by omega, ?_⟩
        rw [hs]
        have fx : ∃ o2, (Value.slice (some ⟨H'.length + 1, 0, none⟩) (L.length + 1) (L.length + 1) = .slice (some ⟨o2, 0, none⟩) (L ++ [(i : Int)]).length (L ++ [(i : Int)]).length) ∧ H.length ≤ o2 ∧ (H'.set o .dead ++ [.cells [.int .i64 i] 3 false, .cells (ints (L ++ [(i : Int)])) 3 false])[o2]? = some (.cells (ints (L ++ [(i : Int)])) 3 false) := ⟨H'.length + 1, by simp, by omega, at_new1 ..⟩
        have hpp := pre_app (pre_set hp ho .dead) [.cells [.int .i64 (i : Int)] 3 false, .cells (ints (L ++ [(i : Int)])) 3 false]
        (repeat' apply And.intro) <;> first | rfl | trivial | assumption | omega | (simp only [Value.int.injEq, true_and]; omega) | (simp; done) | (simp; omega) | exact fx | exact hpp
      · rw [if_neg e] at hs
        refine ⟨m - 1, by omega, i + 1, by omega, ?_⟩
        rw [hs, List.append_nil]
        have fx : ∃ o2, (Value.slice (some ⟨o, 0, none⟩) L.length L.length = .slice (some ⟨o2, 0, none⟩) L.length L.length) ∧ H.length ≤ o2 ∧ H'[o2]? = some (.cells (ints L) 3 false) := ⟨o, rfl, ho, hc⟩
        (repeat' apply And.intro) <;> first | rfl | trivial | assumption | omega | (simp only [Value.int.injEq, true_and]; omega) | (simp; done) | (simp; omega) | exact fx
    · refine hQ _ _ _ ?_
      simp (disch := omega) only [h3, S, S1, S2, S3, ST, eq_self, ne_eq, not_true_eq_false, not_false_eq_true, and_self, true_and, and_true, reduceIte, reduceCtorEq, Nat.reduceEqDiff, Nat.reduceAdd, Nat.zero_add, Nat.add_zero, Option.map_none, Option.map_some, List.map_cons, List.map_nil, List.append_nil, List.cons_append, List.nil_append, List.getElem?_cons_zero, List.getElem?_cons_succ, List.getD_cons_zero, List.getD_cons_succ, List.getD_nil, Bool.not_true, Bool.not_false, decide_true, decide_false]
      have : i = 100 := by omega
      subst this
      rw [hL]
      exact ⟨⟨o, rfl, ho, hc⟩, hp⟩

/-- what stands behind DeleteFunc's first i + 1 steps -/
theorem idxP_lt (p : Int → Bool) : ∀ (xs : List Int) (k : Nat), idxP p xs k = -1 ∨ ∃ i, idxP p xs k = ((k + i : Nat) : Int) ∧ i < xs.length ∧ (xs.take i).filter (fun x => !p x) = xs.take i ∧ p (xs.getD i 0) = true
  | [], k => .inl rfl
  | x :: xs, k => by
    simp only [idxP]
    cases h : p x with
    | true => exact .inr ⟨0, by simp, by simp, by simp, by simp [h]⟩
    | false =>
      rcases idxP_lt p xs (k + 1) with e | ⟨i, e1, e2, e3, e4⟩
      · exact .inl (by simpa using e)
      · exact .inr ⟨i + 1, by simp only [Bool.false_eq_true, if_false]; rw [e1]; congr 1; omega, by simp; omega, by simp [h, e3], by simpa using e4⟩
theorem idxP_none (p : Int → Bool) : ∀ (xs : List Int) (k : Nat), idxP p xs k = -1 → xs.filter (fun x => !p x) = xs
  | [], k, _ => rfl
  | x :: xs, k, e => by
    simp only [idxP] at e
    cases h : p x with
    | true => rw [h, if_pos rfl] at e; omega
    | false =>
      rw [h, if_neg (by decide)] at e
      simp [h, idxP_none p xs (k + 1) e]

set_option maxHeartbeats 2000000 in
theorem DeleteFunc_c (o : Nat) (xs : List Int) (p : Int → Bool) (g : FuncId) (caps : List Value) (H : AH) (ho : H[o]? = some (.cells (ints xs) 3 false)) (hlen : xs.length ≤ 1099511627776)
    (hp : ∀ ys x, x ∈ xs → ACalls Try.prog g (.int .i64 x :: caps) (H.set o (.cells (ints ys) 3 false)) fun r H' => r = .bool (p x) ∧ H.set o (.cells (ints ys) 3 false) = H') :
    ACalls Try.prog 52 [.slice (some ⟨o, 0, none⟩) xs.length xs.length, .func (.func g) #[] (List.toArray caps)] H fun r H' => ∃ zs, r = .slice (some ⟨o, 0, none⟩) (xs.filter fun x => !p x).length (xs.filter fun x => !p x).length ∧ H' = H.set o (.cells (ints zs) 3 false) ∧ zs.take (xs.filter fun x => !p x).length = xs.filter fun x => !p x := by
  have hset : H.set o (.cells (ints xs) 3 false) = H := by
    apply List.ext_getElem?
    intro j
    rw [List.getElem?_set]
    by_cases hj : o = j
    · subst hj; rw [if_pos rfl, if_pos (at_lt ho), ho]
    · rw [if_neg hj]
  have rowOf : ∀ ys : List Int, ys.length = xs.length → Row 3 (H.set o (.cells (ints ys) 3 false)) (.slice (some ⟨o, 0, none⟩) xs.length xs.length) ys := by
    intro ys hy
    refine .inr ⟨o, 0, ints ys, false, by rw [hy], at_set ho, by rw [ints_len]; omega, ?_⟩
    rw [List.drop_zero, List.take_of_length_le (by rw [ints_len]; omega)]
  refine in52 rfl ?_
  intro Q hQ
  simp (disch := omega) only [cd52, S, S1, S2, S3, ST, eq_self, ne_eq, not_true_eq_false, not_false_eq_true, and_self, true_and, and_true, reduceIte, reduceCtorEq, Nat.reduceEqDiff, Nat.reduceAdd, Nat.zero_add, Nat.add_zero, Option.map_none, Option.map_some, List.map_cons, List.map_nil, List.append_nil, List.cons_append, List.nil_append, List.getElem?_cons_zero, List.getElem?_cons_succ, List.getD_cons_zero, List.getD_cons_succ, List.getD_nil, Bool.not_true, Bool.not_false, decide_true, decide_false]
  have hr0 := rowOf xs rfl
  rw [hset] at hr0
  refine CallH.by (IndexFunc_c _ xs p g caps H hr0 hlen (fun x hx => by have := hp xs x hx; rwa [hset] at this)) ?_
  rintro _ _ ⟨rfl, rfl⟩
  simp (disch := omega) only [S, S1, S2, S3, ST, eq_self, ne_eq, not_true_eq_false, not_false_eq_true, and_self, true_and, and_true, reduceIte, reduceCtorEq, Nat.reduceEqDiff, Nat.reduceAdd, Nat.zero_add, Nat.add_zero, Option.map_none, Option.map_some, List.map_cons, List.map_nil, List.append_nil, List.cons_append, List.nil_append, List.getElem?_cons_zero, List.getElem?_cons_succ, List.getD_cons_zero, List.getD_cons_succ, List.getD_nil, Bool.not_true, Bool.not_false, decide_true, decide_false]
  refine brD.intro (fun gg => ?_) (fun gg => ?_) <;> simp (disch := omega) only [S, S1, S2, S3, ST, eq_self, ne_eq, not_true_eq_false, not_false_eq_true, and_self, true_and, and_true, reduceIte, reduceCtorEq, Nat.reduceEqDiff, Nat.reduceAdd, Nat.zero_add, Nat.add_zero, Option.map_none, Option.map_some, List.map_cons, List.map_nil, List.append_nil, List.cons_append, List.nil_append, List.getElem?_cons_zero, List.getElem?_cons_succ, List.getD_cons_zero, List.getD_cons_succ, List.getD_nil, Bool.not_true, Bool.not_false, decide_true, decide_false]
  · refine hQ _ _ _ ?_
    simp (disch := omega) only [S, S1, S2, S3, ST, eq_self, ne_eq, not_true_eq_false, not_false_eq_true, and_self, true_and, and_true, reduceIte, reduceCtorEq, Nat.reduceEqDiff, Nat.reduceAdd, Nat.zero_add, Nat.add_zero, Option.map_none, Option.map_some, List.map_cons, List.map_nil, List.append_nil, List.cons_append, List.nil_append, List.getElem?_cons_zero, List.getElem?_cons_succ, List.getD_cons_zero, List.getD_cons_succ, List.getD_nil, Bool.not_true, Bool.not_false, decide_true, decide_false]
    refine ⟨xs, ?_, hset.symm, ?_⟩
    · rw [idxP_none p xs 0 gg]
    · rw [idxP_none p xs 0 gg, List.take_length]
  · rcases idxP_lt p xs 0 with e | ⟨i0, e1, e2, e3, e4⟩
    · exact absurd e gg
    rw [Nat.zero_add] at e1
    rw [e1]
    simp (disch := omega) only [wrap64, S, S1, S2, S3, ST, eq_self, ne_eq, not_true_eq_false, not_false_eq_true, and_self, true_and, and_true, reduceIte, reduceCtorEq, Nat.reduceEqDiff, Nat.reduceAdd, Nat.zero_add, Nat.add_zero, Option.map_none, Option.map_some, List.map_cons, List.map_nil, List.append_nil, List.cons_append, List.nil_append, List.getElem?_cons_zero, List.getElem?_cons_succ, List.getD_cons_zero, List.getD_cons_succ, List.getD_nil, Bool.not_true, Bool.not_false, decide_true, decide_false]
    refine LoopH.by (fun m s H' => ∃ j i ys, m + j = xs.length ∧ s 0 = .slice (some ⟨o, 0, none⟩) xs.length xs.length ∧ s 1 = .func (.func g) #[] (List.toArray caps) ∧ s 5 = .int .i64 ((i : Nat) : Int) ∧ s 6 = .int .i64 ((j : Nat) : Int) ∧ H' = H.set o (.cells (ints ys) 3 false) ∧ ys.length = xs.length ∧ i < j ∧ ys.take i = (xs.take j).filter (fun x => !p x) ∧ ys.drop j = xs.drop j) (xs.length - i0 - 1) ?_ ?_
    · refine ⟨i0 + 1, i0, xs, by omega, rfl, rfl, by simp [S, S1, S2, S3, ST, eq_self, ne_eq, not_true_eq_false, not_false_eq_true, and_self, true_and, and_true, reduceIte, reduceCtorEq, Nat.reduceEqDiff, Nat.reduceAdd, Nat.zero_add, Nat.add_zero, Option.map_none, Option.map_some, List.map_cons, List.map_nil, List.append_nil, List.cons_append, List.nil_append, List.getElem?_cons_zero, List.getElem?_cons_succ, List.getD_cons_zero, List.getD_cons_succ, List.getD_nil, Bool.not_true, Bool.not_false, decide_true, decide_false], by simp [S, S1, S2, S3, ST, eq_self, ne_eq, not_true_eq_false, not_false_eq_true, and_self, true_and, and_true, reduceIte, reduceCtorEq, Nat.reduceEqDiff, Nat.reduceAdd, Nat.zero_add, Nat.add_zero, Option.map_none, Option.map_some, List.map_cons, List.map_nil, List.append_nil, List.cons_append, List.nil_append, List.getElem?_cons_zero, List.getElem?_cons_succ, List.getD_cons_zero, List.getD_cons_succ, List.getD_nil, Bool.not_true, Bool.not_false, decide_true, decide_false], hset.symm, rfl, by omega, ?_, rfl⟩
      rw [List.take_add_one, List.getElem?_eq_getElem e2, List.filter_append, e3]
      have : xs.getD i0 0 = xs[i0] := by simp [e2]
      rw [this] at e4
      simp [e4]
    · rintro m s H' ⟨j, i, ys, hm, h0, h1, h5, h6, rfl, hyl, hij, hyt, hyd⟩
      have hr := rowOf ys hyl
      have hc' : (H.set o (.cells (ints ys) 3 false))[o]? = some (.cells (ints ys) 3 false) := at_set ho
      have hi : i ≤ xs.length := by have := congrArg List.length hyt; simp at this; have := List.length_filter_le (fun x => !p x) (xs.take j); simp at this; omega
      simp (disch := omega) only [h0, h1, h5, h6, S, S1, S2, S3, ST, eq_self, ne_eq, not_true_eq_false, not_false_eq_true, and_self, true_and, and_true, reduceIte, reduceCtorEq, Nat.reduceEqDiff, Nat.reduceAdd, Nat.zero_add, Nat.add_zero, Option.map_none, Option.map_some, List.map_cons, List.map_nil, List.append_nil, List.cons_append, List.nil_append, List.getElem?_cons_zero, List.getElem?_cons_succ, List.getD_cons_zero, List.getD_cons_succ, List.getD_nil, Bool.not_true, Bool.not_false, decide_true, decide_false]
      refine brD.intro (fun gg => ?_) (fun gg => ?_)
      · have hj : j < xs.length := by omega
        have hy : ys.getD j 0 = xs.getD j 0 := by
          have := congrArg (·[0]?) hyd
          simp only [List.getElem?_drop, Nat.add_zero] at this
          rw [List.getD_eq_getElem?_getD, List.getD_eq_getElem?_getD, this]
        have hx : xs.getD j 0 = xs[j] := by simp [hj]
        have hcell : cellA (H.set o (.cells (ints ys) 3 false)) o j = some (.int .i64 (xs.getD j 0)) := by rw [cell_ints hc' (by omega), hy]
        simp (disch := omega) only [h0, h1, h5, h6, Int.toNat_natCast, hcell, S, S1, S2, S3, ST, eq_self, ne_eq, not_true_eq_false, not_false_eq_true, and_self, true_and, and_true, reduceIte, reduceCtorEq, Nat.reduceEqDiff, Nat.reduceAdd, Nat.zero_add, Nat.add_zero, Option.map_none, Option.map_some, List.map_cons, List.map_nil, List.append_nil, List.cons_append, List.nil_append, List.getElem?_cons_zero, List.getElem?_cons_succ, List.getD_cons_zero, List.getD_cons_succ, List.getD_nil, Bool.not_true, Bool.not_false, decide_true, decide_false]
        refine CallH.by (hp ys (xs.getD j 0) (by rw [hx]; exact List.getElem_mem hj)) ?_
        rintro _ _ ⟨rfl, rfl⟩
        simp (disch := omega) only [S, S1, S2, S3, ST, eq_self, ne_eq, not_true_eq_false, not_false_eq_true, and_self, true_and, and_true, reduceIte, reduceCtorEq, Nat.reduceEqDiff, Nat.reduceAdd, Nat.zero_add, Nat.add_zero, Option.map_none, Option.map_some, List.map_cons, List.map_nil, List.append_nil, List.cons_append, List.nil_append, List.getElem?_cons_zero, List.getElem?_cons_succ, List.getD_cons_zero, List.getD_cons_succ, List.getD_nil, Bool.not_true, Bool.not_false, decide_true, decide_false]
        have hstep : (xs.take (j + 1)).filter (fun x => !p x) = (xs.take j).filter (fun x => !p x) ++ if p (xs.getD j 0) = true then [] else [xs.getD j 0] := by
          rw [List.take_add_one, List.getElem?_eq_getElem hj, List.filter_append, hx]
          cases hh : p xs[j] <;> simp [hh]
        refine brH.intro (fun q => ?_) (fun q => ?_)
        · simp (disch := omega) only [q, h0, h1, h5, h6, Int.toNat_natCast, hcell, wrap64, S, S1, S2, S3, ST, eq_self, ne_eq, not_true_eq_false, not_false_eq_true, and_self, true_and, and_true, reduceIte, reduceCtorEq, Nat.reduceEqDiff, Nat.reduceAdd, Nat.zero_add, Nat.add_zero, Option.map_none, Option.map_some, List.map_cons, List.map_nil, List.append_nil, List.cons_append, List.nil_append, List.getElem?_cons_zero, List.getElem?_cons_succ, List.getD_cons_zero, List.getD_cons_succ, List.getD_nil, Bool.not_true, Bool.not_false, decide_true, decide_false]
          rw [q, if_pos rfl, List.append_nil] at hstep
          have f1 : ys.take i = (xs.take (j + 1)).filter (fun x => !p x) := by rw [hyt, hstep]
          have f2 : ys.drop (j + 1) = xs.drop (j + 1) := by rw [← List.drop_drop, hyd, List.drop_drop]
          refine ⟨m - 1, by omega, j + 1, i, ys, ?_⟩
          (repeat' apply And.intro) <;> first | rfl | trivial | assumption | omega | (simp only [Value.int.injEq, true_and]; omega) | (simp; done) | (simp; omega) | exact f1 | exact f2
        · simp (disch := omega) only [q, h0, h1, h5, h6, Int.toNat_natCast, Nat.zero_add, hcell, st_ints cs3 hc', wrap64, S, S1, S2, S3, ST, eq_self, ne_eq, not_true_eq_false, not_false_eq_true, and_self, true_and, and_true, reduceIte, reduceCtorEq, Nat.reduceEqDiff, Nat.reduceAdd, Nat.zero_add, Nat.add_zero, Option.map_none, Option.map_some, List.map_cons, List.map_nil, List.append_nil, List.cons_append, List.nil_append, List.getElem?_cons_zero, List.getElem?_cons_succ, List.getD_cons_zero, List.getD_cons_succ, List.getD_nil, Bool.not_true, Bool.not_false, decide_true, decide_false]
          rw [q, if_neg (by decide)] at hstep
          have f1 : (ys.set i (xs.getD j 0)).take (i + 1) = (xs.take (j + 1)).filter (fun x => !p x) := by rw [take_set_succ ys i _ (by omega), hyt, hstep]
          have f2 : (ys.set i (xs.getD j 0)).drop (j + 1) = xs.drop (j + 1) := by rw [List.drop_set_of_lt (by omega), ← List.drop_drop, hyd, List.drop_drop]
          have f3 : (ys.set i (xs.getD j 0)).length = xs.length := by simp [hyl]
          have f4 : (H.set o (.cells (ints ys) 3 false)).set o (.cells (ints (ys.set i (xs.getD j 0))) 3 false) = H.set o (.cells (ints (ys.set i (xs.getD j 0))) 3 false) := List.set_set ..
          refine ⟨m - 1, by omega, j + 1, i + 1, ys.set i (xs.getD j 0), ?_⟩
          (repeat' apply And.intro) <;> first | rfl | trivial | assumption | omega | (simp only [Value.int.injEq, true_and]; omega) | (simp; done) | (simp; omega) | exact f1 | exact f2 | exact f3 | exact f4
      · have hj : xs.take j = xs := List.take_of_length_le (by omega)
        rw [hj] at hyt
        have hk : (xs.filter fun x => !p x).length = i := by rw [← hyt]; simp; omega
        have hs1 := hr.slice Try.underlying25 cs3 (lo := some (.int .i64 ((i : Nat) : Int))) (hi := none) (bound_some (by omega) _) (hi_none _) (by omega) (Nat.le_refl _)
        obtain ⟨zs, hz1, hz2, hz3⟩ := clear_ints (P := Try.prog) (k := i) (n := ys.length - i) (c := ys.length - i) Try.underlying25 cs3 ze3 hc' (by omega)
        have hs1' := hs1.1
        simp only [subV, Int.toNat_natCast, Nat.zero_add] at hs1'
        simp (disch := omega) only [h0, h1, h5, h6, hs1', hz1, S, S1, S2, S3, ST, eq_self, ne_eq, not_true_eq_false, not_false_eq_true, and_self, true_and, and_true, reduceIte, reduceCtorEq, Nat.reduceEqDiff, Nat.reduceAdd, Nat.zero_add, Nat.add_zero, Option.map_none, Option.map_some, List.map_cons, List.map_nil, List.append_nil, List.cons_append, List.nil_append, List.getElem?_cons_zero, List.getElem?_cons_succ, List.getD_cons_zero, List.getD_cons_succ, List.getD_nil, Bool.not_true, Bool.not_false, decide_true, decide_false]
        have hr2 := rowOf zs (by omega)
        rw [List.set_set]
        have hs2 := hr2.slice Try.underlying25 cs3 (lo := none) (hi := some (.int .i64 ((i : Nat) : Int))) lo_none (bound_some (by omega) _) (by omega) (by simp; omega)
        have hs2' := hs2.1
        simp only [subV, Int.toNat_natCast, Nat.zero_add, Nat.sub_zero] at hs2'
        simp (disch := omega) only [h0, h1, h5, h6, hs2', S, S1, S2, S3, ST, eq_self, ne_eq, not_true_eq_false, not_false_eq_true, and_self, true_and, and_true, reduceIte, reduceCtorEq, Nat.reduceEqDiff, Nat.reduceAdd, Nat.zero_add, Nat.add_zero, Option.map_none, Option.map_some, List.map_cons, List.map_nil, List.append_nil, List.cons_append, List.nil_append, List.getElem?_cons_zero, List.getElem?_cons_succ, List.getD_cons_zero, List.getD_cons_succ, List.getD_nil, Bool.not_true, Bool.not_false, decide_true, decide_false]
        refine hQ _ _ _ ?_
        simp (disch := omega) only [S, S1, S2, S3, ST, eq_self, ne_eq, not_true_eq_false, not_false_eq_true, and_self, true_and, and_true, reduceIte, reduceCtorEq, Nat.reduceEqDiff, Nat.reduceAdd, Nat.zero_add, Nat.add_zero, Option.map_none, Option.map_some, List.map_cons, List.map_nil, List.append_nil, List.cons_append, List.nil_append, List.getElem?_cons_zero, List.getElem?_cons_succ, List.getD_cons_zero, List.getD_cons_succ, List.getD_nil, Bool.not_true, Bool.not_false, decide_true, decide_false]
        refine ⟨zs, by rw [hk], rfl, ?_⟩
        rw [hk, hz2, hyt]

/-- the fan of a corner -/
def fan (n c : Int) : List Int := (dgs n n.toNat).filter fun d => decide (At d c)
def fanR (n c : Int) : List Int × Bool := if (3 ≤ n ∧ n ≤ 8) ∧ 0 ≤ c ∧ c ≤ n - 1 then (fan n c, true) else ([], false)
theorem fanR_len (n c : Int) : (fanR n c).1.length ≤ 1099511627776 := by
  unfold fanR
  split
  · rename_i h
    have h1 := dgs_len n n.toNat (by omega) (by omega)
    have h2 : (fan n c).length ≤ (dgs n n.toNat).length := List.length_filter_le _ _
    show (fan n c).length ≤ _
    omega
  · simp
theorem dgs_I64 {n d : Int} (hn : 3 ≤ n ∧ n ≤ 8) (h : d ∈ dgs n n.toNat) : I64 d := by
  have := diag_range ((diag_iff n d hn).2 h)
  exact ⟨by omega, by omega⟩

set_option maxHeartbeats 2000000 in
theorem fanS_c (n c : Int) (H : AH) : ACalls Try.prog 22 [.int .i64 n, .int .i64 c] H fun r H' => ∃ g, r = .tuple (List.toArray [g, .bool (fanR n c).2]) ∧ Mine 3 H H' g (fanR n c).1 ∧ H <+: H' := by
  refine in22 rfl ?_
  intro Q hQ
  simp (disch := omega) only [cd22, S, S1, S2, S3, ST, eq_self, ne_eq, not_true_eq_false, not_false_eq_true, and_self, true_and, and_true, reduceIte, reduceCtorEq, Nat.reduceEqDiff, Nat.reduceAdd, Nat.zero_add, Nat.add_zero, Option.map_none, Option.map_some, List.map_cons, List.map_nil, List.append_nil, List.cons_append, List.nil_append, List.getElem?_cons_zero, List.getElem?_cons_succ, List.getD_cons_zero, List.getD_cons_succ, List.getD_nil, Bool.not_true, Bool.not_false, decide_true, decide_false]
  have bad : ¬ ((3 ≤ n ∧ n ≤ 8) ∧ 0 ≤ c ∧ c ≤ n - 1) → fanR n c = ([], false) := fun h => if_neg h
  have hemp : Mine 3 H (H ++ [.cells [] 3 false]) (.slice (some ⟨H.length, 0, none⟩) 0 0) [] := .inr ⟨H.length, [], rfl, Nat.le_refl _, at_new .., rfl⟩
  refine CallH.by (l8Corners_c ..) ?_
  rintro _ _ ⟨rfl, rfl⟩
  simp (disch := omega) only [S, S1, S2, S3, ST, eq_self, ne_eq, not_true_eq_false, not_false_eq_true, and_self, true_and, and_true, reduceIte, reduceCtorEq, Nat.reduceEqDiff, Nat.reduceAdd, Nat.zero_add, Nat.add_zero, Option.map_none, Option.map_some, List.map_cons, List.map_nil, List.append_nil, List.cons_append, List.nil_append, List.getElem?_cons_zero, List.getElem?_cons_succ, List.getD_cons_zero, List.getD_cons_succ, List.getD_nil, Bool.not_true, Bool.not_false, decide_true, decide_false]
  refine brD.intro (fun h => ?_) (fun h => ?_) <;> simp (disch := omega) only [h, wrap64, S, S1, S2, S3, ST, eq_self, ne_eq, not_true_eq_false, not_false_eq_true, and_self, true_and, and_true, reduceIte, reduceCtorEq, Nat.reduceEqDiff, Nat.reduceAdd, Nat.zero_add, Nat.add_zero, Option.map_none, Option.map_some, List.map_cons, List.map_nil, List.append_nil, List.cons_append, List.nil_append, List.getElem?_cons_zero, List.getElem?_cons_succ, List.getD_cons_zero, List.getD_cons_succ, List.getD_nil, Bool.not_true, Bool.not_false, decide_true, decide_false]
  · refine CallH.by (l1In_c ..) ?_
    rintro _ _ ⟨rfl, rfl⟩
    simp (disch := omega) only [h, S, S1, S2, S3, ST, eq_self, ne_eq, not_true_eq_false, not_false_eq_true, and_self, true_and, and_true, reduceIte, reduceCtorEq, Nat.reduceEqDiff, Nat.reduceAdd, Nat.zero_add, Nat.add_zero, Option.map_none, Option.map_some, List.map_cons, List.map_nil, List.append_nil, List.cons_append, List.nil_append, List.getElem?_cons_zero, List.getElem?_cons_succ, List.getD_cons_zero, List.getD_cons_succ, List.getD_nil, Bool.not_true, Bool.not_false, decide_true, decide_false]
    refine brD.intro (fun q => ?_) (fun q => ?_) <;> simp (disch := omega) only [h, q, S, S1, S2, S3, ST, eq_self, ne_eq, not_true_eq_false, not_false_eq_true, and_self, true_and, and_true, reduceIte, reduceCtorEq, Nat.reduceEqDiff, Nat.reduceAdd, Nat.zero_add, Nat.add_zero, Option.map_none, Option.map_some, List.map_cons, List.map_nil, List.append_nil, List.cons_append, List.nil_append, List.getElem?_cons_zero, List.getElem?_cons_succ, List.getD_cons_zero, List.getD_cons_succ, List.getD_nil, Bool.not_true, Bool.not_false, decide_true, decide_false]
    · refine CallH.by (l8Diagonals_c n _ (by omega)) ?_
      rintro all H1 ⟨hall, hp⟩
      have hr := hall.row
      have hl := dgs_len n n.toNat (by omega) (by omega)
      have hI := @dgs_I64 n
      have good : fanR n c = (fan n c, true) := if_pos ⟨h, q⟩
      have hfan : fan n c = (dgs n n.toNat).filter fun d => decide (At d c) := rfl
      rw [good] at hQ
      generalize hL : dgs n n.toNat = L at *
      have hown0 : Own 3 H H1 (.slice (some ⟨H.length, 0, none⟩) 0 0) [] := .inr ⟨H.length, rfl, Nat.le_refl _, pre_at hp (at_new ..)⟩
      have hap0 : Apart all (.slice (some ⟨H.length, 0, none⟩) 0 0) := by
        rcases hall with hh | ⟨o, e1, e2, e3⟩
        · exact .inr (.inl hh.1)
        · refine .inr (.inr ?_)
          rw [e1]
          simp only [rowO]
          simp only [List.length_append, List.length_cons, List.length_nil] at e2
          omega
      simp (disch := omega) only [S, S1, S2, S3, ST, eq_self, ne_eq, not_true_eq_false, not_false_eq_true, and_self, true_and, and_true, reduceIte, reduceCtorEq, Nat.reduceEqDiff, Nat.reduceAdd, Nat.zero_add, Nat.add_zero, Option.map_none, Option.map_some, List.map_cons, List.map_nil, List.append_nil, List.cons_append, List.nil_append, List.getElem?_cons_zero, List.getElem?_cons_succ, List.getD_cons_zero, List.getD_cons_succ, List.getD_nil, Bool.not_true, Bool.not_false, decide_true, decide_false]
      refine LoopH.by (fun m s H' => ∃ i, m + i = L.length ∧ s 1 = .int .i64 c ∧ s 7 = all ∧ s 8 = .int .i64 ((i : Nat) : Int) ∧ Own 3 H H' (s 6) ((L.take i).filter fun d => decide (At d c)) ∧ Apart all (s 6) ∧ H <+: H' ∧ Row 3 H' all L) L.length ?_ ?_
      · refine ⟨0, by simp, rfl, rfl, rfl, ?_, ?_, (List.prefix_append _ _).trans hp, hr⟩
        · simp (disch := omega) only [S, S1, S2, S3, ST, eq_self, ne_eq, not_true_eq_false, not_false_eq_true, and_self, true_and, and_true, reduceIte, reduceCtorEq, Nat.reduceEqDiff, Nat.reduceAdd, Nat.zero_add, Nat.add_zero, Option.map_none, Option.map_some, List.map_cons, List.map_nil, List.append_nil, List.cons_append, List.nil_append, List.getElem?_cons_zero, List.getElem?_cons_succ, List.getD_cons_zero, List.getD_cons_succ, List.getD_nil, Bool.not_true, Bool.not_false, decide_true, decide_false]; exact hown0
        · simp (disch := omega) only [S, S1, S2, S3, ST, eq_self, ne_eq, not_true_eq_false, not_false_eq_true, and_self, true_and, and_true, reduceIte, reduceCtorEq, Nat.reduceEqDiff, Nat.reduceAdd, Nat.zero_add, Nat.add_zero, Option.map_none, Option.map_some, List.map_cons, List.map_nil, List.append_nil, List.cons_append, List.nil_append, List.getElem?_cons_zero, List.getElem?_cons_succ, List.getD_cons_zero, List.getD_cons_succ, List.getD_nil, Bool.not_true, Bool.not_false, decide_true, decide_false]; exact hap0
      · rintro m s H' ⟨i, hm, h1, h7, h8, hown, hap, hpp, hr'⟩
        have hfl := List.length_filter_le (fun d => decide (At d c)) (L.take i)
        have htl : (L.take i).length ≤ i := by simp; omega
        generalize hF : (L.take i).filter (fun d => decide (At d c)) = F at *
        generalize hw : s 6 = w at *
        simp (disch := omega) only [h1, h7, h8, hr'.len Try.underlying25, S, S1, S2, S3, ST, eq_self, ne_eq, not_true_eq_false, not_false_eq_true, and_self, true_and, and_true, reduceIte, reduceCtorEq, Nat.reduceEqDiff, Nat.reduceAdd, Nat.zero_add, Nat.add_zero, Option.map_none, Option.map_some, List.map_cons, List.map_nil, List.append_nil, List.cons_append, List.nil_append, List.getElem?_cons_zero, List.getElem?_cons_succ, List.getD_cons_zero, List.getD_cons_succ, List.getD_nil, Bool.not_true, Bool.not_false, decide_true, decide_false]
        refine brD.intro (fun g => ?_) (fun g => ?_)
        · have hi : i < L.length := by omega
          have hx : L.getD i 0 = L[i] := by simp [hi]
          have hd : I64 (L.getD i 0) := by rw [hx]; exact hI h (List.getElem_mem hi)
          have hst : (L.take (i + 1)).filter (fun d => decide (At d c)) = F ++ if At (L.getD i 0) c then [L.getD i 0] else [] := by
            rw [List.take_add_one, List.getElem?_eq_getElem hi, List.filter_append, hF, hx]
            by_cases e : At L[i] c <;> simp [e]
          obtain ⟨w', H2, k1, k2, k3, k4, k5, k6⟩ := own1_25 hown hpp (by omega) (L.getD i 0)
          have kr := hr'.kept hap k4
          have ka := Apart.new hr' k5
          simp (disch := omega) only [h1, h7, h8, hw, hr'.ix Try.underlying25 cs3, hr'.cell, Int.toNat_natCast, hd.tdiv, wrap64, S, S1, S2, S3, ST, eq_self, ne_eq, not_true_eq_false, not_false_eq_true, and_self, true_and, and_true, reduceIte, reduceCtorEq, Nat.reduceEqDiff, Nat.reduceAdd, Nat.zero_add, Nat.add_zero, Option.map_none, Option.map_some, List.map_cons, List.map_nil, List.append_nil, List.cons_append, List.nil_append, List.getElem?_cons_zero, List.getElem?_cons_succ, List.getD_cons_zero, List.getD_cons_succ, List.getD_nil, Bool.not_true, Bool.not_false, decide_true, decide_false]
          refine brD.intro (fun e => ?_) (fun e => ?_)
          · rw [if_pos (.inl e)] at hst
            simp (disch := omega) only [e, h1, h7, h8, hw, hr'.ix Try.underlying25 cs3, hr'.cell, Int.toNat_natCast, hd.tdiv, wrap64, k1, S, S1, S2, S3, ST, eq_self, ne_eq, not_true_eq_false, not_false_eq_true, and_self, true_and, and_true, reduceIte, reduceCtorEq, Nat.reduceEqDiff, Nat.reduceAdd, Nat.zero_add, Nat.add_zero, Option.map_none, Option.map_some, List.map_cons, List.map_nil, List.append_nil, List.cons_append, List.nil_append, List.getElem?_cons_zero, List.getElem?_cons_succ, List.getD_cons_zero, List.getD_cons_succ, List.getD_nil, Bool.not_true, Bool.not_false, decide_true, decide_false]
            refine ⟨m - 1, by omega, i + 1, by omega, ?_⟩
            rw [hst]
            (repeat' apply And.intro) <;> first | rfl | trivial | assumption | omega | (simp only [Value.int.injEq, true_and]; omega) | (simp; done) | (simp; omega) | exact k2 | exact k3 | exact kr | exact ka
          · simp (disch := omega) only [e, h1, h7, h8, hw, hr'.ix Try.underlying25 cs3, hr'.cell, Int.toNat_natCast, hd.tdiv, wrap64, S, S1, S2, S3, ST, eq_self, ne_eq, not_true_eq_false, not_false_eq_true, and_self, true_and, and_true, reduceIte, reduceCtorEq, Nat.reduceEqDiff, Nat.reduceAdd, Nat.zero_add, Nat.add_zero, Option.map_none, Option.map_some, List.map_cons, List.map_nil, List.append_nil, List.cons_append, List.nil_append, List.getElem?_cons_zero, List.getElem?_cons_succ, List.getD_cons_zero, List.getD_cons_succ, List.getD_nil, Bool.not_true, Bool.not_false, decide_true, decide_false]
            refine brD.intro (fun e2 => ?_) (fun e2 => ?_)
            · rw [if_pos (.inr e2)] at hst
              simp (disch := omega) only [e, e2, h1, h7, h8, hw, hr'.ix Try.underlying25 cs3, hr'.cell, Int.toNat_natCast, hd.tdiv, wrap64, k1, S, S1, S2, S3, ST, eq_self, ne_eq, not_true_eq_false, not_false_eq_true, and_self, true_and, and_true, reduceIte, reduceCtorEq, Nat.reduceEqDiff, Nat.reduceAdd, Nat.zero_add, Nat.add_zero, Option.map_none, Option.map_some, List.map_cons, List.map_nil, List.append_nil, List.cons_append, List.nil_append, List.getElem?_cons_zero, List.getElem?_cons_succ, List.getD_cons_zero, List.getD_cons_succ, List.getD_nil, Bool.not_true, Bool.not_false, decide_true, decide_false]
              refine ⟨m - 1, by omega, i + 1, by omega, ?_⟩
              rw [hst]
              (repeat' apply And.intro) <;> first | rfl | trivial | assumption | omega | (simp only [Value.int.injEq, true_and]; omega) | (simp; done) | (simp; omega) | exact k2 | exact k3 | exact kr | exact ka
            · rw [if_neg (fun hh => hh.elim e e2), List.append_nil] at hst
              simp (disch := omega) only [e, e2, h1, h7, h8, hw, hr'.ix Try.underlying25 cs3, hr'.cell, Int.toNat_natCast, hd.tdiv, wrap64, S, S1, S2, S3, ST, eq_self, ne_eq, not_true_eq_false, not_false_eq_true, and_self, true_and, and_true, reduceIte, reduceCtorEq, Nat.reduceEqDiff, Nat.reduceAdd, Nat.zero_add, Nat.add_zero, Option.map_none, Option.map_some, List.map_cons, List.map_nil, List.append_nil, List.cons_append, List.nil_append, List.getElem?_cons_zero, List.getElem?_cons_succ, List.getD_cons_zero, List.getD_cons_succ, List.getD_nil, Bool.not_true, Bool.not_false, decide_true, decide_false]
              refine ⟨m - 1, by omega, i + 1, by omega, ?_⟩
              rw [hst]
              (repeat' apply And.intro) <;> first | rfl | trivial | assumption | omega | (simp only [Value.int.injEq, true_and]; omega) | (simp; done) | (simp; omega)
        · simp (disch := omega) only [h1, h7, h8, hw, S, S1, S2, S3, ST, eq_self, ne_eq, not_true_eq_false, not_false_eq_true, and_self, true_and, and_true, reduceIte, reduceCtorEq, Nat.reduceEqDiff, Nat.reduceAdd, Nat.zero_add, Nat.add_zero, Option.map_none, Option.map_some, List.map_cons, List.map_nil, List.append_nil, List.cons_append, List.nil_append, List.getElem?_cons_zero, List.getElem?_cons_succ, List.getD_cons_zero, List.getD_cons_succ, List.getD_nil, Bool.not_true, Bool.not_false, decide_true, decide_false]
          refine hQ _ _ _ ?_
          simp (disch := omega) only [hw, hown.row.tup, S, S1, S2, S3, ST, eq_self, ne_eq, not_true_eq_false, not_false_eq_true, and_self, true_and, and_true, reduceIte, reduceCtorEq, Nat.reduceEqDiff, Nat.reduceAdd, Nat.zero_add, Nat.add_zero, Option.map_none, Option.map_some, List.map_cons, List.map_nil, List.append_nil, List.cons_append, List.nil_append, List.getElem?_cons_zero, List.getElem?_cons_succ, List.getD_cons_zero, List.getD_cons_succ, List.getD_nil, Bool.not_true, Bool.not_false, decide_true, decide_false]
          have : L.take i = L := List.take_of_length_le (by omega)
          rw [this] at hF
          rw [hfan, hF]
          exact ⟨_, rfl, hown.mine, hpp⟩
    · refine hQ _ _ _ ?_
      simp (disch := omega) only [bad (by omega), S, S1, S2, S3, ST, eq_self, ne_eq, not_true_eq_false, not_false_eq_true, and_self, true_and, and_true, reduceIte, reduceCtorEq, Nat.reduceEqDiff, Nat.reduceAdd, Nat.zero_add, Nat.add_zero, Option.map_none, Option.map_some, List.map_cons, List.map_nil, List.append_nil, List.cons_append, List.nil_append, List.getElem?_cons_zero, List.getElem?_cons_succ, List.getD_cons_zero, List.getD_cons_succ, List.getD_nil, Bool.not_true, Bool.not_false, decide_true, decide_false]
      exact ⟨_, rfl, hemp, List.prefix_append _ _⟩
  · refine hQ _ _ _ ?_
    simp (disch := omega) only [bad (by omega), S, S1, S2, S3, ST, eq_self, ne_eq, not_true_eq_false, not_false_eq_true, and_self, true_and, and_true, reduceIte, reduceCtorEq, Nat.reduceEqDiff, Nat.reduceAdd, Nat.zero_add, Nat.add_zero, Option.map_none, Option.map_some, List.map_cons, List.map_nil, List.append_nil, List.cons_append, List.nil_append, List.getElem?_cons_zero, List.getElem?_cons_succ, List.getD_cons_zero, List.getD_cons_succ, List.getD_nil, Bool.not_true, Bool.not_false, decide_true, decide_false]
    exact ⟨_, rfl, hemp, List.prefix_append _ _⟩

set_option maxHeartbeats 2000000 in
theorem fanI_c (n c : Int) (H : AH) : ACalls Try.prog 23 [.int .i64 n, .int .i64 c] H fun r H' => ∃ g, r = .tuple (List.toArray [g, .bool (fanR n c).2]) ∧ Mine 3 H H' g (fanR n c).1 ∧ H <+: H' := by
  refine in23 rfl ?_
  intro Q hQ
  have bad : ¬ ((3 ≤ n ∧ n ≤ 8) ∧ 0 ≤ c ∧ c ≤ n - 1) → fanR n c = ([], false) := fun h => if_neg h
  simp (disch := omega) only [cd23, box_int, cell_new, S, S1, S2, S3, ST, eq_self, ne_eq, not_true_eq_false, not_false_eq_true, and_self, true_and, and_true, reduceIte, reduceCtorEq, Nat.reduceEqDiff, Nat.reduceAdd, Nat.zero_add, Nat.add_zero, Option.map_none, Option.map_some, List.map_cons, List.map_nil, List.append_nil, List.cons_append, List.nil_append, List.getElem?_cons_zero, List.getElem?_cons_succ, List.getD_cons_zero, List.getD_cons_succ, List.getD_nil, Bool.not_true, Bool.not_false, decide_true, decide_false]
  have hp0 : H <+: H ++ [AObj.cells [.int .i64 c] 3 false] := List.prefix_append _ _
  refine CallH.by (isPolygon_c ..) ?_
  rintro _ _ ⟨rfl, rfl⟩
  simp (disch := omega) only [S, S1, S2, S3, ST, eq_self, ne_eq, not_true_eq_false, not_false_eq_true, and_self, true_and, and_true, reduceIte, reduceCtorEq, Nat.reduceEqDiff, Nat.reduceAdd, Nat.zero_add, Nat.add_zero, Option.map_none, Option.map_some, List.map_cons, List.map_nil, List.append_nil, List.cons_append, List.nil_append, List.getElem?_cons_zero, List.getElem?_cons_succ, List.getD_cons_zero, List.getD_cons_succ, List.getD_nil, Bool.not_true, Bool.not_false, decide_true, decide_false]
  refine brD.intro (fun h => ?_) (fun h => ?_) <;> simp (disch := omega) only [h, wrap64, cell_new, S, S1, S2, S3, ST, eq_self, ne_eq, not_true_eq_false, not_false_eq_true, and_self, true_and, and_true, reduceIte, reduceCtorEq, Nat.reduceEqDiff, Nat.reduceAdd, Nat.zero_add, Nat.add_zero, Option.map_none, Option.map_some, List.map_cons, List.map_nil, List.append_nil, List.cons_append, List.nil_append, List.getElem?_cons_zero, List.getElem?_cons_succ, List.getD_cons_zero, List.getD_cons_succ, List.getD_nil, Bool.not_true, Bool.not_false, decide_true, decide_false]
  · refine CallH.by (between_c ..) ?_
    rintro _ _ ⟨rfl, rfl⟩
    simp (disch := omega) only [h, S, S1, S2, S3, ST, eq_self, ne_eq, not_true_eq_false, not_false_eq_true, and_self, true_and, and_true, reduceIte, reduceCtorEq, Nat.reduceEqDiff, Nat.reduceAdd, Nat.zero_add, Nat.add_zero, Option.map_none, Option.map_some, List.map_cons, List.map_nil, List.append_nil, List.cons_append, List.nil_append, List.getElem?_cons_zero, List.getElem?_cons_succ, List.getD_cons_zero, List.getD_cons_succ, List.getD_nil, Bool.not_true, Bool.not_false, decide_true, decide_false]
    refine brD.intro (fun q => ?_) (fun q => ?_) <;> simp (disch := omega) only [h, q, mkf_p, S, S1, S2, S3, ST, eq_self, ne_eq, not_true_eq_false, not_false_eq_true, and_self, true_and, and_true, reduceIte, reduceCtorEq, Nat.reduceEqDiff, Nat.reduceAdd, Nat.zero_add, Nat.add_zero, Option.map_none, Option.map_some, List.map_cons, List.map_nil, List.append_nil, List.cons_append, List.nil_append, List.getElem?_cons_zero, List.getElem?_cons_succ, List.getD_cons_zero, List.getD_cons_succ, List.getD_nil, Bool.not_true, Bool.not_false, decide_true, decide_false]
    · refine CallH.by (diagonals_c n _ (by omega)) ?_
      rintro _ H1 ⟨⟨o, rfl, ho, hc⟩, hp⟩
      have good : fanR n c = (fan n c, true) := if_pos ⟨h, q⟩
      have hL : dgI n 100 = dgs n n.toNat := by
        have := dgI_eq ⟨n.toNat, by omega⟩ (by show 3 ≤ n.toNat; omega)
        simpa [show ((n.toNat : Nat) : Int) = n by omega] using this
      have hI := @dgs_I64 n
      have hl := dgs_len n n.toNat (by omega) (by omega)
      have hfan : fan n c = (dgs n n.toNat).filter fun d => decide (At d c) := rfl
      rw [hL] at hc
      rw [good] at hQ
      rw [hL]
      generalize dgs n n.toNat = L at *
      simp (disch := omega) only [S, S1, S2, S3, ST, eq_self, ne_eq, not_true_eq_false, not_false_eq_true, and_self, true_and, and_true, reduceIte, reduceCtorEq, Nat.reduceEqDiff, Nat.reduceAdd, Nat.zero_add, Nat.add_zero, Option.map_none, Option.map_some, List.map_cons, List.map_nil, List.append_nil, List.cons_append, List.nil_append, List.getElem?_cons_zero, List.getElem?_cons_succ, List.getD_cons_zero, List.getD_cons_succ, List.getD_nil, Bool.not_true, Bool.not_false, decide_true, decide_false]
      refine CallH.by (DeleteFunc_c o L (fun d => !decide (At d c)) 54 [.pointer (some ⟨H.length, 0, none⟩)] H1 hc (by omega) ?_) ?_
      · intro ys x hx
        refine fanClos_c x c H.length _ (hI h hx) ?_
        have : (H ++ [AObj.cells [.int .i64 c] 3 false])[H.length]? = some (.cells [.int .i64 c] 3 false) := at_new ..
        have h2 := pre_at hp this
        have hne : o ≠ H.length := by
          simp only [List.length_append, List.length_cons, List.length_nil] at ho
          omega
        unfold cellA
        rw [List.getElem?_set_ne hne, h2]; rfl
      rintro _ H2 ⟨zs, rfl, rfl, hz⟩
      simp (disch := omega) only [S, S1, S2, S3, ST, eq_self, ne_eq, not_true_eq_false, not_false_eq_true, and_self, true_and, and_true, reduceIte, reduceCtorEq, Nat.reduceEqDiff, Nat.reduceAdd, Nat.zero_add, Nat.add_zero, Option.map_none, Option.map_some, List.map_cons, List.map_nil, List.append_nil, List.cons_append, List.nil_append, List.getElem?_cons_zero, List.getElem?_cons_succ, List.getD_cons_zero, List.getD_cons_succ, List.getD_nil, Bool.not_true, Bool.not_false, decide_true, decide_false]
      refine hQ _ _ _ ?_
      simp (disch := omega) only [S, S1, S2, S3, ST, eq_self, ne_eq, not_true_eq_false, not_false_eq_true, and_self, true_and, and_true, reduceIte, reduceCtorEq, Nat.reduceEqDiff, Nat.reduceAdd, Nat.zero_add, Nat.add_zero, Option.map_none, Option.map_some, List.map_cons, List.map_nil, List.append_nil, List.cons_append, List.nil_append, List.getElem?_cons_zero, List.getElem?_cons_succ, List.getD_cons_zero, List.getD_cons_succ, List.getD_nil, Bool.not_true, Bool.not_false, decide_true, decide_false]
      simp only [Bool.not_not] at hz ⊢
      rw [← hfan] at hz ⊢
      simp only [List.length_append, List.length_cons, List.length_nil] at ho
      exact ⟨_, rfl, .inr ⟨o, zs, rfl, by omega, at_set hc, hz⟩, pre_set (hp0.trans hp) (by omega) _⟩
    · refine hQ _ _ _ ?_
      simp (disch := omega) only [bad (by omega), S, S1, S2, S3, ST, eq_self, ne_eq, not_true_eq_false, not_false_eq_true, and_self, true_and, and_true, reduceIte, reduceCtorEq, Nat.reduceEqDiff, Nat.reduceAdd, Nat.zero_add, Nat.add_zero, Option.map_none, Option.map_some, List.map_cons, List.map_nil, List.append_nil, List.cons_append, List.nil_append, List.getElem?_cons_zero, List.getElem?_cons_succ, List.getD_cons_zero, List.getD_cons_succ, List.getD_nil, Bool.not_true, Bool.not_false, decide_true, decide_false]
      exact ⟨_, rfl, .inl ⟨rfl, rfl⟩, hp0⟩
  · refine hQ _ _ _ ?_
    simp (disch := omega) only [bad (by omega), S, S1, S2, S3, ST, eq_self, ne_eq, not_true_eq_false, not_false_eq_true, and_self, true_and, and_true, reduceIte, reduceCtorEq, Nat.reduceEqDiff, Nat.reduceAdd, Nat.zero_add, Nat.add_zero, Option.map_none, Option.map_some, List.map_cons, List.map_nil, List.append_nil, List.cons_append, List.nil_append, List.getElem?_cons_zero, List.getElem?_cons_succ, List.getD_cons_zero, List.getD_cons_succ, List.getD_nil, Bool.not_true, Bool.not_false, decide_true, decide_false]
    exact ⟨_, rfl, .inl ⟨rfl, rfl⟩, hp0⟩
end Go.Proofs.Ytedlnjcfacadgaa.Ai
