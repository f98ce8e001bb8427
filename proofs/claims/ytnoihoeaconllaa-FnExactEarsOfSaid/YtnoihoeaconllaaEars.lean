/- EarsOf, both sides. -/
import Derived.Test.YtnoihoeaconllaaAt
import Derived.Test.YtnoihoeaconllaaAiH
import Derived.Test.YtnoihoeaconllaaCdEars
namespace Go.Proofs.Ytnoihoeaconllaa.Ai
open Go Go.RowKit
set_option linter.unusedVariables false
set_option linter.unusedSimpArgs false

def ears (xs : List Int) : Nat → List Int
  | 0 => []
  | k + 1 => ears xs k ++ if atN xs (k : Int) = 0 then [(k : Int)] else []
theorem ears_len (xs : List Int) (k : Nat) : (ears xs k).length ≤ k := by
  induction k with
  | zero => exact Nat.le_refl _
  | succ k ih => simp only [ears, List.length_append]; split <;> simp <;> omega
def earsR (n : Int) (xs : List Int) : List Int := if Tri1 n xs then ears xs n.toNat else []
theorem earsR_len (n : Int) (xs : List Int) : (earsR n xs).length ≤ 1099511627776 := by
  unfold earsR
  split
  · rename_i h
    have := ears_len xs n.toNat
    have := h.1
    omega
  · simp

set_option maxHeartbeats 2000000 in
theorem EarsS_c (n : Int) (v : Value) (xs : List Int) (H : AH) (hr : Row 3 H v xs) (hlen : xs.length ≤ 1099511627776) (hxs : ∀ y ∈ xs, I64 y) :
    ACalls Try.prog 23 [.int .i64 n, v] H fun r H' => ∃ g, r = .tuple (List.toArray [g, .bool (decide (Tri1 n xs))]) ∧ Mine 3 H H' g (earsR n xs) ∧ H <+: H' := by
  refine in23 rfl ?_
  intro Q hQ
  have hp0 := List.prefix_append H [AObj.cells [] 3 false]
  have hown0 : Own 3 H (H ++ [AObj.cells [] 3 false]) (.slice (some ⟨H.length, 0, none⟩) 0 0) [] := .inr ⟨H.length, rfl, Nat.le_refl _, at_new ..⟩
  simp (maxSteps := 1000000) (disch := omega) only [cd23, S, S1, S2, S3, S4, ST, eq_self, ne_eq, not_true_eq_false, not_false_eq_true, and_self, true_and, and_true, reduceIte, reduceCtorEq, Nat.reduceEqDiff, Nat.reduceAdd, Nat.zero_add, Nat.add_zero, Option.map_none, Option.map_some, List.map_cons, List.map_nil, List.append_nil, List.cons_append, List.nil_append, List.getElem?_cons_zero, List.getElem?_cons_succ, List.getD_cons_zero, List.getD_cons_succ, List.getD_nil, Bool.not_true, Bool.not_false, decide_true, decide_false]
  refine CallH.by (valid_c n v xs _ (hr.pre hp0) hlen hxs) ?_
  rintro _ H1 ⟨rfl, hp1⟩
  have hp := hp0.trans hp1
  simp (maxSteps := 1000000) (disch := omega) only [S, S1, S2, S3, S4, ST, eq_self, ne_eq, not_true_eq_false, not_false_eq_true, and_self, true_and, and_true, reduceIte, reduceCtorEq, Nat.reduceEqDiff, Nat.reduceAdd, Nat.zero_add, Nat.add_zero, Option.map_none, Option.map_some, List.map_cons, List.map_nil, List.append_nil, List.cons_append, List.nil_append, List.getElem?_cons_zero, List.getElem?_cons_succ, List.getD_cons_zero, List.getD_cons_succ, List.getD_nil, Bool.not_true, Bool.not_false, decide_true, decide_false]
  refine brD.intro (fun ha => ?_) (fun ha => ?_) <;> simp (maxSteps := 1000000) (disch := omega) only [ha, S, S1, S2, S3, S4, ST, eq_self, ne_eq, not_true_eq_false, not_false_eq_true, and_self, true_and, and_true, reduceIte, reduceCtorEq, Nat.reduceEqDiff, Nat.reduceAdd, Nat.zero_add, Nat.add_zero, Option.map_none, Option.map_some, List.map_cons, List.map_nil, List.append_nil, List.cons_append, List.nil_append, List.getElem?_cons_zero, List.getElem?_cons_succ, List.getD_cons_zero, List.getD_cons_succ, List.getD_nil, Bool.not_true, Bool.not_false, decide_true, decide_false]
  · have hn := ha.1
    refine LoopH.by (fun m s H' => ∃ i, m + i = n.toNat ∧ s 0 = .int .i64 n ∧ s 1 = v ∧ s 7 = .int .i64 ((i : Nat) : Int) ∧ Own 3 H H' (s 6) (ears xs i) ∧ H <+: H') n.toNat ?_ ?_
    · refine ⟨0, by simp, rfl, rfl, rfl, ?_, hp⟩
      simp (maxSteps := 1000000) (disch := omega) only [S, S1, S2, S3, S4, ST, eq_self, ne_eq, not_true_eq_false, not_false_eq_true, and_self, true_and, and_true, reduceIte, reduceCtorEq, Nat.reduceEqDiff, Nat.reduceAdd, Nat.zero_add, Nat.add_zero, Option.map_none, Option.map_some, List.map_cons, List.map_nil, List.append_nil, List.cons_append, List.nil_append, List.getElem?_cons_zero, List.getElem?_cons_succ, List.getD_cons_zero, List.getD_cons_succ, List.getD_nil, Bool.not_true, Bool.not_false, decide_true, decide_false]; exact hown0.pre hp1
    · rintro m s H' ⟨i, hm, h0, h1, h7, hown, hpp⟩
      have hr' := hr.pre hpp
      have hel := ears_len xs i
      have st : ears xs (i + 1) = ears xs i ++ if atN xs (i : Int) = 0 then [(i : Int)] else [] := rfl
      generalize hE : ears xs i = E at *
      generalize hw : s 6 = w at *
      simp (maxSteps := 1000000) (disch := omega) only [h0, h1, h7, hw, S, S1, S2, S3, S4, ST, eq_self, ne_eq, not_true_eq_false, not_false_eq_true, and_self, true_and, and_true, reduceIte, reduceCtorEq, Nat.reduceEqDiff, Nat.reduceAdd, Nat.zero_add, Nat.add_zero, Option.map_none, Option.map_some, List.map_cons, List.map_nil, List.append_nil, List.cons_append, List.nil_append, List.getElem?_cons_zero, List.getElem?_cons_succ, List.getD_cons_zero, List.getD_cons_succ, List.getD_nil, Bool.not_true, Bool.not_false, decide_true, decide_false]
      refine brD.intro (fun g => ?_) (fun g => ?_) <;> simp (maxSteps := 1000000) (disch := omega) only [h0, h1, h7, hw, S, S1, S2, S3, S4, ST, eq_self, ne_eq, not_true_eq_false, not_false_eq_true, and_self, true_and, and_true, reduceIte, reduceCtorEq, Nat.reduceEqDiff, Nat.reduceAdd, Nat.zero_add, Nat.add_zero, Option.map_none, Option.map_some, List.map_cons, List.map_nil, List.append_nil, List.cons_append, List.nil_append, List.getElem?_cons_zero, List.getElem?_cons_succ, List.getD_cons_zero, List.getD_cons_succ, List.getD_nil, Bool.not_true, Bool.not_false, decide_true, decide_false]
      · refine CallH.by (l8At_c v xs _ H' hr' hlen hxs) ?_
        rintro _ _ ⟨rfl, rfl⟩
        simp (maxSteps := 1000000) (disch := omega) only [S, S1, S2, S3, S4, ST, eq_self, ne_eq, not_true_eq_false, not_false_eq_true, and_self, true_and, and_true, reduceIte, reduceCtorEq, Nat.reduceEqDiff, Nat.reduceAdd, Nat.zero_add, Nat.add_zero, Option.map_none, Option.map_some, List.map_cons, List.map_nil, List.append_nil, List.cons_append, List.nil_append, List.getElem?_cons_zero, List.getElem?_cons_succ, List.getD_cons_zero, List.getD_cons_succ, List.getD_nil, Bool.not_true, Bool.not_false, decide_true, decide_false]
        refine brD.intro (fun e => ?_) (fun e => ?_)
        · have hst : ears xs (i + 1) = E ++ [(i : Int)] := by rw [st, if_pos (by omega)]
          obtain ⟨w', H2, k1, k2, k3, k4, k5, k6⟩ := own1_22 hown hpp (by omega) (i : Int)
          rw [← hst] at k2
          simp (maxSteps := 1000000) (disch := omega) only [e, h0, h1, h7, hw, k1, wrap64, S, S1, S2, S3, S4, ST, eq_self, ne_eq, not_true_eq_false, not_false_eq_true, and_self, true_and, and_true, reduceIte, reduceCtorEq, Nat.reduceEqDiff, Nat.reduceAdd, Nat.zero_add, Nat.add_zero, Option.map_none, Option.map_some, List.map_cons, List.map_nil, List.append_nil, List.cons_append, List.nil_append, List.getElem?_cons_zero, List.getElem?_cons_succ, List.getD_cons_zero, List.getD_cons_succ, List.getD_nil, Bool.not_true, Bool.not_false, decide_true, decide_false]
          refine ⟨m - 1, by omega, i + 1, by omega, ?_⟩
          (repeat' apply And.intro) <;> first | exact k2 | exact k3 | (simp only [Value.int.injEq, true_and]; omega) | omega | rfl | assumption | (simp; done) | (simp; omega)
        · have hst : ears xs (i + 1) = E := by rw [st, if_neg (by omega), List.append_nil]
          simp (maxSteps := 1000000) (disch := omega) only [e, h0, h1, h7, hw, wrap64, S, S1, S2, S3, S4, ST, eq_self, ne_eq, not_true_eq_false, not_false_eq_true, and_self, true_and, and_true, reduceIte, reduceCtorEq, Nat.reduceEqDiff, Nat.reduceAdd, Nat.zero_add, Nat.add_zero, Option.map_none, Option.map_some, List.map_cons, List.map_nil, List.append_nil, List.cons_append, List.nil_append, List.getElem?_cons_zero, List.getElem?_cons_succ, List.getD_cons_zero, List.getD_cons_succ, List.getD_nil, Bool.not_true, Bool.not_false, decide_true, decide_false]
          refine ⟨m - 1, by omega, i + 1, by omega, ?_⟩
          rw [hst]
          (repeat' apply And.intro) <;> first | (simp only [Value.int.injEq, true_and]; omega) | omega | rfl | assumption | (simp; done) | (simp; omega)
      · refine hQ _ _ _ ?_
        simp (maxSteps := 1000000) (disch := omega) only [hw, hown.row.tup, S, S1, S2, S3, S4, ST, eq_self, ne_eq, not_true_eq_false, not_false_eq_true, and_self, true_and, and_true, reduceIte, reduceCtorEq, Nat.reduceEqDiff, Nat.reduceAdd, Nat.zero_add, Nat.add_zero, Option.map_none, Option.map_some, List.map_cons, List.map_nil, List.append_nil, List.cons_append, List.nil_append, List.getElem?_cons_zero, List.getElem?_cons_succ, List.getD_cons_zero, List.getD_cons_succ, List.getD_nil, Bool.not_true, Bool.not_false, decide_true, decide_false]
        have hi : i = n.toNat := by omega
        have e : earsR n xs = ears xs n.toNat := if_pos ha
        rw [e, ← hi, hE]
        exact ⟨w, by simp [ha], hown.mine, hpp⟩
  · refine hQ _ _ _ ?_
    simp (maxSteps := 1000000) (disch := omega) only [S, S1, S2, S3, S4, ST, eq_self, ne_eq, not_true_eq_false, not_false_eq_true, and_self, true_and, and_true, reduceIte, reduceCtorEq, Nat.reduceEqDiff, Nat.reduceAdd, Nat.zero_add, Nat.add_zero, Option.map_none, Option.map_some, List.map_cons, List.map_nil, List.append_nil, List.cons_append, List.nil_append, List.getElem?_cons_zero, List.getElem?_cons_succ, List.getD_cons_zero, List.getD_cons_succ, List.getD_nil, Bool.not_true, Bool.not_false, decide_true, decide_false]
    have e : earsR n xs = [] := if_neg ha
    rw [e]
    exact ⟨_, by simp [ha], (hown0.pre hp1).mine, hp⟩

set_option maxHeartbeats 2000000 in
theorem EarsI_c (n : Int) (v : Value) (xs : List Int) (H : AH) (hr : Row 3 H v xs) (hlen : xs.length ≤ 1099511627776) (hxs : ∀ y ∈ xs, I64 y) :
    ACalls Try.prog 24 [.int .i64 n, v] H fun r H' => ∃ g, r = .tuple (List.toArray [g, .bool (decide (Tri1 n xs))]) ∧ Mine 3 H H' g (earsR n xs) ∧ H <+: H' := by
  refine in24 rfl ?_
  intro Q hQ
  obtain ⟨pv, ev⟩ := hr.shape
  subst ev
  simp (maxSteps := 1000000) (disch := omega) only [cd24, S, S1, S2, S3, S4, ST, eq_self, ne_eq, not_true_eq_false, not_false_eq_true, and_self, true_and, and_true, reduceIte, reduceCtorEq, Nat.reduceEqDiff, Nat.reduceAdd, Nat.zero_add, Nat.add_zero, Option.map_none, Option.map_some, List.map_cons, List.map_nil, List.append_nil, List.cons_append, List.nil_append, List.getElem?_cons_zero, List.getElem?_cons_succ, List.getD_cons_zero, List.getD_cons_succ, List.getD_nil, Bool.not_true, Bool.not_false, decide_true, decide_false]
  generalize hv : Value.slice pv xs.length xs.length = v at *
  have hp0 : H <+: H ++ [AObj.cells [v] 22 false] := List.prefix_append _ _
  refine CallH.by (are1_c n v xs _ _ H rfl rfl hr hlen hxs) ?_
  rintro _ H1 ⟨rfl, hp1⟩
  have hp := hp0.trans hp1
  simp (maxSteps := 1000000) (disch := omega) only [S, S1, S2, S3, S4, ST, eq_self, ne_eq, not_true_eq_false, not_false_eq_true, and_self, true_and, and_true, reduceIte, reduceCtorEq, Nat.reduceEqDiff, Nat.reduceAdd, Nat.zero_add, Nat.add_zero, Option.map_none, Option.map_some, List.map_cons, List.map_nil, List.append_nil, List.cons_append, List.nil_append, List.getElem?_cons_zero, List.getElem?_cons_succ, List.getD_cons_zero, List.getD_cons_succ, List.getD_nil, Bool.not_true, Bool.not_false, decide_true, decide_false]
  refine brD.intro (fun ha => ?_) (fun ha => ?_) <;> simp (maxSteps := 1000000) (disch := omega) only [ha, S, S1, S2, S3, S4, ST, eq_self, ne_eq, not_true_eq_false, not_false_eq_true, and_self, true_and, and_true, reduceIte, reduceCtorEq, Nat.reduceEqDiff, Nat.reduceAdd, Nat.zero_add, Nat.add_zero, Option.map_none, Option.map_some, List.map_cons, List.map_nil, List.append_nil, List.cons_append, List.nil_append, List.getElem?_cons_zero, List.getElem?_cons_succ, List.getD_cons_zero, List.getD_cons_succ, List.getD_nil, Bool.not_true, Bool.not_false, decide_true, decide_false]
  · have hn := ha.1
    have hown0 : Own 3 H (H1 ++ [AObj.cells [] 3 false]) (.slice (some ⟨H1.length, 0, none⟩) 0 0) [] := .inr ⟨H1.length, rfl, hp.length_le, at_new ..⟩
    refine LoopH.by (fun m s H' => ∃ i, m + i = n.toNat ∧ s 1 = v ∧ s 15 = .int .i64 ((i : Nat) : Int) ∧ s 14 = .int .i64 n ∧ Own 3 H H' (s 6) (ears xs i) ∧ H <+: H') n.toNat ?_ ?_
    · refine ⟨0, by simp, rfl, rfl, rfl, ?_, pre_app hp _⟩
      simp (maxSteps := 1000000) (disch := omega) only [S, S1, S2, S3, S4, ST, eq_self, ne_eq, not_true_eq_false, not_false_eq_true, and_self, true_and, and_true, reduceIte, reduceCtorEq, Nat.reduceEqDiff, Nat.reduceAdd, Nat.zero_add, Nat.add_zero, Option.map_none, Option.map_some, List.map_cons, List.map_nil, List.append_nil, List.cons_append, List.nil_append, List.getElem?_cons_zero, List.getElem?_cons_succ, List.getD_cons_zero, List.getD_cons_succ, List.getD_nil, Bool.not_true, Bool.not_false, decide_true, decide_false]; exact hown0
    · rintro m s H' ⟨i, hm, h1, h7, h8, hown, hpp⟩
      have hr' := hr.pre hpp
      have hel := ears_len xs i
      have st : ears xs (i + 1) = ears xs i ++ if atN xs (i : Int) = 0 then [(i : Int)] else [] := rfl
      generalize hE : ears xs i = E at *
      generalize hw : s 6 = w at *
      simp (maxSteps := 1000000) (disch := omega) only [h1, h7, h8, hw, S, S1, S2, S3, S4, ST, eq_self, ne_eq, not_true_eq_false, not_false_eq_true, and_self, true_and, and_true, reduceIte, reduceCtorEq, Nat.reduceEqDiff, Nat.reduceAdd, Nat.zero_add, Nat.add_zero, Option.map_none, Option.map_some, List.map_cons, List.map_nil, List.append_nil, List.cons_append, List.nil_append, List.getElem?_cons_zero, List.getElem?_cons_succ, List.getD_cons_zero, List.getD_cons_succ, List.getD_nil, Bool.not_true, Bool.not_false, decide_true, decide_false]
      refine brD.intro (fun g => ?_) (fun g => ?_) <;> simp (maxSteps := 1000000) (disch := omega) only [h1, h7, h8, hw, S, S1, S2, S3, S4, ST, eq_self, ne_eq, not_true_eq_false, not_false_eq_true, and_self, true_and, and_true, reduceIte, reduceCtorEq, Nat.reduceEqDiff, Nat.reduceAdd, Nat.zero_add, Nat.add_zero, Option.map_none, Option.map_some, List.map_cons, List.map_nil, List.append_nil, List.cons_append, List.nil_append, List.getElem?_cons_zero, List.getElem?_cons_succ, List.getD_cons_zero, List.getD_cons_succ, List.getD_nil, Bool.not_true, Bool.not_false, decide_true, decide_false]
      · refine CallH.by (at_c v xs _ H' hr' hlen hxs) ?_
        rintro _ _ ⟨rfl, rfl⟩
        simp (maxSteps := 1000000) (disch := omega) only [S, S1, S2, S3, S4, ST, eq_self, ne_eq, not_true_eq_false, not_false_eq_true, and_self, true_and, and_true, reduceIte, reduceCtorEq, Nat.reduceEqDiff, Nat.reduceAdd, Nat.zero_add, Nat.add_zero, Option.map_none, Option.map_some, List.map_cons, List.map_nil, List.append_nil, List.cons_append, List.nil_append, List.getElem?_cons_zero, List.getElem?_cons_succ, List.getD_cons_zero, List.getD_cons_succ, List.getD_nil, Bool.not_true, Bool.not_false, decide_true, decide_false]
        refine brD.intro (fun e => ?_) (fun e => ?_)
        · have hst : ears xs (i + 1) = E ++ [(i : Int)] := by rw [st, if_pos (by omega)]
          obtain ⟨w', H2, k1, k2, k3, k4, k5, k6⟩ := own1_22 hown hpp (by omega) (i : Int)
          rw [← hst] at k2
          simp (maxSteps := 1000000) (disch := omega) only [e, h1, h7, h8, hw, k1, wrap64, S, S1, S2, S3, S4, ST, eq_self, ne_eq, not_true_eq_false, not_false_eq_true, and_self, true_and, and_true, reduceIte, reduceCtorEq, Nat.reduceEqDiff, Nat.reduceAdd, Nat.zero_add, Nat.add_zero, Option.map_none, Option.map_some, List.map_cons, List.map_nil, List.append_nil, List.cons_append, List.nil_append, List.getElem?_cons_zero, List.getElem?_cons_succ, List.getD_cons_zero, List.getD_cons_succ, List.getD_nil, Bool.not_true, Bool.not_false, decide_true, decide_false]
          refine ⟨m - 1, by omega, i + 1, by omega, ?_⟩
          (repeat' apply And.intro) <;> first | exact k2 | exact k3 | (simp only [Value.int.injEq, true_and]; omega) | omega | rfl | assumption | (simp; done) | (simp; omega)
        · have hst : ears xs (i + 1) = E := by rw [st, if_neg (by omega), List.append_nil]
          simp (maxSteps := 1000000) (disch := omega) only [e, h1, h7, h8, hw, wrap64, S, S1, S2, S3, S4, ST, eq_self, ne_eq, not_true_eq_false, not_false_eq_true, and_self, true_and, and_true, reduceIte, reduceCtorEq, Nat.reduceEqDiff, Nat.reduceAdd, Nat.zero_add, Nat.add_zero, Option.map_none, Option.map_some, List.map_cons, List.map_nil, List.append_nil, List.cons_append, List.nil_append, List.getElem?_cons_zero, List.getElem?_cons_succ, List.getD_cons_zero, List.getD_cons_succ, List.getD_nil, Bool.not_true, Bool.not_false, decide_true, decide_false]
          refine ⟨m - 1, by omega, i + 1, by omega, ?_⟩
          rw [hst]
          (repeat' apply And.intro) <;> first | (simp only [Value.int.injEq, true_and]; omega) | omega | rfl | assumption | (simp; done) | (simp; omega)
      · refine hQ _ _ _ ?_
        simp (maxSteps := 1000000) (disch := omega) only [hw, hown.row.tup, S, S1, S2, S3, S4, ST, eq_self, ne_eq, not_true_eq_false, not_false_eq_true, and_self, true_and, and_true, reduceIte, reduceCtorEq, Nat.reduceEqDiff, Nat.reduceAdd, Nat.zero_add, Nat.add_zero, Option.map_none, Option.map_some, List.map_cons, List.map_nil, List.append_nil, List.cons_append, List.nil_append, List.getElem?_cons_zero, List.getElem?_cons_succ, List.getD_cons_zero, List.getD_cons_succ, List.getD_nil, Bool.not_true, Bool.not_false, decide_true, decide_false]
        have hi : i = n.toNat := by omega
        have e : earsR n xs = ears xs n.toNat := if_pos ha
        rw [e, ← hi, hE]
        exact ⟨w, by simp [ha], hown.mine, hpp⟩
  · refine hQ _ _ _ ?_
    simp (maxSteps := 1000000) (disch := omega) only [S, S1, S2, S3, S4, ST, eq_self, ne_eq, not_true_eq_false, not_false_eq_true, and_self, true_and, and_true, reduceIte, reduceCtorEq, Nat.reduceEqDiff, Nat.reduceAdd, Nat.zero_add, Nat.add_zero, Option.map_none, Option.map_some, List.map_cons, List.map_nil, List.append_nil, List.cons_append, List.nil_append, List.getElem?_cons_zero, List.getElem?_cons_succ, List.getD_cons_zero, List.getD_cons_succ, List.getD_nil, Bool.not_true, Bool.not_false, decide_true, decide_false]
    have e : earsR n xs = [] := if_neg ha
    rw [e]
    exact ⟨_, by simp [ha], .inl ⟨rfl, rfl⟩, hp⟩
end Go.Proofs.Ytnoihoeaconllaa.Ai
