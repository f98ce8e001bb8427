/- A number put into an ascending list (spec.l1Put). -/
import Derived.Test.YtahakecifgjcnaaPutP
import Derived.Test.YtahakecifgjcnaaTy
import Derived.Test.YtahakecifgjcnaaCdPut
namespace Go.Proofs.Ytahakecifgjcnaa.Ai
open Go Go.RowKit
set_option linter.unusedVariables false
set_option linter.unusedSimpArgs false

set_option maxHeartbeats 2000000 in
theorem l1Put_c (v : Value) (l : List Int) (x : Int) (H : AH) (hr : Row 3 H v l) (hlen : l.length ≤ 1000000) (hx : x ∉ l) :
    ACalls Try.prog 70 [v, .int .i64 x] H fun r H' => Own 3 H H' r (put l x) ∧ H <+: H' := by
  refine in70 rfl ?_
  intro Q hQ
  simp (maxSteps := 1000000) (disch := omega) only [cd70, S, S1, S2, S3, S4, ST, eq_self, ne_eq, not_true_eq_false, not_false_eq_true, and_self, true_and, and_true, reduceIte, reduceCtorEq, Nat.reduceEqDiff, Nat.reduceAdd, Nat.zero_add, Nat.add_zero, Option.map_none, Option.map_some, List.map_cons, List.map_nil, List.append_nil, List.cons_append, List.nil_append, List.getElem?_cons_zero, List.getElem?_cons_succ, List.getD_cons_zero, List.getD_cons_succ, List.getD_nil, Bool.not_true, Bool.not_false, decide_true, decide_false]
  refine LoopH.by (fun m s H' => ∃ i, m + i = l.length ∧ s 0 = v ∧ s 1 = .int .i64 x ∧ s 5 = .int .i64 ((i : Nat) : Int) ∧ H = H' ∧ ∀ j, j < i → l.getD j 0 < x) l.length ?_ ?_
  · exact ⟨0, by simp, rfl, rfl, rfl, rfl, by omega⟩
  · rintro m s H' ⟨i, hm, h0, h1, h5, rfl, hlt⟩
    have fin : (i < l.length → x ≤ l.getD i 0) → put l x = l.take i ++ x :: l.drop i := by
      intro h
      rw [putAt_eq0 l x i (by omega) hlt h, if_neg]
      rintro ⟨hi, e⟩
      apply hx
      have : l.getD i 0 = l[i] := by simp [hi]
      rw [← e, this]; exact List.getElem_mem hi
    have last : (i < l.length → x ≤ l.getD i 0) → ∀ s' : Sl, s' 0 = v → s' 1 = .int .i64 x → s' 5 = .int .i64 ((i : Nat) : Int) → True := fun _ _ _ _ _ => trivial
    -- the list made anew
    have hp1 := List.prefix_append H [AObj.cells [] 3 false]
    have hp2 : H <+: H ++ [AObj.cells [] 3 false] ++ [AObj.cells [.int .i64 x] 3 false] := pre_app hp1 _
    have sl1 : ∀ H1, H <+: H1 → sliceA Try.prog 22 v none (some (.int .i64 ((i : Nat) : Int))) none H1 = some (subV v 0 i) ∧ Row 3 H1 (subV v 0 i) (l.take i) := by
      intro H1 hp
      have h := (hr.pre hp).slice Try.underlying22 cs3 (lo := none) (hi := some (.int .i64 ((i : Nat) : Int))) lo_none (bound_some (by omega) _) (by omega) (by simp; omega)
      simp only [Int.toNat_natCast, List.drop_zero, Nat.sub_zero] at h
      exact ⟨h.1, h.2.1⟩
    have sl2 : ∀ H1, H <+: H1 → sliceA Try.prog 22 v (some (.int .i64 ((i : Nat) : Int))) none none H1 = some (subV v i l.length) ∧ Row 3 H1 (subV v i l.length) (l.drop i) := by
      intro H1 hp
      have h := (hr.pre hp).slice Try.underlying22 cs3 (lo := some (.int .i64 ((i : Nat) : Int))) (hi := none) (bound_some (by omega) _) (hi_none _) (by simp; omega) (Nat.le_refl _)
      simp only [Int.toNat_natCast] at h
      refine ⟨h.1, ?_⟩
      have e : (l.drop i).take (l.length - i) = l.drop i := List.take_of_length_le (by simp)
      rw [← e]; exact h.2.1
    have ho0 : Own 3 H (H ++ [AObj.cells [] 3 false] ++ [AObj.cells [.int .i64 x] 3 false]) (.slice (some ⟨H.length, 0, none⟩) 0 0) [] := .inr ⟨H.length, rfl, Nat.le_refl _, at_app (at_new ..) _⟩
    obtain ⟨w1, H3, k1, o1, p1, e1, _⟩ := ho0.app (P := Try.prog) (t := 22) Try.underlying22 cs3 (by rw [by3]; decide) zk3 (sl1 _ hp2).2 hp2 (by simp; omega)
    simp only [List.nil_append] at o1
    have c3 : H3[(H ++ [AObj.cells [] 3 false]).length]? = some (.cells [.int .i64 x] 3 false) := e1 _ _ (.inr (by simp [rowO])) (at_new ..)
    have c2 : (H ++ [AObj.cells [] 3 false] ++ [AObj.cells [.int .i64 x] 3 false])[(H ++ [AObj.cells [] 3 false]).length]? = some (.cells [.int .i64 x] 3 false) := at_new ..
    have r39 : Row 3 H3 (.slice (some ⟨(H ++ [AObj.cells [] 3 false]).length, 0, none⟩) 1 1) [x] := .inr ⟨_, 0, [.int .i64 x], false, rfl, c3, by simp, rfl⟩
    obtain ⟨w2, H4, k2, o2, p2, e2, _⟩ := o1.app (P := Try.prog) (t := 22) Try.underlying22 cs3 (by rw [by3]; decide) zk3 r39 p1 (by simp; omega)
    obtain ⟨w3, H5, k3, o3, p3, e3, _⟩ := o2.app (P := Try.prog) (t := 22) Try.underlying22 cs3 (by rw [by3]; decide) zk3 (sl2 _ p2).2 p2 (by simp; omega)
    have hcat : l.take i ++ [x] ++ l.drop i = l.take i ++ x :: l.drop i := by simp
    simp (maxSteps := 1000000) (disch := omega) only [h0, h1, h5, hr.len Try.underlying22, S, S1, S2, S3, S4, ST, eq_self, ne_eq, not_true_eq_false, not_false_eq_true, and_self, true_and, and_true, reduceIte, reduceCtorEq, Nat.reduceEqDiff, Nat.reduceAdd, Nat.zero_add, Nat.add_zero, Option.map_none, Option.map_some, List.map_cons, List.map_nil, List.append_nil, List.cons_append, List.nil_append, List.getElem?_cons_zero, List.getElem?_cons_succ, List.getD_cons_zero, List.getD_cons_succ, List.getD_nil, Bool.not_true, Bool.not_false, decide_true, decide_false]
    refine brD.intro (fun g => ?_) (fun g => ?_)
    · have hi : i < l.length := by omega
      simp (maxSteps := 1000000) (disch := omega) only [g, h0, h1, h5, hr.ix Try.underlying22 cs3, hr.cell, Int.toNat_natCast, S, S1, S2, S3, S4, ST, eq_self, ne_eq, not_true_eq_false, not_false_eq_true, and_self, true_and, and_true, reduceIte, reduceCtorEq, Nat.reduceEqDiff, Nat.reduceAdd, Nat.zero_add, Nat.add_zero, Option.map_none, Option.map_some, List.map_cons, List.map_nil, List.append_nil, List.cons_append, List.nil_append, List.getElem?_cons_zero, List.getElem?_cons_succ, List.getD_cons_zero, List.getD_cons_succ, List.getD_nil, Bool.not_true, Bool.not_false, decide_true, decide_false]
      refine brD.intro (fun e => ?_) (fun e => ?_)
      · simp (maxSteps := 1000000) (disch := omega) only [h0, h1, h5, wrap64, S, S1, S2, S3, S4, ST, eq_self, ne_eq, not_true_eq_false, not_false_eq_true, and_self, true_and, and_true, reduceIte, reduceCtorEq, Nat.reduceEqDiff, Nat.reduceAdd, Nat.zero_add, Nat.add_zero, Option.map_none, Option.map_some, List.map_cons, List.map_nil, List.append_nil, List.cons_append, List.nil_append, List.getElem?_cons_zero, List.getElem?_cons_succ, List.getD_cons_zero, List.getD_cons_succ, List.getD_nil, Bool.not_true, Bool.not_false, decide_true, decide_false]
        have fx : ∀ j, j < i + 1 → l.getD j 0 < x := by
          intro j hj
          by_cases ej : j = i
          · subst ej; exact e
          · exact hlt j (by omega)
        refine ⟨m - 1, by omega, i + 1, ?_⟩
        (repeat' apply And.intro) <;> first | exact fx | (simp only [Value.int.injEq, true_and]; omega) | omega | rfl | assumption | (simp; done) | (simp; omega)
      · have hne : ¬ l.getD i 0 = x := fun h => hx (by
          have : l.getD i 0 = l[i] := by simp [hi]
          rw [← h, this]; exact List.getElem_mem hi)
        simp (maxSteps := 1000000) (disch := omega) only [g, h0, h1, h5, hr.len Try.underlying22, hr.ix Try.underlying22 cs3, hr.cell, Int.toNat_natCast, S, S1, S2, S3, S4, ST, eq_self, ne_eq, not_true_eq_false, not_false_eq_true, and_self, true_and, and_true, reduceIte, reduceCtorEq, Nat.reduceEqDiff, Nat.reduceAdd, Nat.zero_add, Nat.add_zero, Option.map_none, Option.map_some, List.map_cons, List.map_nil, List.append_nil, List.cons_append, List.nil_append, List.getElem?_cons_zero, List.getElem?_cons_succ, List.getD_cons_zero, List.getD_cons_succ, List.getD_nil, Bool.not_true, Bool.not_false, decide_true, decide_false]
        refine brD.intro (fun h => absurd h hne) (fun hne => ?_)
        simp (maxSteps := 1000000) (disch := omega) only [hne, g, h0, h1, h5, (sl1 _ hp1).1, (sl2 _ hp2).1, k1, k2, k3, (sl2 _ p1).1, (sl2 _ p2).1, c2, c3, S, S1, S2, S3, S4, ST, eq_self, ne_eq, not_true_eq_false, not_false_eq_true, and_self, true_and, and_true, reduceIte, reduceCtorEq, Nat.reduceEqDiff, Nat.reduceAdd, Nat.zero_add, Nat.add_zero, Option.map_none, Option.map_some, List.map_cons, List.map_nil, List.append_nil, List.cons_append, List.nil_append, List.getElem?_cons_zero, List.getElem?_cons_succ, List.getD_cons_zero, List.getD_cons_succ, List.getD_nil, Bool.not_true, Bool.not_false, decide_true, decide_false]
        refine hQ _ _ _ ?_
        simp (maxSteps := 1000000) (disch := omega) only [o3.row.tup, S, S1, S2, S3, S4, ST, eq_self, ne_eq, not_true_eq_false, not_false_eq_true, and_self, true_and, and_true, reduceIte, reduceCtorEq, Nat.reduceEqDiff, Nat.reduceAdd, Nat.zero_add, Nat.add_zero, Option.map_none, Option.map_some, List.map_cons, List.map_nil, List.append_nil, List.cons_append, List.nil_append, List.getElem?_cons_zero, List.getElem?_cons_succ, List.getD_cons_zero, List.getD_cons_succ, List.getD_nil, Bool.not_true, Bool.not_false, decide_true, decide_false]
        rw [fin (fun _ => by omega), ← hcat]
        exact ⟨o3, p3⟩
    · simp (maxSteps := 1000000) (disch := omega) only [g, h0, h1, h5, hr.len Try.underlying22, S, S1, S2, S3, S4, ST, eq_self, ne_eq, not_true_eq_false, not_false_eq_true, and_self, true_and, and_true, reduceIte, reduceCtorEq, Nat.reduceEqDiff, Nat.reduceAdd, Nat.zero_add, Nat.add_zero, Option.map_none, Option.map_some, List.map_cons, List.map_nil, List.append_nil, List.cons_append, List.nil_append, List.getElem?_cons_zero, List.getElem?_cons_succ, List.getD_cons_zero, List.getD_cons_succ, List.getD_nil, Bool.not_true, Bool.not_false, decide_true, decide_false]
      simp (maxSteps := 1000000) (disch := omega) only [h0, h1, h5, (sl1 _ hp1).1, (sl2 _ hp2).1, k1, k2, k3, (sl2 _ p1).1, (sl2 _ p2).1, c2, c3, g, S, S1, S2, S3, S4, ST, eq_self, ne_eq, not_true_eq_false, not_false_eq_true, and_self, true_and, and_true, reduceIte, reduceCtorEq, Nat.reduceEqDiff, Nat.reduceAdd, Nat.zero_add, Nat.add_zero, Option.map_none, Option.map_some, List.map_cons, List.map_nil, List.append_nil, List.cons_append, List.nil_append, List.getElem?_cons_zero, List.getElem?_cons_succ, List.getD_cons_zero, List.getD_cons_succ, List.getD_nil, Bool.not_true, Bool.not_false, decide_true, decide_false]
      refine hQ _ _ _ ?_
      simp (maxSteps := 1000000) (disch := omega) only [o3.row.tup, S, S1, S2, S3, S4, ST, eq_self, ne_eq, not_true_eq_false, not_false_eq_true, and_self, true_and, and_true, reduceIte, reduceCtorEq, Nat.reduceEqDiff, Nat.reduceAdd, Nat.zero_add, Nat.add_zero, Option.map_none, Option.map_some, List.map_cons, List.map_nil, List.append_nil, List.cons_append, List.nil_append, List.getElem?_cons_zero, List.getElem?_cons_succ, List.getD_cons_zero, List.getD_cons_succ, List.getD_nil, Bool.not_true, Bool.not_false, decide_true, decide_false]
      rw [fin (fun _ => by omega), ← hcat]
      exact ⟨o3, p3⟩
end Go.Proofs.Ytahakecifgjcnaa.Ai
