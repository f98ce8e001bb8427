/- Triangulations, the program's side. -/
import Derived.Test.YtahakecifgjcnaaTri
import Derived.Test.YtahakecifgjcnaaCdTri2
namespace Go.Proofs.Ytahakecifgjcnaa.Ai
open Go Go.RowKit
set_option linter.unusedVariables false
set_option linter.unusedSimpArgs false

theorem cell_new (H : AH) (vs : List Value) (t : TypeId) (ro : Bool) (i : Nat) : cellA (H ++ [.cells vs t ro]) H.length i = vs[i]? := by simp [cellA]
theorem alloc_int (H : AH) : allocA Try.prog 3 H = some (.pointer (some ⟨H.length, 0, none⟩), H ++ [.cells [.int .i64 0] 3 false]) := by kernel_rfl
theorem store_int (H : AH) (x y : Int) : storeA Try.prog 3 (.pointer (some ⟨H.length, 0, none⟩)) (.int .i64 x) (H ++ [.cells [.int .i64 y] 3 false]) = some (H ++ [.cells [.int .i64 x] 3 false]) :=
  st_new rfl (by rw [cs3]; rfl) (by rw [cs3]; decide) (by rw [cs3]; rfl)

theorem mkf_p (f : Fn) (p : Option Addr) : makeFuncA f [] [.pointer p] = some (.func f #[] (List.toArray [.pointer p])) := rfl

theorem triClos_c (d e : Int) (o : Nat) (H : AH) (hd : I64 d) (he : I64 e) (ho : cellA H o 0 = some (.int .i64 d)) : ACalls Try.prog 126 [.int .i64 e, .pointer (some ⟨o, 0, none⟩)] H fun r H' => r = .bool (decide (Crs d e)) ∧ H = H' := by
  refine in126 rfl ?_
  intro Q hQ
  simp (maxSteps := 1000000) (disch := omega) only [cd126, ho, S, S1, S2, S3, S4, ST, eq_self, ne_eq, not_true_eq_false, not_false_eq_true, and_self, true_and, and_true, reduceIte, reduceCtorEq, Nat.reduceEqDiff, Nat.reduceAdd, Nat.zero_add, Nat.add_zero, Option.map_none, Option.map_some, List.map_cons, List.map_nil, List.append_nil, List.cons_append, List.nil_append, List.getElem?_cons_zero, List.getElem?_cons_succ, List.getD_cons_zero, List.getD_cons_succ, List.getD_nil, Bool.not_true, Bool.not_false, decide_true, decide_false]
  refine CallH.by (cross_c d e H hd he) ?_
  rintro _ _ ⟨rfl, rfl⟩
  simp (maxSteps := 1000000) (disch := omega) only [S, S1, S2, S3, S4, ST, eq_self, ne_eq, not_true_eq_false, not_false_eq_true, and_self, true_and, and_true, reduceIte, reduceCtorEq, Nat.reduceEqDiff, Nat.reduceAdd, Nat.zero_add, Nat.add_zero, Option.map_none, Option.map_some, List.map_cons, List.map_nil, List.append_nil, List.cons_append, List.nil_append, List.getElem?_cons_zero, List.getElem?_cons_succ, List.getD_cons_zero, List.getD_cons_succ, List.getD_nil, Bool.not_true, Bool.not_false, decide_true, decide_false]
  refine hQ _ _ _ ?_
  simp (maxSteps := 1000000) (disch := omega) only [S, S1, S2, S3, S4, ST, eq_self, ne_eq, not_true_eq_false, not_false_eq_true, and_self, true_and, and_true, reduceIte, reduceCtorEq, Nat.reduceEqDiff, Nat.reduceAdd, Nat.zero_add, Nat.add_zero, Option.map_none, Option.map_some, List.map_cons, List.map_nil, List.append_nil, List.cons_append, List.nil_append, List.getElem?_cons_zero, List.getElem?_cons_succ, List.getD_cons_zero, List.getD_cons_succ, List.getD_nil, Bool.not_true, Bool.not_false, decide_true, decide_false]

/-- the i-th of a list goes well with those before it -/
def triOk (n : Int) (xs : List Int) (i : Nat) : Bool := decide (Diag n (xs.getD i 0)) && (decide (i = 0) || decide (xs.getD (i - 1) 0 < xs.getD i 0)) && !(xs.take i).any fun e => decide (Crs (xs.getD i 0) e)
def triI (n : Int) (xs : List Int) : Bool := decide ((xs.length : Int) = n - 3) && (List.range xs.length).all (triOk n xs)

set_option maxHeartbeats 2000000 in
theorem isTriangulation_c (n : Int) (v : Value) (xs : List Int) (H : AH) (hn : 0 ≤ n ∧ n ≤ 100) (hr : Row 3 H v xs) (hlen : xs.length ≤ 1099511627776) (hxs : ∀ y ∈ xs, I64 y) :
    ACalls Try.prog 77 [.int .i64 n, v] H fun r H' => r = .bool (triI n xs) ∧ H <+: H' := by
  refine in77 rfl ?_
  intro Q hQ
  simp (maxSteps := 1000000) (disch := omega) only [cd77, hr.len Try.underlying22, wrap64, S, S1, S2, S3, S4, ST, eq_self, ne_eq, not_true_eq_false, not_false_eq_true, and_self, true_and, and_true, reduceIte, reduceCtorEq, Nat.reduceEqDiff, Nat.reduceAdd, Nat.zero_add, Nat.add_zero, Option.map_none, Option.map_some, List.map_cons, List.map_nil, List.append_nil, List.cons_append, List.nil_append, List.getElem?_cons_zero, List.getElem?_cons_succ, List.getD_cons_zero, List.getD_cons_succ, List.getD_nil, Bool.not_true, Bool.not_false, decide_true, decide_false]
  refine brD.intro (fun g => ?_) (fun g => ?_) <;> simp (maxSteps := 1000000) (disch := omega) only [hr.len Try.underlying22, S, S1, S2, S3, S4, ST, eq_self, ne_eq, not_true_eq_false, not_false_eq_true, and_self, true_and, and_true, reduceIte, reduceCtorEq, Nat.reduceEqDiff, Nat.reduceAdd, Nat.zero_add, Nat.add_zero, Option.map_none, Option.map_some, List.map_cons, List.map_nil, List.append_nil, List.cons_append, List.nil_append, List.getElem?_cons_zero, List.getElem?_cons_succ, List.getD_cons_zero, List.getD_cons_succ, List.getD_nil, Bool.not_true, Bool.not_false, decide_true, decide_false]
  · refine hQ _ _ _ ?_
    simp (maxSteps := 1000000) (disch := omega) only [triI, g, decide_false, Bool.false_and, S, S1, S2, S3, S4, ST, eq_self, ne_eq, not_true_eq_false, not_false_eq_true, and_self, true_and, and_true, reduceIte, reduceCtorEq, Nat.reduceEqDiff, Nat.reduceAdd, Nat.zero_add, Nat.add_zero, Option.map_none, Option.map_some, List.map_cons, List.map_nil, List.append_nil, List.cons_append, List.nil_append, List.getElem?_cons_zero, List.getElem?_cons_succ, List.getD_cons_zero, List.getD_cons_succ, List.getD_nil, Bool.not_true, Bool.not_false, decide_true, decide_false]
    exact List.prefix_refl _
  · have g' : (xs.length : Int) = n - 3 := by omega
    refine LoopH.by (fun m s H' => ∃ i, m + i = xs.length ∧ s 0 = .int .i64 n ∧ s 1 = v ∧ s 12 = v ∧ s 13 = .int .i64 (xs.length : Int) ∧ s 14 = .int .i64 ((i : Nat) : Int) ∧ H <+: H' ∧ ∀ j, j < i → triOk n xs j = true) xs.length ?_ ?_
    · exact ⟨0, by simp, rfl, rfl, rfl, rfl, rfl, List.prefix_refl _, by omega⟩
    · rintro m s H' ⟨i, hm, h0, h1, h12, h13, h14, hp, hj⟩
      have hr' := hr.pre hp
      simp (maxSteps := 1000000) (disch := omega) only [h0, h1, h12, h13, h14, S, S1, S2, S3, S4, ST, eq_self, ne_eq, not_true_eq_false, not_false_eq_true, and_self, true_and, and_true, reduceIte, reduceCtorEq, Nat.reduceEqDiff, Nat.reduceAdd, Nat.zero_add, Nat.add_zero, Option.map_none, Option.map_some, List.map_cons, List.map_nil, List.append_nil, List.cons_append, List.nil_append, List.getElem?_cons_zero, List.getElem?_cons_succ, List.getD_cons_zero, List.getD_cons_succ, List.getD_nil, Bool.not_true, Bool.not_false, decide_true, decide_false]
      refine brD.intro (fun g => ?_) (fun g => ?_) <;> simp (maxSteps := 1000000) (disch := omega) only [h0, h1, h12, h13, h14, hr'.ix Try.underlying22 cs3, hr'.cell, Int.toNat_natCast, alloc_int, store_int, cell_new, S, S1, S2, S3, S4, ST, eq_self, ne_eq, not_true_eq_false, not_false_eq_true, and_self, true_and, and_true, reduceIte, reduceCtorEq, Nat.reduceEqDiff, Nat.reduceAdd, Nat.zero_add, Nat.add_zero, Option.map_none, Option.map_some, List.map_cons, List.map_nil, List.append_nil, List.cons_append, List.nil_append, List.getElem?_cons_zero, List.getElem?_cons_succ, List.getD_cons_zero, List.getD_cons_succ, List.getD_nil, Bool.not_true, Bool.not_false, decide_true, decide_false]
      · have hi : i < xs.length := by omega
        have hx : xs.getD i 0 = xs[i] := by simp [hi]
        have hI : I64 (xs.getD i 0) := by rw [hx]; exact hxs _ (List.getElem_mem hi)
        have bad : triOk n xs i = false → triI n xs = false := by
          intro hb
          have : (List.range xs.length).all (triOk n xs) = false := by
            rw [List.all_eq_false]
            exact ⟨i, List.mem_range.2 hi, by simp [hb]⟩
          simp [triI, this]
        generalize hH2 : H' ++ [AObj.cells [.int .i64 (xs.getD i 0)] 3 false] = H2
        have hr2 : Row 3 H2 v xs := hH2 ▸ hr'.pre (List.prefix_append _ _)
        have hp2 : H <+: H2 := hH2 ▸ pre_app hp _
        have hc2 : cellA H2 H'.length 0 = some (.int .i64 (xs.getD i 0)) := by rw [← hH2, cell_new]; rfl
        have hs2 := hr2.slice Try.underlying22 cs3 (lo := none) (hi := some (.int .i64 (i : Int))) lo_none (bound_some (by omega) _) (by omega) (by omega)
        have hlast : ∀ j, j < xs.length → i - 1 = j → xs.getD (i - 1) 0 = xs.getD j 0 := fun j _ e => by rw [e]
        have hpred : ((i : Int) - 1).toNat = i - 1 := by omega
        refine CallH.by (isDiagonal_c n _ _ hn hI) ?_
        rintro _ _ ⟨rfl, rfl⟩
        simp (maxSteps := 1000000) (disch := omega) only [h0, h1, h12, h13, h14, S, S1, S2, S3, S4, ST, eq_self, ne_eq, not_true_eq_false, not_false_eq_true, and_self, true_and, and_true, reduceIte, reduceCtorEq, Nat.reduceEqDiff, Nat.reduceAdd, Nat.zero_add, Nat.add_zero, Option.map_none, Option.map_some, List.map_cons, List.map_nil, List.append_nil, List.cons_append, List.nil_append, List.getElem?_cons_zero, List.getElem?_cons_succ, List.getD_cons_zero, List.getD_cons_succ, List.getD_nil, Bool.not_true, Bool.not_false, decide_true, decide_false]
        refine brD.intro (fun gd => ?_) (fun gd => ?_) <;> simp (maxSteps := 1000000) (disch := omega) only [gd, h0, h1, h12, h13, h14, wrap64, hc2, hr2.ix Try.underlying22 cs3, hr2.cell, hpred, hs2.1, mkf_p, S, S1, S2, S3, S4, ST, eq_self, ne_eq, not_true_eq_false, not_false_eq_true, and_self, true_and, and_true, reduceIte, reduceCtorEq, Nat.reduceEqDiff, Nat.reduceAdd, Nat.zero_add, Nat.add_zero, Option.map_none, Option.map_some, List.map_cons, List.map_nil, List.append_nil, List.cons_append, List.nil_append, List.getElem?_cons_zero, List.getElem?_cons_succ, List.getD_cons_zero, List.getD_cons_succ, List.getD_nil, Bool.not_true, Bool.not_false, decide_true, decide_false]
        · refine brD.intro (fun gi => ?_) (fun gi => ?_) <;> simp (maxSteps := 1000000) (disch := omega) only [gd, gi, h0, h1, h12, h13, h14, wrap64, hc2, hr2.ix Try.underlying22 cs3, hr2.cell, hpred, hs2.1, mkf_p, S, S1, S2, S3, S4, ST, eq_self, ne_eq, not_true_eq_false, not_false_eq_true, and_self, true_and, and_true, reduceIte, reduceCtorEq, Nat.reduceEqDiff, Nat.reduceAdd, Nat.zero_add, Nat.add_zero, Option.map_none, Option.map_some, List.map_cons, List.map_nil, List.append_nil, List.cons_append, List.nil_append, List.getElem?_cons_zero, List.getElem?_cons_succ, List.getD_cons_zero, List.getD_cons_succ, List.getD_nil, Bool.not_true, Bool.not_false, decide_true, decide_false]
          · refine brD.intro (fun gl => ?_) (fun gl => ?_) <;> simp (maxSteps := 1000000) (disch := omega) only [gd, gi, gl, h0, h1, h12, h13, h14, wrap64, hc2, hr2.ix Try.underlying22 cs3, hr2.cell, hpred, hs2.1, mkf_p, S, S1, S2, S3, S4, ST, eq_self, ne_eq, not_true_eq_false, not_false_eq_true, and_self, true_and, and_true, reduceIte, reduceCtorEq, Nat.reduceEqDiff, Nat.reduceAdd, Nat.zero_add, Nat.add_zero, Option.map_none, Option.map_some, List.map_cons, List.map_nil, List.append_nil, List.cons_append, List.nil_append, List.getElem?_cons_zero, List.getElem?_cons_succ, List.getD_cons_zero, List.getD_cons_succ, List.getD_nil, Bool.not_true, Bool.not_false, decide_true, decide_false]
            · refine hQ _ _ _ ?_
              simp (maxSteps := 1000000) (disch := omega) only [S, S1, S2, S3, S4, ST, eq_self, ne_eq, not_true_eq_false, not_false_eq_true, and_self, true_and, and_true, reduceIte, reduceCtorEq, Nat.reduceEqDiff, Nat.reduceAdd, Nat.zero_add, Nat.add_zero, Option.map_none, Option.map_some, List.map_cons, List.map_nil, List.append_nil, List.cons_append, List.nil_append, List.getElem?_cons_zero, List.getElem?_cons_succ, List.getD_cons_zero, List.getD_cons_succ, List.getD_nil, Bool.not_true, Bool.not_false, decide_true, decide_false]
              refine ⟨?_, hp2⟩
              rw [bad]
              have : ¬ xs.getD (i - 1) 0 < xs.getD i 0 := by omega
              simp only [triOk, gd, this, show ¬ i = 0 from by omega, decide_true, decide_false, Bool.or_false, Bool.and_false, Bool.false_and]
            · refine CallH.by (ContainsFunc_c _ _ (fun e => decide (Crs (xs.getD i 0) e)) _ _ H2 hs2.2.1 (by simp; omega) ?_) ?_
              · intro e he
                exact triClos_c _ _ _ _ hI (hxs e (List.mem_of_mem_drop (List.mem_of_mem_take he))) hc2
              rintro _ _ ⟨rfl, rfl⟩
              simp (maxSteps := 1000000) (disch := omega) only [gd, gi, gl, h0, h1, h12, h13, h14, wrap64, hc2, hr2.ix Try.underlying22 cs3, hr2.cell, hpred, hs2.1, mkf_p, S, S1, S2, S3, S4, ST, eq_self, ne_eq, not_true_eq_false, not_false_eq_true, and_self, true_and, and_true, reduceIte, reduceCtorEq, Nat.reduceEqDiff, Nat.reduceAdd, Nat.zero_add, Nat.add_zero, Option.map_none, Option.map_some, List.map_cons, List.map_nil, List.append_nil, List.cons_append, List.nil_append, List.getElem?_cons_zero, List.getElem?_cons_succ, List.getD_cons_zero, List.getD_cons_succ, List.getD_nil, Bool.not_true, Bool.not_false, decide_true, decide_false]
              refine brH.intro (fun ga => ?_) (fun ga => ?_) <;> simp (maxSteps := 1000000) (disch := omega) only [gd, gi, gl, h0, h1, h12, h13, h14, wrap64, hc2, hr2.ix Try.underlying22 cs3, hr2.cell, hpred, hs2.1, mkf_p, S, S1, S2, S3, S4, ST, eq_self, ne_eq, not_true_eq_false, not_false_eq_true, and_self, true_and, and_true, reduceIte, reduceCtorEq, Nat.reduceEqDiff, Nat.reduceAdd, Nat.zero_add, Nat.add_zero, Option.map_none, Option.map_some, List.map_cons, List.map_nil, List.append_nil, List.cons_append, List.nil_append, List.getElem?_cons_zero, List.getElem?_cons_succ, List.getD_cons_zero, List.getD_cons_succ, List.getD_nil, Bool.not_true, Bool.not_false, decide_true, decide_false]
              · refine hQ _ _ _ ?_
                simp (maxSteps := 1000000) (disch := omega) only [S, S1, S2, S3, S4, ST, eq_self, ne_eq, not_true_eq_false, not_false_eq_true, and_self, true_and, and_true, reduceIte, reduceCtorEq, Nat.reduceEqDiff, Nat.reduceAdd, Nat.zero_add, Nat.add_zero, Option.map_none, Option.map_some, List.map_cons, List.map_nil, List.append_nil, List.cons_append, List.nil_append, List.getElem?_cons_zero, List.getElem?_cons_succ, List.getD_cons_zero, List.getD_cons_succ, List.getD_nil, Bool.not_true, Bool.not_false, decide_true, decide_false]
                refine ⟨?_, hp2⟩
                rw [bad]
                simp only [Int.toNat_natCast, List.drop_zero, Nat.sub_zero] at ga
                simp only [triOk, ga, Bool.not_true, Bool.and_false]
              · refine ⟨m - 1, by omega, i + 1, by omega, by simp, hp2, ?_⟩
                intro j hjj
                by_cases e : j = i
                · subst e
                  simp only [Int.toNat_natCast, List.drop_zero, Nat.sub_zero] at ga
                  simp only [triOk, ga, gd, decide_true, Bool.true_and, Bool.not_false, Bool.and_true]
                  have : xs.getD (j - 1) 0 < xs.getD j 0 := by omega
                  simp only [this, decide_true, Bool.or_true]
                · exact hj j (by omega)
          · refine CallH.by (ContainsFunc_c _ _ (fun e => decide (Crs (xs.getD i 0) e)) _ _ H2 hs2.2.1 (by simp; omega) ?_) ?_
            · intro e he
              exact triClos_c _ _ _ _ hI (hxs e (List.mem_of_mem_drop (List.mem_of_mem_take he))) hc2
            rintro _ _ ⟨rfl, rfl⟩
            simp (maxSteps := 1000000) (disch := omega) only [gd, gi, h0, h1, h12, h13, h14, wrap64, hc2, hr2.ix Try.underlying22 cs3, hr2.cell, hpred, hs2.1, mkf_p, S, S1, S2, S3, S4, ST, eq_self, ne_eq, not_true_eq_false, not_false_eq_true, and_self, true_and, and_true, reduceIte, reduceCtorEq, Nat.reduceEqDiff, Nat.reduceAdd, Nat.zero_add, Nat.add_zero, Option.map_none, Option.map_some, List.map_cons, List.map_nil, List.append_nil, List.cons_append, List.nil_append, List.getElem?_cons_zero, List.getElem?_cons_succ, List.getD_cons_zero, List.getD_cons_succ, List.getD_nil, Bool.not_true, Bool.not_false, decide_true, decide_false]
            refine brH.intro (fun ga => ?_) (fun ga => ?_) <;> simp (maxSteps := 1000000) (disch := omega) only [gd, gi, h0, h1, h12, h13, h14, wrap64, hc2, hr2.ix Try.underlying22 cs3, hr2.cell, hpred, hs2.1, mkf_p, S, S1, S2, S3, S4, ST, eq_self, ne_eq, not_true_eq_false, not_false_eq_true, and_self, true_and, and_true, reduceIte, reduceCtorEq, Nat.reduceEqDiff, Nat.reduceAdd, Nat.zero_add, Nat.add_zero, Option.map_none, Option.map_some, List.map_cons, List.map_nil, List.append_nil, List.cons_append, List.nil_append, List.getElem?_cons_zero, List.getElem?_cons_succ, List.getD_cons_zero, List.getD_cons_succ, List.getD_nil, Bool.not_true, Bool.not_false, decide_true, decide_false]
            · refine hQ _ _ _ ?_
              simp (maxSteps := 1000000) (disch := omega) only [S, S1, S2, S3, S4, ST, eq_self, ne_eq, not_true_eq_false, not_false_eq_true, and_self, true_and, and_true, reduceIte, reduceCtorEq, Nat.reduceEqDiff, Nat.reduceAdd, Nat.zero_add, Nat.add_zero, Option.map_none, Option.map_some, List.map_cons, List.map_nil, List.append_nil, List.cons_append, List.nil_append, List.getElem?_cons_zero, List.getElem?_cons_succ, List.getD_cons_zero, List.getD_cons_succ, List.getD_nil, Bool.not_true, Bool.not_false, decide_true, decide_false]
              refine ⟨?_, hp2⟩
              rw [bad]
              simp only [Int.toNat_natCast, List.drop_zero, Nat.sub_zero] at ga
              simp only [triOk, ga, Bool.not_true, Bool.and_false]
            · refine ⟨m - 1, by omega, i + 1, by omega, by simp, hp2, ?_⟩
              intro j hjj
              by_cases e : j = i
              · subst e
                simp only [Int.toNat_natCast, List.drop_zero, Nat.sub_zero] at ga
                simp only [triOk, ga, gd, decide_true, Bool.true_and, Bool.not_false, Bool.and_true]
                simp only [show j = 0 from by omega, decide_true, Bool.true_or]
              · exact hj j (by omega)
        · refine hQ _ _ _ ?_
          simp (maxSteps := 1000000) (disch := omega) only [S, S1, S2, S3, S4, ST, eq_self, ne_eq, not_true_eq_false, not_false_eq_true, and_self, true_and, and_true, reduceIte, reduceCtorEq, Nat.reduceEqDiff, Nat.reduceAdd, Nat.zero_add, Nat.add_zero, Option.map_none, Option.map_some, List.map_cons, List.map_nil, List.append_nil, List.cons_append, List.nil_append, List.getElem?_cons_zero, List.getElem?_cons_succ, List.getD_cons_zero, List.getD_cons_succ, List.getD_nil, Bool.not_true, Bool.not_false, decide_true, decide_false]
          refine ⟨?_, hp2⟩
          rw [bad]
          simp only [triOk, gd, decide_false, Bool.false_and]
      · refine hQ _ _ _ ?_
        simp (maxSteps := 1000000) (disch := omega) only [S, S1, S2, S3, S4, ST, eq_self, ne_eq, not_true_eq_false, not_false_eq_true, and_self, true_and, and_true, reduceIte, reduceCtorEq, Nat.reduceEqDiff, Nat.reduceAdd, Nat.zero_add, Nat.add_zero, Option.map_none, Option.map_some, List.map_cons, List.map_nil, List.append_nil, List.cons_append, List.nil_append, List.getElem?_cons_zero, List.getElem?_cons_succ, List.getD_cons_zero, List.getD_cons_succ, List.getD_nil, Bool.not_true, Bool.not_false, decide_true, decide_false]
        refine ⟨?_, hp⟩
        have : (List.range xs.length).all (triOk n xs) = true := List.all_eq_true.2 fun j hj' => hj j (by have := List.mem_range.1 hj'; omega)
        simp [triI, this, g']
end Go.Proofs.Ytahakecifgjcnaa.Ai
