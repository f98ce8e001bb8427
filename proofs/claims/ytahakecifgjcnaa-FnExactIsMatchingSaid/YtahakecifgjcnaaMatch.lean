/- Matchings, both sides. -/
import Derived.Test.YtahakecifgjcnaaMatP
import Derived.Test.YtahakecifgjcnaaGood
import Derived.Test.YtahakecifgjcnaaHas
import Derived.Test.YtahakecifgjcnaaBag
import Derived.Test.YtahakecifgjcnaaPerm
import Derived.Test.YtahakecifgjcnaaCdMatch
namespace Go.Proofs.Ytahakecifgjcnaa.Ai
open Go Go.RowKit
set_option linter.unusedVariables false
set_option linter.unusedSimpArgs false

/-- two numbers, appended one after the other -/
theorem Own.app2 {P : Program} {t e : TypeId} (hu : P.underlying t = some (.slice e)) (hc : P.cellsOf e = 1) (hby : P.bytesOf e ≤ 64) (hz : zeroOk P e = true) {H0 B : AH} {v : Value} {ys : List Int} (h : Own e H0 B v ys) (hp : H0 <+: B) (hb : ys.length ≤ 1099511627774) (a b : Int) :
    ∃ v1 H1, appendA P t t v (.slice (some ⟨B.length, 0, none⟩) 1 1) (B ++ [.cells [.int .i64 a] e false] ++ [.cells [.int .i64 b] e false]) = some (v1, H1) ∧ isTup v1 = false ∧ H1[(B ++ [AObj.cells [.int .i64 a] e false]).length]? = some (.cells [.int .i64 b] e false) ∧ Kept v B H1 ∧
      ∃ v2 H2, appendA P t t v1 (.slice (some ⟨(B ++ [AObj.cells [.int .i64 a] e false]).length, 0, none⟩) 1 1) H1 = some (v2, H2) ∧ Own e H0 H2 v2 (ys ++ [a, b]) ∧ H0 <+: H2 ∧ Kept v B H2 ∧ isTup v2 = false := by
  have hx : Row e (B ++ [.cells [.int .i64 a] e false] ++ [.cells [.int .i64 b] e false]) (.slice (some ⟨B.length, 0, none⟩) 1 1) [a] := .inr ⟨B.length, 0, [.int .i64 a], false, rfl, at_app (at_new ..) _, by simp, rfl⟩
  have p2 : B <+: B ++ [AObj.cells [.int .i64 a] e false] ++ [.cells [.int .i64 b] e false] := pre_app (List.prefix_append _ _) _
  obtain ⟨v1, H1, h1, h2, h3, h4, h5⟩ := (h.pre p2).app hu hc hby hz hx (hp.trans p2) (by simp; omega)
  have hY : H1[(B ++ [AObj.cells [.int .i64 a] e false]).length]? = some (.cells [.int .i64 b] e false) := by
    refine h4 _ _ ?_ (at_new ..)
    rcases h.row.nil with g | g
    · exact .inl g.1
    · right; simp; omega
  have hy : Row e H1 (.slice (some ⟨(B ++ [AObj.cells [.int .i64 a] e false]).length, 0, none⟩) 1 1) [b] :=
    .inr ⟨_, 0, [.int .i64 b], false, rfl, hY, by simp, rfl⟩
  obtain ⟨v2, H2, k1, k2, k3, k4, k5⟩ := h2.app hu hc hby hz hy h3 (by simp; omega)
  refine ⟨v1, H1, h1, h2.row.tup, hY, fun o y ho hoy => h4 o y ho (pre_at p2 hoy), v2, H2, k1, by simpa using k2, k3, fun o y ho hoy => k4 o y ?_ (h4 o y ho (pre_at p2 hoy)), k2.row.tup⟩
  rcases h5 with h5 | ⟨h5, h6⟩
  · right
    have := at_lt hoy
    simp only [List.length_append, List.length_cons, List.length_nil] at h5; omega
  · subst h5; exact ho

set_option maxRecDepth 20000 in
set_option maxHeartbeats 4000000 in
theorem l8Matches_c (n : Int) (v w : Value) (es : List (Int × Int)) (xs : List Int) (H : AH) (hr : RowP 66 H v es) (hx : Row 3 H w xs) (hlen : es.length ≤ 1099511627776) (hlx : xs.length ≤ 1048576) :
    ACalls Try.prog 79 [.agg (List.toArray [.int .i64 n, v]), w] H fun r H' => r = .bool (decide (Mtc es xs)) ∧ H <+: H' := by
  refine in79 rfl ?_
  intro Q hQ
  simp (maxSteps := 1000000) (disch := omega) only [cd79, hr.boxG, S, S1, S2, S3, S4, ST, eq_self, ne_eq, not_true_eq_false, not_false_eq_true, and_self, true_and, and_true, reduceIte, reduceCtorEq, Nat.reduceEqDiff, Nat.reduceAdd, Nat.zero_add, Nat.add_zero, Option.map_none, Option.map_some, List.map_cons, List.map_nil, List.append_nil, List.cons_append, List.nil_append, List.getElem?_cons_zero, List.getElem?_cons_succ, List.getD_cons_zero, List.getD_cons_succ, List.getD_nil, Bool.not_true, Bool.not_false, decide_true, decide_false]
  generalize hA : H ++ [AObj.cells [.int .i64 n, v] 41 false] = A
  have pA : H <+: A := by rw [← hA]; exact List.prefix_append _ _
  have cA : A[H.length]? = some (.cells [.int .i64 n, v] 41 false) := by rw [← hA]; exact at_new ..
  have rA := hr.pre pA
  try simp (maxSteps := 1000000) (disch := omega) only [S, S1, S2, S3, S4, ST, eq_self, ne_eq, not_true_eq_false, not_false_eq_true, and_self, true_and, and_true, reduceIte, reduceCtorEq, Nat.reduceEqDiff, Nat.reduceAdd, Nat.zero_add, Nat.add_zero, Option.map_none, Option.map_some, List.map_cons, List.map_nil, List.append_nil, List.cons_append, List.nil_append, List.getElem?_cons_zero, List.getElem?_cons_succ, List.getD_cons_zero, List.getD_cons_succ, List.getD_nil, Bool.not_true, Bool.not_false, decide_true, decide_false]
  have xA := hx.pre pA
  refine LoopH.by (fun m s H' => ∃ i, m + i = xs.length ∧ s 1 = w ∧ s 2 = .pointer (some ⟨H.length, 0, none⟩) ∧ s 6 = .int .i64 ((i : Nat) : Int) ∧ MtU es xs i ∧ Own 3 A H' (s 5) (seenL es (xs.take i)) ∧ A <+: H') xs.length ?_ ?_
  · refine ⟨0, by simp, rfl, rfl, rfl, MtU.zero _ _, .inr ⟨A.length, rfl, Nat.le_refl _, at_new ..⟩, List.prefix_append _ _⟩
  · rintro m s H' ⟨i, hm, h1, h2, h6, hu, ho, hp⟩
    have hr' := rA.pre hp
    have hx' := xA.pre hp
    have cH := pre_at hp cA
    generalize hw : s 5 = u at *
    simp (maxSteps := 1000000) (disch := omega) only [h1, h2, h6, hw, hx'.len Try.underlying22, S, S1, S2, S3, S4, ST, eq_self, ne_eq, not_true_eq_false, not_false_eq_true, and_self, true_and, and_true, reduceIte, reduceCtorEq, Nat.reduceEqDiff, Nat.reduceAdd, Nat.zero_add, Nat.add_zero, Option.map_none, Option.map_some, List.map_cons, List.map_nil, List.append_nil, List.cons_append, List.nil_append, List.getElem?_cons_zero, List.getElem?_cons_succ, List.getD_cons_zero, List.getD_cons_succ, List.getD_nil, Bool.not_true, Bool.not_false, decide_true, decide_false]
    refine brD.intro (fun g => ?_) (fun g => ?_)
    · have hi : i < xs.length := by omega
      have e0 : ((i : Int) - 1).toNat = i - 1 := by omega
      have hsl : (seenL es (xs.take i)).length ≤ 2097152 := by rw [seenL_len, List.length_take]; omega
      have hst := seenL_take es xs i hi
      have bad : ¬ (rsOk es.length xs i ∧ frOk es xs i) → decide (Mtc es xs) = false := fun h => decide_eq_false (MtU.no hi h)
      have nxt : rsOk es.length xs i → frOk es xs i → MtU es xs (i + 1) := hu.succ
      have hpp := pA.trans hp
      simp (maxSteps := 1000000) (disch := omega) only [h1, h2, h6, hw, cell_of cH, hr'.len Try.underlying23, hx'.ix Try.underlying22 cs3, hx'.cell, Int.toNat_natCast, wrap64, S, S1, S2, S3, S4, ST, eq_self, ne_eq, not_true_eq_false, not_false_eq_true, and_self, true_and, and_true, reduceIte, reduceCtorEq, Nat.reduceEqDiff, Nat.reduceAdd, Nat.zero_add, Nat.add_zero, Option.map_none, Option.map_some, List.map_cons, List.map_nil, List.append_nil, List.cons_append, List.nil_append, List.getElem?_cons_zero, List.getElem?_cons_succ, List.getD_cons_zero, List.getD_cons_succ, List.getD_nil, Bool.not_true, Bool.not_false, decide_true, decide_false]
      refine CallH.by (l1In_c _ _ _ H') ?_
      rintro _ _ ⟨rfl, rfl⟩
      simp (maxSteps := 1000000) (disch := omega) only [h1, h2, h6, hw, S, S1, S2, S3, S4, ST, eq_self, ne_eq, not_true_eq_false, not_false_eq_true, and_self, true_and, and_true, reduceIte, reduceCtorEq, Nat.reduceEqDiff, Nat.reduceAdd, Nat.zero_add, Nat.add_zero, Option.map_none, Option.map_some, List.map_cons, List.map_nil, List.append_nil, List.cons_append, List.nil_append, List.getElem?_cons_zero, List.getElem?_cons_succ, List.getD_cons_zero, List.getD_cons_succ, List.getD_nil, Bool.not_true, Bool.not_false, decide_true, decide_false]
      refine brD.intro (fun e1 => ?_) (fun e1 => ?_) <;> simp (maxSteps := 1000000) (disch := omega) only [e1, h1, h2, h6, hw, S, S1, S2, S3, S4, ST, eq_self, ne_eq, not_true_eq_false, not_false_eq_true, and_self, true_and, and_true, reduceIte, reduceCtorEq, Nat.reduceEqDiff, Nat.reduceAdd, Nat.zero_add, Nat.add_zero, Option.map_none, Option.map_some, List.map_cons, List.map_nil, List.append_nil, List.cons_append, List.nil_append, List.getElem?_cons_zero, List.getElem?_cons_succ, List.getD_cons_zero, List.getD_cons_succ, List.getD_nil, Bool.not_true, Bool.not_false, decide_true, decide_false]
      · have hei : (xs.getD i 0).toNat < es.length := by omega
        refine brD.intro (fun e2 => ?_) (fun e2 => ?_) <;> simp (maxSteps := 1000000) (disch := omega) only [e1, e2, e0, h1, h2, h6, hw, hx'.ix Try.underlying22 cs3, hx'.cell, cell_of cH, Int.toNat_natCast, wrap64, S, S1, S2, S3, S4, ST, eq_self, ne_eq, not_true_eq_false, not_false_eq_true, and_self, true_and, and_true, reduceIte, reduceCtorEq, Nat.reduceEqDiff, Nat.reduceAdd, Nat.zero_add, Nat.add_zero, Option.map_none, Option.map_some, List.map_cons, List.map_nil, List.append_nil, List.cons_append, List.nil_append, List.getElem?_cons_zero, List.getElem?_cons_succ, List.getD_cons_zero, List.getD_cons_succ, List.getD_nil, Bool.not_true, Bool.not_false, decide_true, decide_false]
        · refine brD.intro (fun e3 => ?_) (fun e3 => ?_) <;> simp (maxSteps := 1000000) (disch := omega) only [e1, e2, e3, h1, h2, h6, hw, S, S1, S2, S3, S4, ST, eq_self, ne_eq, not_true_eq_false, not_false_eq_true, and_self, true_and, and_true, reduceIte, reduceCtorEq, Nat.reduceEqDiff, Nat.reduceAdd, Nat.zero_add, Nat.add_zero, Option.map_none, Option.map_some, List.map_cons, List.map_nil, List.append_nil, List.cons_append, List.nil_append, List.getElem?_cons_zero, List.getElem?_cons_succ, List.getD_cons_zero, List.getD_cons_succ, List.getD_nil, Bool.not_true, Bool.not_false, decide_true, decide_false]
          · refine hQ _ _ _ ?_
            simp (maxSteps := 1000000) (disch := omega) only [S, S1, S2, S3, S4, ST, eq_self, ne_eq, not_true_eq_false, not_false_eq_true, and_self, true_and, and_true, reduceIte, reduceCtorEq, Nat.reduceEqDiff, Nat.reduceAdd, Nat.zero_add, Nat.add_zero, Option.map_none, Option.map_some, List.map_cons, List.map_nil, List.append_nil, List.cons_append, List.nil_append, List.getElem?_cons_zero, List.getElem?_cons_succ, List.getD_cons_zero, List.getD_cons_succ, List.getD_nil, Bool.not_true, Bool.not_false, decide_true, decide_false]
            exact ⟨by rw [bad (fun h => by have := h.1.2 (by omega); omega)], hpp⟩
          · have hrs : rsOk es.length xs i := ⟨e1, fun h => by omega⟩
            have hst0 := store_a2 H' [.int .i64 0, .int .i64 0] rfl
            have hld := hr'.ld ag66 cs66 hei
            have hfr : frOk es xs i ↔ ((es.getD (xs.getD i 0).toNat (0, 0)).1 ∉ seenL es (xs.take i) ∧ (es.getD (xs.getD i 0).toNat (0, 0)).2 ∉ seenL es (xs.take i)) := Iff.rfl
            have hst' : seenL es (xs.take (i + 1)) = seenL es (xs.take i) ++ [(es.getD (xs.getD i 0).toNat (0, 0)).1, (es.getD (xs.getD i 0).toNat (0, 0)).2] := hst
            simp (maxSteps := 1000000) (disch := omega) only [e1, e2, e3, h1, h2, h6, hw, cell_of cH, hx'.ix Try.underlying22 cs3, hx'.cell, hr'.ix Try.underlying23 cs66, Int.toNat_natCast, hld, alloc_a2, hst0, cell_new, wrap64, S, S1, S2, S3, S4, ST, eq_self, ne_eq, not_true_eq_false, not_false_eq_true, and_self, true_and, and_true, reduceIte, reduceCtorEq, Nat.reduceEqDiff, Nat.reduceAdd, Nat.zero_add, Nat.add_zero, Option.map_none, Option.map_some, List.map_cons, List.map_nil, List.append_nil, List.cons_append, List.nil_append, List.getElem?_cons_zero, List.getElem?_cons_succ, List.getD_cons_zero, List.getD_cons_succ, List.getD_nil, Bool.not_true, Bool.not_false, decide_true, decide_false]
            generalize hy : es.getD (xs.getD i 0).toNat (0, 0) = y at *
            generalize hB : H' ++ [AObj.cells [.int .i64 y.1, .int .i64 y.2] 66 false] = B
            have pB : H' <+: B := by rw [← hB]; exact List.prefix_append _ _
            have b0 : B[H'.length]? = some (.cells [.int .i64 y.1, .int .i64 y.2] 66 false) := by rw [← hB]; exact at_new ..
            have hoB := ho.pre pB
            have hpB := hp.trans pB
            refine CallH.by (l1Has_c u (seenL es (xs.take i)) y.1 B hoB.row (by omega)) ?_
            rintro _ _ ⟨rfl, rfl⟩
            simp (maxSteps := 1000000) (disch := omega) only [e1, e2, e3, cell_of b0, S, S1, S2, S3, S4, ST, eq_self, ne_eq, not_true_eq_false, not_false_eq_true, and_self, true_and, and_true, reduceIte, reduceCtorEq, Nat.reduceEqDiff, Nat.reduceAdd, Nat.zero_add, Nat.add_zero, Option.map_none, Option.map_some, List.map_cons, List.map_nil, List.append_nil, List.cons_append, List.nil_append, List.getElem?_cons_zero, List.getElem?_cons_succ, List.getD_cons_zero, List.getD_cons_succ, List.getD_nil, Bool.not_true, Bool.not_false, decide_true, decide_false]
            refine brD.intro (fun e4 => ?_) (fun e4 => ?_) <;> simp (maxSteps := 1000000) (disch := omega) only [e1, e2, e3, e4, h1, h2, h6, hw, cell_of b0, S, S1, S2, S3, S4, ST, eq_self, ne_eq, not_true_eq_false, not_false_eq_true, and_self, true_and, and_true, reduceIte, reduceCtorEq, Nat.reduceEqDiff, Nat.reduceAdd, Nat.zero_add, Nat.add_zero, Option.map_none, Option.map_some, List.map_cons, List.map_nil, List.append_nil, List.cons_append, List.nil_append, List.getElem?_cons_zero, List.getElem?_cons_succ, List.getD_cons_zero, List.getD_cons_succ, List.getD_nil, Bool.not_true, Bool.not_false, decide_true, decide_false]
            · refine hQ _ _ _ ?_
              simp (maxSteps := 1000000) (disch := omega) only [S, S1, S2, S3, S4, ST, eq_self, ne_eq, not_true_eq_false, not_false_eq_true, and_self, true_and, and_true, reduceIte, reduceCtorEq, Nat.reduceEqDiff, Nat.reduceAdd, Nat.zero_add, Nat.add_zero, Option.map_none, Option.map_some, List.map_cons, List.map_nil, List.append_nil, List.cons_append, List.nil_append, List.getElem?_cons_zero, List.getElem?_cons_succ, List.getD_cons_zero, List.getD_cons_succ, List.getD_nil, Bool.not_true, Bool.not_false, decide_true, decide_false]
              exact ⟨by rw [bad (fun h => (hfr.1 h.2).1 e4)], hpp.trans pB⟩
            · refine CallH.by (l1Has_c u (seenL es (xs.take i)) y.2 B hoB.row (by omega)) ?_
              rintro _ _ ⟨rfl, rfl⟩
              simp (maxSteps := 1000000) (disch := omega) only [e1, e2, e3, e4, cell_of b0, S, S1, S2, S3, S4, ST, eq_self, ne_eq, not_true_eq_false, not_false_eq_true, and_self, true_and, and_true, reduceIte, reduceCtorEq, Nat.reduceEqDiff, Nat.reduceAdd, Nat.zero_add, Nat.add_zero, Option.map_none, Option.map_some, List.map_cons, List.map_nil, List.append_nil, List.cons_append, List.nil_append, List.getElem?_cons_zero, List.getElem?_cons_succ, List.getD_cons_zero, List.getD_cons_succ, List.getD_nil, Bool.not_true, Bool.not_false, decide_true, decide_false]
              refine brD.intro (fun e5 => ?_) (fun e5 => ?_) <;> simp (maxSteps := 1000000) (disch := omega) only [e1, e2, e3, e4, e5, h1, h2, h6, hw, cell_of b0, wrap64, S, S1, S2, S3, S4, ST, eq_self, ne_eq, not_true_eq_false, not_false_eq_true, and_self, true_and, and_true, reduceIte, reduceCtorEq, Nat.reduceEqDiff, Nat.reduceAdd, Nat.zero_add, Nat.add_zero, Option.map_none, Option.map_some, List.map_cons, List.map_nil, List.append_nil, List.cons_append, List.nil_append, List.getElem?_cons_zero, List.getElem?_cons_succ, List.getD_cons_zero, List.getD_cons_succ, List.getD_nil, Bool.not_true, Bool.not_false, decide_true, decide_false]
              · refine hQ _ _ _ ?_
                simp (maxSteps := 1000000) (disch := omega) only [S, S1, S2, S3, S4, ST, eq_self, ne_eq, not_true_eq_false, not_false_eq_true, and_self, true_and, and_true, reduceIte, reduceCtorEq, Nat.reduceEqDiff, Nat.reduceAdd, Nat.zero_add, Nat.add_zero, Option.map_none, Option.map_some, List.map_cons, List.map_nil, List.append_nil, List.cons_append, List.nil_append, List.getElem?_cons_zero, List.getElem?_cons_succ, List.getD_cons_zero, List.getD_cons_succ, List.getD_nil, Bool.not_true, Bool.not_false, decide_true, decide_false]
                exact ⟨by rw [bad (fun h => (hfr.1 h.2).2 e5)], hpp.trans pB⟩
              · obtain ⟨v1, H1, k1, k2, kY, kB, v2, H2, k3, k4, k5, k6, k7⟩ := hoB.app2 (P := Try.prog) Try.underlying22 cs3 (by rw [by3]; decide) zk3 hpB (by omega) y.1 y.2
                have b1 : H1[H'.length]? = some (.cells [.int .i64 y.1, .int .i64 y.2] 66 false) := kB _ _ (by
                  rcases ho.row.nil with q | q
                  · exact .inl q.1
                  · right; omega) b0
                simp (maxSteps := 1000000) (disch := omega) only [h1, h2, h6, hw, cell_of (at_app b0 _), k1, k3, kY, at_new, cell_of b1, wrap64, S, S1, S2, S3, S4, ST, eq_self, ne_eq, not_true_eq_false, not_false_eq_true, and_self, true_and, and_true, reduceIte, reduceCtorEq, Nat.reduceEqDiff, Nat.reduceAdd, Nat.zero_add, Nat.add_zero, Option.map_none, Option.map_some, List.map_cons, List.map_nil, List.append_nil, List.cons_append, List.nil_append, List.getElem?_cons_zero, List.getElem?_cons_succ, List.getD_cons_zero, List.getD_cons_succ, List.getD_nil, Bool.not_true, Bool.not_false, decide_true, decide_false]
                rw [← hst'] at k4
                have f1 := nxt hrs (hfr.2 ⟨e4, e5⟩)
                refine ⟨m - 1, by omega, i + 1, ?_⟩
                (repeat' first | exact f1 | exact k4 | exact k5 | apply And.intro) <;> first | (simp only [Value.int.injEq, true_and]; omega) | omega | rfl | assumption | (simp; done) | (simp; omega)
        · have hrs : rsOk es.length xs i := ⟨e1, fun h => by omega⟩
          have hst0 := store_a2 H' [.int .i64 0, .int .i64 0] rfl
          have hld := hr'.ld ag66 cs66 hei
          have hfr : frOk es xs i ↔ ((es.getD (xs.getD i 0).toNat (0, 0)).1 ∉ seenL es (xs.take i) ∧ (es.getD (xs.getD i 0).toNat (0, 0)).2 ∉ seenL es (xs.take i)) := Iff.rfl
          have hst' : seenL es (xs.take (i + 1)) = seenL es (xs.take i) ++ [(es.getD (xs.getD i 0).toNat (0, 0)).1, (es.getD (xs.getD i 0).toNat (0, 0)).2] := hst
          simp (maxSteps := 1000000) (disch := omega) only [e1, e2, h1, h2, h6, hw, cell_of cH, hx'.ix Try.underlying22 cs3, hx'.cell, hr'.ix Try.underlying23 cs66, Int.toNat_natCast, hld, alloc_a2, hst0, cell_new, wrap64, S, S1, S2, S3, S4, ST, eq_self, ne_eq, not_true_eq_false, not_false_eq_true, and_self, true_and, and_true, reduceIte, reduceCtorEq, Nat.reduceEqDiff, Nat.reduceAdd, Nat.zero_add, Nat.add_zero, Option.map_none, Option.map_some, List.map_cons, List.map_nil, List.append_nil, List.cons_append, List.nil_append, List.getElem?_cons_zero, List.getElem?_cons_succ, List.getD_cons_zero, List.getD_cons_succ, List.getD_nil, Bool.not_true, Bool.not_false, decide_true, decide_false]
          generalize hy : es.getD (xs.getD i 0).toNat (0, 0) = y at *
          generalize hB : H' ++ [AObj.cells [.int .i64 y.1, .int .i64 y.2] 66 false] = B
          have pB : H' <+: B := by rw [← hB]; exact List.prefix_append _ _
          have b0 : B[H'.length]? = some (.cells [.int .i64 y.1, .int .i64 y.2] 66 false) := by rw [← hB]; exact at_new ..
          have hoB := ho.pre pB
          have hpB := hp.trans pB
          refine CallH.by (l1Has_c u (seenL es (xs.take i)) y.1 B hoB.row (by omega)) ?_
          rintro _ _ ⟨rfl, rfl⟩
          simp (maxSteps := 1000000) (disch := omega) only [e1, e2, cell_of b0, S, S1, S2, S3, S4, ST, eq_self, ne_eq, not_true_eq_false, not_false_eq_true, and_self, true_and, and_true, reduceIte, reduceCtorEq, Nat.reduceEqDiff, Nat.reduceAdd, Nat.zero_add, Nat.add_zero, Option.map_none, Option.map_some, List.map_cons, List.map_nil, List.append_nil, List.cons_append, List.nil_append, List.getElem?_cons_zero, List.getElem?_cons_succ, List.getD_cons_zero, List.getD_cons_succ, List.getD_nil, Bool.not_true, Bool.not_false, decide_true, decide_false]
          refine brD.intro (fun e4 => ?_) (fun e4 => ?_) <;> simp (maxSteps := 1000000) (disch := omega) only [e1, e2, e4, h1, h2, h6, hw, cell_of b0, S, S1, S2, S3, S4, ST, eq_self, ne_eq, not_true_eq_false, not_false_eq_true, and_self, true_and, and_true, reduceIte, reduceCtorEq, Nat.reduceEqDiff, Nat.reduceAdd, Nat.zero_add, Nat.add_zero, Option.map_none, Option.map_some, List.map_cons, List.map_nil, List.append_nil, List.cons_append, List.nil_append, List.getElem?_cons_zero, List.getElem?_cons_succ, List.getD_cons_zero, List.getD_cons_succ, List.getD_nil, Bool.not_true, Bool.not_false, decide_true, decide_false]
          · refine hQ _ _ _ ?_
            simp (maxSteps := 1000000) (disch := omega) only [S, S1, S2, S3, S4, ST, eq_self, ne_eq, not_true_eq_false, not_false_eq_true, and_self, true_and, and_true, reduceIte, reduceCtorEq, Nat.reduceEqDiff, Nat.reduceAdd, Nat.zero_add, Nat.add_zero, Option.map_none, Option.map_some, List.map_cons, List.map_nil, List.append_nil, List.cons_append, List.nil_append, List.getElem?_cons_zero, List.getElem?_cons_succ, List.getD_cons_zero, List.getD_cons_succ, List.getD_nil, Bool.not_true, Bool.not_false, decide_true, decide_false]
            exact ⟨by rw [bad (fun h => (hfr.1 h.2).1 e4)], hpp.trans pB⟩
          · refine CallH.by (l1Has_c u (seenL es (xs.take i)) y.2 B hoB.row (by omega)) ?_
            rintro _ _ ⟨rfl, rfl⟩
            simp (maxSteps := 1000000) (disch := omega) only [e1, e2, e4, cell_of b0, S, S1, S2, S3, S4, ST, eq_self, ne_eq, not_true_eq_false, not_false_eq_true, and_self, true_and, and_true, reduceIte, reduceCtorEq, Nat.reduceEqDiff, Nat.reduceAdd, Nat.zero_add, Nat.add_zero, Option.map_none, Option.map_some, List.map_cons, List.map_nil, List.append_nil, List.cons_append, List.nil_append, List.getElem?_cons_zero, List.getElem?_cons_succ, List.getD_cons_zero, List.getD_cons_succ, List.getD_nil, Bool.not_true, Bool.not_false, decide_true, decide_false]
            refine brD.intro (fun e5 => ?_) (fun e5 => ?_) <;> simp (maxSteps := 1000000) (disch := omega) only [e1, e2, e4, e5, h1, h2, h6, hw, cell_of b0, wrap64, S, S1, S2, S3, S4, ST, eq_self, ne_eq, not_true_eq_false, not_false_eq_true, and_self, true_and, and_true, reduceIte, reduceCtorEq, Nat.reduceEqDiff, Nat.reduceAdd, Nat.zero_add, Nat.add_zero, Option.map_none, Option.map_some, List.map_cons, List.map_nil, List.append_nil, List.cons_append, List.nil_append, List.getElem?_cons_zero, List.getElem?_cons_succ, List.getD_cons_zero, List.getD_cons_succ, List.getD_nil, Bool.not_true, Bool.not_false, decide_true, decide_false]
            · refine hQ _ _ _ ?_
              simp (maxSteps := 1000000) (disch := omega) only [S, S1, S2, S3, S4, ST, eq_self, ne_eq, not_true_eq_false, not_false_eq_true, and_self, true_and, and_true, reduceIte, reduceCtorEq, Nat.reduceEqDiff, Nat.reduceAdd, Nat.zero_add, Nat.add_zero, Option.map_none, Option.map_some, List.map_cons, List.map_nil, List.append_nil, List.cons_append, List.nil_append, List.getElem?_cons_zero, List.getElem?_cons_succ, List.getD_cons_zero, List.getD_cons_succ, List.getD_nil, Bool.not_true, Bool.not_false, decide_true, decide_false]
              exact ⟨by rw [bad (fun h => (hfr.1 h.2).2 e5)], hpp.trans pB⟩
            · obtain ⟨v1, H1, k1, k2, kY, kB, v2, H2, k3, k4, k5, k6, k7⟩ := hoB.app2 (P := Try.prog) Try.underlying22 cs3 (by rw [by3]; decide) zk3 hpB (by omega) y.1 y.2
              have b1 : H1[H'.length]? = some (.cells [.int .i64 y.1, .int .i64 y.2] 66 false) := kB _ _ (by
                rcases ho.row.nil with q | q
                · exact .inl q.1
                · right; omega) b0
              simp (maxSteps := 1000000) (disch := omega) only [h1, h2, h6, hw, cell_of (at_app b0 _), k1, k3, kY, at_new, cell_of b1, wrap64, S, S1, S2, S3, S4, ST, eq_self, ne_eq, not_true_eq_false, not_false_eq_true, and_self, true_and, and_true, reduceIte, reduceCtorEq, Nat.reduceEqDiff, Nat.reduceAdd, Nat.zero_add, Nat.add_zero, Option.map_none, Option.map_some, List.map_cons, List.map_nil, List.append_nil, List.cons_append, List.nil_append, List.getElem?_cons_zero, List.getElem?_cons_succ, List.getD_cons_zero, List.getD_cons_succ, List.getD_nil, Bool.not_true, Bool.not_false, decide_true, decide_false]
              rw [← hst'] at k4
              have f1 := nxt hrs (hfr.2 ⟨e4, e5⟩)
              refine ⟨m - 1, by omega, i + 1, ?_⟩
              (repeat' first | exact f1 | exact k4 | exact k5 | apply And.intro) <;> first | (simp only [Value.int.injEq, true_and]; omega) | omega | rfl | assumption | (simp; done) | (simp; omega)
      · refine hQ _ _ _ ?_
        simp (maxSteps := 1000000) (disch := omega) only [S, S1, S2, S3, S4, ST, eq_self, ne_eq, not_true_eq_false, not_false_eq_true, and_self, true_and, and_true, reduceIte, reduceCtorEq, Nat.reduceEqDiff, Nat.reduceAdd, Nat.zero_add, Nat.add_zero, Option.map_none, Option.map_some, List.map_cons, List.map_nil, List.append_nil, List.cons_append, List.nil_append, List.getElem?_cons_zero, List.getElem?_cons_succ, List.getD_cons_zero, List.getD_cons_succ, List.getD_nil, Bool.not_true, Bool.not_false, decide_true, decide_false]
        exact ⟨by rw [bad (fun h => e1 h.1.1)], hpp⟩
    · simp (maxSteps := 1000000) (disch := omega) only [h1, h2, h6, hw, S, S1, S2, S3, S4, ST, eq_self, ne_eq, not_true_eq_false, not_false_eq_true, and_self, true_and, and_true, reduceIte, reduceCtorEq, Nat.reduceEqDiff, Nat.reduceAdd, Nat.zero_add, Nat.add_zero, Option.map_none, Option.map_some, List.map_cons, List.map_nil, List.append_nil, List.cons_append, List.nil_append, List.getElem?_cons_zero, List.getElem?_cons_succ, List.getD_cons_zero, List.getD_cons_succ, List.getD_nil, Bool.not_true, Bool.not_false, decide_true, decide_false]
      refine hQ _ _ _ ?_
      simp (maxSteps := 1000000) (disch := omega) only [S, S1, S2, S3, S4, ST, eq_self, ne_eq, not_true_eq_false, not_false_eq_true, and_self, true_and, and_true, reduceIte, reduceCtorEq, Nat.reduceEqDiff, Nat.reduceAdd, Nat.zero_add, Nat.add_zero, Option.map_none, Option.map_some, List.map_cons, List.map_nil, List.append_nil, List.cons_append, List.nil_append, List.getElem?_cons_zero, List.getElem?_cons_succ, List.getD_cons_zero, List.getD_cons_succ, List.getD_nil, Bool.not_true, Bool.not_false, decide_true, decide_false]
      have : i = xs.length := by omega
      subst this
      simp [hu, pA.trans hp]

theorem grd_ed {n : Int} {es : List (Int × Int)} (h : Grd n es) {k : Nat} (hk : k < es.length) : ∃ x y : Nat, (es.getD k (0, 0)).1 = x ∧ (es.getD k (0, 0)).2 = y ∧ x < y ∧ (y : Int) < n ∧ y < 8 := by
  obtain ⟨h1, h2⟩ := h
  obtain ⟨a1, a2, a3, _⟩ := h2 k hk
  exact ⟨(es.getD k (0, 0)).1.toNat, (es.getD k (0, 0)).2.toNat, by omega, by omega, by omega, by omega, by omega⟩

set_option maxRecDepth 20000 in
set_option maxHeartbeats 4000000 in
theorem isMatching_c (n : Int) (v w : Value) (es : List (Int × Int)) (xs : List Int) (H : AH) (hr : RowP 66 H v es) (hx : Row 3 H w xs) (hlen : es.length ≤ 1099511627776) (hlx : xs.length ≤ 1000000000) (hg : Grd n es) :
    ACalls Try.prog 81 [.agg (List.toArray [.int .i64 n, v]), w] H fun r H' => r = .bool (decide (Mtc es xs)) ∧ H <+: H' := by
  refine in81 rfl ?_
  intro Q hQ
  simp (maxSteps := 1000000) (disch := omega) only [cd81, hr.boxG, S, S1, S2, S3, S4, ST, eq_self, ne_eq, not_true_eq_false, not_false_eq_true, and_self, true_and, and_true, reduceIte, reduceCtorEq, Nat.reduceEqDiff, Nat.reduceAdd, Nat.zero_add, Nat.add_zero, Option.map_none, Option.map_some, List.map_cons, List.map_nil, List.append_nil, List.cons_append, List.nil_append, List.getElem?_cons_zero, List.getElem?_cons_succ, List.getD_cons_zero, List.getD_cons_succ, List.getD_nil, Bool.not_true, Bool.not_false, decide_true, decide_false]
  generalize hA : H ++ [AObj.cells [.int .i64 n, v] 41 false] = A
  have pA : H <+: A := by rw [← hA]; exact List.prefix_append _ _
  have cA : A[H.length]? = some (.cells [.int .i64 n, v] 41 false) := by rw [← hA]; exact at_new ..
  have rA := hr.pre pA
  have xA := hx.pre pA
  simp (maxSteps := 1000000) (disch := omega) only [cell_of cA, rA.len Try.underlying23, S, S1, S2, S3, S4, ST, eq_self, ne_eq, not_true_eq_false, not_false_eq_true, and_self, true_and, and_true, reduceIte, reduceCtorEq, Nat.reduceEqDiff, Nat.reduceAdd, Nat.zero_add, Nat.add_zero, Option.map_none, Option.map_some, List.map_cons, List.map_nil, List.append_nil, List.cons_append, List.nil_append, List.getElem?_cons_zero, List.getElem?_cons_succ, List.getD_cons_zero, List.getD_cons_succ, List.getD_nil, Bool.not_true, Bool.not_false, decide_true, decide_false]
  refine CallH.by (isRising_c w xs es.length A (by omega) xA (by omega)) ?_
  rintro _ _ ⟨rfl, rfl⟩
  simp (maxSteps := 1000000) (disch := omega) only [S, S1, S2, S3, S4, ST, eq_self, ne_eq, not_true_eq_false, not_false_eq_true, and_self, true_and, and_true, reduceIte, reduceCtorEq, Nat.reduceEqDiff, Nat.reduceAdd, Nat.zero_add, Nat.add_zero, Option.map_none, Option.map_some, List.map_cons, List.map_nil, List.append_nil, List.cons_append, List.nil_append, List.getElem?_cons_zero, List.getElem?_cons_succ, List.getD_cons_zero, List.getD_cons_succ, List.getD_nil, Bool.not_true, Bool.not_false, decide_true, decide_false]
  refine brD.intro (fun e => ?_) (fun e => ?_) <;> simp (maxSteps := 1000000) (disch := omega) only [e, xA.len Try.underlying22, S, S1, S2, S3, S4, ST, eq_self, ne_eq, not_true_eq_false, not_false_eq_true, and_self, true_and, and_true, reduceIte, reduceCtorEq, Nat.reduceEqDiff, Nat.reduceAdd, Nat.zero_add, Nat.add_zero, Option.map_none, Option.map_some, List.map_cons, List.map_nil, List.append_nil, List.cons_append, List.nil_append, List.getElem?_cons_zero, List.getElem?_cons_succ, List.getD_cons_zero, List.getD_cons_succ, List.getD_nil, Bool.not_true, Bool.not_false, decide_true, decide_false]
  · refine LoopH.by (fun m s H' => ∃ i b, m + i = xs.length ∧ s 2 = .pointer (some ⟨H.length, 0, none⟩) ∧ s 15 = w ∧ s 16 = .int .i64 (xs.length : Int) ∧ s 17 = .int .i64 ((i : Nat) : Int) ∧ s 5 = .int .u64 ((b : Nat) : Int) ∧ Bits b 8 (seenL es (xs.take i)) ∧ MtU es xs i ∧ A = H') xs.length ?_ ?_
    · exact ⟨0, 0, by simp, rfl, rfl, rfl, rfl, rfl, ⟨by decide, fun z _ => by simp [seenL]⟩, MtU.zero _ _, rfl⟩
    · rintro m s H' ⟨i, b, hm, h2, h15, h16, h17, h5, hb, hu, rfl⟩
      simp (maxSteps := 1000000) (disch := omega) only [h2, h15, h16, h17, h5, S, S1, S2, S3, S4, ST, eq_self, ne_eq, not_true_eq_false, not_false_eq_true, and_self, true_and, and_true, reduceIte, reduceCtorEq, Nat.reduceEqDiff, Nat.reduceAdd, Nat.zero_add, Nat.add_zero, Option.map_none, Option.map_some, List.map_cons, List.map_nil, List.append_nil, List.cons_append, List.nil_append, List.getElem?_cons_zero, List.getElem?_cons_succ, List.getD_cons_zero, List.getD_cons_succ, List.getD_nil, Bool.not_true, Bool.not_false, decide_true, decide_false]
      refine brD.intro (fun g => ?_) (fun g => ?_)
      · have hi : i < xs.length := by omega
        have hrs : rsOk es.length xs i := e i hi
        have hst := seenL_take es xs i hi
        have hei : (xs.getD i 0).toNat < es.length := by have := hrs.1; omega
        have hei2 := hrs.1
        obtain ⟨x, y, ex, ey, hxy, hyn, hy8⟩ := grd_ed hg hei
        have hb64 : b < 2 ^ 64 := Nat.lt_of_lt_of_le hb.1 (by decide)
        have hx64 : 2 ^ x < 2 ^ 64 := Nat.pow_lt_pow_right (by decide) (by omega)
        have hy64 : 2 ^ y < 2 ^ 64 := Nat.pow_lt_pow_right (by decide) (by omega)
        have k1 := bin_shl Try.prog 111 x (by omega)
        have k2 := bin_shl Try.prog 111 y (by omega)
        have k3 := bin_or Try.prog 111 (2 ^ x) (2 ^ y) hx64 hy64
        have k4 := bin_and Try.prog 111 b (2 ^ x ||| 2 ^ y) hb64 (Nat.or_lt_two_pow hx64 hy64)
        have k5 := bin_or Try.prog 111 b (2 ^ x ||| 2 ^ y) hb64 (Nat.or_lt_two_pow hx64 hy64)
        have l0 := rA.cell0 hei
        have l1 := rA.cell1 hei
        rw [ex] at l0
        rw [ey] at l1
        have hno := hb.no (x := x) (y := y) (by omega) hy8
        have hfr : frOk es xs i ↔ ¬ ((x : Int) ∈ seenL es (xs.take i) ∨ (y : Int) ∈ seenL es (xs.take i)) := by
          unfold frOk ed1 ed2
          rw [ex, ey, not_or]
        have hor := hb.or2 (x := x) (y := y) (by omega) hy8
        unfold ed1 ed2 at hst
        rw [ex, ey] at hst
        rw [← hst] at hor
        simp (maxSteps := 1000000) (disch := omega) only [h2, h15, h16, h17, h5, cell_of cA, xA.ix Try.underlying22 cs3, xA.cell, rA.ix Try.underlying23 cs66, Int.toNat_natCast, l0, l1, k1, k2, k3, k4, k5, wrap64, S, S1, S2, S3, S4, ST, eq_self, ne_eq, not_true_eq_false, not_false_eq_true, and_self, true_and, and_true, reduceIte, reduceCtorEq, Nat.reduceEqDiff, Nat.reduceAdd, Nat.zero_add, Nat.add_zero, Option.map_none, Option.map_some, List.map_cons, List.map_nil, List.append_nil, List.cons_append, List.nil_append, List.getElem?_cons_zero, List.getElem?_cons_succ, List.getD_cons_zero, List.getD_cons_succ, List.getD_nil, Bool.not_true, Bool.not_false, decide_true, decide_false]
        refine brD.intro (fun q => ?_) (fun q => ?_) <;> simp (maxSteps := 1000000) (disch := omega) only [h2, h15, h16, h17, h5, k5, wrap64, S, S1, S2, S3, S4, ST, eq_self, ne_eq, not_true_eq_false, not_false_eq_true, and_self, true_and, and_true, reduceIte, reduceCtorEq, Nat.reduceEqDiff, Nat.reduceAdd, Nat.zero_add, Nat.add_zero, Option.map_none, Option.map_some, List.map_cons, List.map_nil, List.append_nil, List.cons_append, List.nil_append, List.getElem?_cons_zero, List.getElem?_cons_succ, List.getD_cons_zero, List.getD_cons_succ, List.getD_nil, Bool.not_true, Bool.not_false, decide_true, decide_false]
        · refine hQ _ _ _ ?_
          simp (maxSteps := 1000000) (disch := omega) only [S, S1, S2, S3, S4, ST, eq_self, ne_eq, not_true_eq_false, not_false_eq_true, and_self, true_and, and_true, reduceIte, reduceCtorEq, Nat.reduceEqDiff, Nat.reduceAdd, Nat.zero_add, Nat.add_zero, Option.map_none, Option.map_some, List.map_cons, List.map_nil, List.append_nil, List.cons_append, List.nil_append, List.getElem?_cons_zero, List.getElem?_cons_succ, List.getD_cons_zero, List.getD_cons_succ, List.getD_nil, Bool.not_true, Bool.not_false, decide_true, decide_false]
          have q' : b &&& (2 ^ x ||| 2 ^ y) ≠ 0 := by intro h; rw [h] at q; exact q rfl
          have := MtU.no (k := xs.length) hi (fun h => (hfr.1 h.2) (hno.1 q'))
          exact ⟨by rw [decide_eq_false this], pA⟩
        · have q' : ¬ (b &&& (2 ^ x ||| 2 ^ y) ≠ 0) := by intro h; apply h; have := Decidable.not_not.1 q; exact_mod_cast this
          have f1 := hu.succ hrs (hfr.2 (fun h => q' (hno.2 h)))
          refine ⟨m - 1, by omega, i + 1, b ||| (2 ^ x ||| 2 ^ y), ?_⟩
          (repeat' first | exact f1 | exact hor | apply And.intro) <;> first | (simp only [Value.int.injEq, true_and]; omega) | omega | rfl | assumption | (simp; done) | (simp; omega)
      · simp (maxSteps := 1000000) (disch := omega) only [S, S1, S2, S3, S4, ST, eq_self, ne_eq, not_true_eq_false, not_false_eq_true, and_self, true_and, and_true, reduceIte, reduceCtorEq, Nat.reduceEqDiff, Nat.reduceAdd, Nat.zero_add, Nat.add_zero, Option.map_none, Option.map_some, List.map_cons, List.map_nil, List.append_nil, List.cons_append, List.nil_append, List.getElem?_cons_zero, List.getElem?_cons_succ, List.getD_cons_zero, List.getD_cons_succ, List.getD_nil, Bool.not_true, Bool.not_false, decide_true, decide_false]
        refine hQ _ _ _ ?_
        simp (maxSteps := 1000000) (disch := omega) only [S, S1, S2, S3, S4, ST, eq_self, ne_eq, not_true_eq_false, not_false_eq_true, and_self, true_and, and_true, reduceIte, reduceCtorEq, Nat.reduceEqDiff, Nat.reduceAdd, Nat.zero_add, Nat.add_zero, Option.map_none, Option.map_some, List.map_cons, List.map_nil, List.append_nil, List.cons_append, List.nil_append, List.getElem?_cons_zero, List.getElem?_cons_succ, List.getD_cons_zero, List.getD_cons_succ, List.getD_nil, Bool.not_true, Bool.not_false, decide_true, decide_false]
        have : i = xs.length := by omega
        subst this
        exact ⟨by rw [decide_eq_true hu], pA⟩
  · refine hQ _ _ _ ?_
    simp (maxSteps := 1000000) (disch := omega) only [S, S1, S2, S3, S4, ST, eq_self, ne_eq, not_true_eq_false, not_false_eq_true, and_self, true_and, and_true, reduceIte, reduceCtorEq, Nat.reduceEqDiff, Nat.reduceAdd, Nat.zero_add, Nat.add_zero, Option.map_none, Option.map_some, List.map_cons, List.map_nil, List.append_nil, List.cons_append, List.nil_append, List.getElem?_cons_zero, List.getElem?_cons_succ, List.getD_cons_zero, List.getD_cons_succ, List.getD_nil, Bool.not_true, Bool.not_false, decide_true, decide_false]
    exact ⟨by rw [decide_eq_false (fun h => e fun i hi => (h i hi).1)], pA⟩

theorem MatS_c (n : Int) (v w : Value) (es : List (Int × Int)) (xs : List Int) (H : AH) (hr : RowP 66 H v es) (hlen : es.length ≤ 1048576) (hes : ∀ y ∈ es, I64 y.1 ∧ I64 y.2) (hx : Row 3 H w xs) (hlx : xs.length ≤ 1048576) (hxs : ∀ y ∈ xs, I64 y) (hn : I64 n) :
    ACalls Try.prog 28 [.agg (List.toArray [.int .i64 n, v]), w] H fun r H' => r = .tuple (List.toArray [.bool (decide (Grd n es ∧ Mtc es xs)), .bool (decide (Grd n es))]) ∧ H <+: H' := by
  refine in28 rfl ?_
  intro Q hQ
  simp (maxSteps := 1000000) (disch := omega) only [cd28, hr.boxG, S, S1, S2, S3, S4, ST, eq_self, ne_eq, not_true_eq_false, not_false_eq_true, and_self, true_and, and_true, reduceIte, reduceCtorEq, Nat.reduceEqDiff, Nat.reduceAdd, Nat.zero_add, Nat.add_zero, Option.map_none, Option.map_some, List.map_cons, List.map_nil, List.append_nil, List.cons_append, List.nil_append, List.getElem?_cons_zero, List.getElem?_cons_succ, List.getD_cons_zero, List.getD_cons_succ, List.getD_nil, Bool.not_true, Bool.not_false, decide_true, decide_false]
  generalize hA : H ++ [AObj.cells [.int .i64 n, v] 41 false] = A
  have pA : H <+: A := by rw [← hA]; exact List.prefix_append _ _
  have cA : A[H.length]? = some (.cells [.int .i64 n, v] 41 false) := by rw [← hA]; exact at_new ..
  have rA := hr.pre pA
  simp (maxSteps := 1000000) (disch := omega) only [ld_agg ag41 cs41 cA, S, S1, S2, S3, S4, ST, eq_self, ne_eq, not_true_eq_false, not_false_eq_true, and_self, true_and, and_true, reduceIte, reduceCtorEq, Nat.reduceEqDiff, Nat.reduceAdd, Nat.zero_add, Nat.add_zero, Option.map_none, Option.map_some, List.map_cons, List.map_nil, List.append_nil, List.cons_append, List.nil_append, List.getElem?_cons_zero, List.getElem?_cons_succ, List.getD_cons_zero, List.getD_cons_succ, List.getD_nil, Bool.not_true, Bool.not_false, decide_true, decide_false]
  refine CallH.by (l2Good_c n v es A rA (by omega)) ?_
  rintro _ B ⟨rfl, pB⟩
  have cB := pre_at pB cA
  simp (maxSteps := 1000000) (disch := omega) only [S, S1, S2, S3, S4, ST, eq_self, ne_eq, not_true_eq_false, not_false_eq_true, and_self, true_and, and_true, reduceIte, reduceCtorEq, Nat.reduceEqDiff, Nat.reduceAdd, Nat.zero_add, Nat.add_zero, Option.map_none, Option.map_some, List.map_cons, List.map_nil, List.append_nil, List.cons_append, List.nil_append, List.getElem?_cons_zero, List.getElem?_cons_succ, List.getD_cons_zero, List.getD_cons_succ, List.getD_nil, Bool.not_true, Bool.not_false, decide_true, decide_false]
  refine brD.intro (fun e => ?_) (fun e => ?_) <;> simp (maxSteps := 1000000) (disch := omega) only [e, ld_agg ag41 cs41 cB, S, S1, S2, S3, S4, ST, eq_self, ne_eq, not_true_eq_false, not_false_eq_true, and_self, true_and, and_true, reduceIte, reduceCtorEq, Nat.reduceEqDiff, Nat.reduceAdd, Nat.zero_add, Nat.add_zero, Option.map_none, Option.map_some, List.map_cons, List.map_nil, List.append_nil, List.cons_append, List.nil_append, List.getElem?_cons_zero, List.getElem?_cons_succ, List.getD_cons_zero, List.getD_cons_succ, List.getD_nil, Bool.not_true, Bool.not_false, decide_true, decide_false]
  · refine CallH.by (l8Matches_c n v w es xs B (rA.pre pB) (hx.pre (pA.trans pB)) (by omega) hlx) ?_
    rintro _ C ⟨rfl, pC⟩
    simp (maxSteps := 1000000) (disch := omega) only [e, S, S1, S2, S3, S4, ST, eq_self, ne_eq, not_true_eq_false, not_false_eq_true, and_self, true_and, and_true, reduceIte, reduceCtorEq, Nat.reduceEqDiff, Nat.reduceAdd, Nat.zero_add, Nat.add_zero, Option.map_none, Option.map_some, List.map_cons, List.map_nil, List.append_nil, List.cons_append, List.nil_append, List.getElem?_cons_zero, List.getElem?_cons_succ, List.getD_cons_zero, List.getD_cons_succ, List.getD_nil, Bool.not_true, Bool.not_false, decide_true, decide_false]
    refine hQ _ _ _ ?_
    simp (maxSteps := 1000000) (disch := omega) only [e, S, S1, S2, S3, S4, ST, eq_self, ne_eq, not_true_eq_false, not_false_eq_true, and_self, true_and, and_true, reduceIte, reduceCtorEq, Nat.reduceEqDiff, Nat.reduceAdd, Nat.zero_add, Nat.add_zero, Option.map_none, Option.map_some, List.map_cons, List.map_nil, List.append_nil, List.cons_append, List.nil_append, List.getElem?_cons_zero, List.getElem?_cons_succ, List.getD_cons_zero, List.getD_cons_succ, List.getD_nil, Bool.not_true, Bool.not_false, decide_true, decide_false]
    simp [e, pA.trans (pB.trans pC)]
  · refine hQ _ _ _ ?_
    simp (maxSteps := 1000000) (disch := omega) only [e, S, S1, S2, S3, S4, ST, eq_self, ne_eq, not_true_eq_false, not_false_eq_true, and_self, true_and, and_true, reduceIte, reduceCtorEq, Nat.reduceEqDiff, Nat.reduceAdd, Nat.zero_add, Nat.add_zero, Option.map_none, Option.map_some, List.map_cons, List.map_nil, List.append_nil, List.cons_append, List.nil_append, List.getElem?_cons_zero, List.getElem?_cons_succ, List.getD_cons_zero, List.getD_cons_succ, List.getD_nil, Bool.not_true, Bool.not_false, decide_true, decide_false]
    simp [e, pA.trans pB]

theorem MatI_c (n : Int) (v w : Value) (es : List (Int × Int)) (xs : List Int) (H : AH) (hr : RowP 66 H v es) (hlen : es.length ≤ 1048576) (hes : ∀ y ∈ es, I64 y.1 ∧ I64 y.2) (hx : Row 3 H w xs) (hlx : xs.length ≤ 1048576) (hxs : ∀ y ∈ xs, I64 y) (hn : I64 n) :
    ACalls Try.prog 30 [.agg (List.toArray [.int .i64 n, v]), w] H fun r H' => r = .tuple (List.toArray [.bool (decide (Grd n es ∧ Mtc es xs)), .bool (decide (Grd n es))]) ∧ H <+: H' := by
  refine in30 rfl ?_
  intro Q hQ
  simp (maxSteps := 1000000) (disch := omega) only [cd30, hr.boxG, S, S1, S2, S3, S4, ST, eq_self, ne_eq, not_true_eq_false, not_false_eq_true, and_self, true_and, and_true, reduceIte, reduceCtorEq, Nat.reduceEqDiff, Nat.reduceAdd, Nat.zero_add, Nat.add_zero, Option.map_none, Option.map_some, List.map_cons, List.map_nil, List.append_nil, List.cons_append, List.nil_append, List.getElem?_cons_zero, List.getElem?_cons_succ, List.getD_cons_zero, List.getD_cons_succ, List.getD_nil, Bool.not_true, Bool.not_false, decide_true, decide_false]
  generalize hA : H ++ [AObj.cells [.int .i64 n, v] 41 false] = A
  have pA : H <+: A := by rw [← hA]; exact List.prefix_append _ _
  have cA : A[H.length]? = some (.cells [.int .i64 n, v] 41 false) := by rw [← hA]; exact at_new ..
  have rA := hr.pre pA
  simp (maxSteps := 1000000) (disch := omega) only [ld_agg ag41 cs41 cA, S, S1, S2, S3, S4, ST, eq_self, ne_eq, not_true_eq_false, not_false_eq_true, and_self, true_and, and_true, reduceIte, reduceCtorEq, Nat.reduceEqDiff, Nat.reduceAdd, Nat.zero_add, Nat.add_zero, Option.map_none, Option.map_some, List.map_cons, List.map_nil, List.append_nil, List.cons_append, List.nil_append, List.getElem?_cons_zero, List.getElem?_cons_succ, List.getD_cons_zero, List.getD_cons_succ, List.getD_nil, Bool.not_true, Bool.not_false, decide_true, decide_false]
  refine CallH.by (IsGraph_c n v es A rA (by omega)) ?_
  rintro _ B ⟨rfl, pB⟩
  have cB := pre_at pB cA
  simp (maxSteps := 1000000) (disch := omega) only [S, S1, S2, S3, S4, ST, eq_self, ne_eq, not_true_eq_false, not_false_eq_true, and_self, true_and, and_true, reduceIte, reduceCtorEq, Nat.reduceEqDiff, Nat.reduceAdd, Nat.zero_add, Nat.add_zero, Option.map_none, Option.map_some, List.map_cons, List.map_nil, List.append_nil, List.cons_append, List.nil_append, List.getElem?_cons_zero, List.getElem?_cons_succ, List.getD_cons_zero, List.getD_cons_succ, List.getD_nil, Bool.not_true, Bool.not_false, decide_true, decide_false]
  refine brD.intro (fun e => ?_) (fun e => ?_) <;> simp (maxSteps := 1000000) (disch := omega) only [e, ld_agg ag41 cs41 cB, S, S1, S2, S3, S4, ST, eq_self, ne_eq, not_true_eq_false, not_false_eq_true, and_self, true_and, and_true, reduceIte, reduceCtorEq, Nat.reduceEqDiff, Nat.reduceAdd, Nat.zero_add, Nat.add_zero, Option.map_none, Option.map_some, List.map_cons, List.map_nil, List.append_nil, List.cons_append, List.nil_append, List.getElem?_cons_zero, List.getElem?_cons_succ, List.getD_cons_zero, List.getD_cons_succ, List.getD_nil, Bool.not_true, Bool.not_false, decide_true, decide_false]
  · refine CallH.by (isMatching_c n v w es xs B (rA.pre pB) (hx.pre (pA.trans pB)) (by omega) (by omega) e) ?_
    rintro _ C ⟨rfl, pC⟩
    simp (maxSteps := 1000000) (disch := omega) only [e, S, S1, S2, S3, S4, ST, eq_self, ne_eq, not_true_eq_false, not_false_eq_true, and_self, true_and, and_true, reduceIte, reduceCtorEq, Nat.reduceEqDiff, Nat.reduceAdd, Nat.zero_add, Nat.add_zero, Option.map_none, Option.map_some, List.map_cons, List.map_nil, List.append_nil, List.cons_append, List.nil_append, List.getElem?_cons_zero, List.getElem?_cons_succ, List.getD_cons_zero, List.getD_cons_succ, List.getD_nil, Bool.not_true, Bool.not_false, decide_true, decide_false]
    refine hQ _ _ _ ?_
    simp (maxSteps := 1000000) (disch := omega) only [e, S, S1, S2, S3, S4, ST, eq_self, ne_eq, not_true_eq_false, not_false_eq_true, and_self, true_and, and_true, reduceIte, reduceCtorEq, Nat.reduceEqDiff, Nat.reduceAdd, Nat.zero_add, Nat.add_zero, Option.map_none, Option.map_some, List.map_cons, List.map_nil, List.append_nil, List.cons_append, List.nil_append, List.getElem?_cons_zero, List.getElem?_cons_succ, List.getD_cons_zero, List.getD_cons_succ, List.getD_nil, Bool.not_true, Bool.not_false, decide_true, decide_false]
    simp [e, pA.trans (pB.trans pC)]
  · refine hQ _ _ _ ?_
    simp (maxSteps := 1000000) (disch := omega) only [e, S, S1, S2, S3, S4, ST, eq_self, ne_eq, not_true_eq_false, not_false_eq_true, and_self, true_and, and_true, reduceIte, reduceCtorEq, Nat.reduceEqDiff, Nat.reduceAdd, Nat.zero_add, Nat.add_zero, Option.map_none, Option.map_some, List.map_cons, List.map_nil, List.append_nil, List.cons_append, List.nil_append, List.getElem?_cons_zero, List.getElem?_cons_succ, List.getD_cons_zero, List.getD_cons_succ, List.getD_nil, Bool.not_true, Bool.not_false, decide_true, decide_false]
    simp [e, pA.trans pB]

end Go.Proofs.Ytahakecifgjcnaa.Ai
