/- InversionCount, both sides. -/
import Derived.Test.YtnoihoeaconllaaPerm
import Derived.Test.YtnoihoeaconllaaCdInv
namespace Go.Proofs.Ytnoihoeaconllaa.Ai
open Go Go.RowKit
set_option linter.unusedVariables false
set_option linter.unusedSimpArgs false

/-- how many of a list are below a number -/
def invRow (x : Int) (ys : List Int) : Nat := (ys.filter fun y => decide (y < x)).length
def invs (p : List Int) : Nat → Nat
  | 0 => 0
  | k + 1 => invs p k + invRow (p.getD k 0) (p.drop (k + 1))
theorem invRow_step (x : Int) (ys : List Int) (k : Nat) (hk : k < ys.length) : invRow x (ys.take (k + 1)) = invRow x (ys.take k) + if ys.getD k 0 < x then 1 else 0 := by
  unfold invRow
  rw [List.take_add_one, List.getElem?_eq_getElem hk, List.filter_append, List.length_append]
  have : ys.getD k 0 = ys[k] := by simp [hk]
  rw [this]
  by_cases h : ys[k] < x <;> simp [h]
theorem invRow_le (x : Int) (ys : List Int) : invRow x ys ≤ ys.length := List.length_filter_le _ _
theorem invRow_self (p : List Int) (k : Nat) (hk : k < p.length) : invRow (p.getD k 0) (p.drop k) = invRow (p.getD k 0) (p.drop (k + 1)) := by
  have : p.getD k 0 = p[k] := by simp [hk]
  rw [this]
  unfold invRow
  rw [List.drop_eq_getElem_cons hk, List.filter_cons, if_neg (by simp)]
theorem invs_le (p : List Int) (k : Nat) : invs p k ≤ p.length * k := by
  induction k with
  | zero => simp [invs]
  | succ k ih =>
    have := invRow_le (p.getD k 0) (p.drop (k + 1))
    have h2 : (p.drop (k + 1)).length ≤ p.length := by simp
    simp only [invs, Nat.mul_succ]; omega
theorem invs_bd {p : List Int} (h : Prm p) (k : Nat) (hk : k ≤ p.length) : invs p k ≤ 64 := by
  have h1 := invs_le p k
  have h2 := h.1
  have h3 : p.length * k ≤ 8 * 8 := Nat.mul_le_mul h2 (by omega)
  omega
theorem drop_at (p : List Int) (a j : Nat) : (p.drop a).getD j 0 = p.getD (a + j) 0 := by
  rw [List.getD_eq_getElem?_getD, List.getElem?_drop, ← List.getD_eq_getElem?_getD]

def invR (p : List Int) : Int := if Prm p then (invs p p.length : Nat) else 0

set_option maxHeartbeats 2000000 in
theorem InvS_c (v : Value) (p : List Int) (H : AH) (hr : Row 3 H v p) (hlen : p.length ≤ 1099511627776) (hxs : ∀ y ∈ p, I64 y) :
    ACalls Try.prog 27 [v] H fun r H' => r = .tuple (List.toArray [.int .i64 (invR p), .bool (decide (Prm p))]) ∧ H <+: H' := by
  refine in27 rfl ?_
  intro Q hQ
  simp (maxSteps := 1000000) (disch := omega) only [cd27, S, S1, S2, S3, S4, ST, eq_self, ne_eq, not_true_eq_false, not_false_eq_true, and_self, true_and, and_true, reduceIte, reduceCtorEq, Nat.reduceEqDiff, Nat.reduceAdd, Nat.zero_add, Nat.add_zero, Option.map_none, Option.map_some, List.map_cons, List.map_nil, List.append_nil, List.cons_append, List.nil_append, List.getElem?_cons_zero, List.getElem?_cons_succ, List.getD_cons_zero, List.getD_cons_succ, List.getD_nil, Bool.not_true, Bool.not_false, decide_true, decide_false]
  refine CallH.by (l9Perm_c v p H hr hlen) ?_
  rintro _ _ ⟨rfl, rfl⟩
  simp (maxSteps := 1000000) (disch := omega) only [S, S1, S2, S3, S4, ST, eq_self, ne_eq, not_true_eq_false, not_false_eq_true, and_self, true_and, and_true, reduceIte, reduceCtorEq, Nat.reduceEqDiff, Nat.reduceAdd, Nat.zero_add, Nat.add_zero, Option.map_none, Option.map_some, List.map_cons, List.map_nil, List.append_nil, List.cons_append, List.nil_append, List.getElem?_cons_zero, List.getElem?_cons_succ, List.getD_cons_zero, List.getD_cons_succ, List.getD_nil, Bool.not_true, Bool.not_false, decide_true, decide_false]
  refine brD.intro (fun hp => ?_) (fun hp => ?_) <;> simp (maxSteps := 1000000) (disch := omega) only [hp, S, S1, S2, S3, S4, ST, eq_self, ne_eq, not_true_eq_false, not_false_eq_true, and_self, true_and, and_true, reduceIte, reduceCtorEq, Nat.reduceEqDiff, Nat.reduceAdd, Nat.zero_add, Nat.add_zero, Option.map_none, Option.map_some, List.map_cons, List.map_nil, List.append_nil, List.cons_append, List.nil_append, List.getElem?_cons_zero, List.getElem?_cons_succ, List.getD_cons_zero, List.getD_cons_succ, List.getD_nil, Bool.not_true, Bool.not_false, decide_true, decide_false]
  · have h8 := hp.1
    refine LoopH.by (fun m s H' => ∃ a, m + a = p.length ∧ s 0 = v ∧ s 5 = .int .i64 ((a : Nat) : Int) ∧ s 4 = .int .i64 ((invs p a : Nat) : Int) ∧ H = H') p.length ?_ ?_
    · exact ⟨0, by simp, rfl, rfl, rfl, rfl⟩
    · rintro m s H' ⟨a, hm, h0, h5, h4, rfl⟩
      simp (maxSteps := 1000000) (disch := omega) only [h0, h5, h4, hr.len Try.underlying22, S, S1, S2, S3, S4, ST, eq_self, ne_eq, not_true_eq_false, not_false_eq_true, and_self, true_and, and_true, reduceIte, reduceCtorEq, Nat.reduceEqDiff, Nat.reduceAdd, Nat.zero_add, Nat.add_zero, Option.map_none, Option.map_some, List.map_cons, List.map_nil, List.append_nil, List.cons_append, List.nil_append, List.getElem?_cons_zero, List.getElem?_cons_succ, List.getD_cons_zero, List.getD_cons_succ, List.getD_nil, Bool.not_true, Bool.not_false, decide_true, decide_false]
      refine brD.intro (fun g => ?_) (fun g => ?_)
      · have ha : a < p.length := by omega
        have b0 := invs_bd hp a (by omega)
        simp (maxSteps := 1000000) (disch := omega) only [h0, h5, h4, wrap64, S, S1, S2, S3, S4, ST, eq_self, ne_eq, not_true_eq_false, not_false_eq_true, and_self, true_and, and_true, reduceIte, reduceCtorEq, Nat.reduceEqDiff, Nat.reduceAdd, Nat.zero_add, Nat.add_zero, Option.map_none, Option.map_some, List.map_cons, List.map_nil, List.append_nil, List.cons_append, List.nil_append, List.getElem?_cons_zero, List.getElem?_cons_succ, List.getD_cons_zero, List.getD_cons_succ, List.getD_nil, Bool.not_true, Bool.not_false, decide_true, decide_false]
        have hdl : (p.drop (a + 1)).length = p.length - (a + 1) := by simp
        refine LoopH.by (fun m' s' H'' => ∃ j, m' + j = p.length - (a + 1) ∧ s' 0 = v ∧ s' 5 = .int .i64 ((a : Nat) : Int) ∧ s' 6 = .int .i64 ((a : Int) + 1 + (j : Nat)) ∧ s' 4 = .int .i64 (((invs p a + invRow (p.getD a 0) ((p.drop (a + 1)).take j) : Nat)) : Int) ∧ H = H'') (p.length - (a + 1)) ?_ ?_
        · exact ⟨0, by simp, by simp [S, S1, S2, S3, S4, ST, eq_self, ne_eq, not_true_eq_false, not_false_eq_true, and_self, true_and, and_true, reduceIte, reduceCtorEq, Nat.reduceEqDiff, Nat.reduceAdd, Nat.zero_add, Nat.add_zero, Option.map_none, Option.map_some, List.map_cons, List.map_nil, List.append_nil, List.cons_append, List.nil_append, List.getElem?_cons_zero, List.getElem?_cons_succ, List.getD_cons_zero, List.getD_cons_succ, List.getD_nil, Bool.not_true, Bool.not_false, decide_true, decide_false, h0], by simp [S, S1, S2, S3, S4, ST, eq_self, ne_eq, not_true_eq_false, not_false_eq_true, and_self, true_and, and_true, reduceIte, reduceCtorEq, Nat.reduceEqDiff, Nat.reduceAdd, Nat.zero_add, Nat.add_zero, Option.map_none, Option.map_some, List.map_cons, List.map_nil, List.append_nil, List.cons_append, List.nil_append, List.getElem?_cons_zero, List.getElem?_cons_succ, List.getD_cons_zero, List.getD_cons_succ, List.getD_nil, Bool.not_true, Bool.not_false, decide_true, decide_false, h5], by simp [S, S1, S2, S3, S4, ST, eq_self, ne_eq, not_true_eq_false, not_false_eq_true, and_self, true_and, and_true, reduceIte, reduceCtorEq, Nat.reduceEqDiff, Nat.reduceAdd, Nat.zero_add, Nat.add_zero, Option.map_none, Option.map_some, List.map_cons, List.map_nil, List.append_nil, List.cons_append, List.nil_append, List.getElem?_cons_zero, List.getElem?_cons_succ, List.getD_cons_zero, List.getD_cons_succ, List.getD_nil, Bool.not_true, Bool.not_false, decide_true, decide_false], by simp [S, S1, S2, S3, S4, ST, eq_self, ne_eq, not_true_eq_false, not_false_eq_true, and_self, true_and, and_true, reduceIte, reduceCtorEq, Nat.reduceEqDiff, Nat.reduceAdd, Nat.zero_add, Nat.add_zero, Option.map_none, Option.map_some, List.map_cons, List.map_nil, List.append_nil, List.cons_append, List.nil_append, List.getElem?_cons_zero, List.getElem?_cons_succ, List.getD_cons_zero, List.getD_cons_succ, List.getD_nil, Bool.not_true, Bool.not_false, decide_true, decide_false, h4, invRow], rfl⟩
        · rintro m' s' H'' ⟨j, hm', g0, g5, g6, g4, rfl⟩
          simp (maxSteps := 1000000) (disch := omega) only [g0, g5, g6, g4, hr.len Try.underlying22, S, S1, S2, S3, S4, ST, eq_self, ne_eq, not_true_eq_false, not_false_eq_true, and_self, true_and, and_true, reduceIte, reduceCtorEq, Nat.reduceEqDiff, Nat.reduceAdd, Nat.zero_add, Nat.add_zero, Option.map_none, Option.map_some, List.map_cons, List.map_nil, List.append_nil, List.cons_append, List.nil_append, List.getElem?_cons_zero, List.getElem?_cons_succ, List.getD_cons_zero, List.getD_cons_succ, List.getD_nil, Bool.not_true, Bool.not_false, decide_true, decide_false]
          refine brD.intro (fun q => ?_) (fun q => ?_)
          · have hj : j < (p.drop (a + 1)).length := by omega
            have st := invRow_step (p.getD a 0) (p.drop (a + 1)) j hj
            have da := drop_at p (a + 1) j
            have e1 : ((a : Int) + 1 + (j : Nat)).toNat = a + 1 + j := by omega
            have b1 := invRow_le (p.getD a 0) ((p.drop (a + 1)).take j)
            have b2 : ((p.drop (a + 1)).take j).length ≤ j := by simp; omega
            rw [da] at st
            simp (maxSteps := 1000000) (disch := omega) only [g0, g5, g6, g4, hr.len Try.underlying22, hr.ix Try.underlying22 cs3, hr.cell, Int.toNat_natCast, e1, S, S1, S2, S3, S4, ST, eq_self, ne_eq, not_true_eq_false, not_false_eq_true, and_self, true_and, and_true, reduceIte, reduceCtorEq, Nat.reduceEqDiff, Nat.reduceAdd, Nat.zero_add, Nat.add_zero, Option.map_none, Option.map_some, List.map_cons, List.map_nil, List.append_nil, List.cons_append, List.nil_append, List.getElem?_cons_zero, List.getElem?_cons_succ, List.getD_cons_zero, List.getD_cons_succ, List.getD_nil, Bool.not_true, Bool.not_false, decide_true, decide_false]
            refine brD.intro (fun e => ?_) (fun e => ?_) <;> simp (maxSteps := 1000000) (disch := omega) only [g0, g5, g6, g4, wrap64, S, S1, S2, S3, S4, ST, eq_self, ne_eq, not_true_eq_false, not_false_eq_true, and_self, true_and, and_true, reduceIte, reduceCtorEq, Nat.reduceEqDiff, Nat.reduceAdd, Nat.zero_add, Nat.add_zero, Option.map_none, Option.map_some, List.map_cons, List.map_nil, List.append_nil, List.cons_append, List.nil_append, List.getElem?_cons_zero, List.getElem?_cons_succ, List.getD_cons_zero, List.getD_cons_succ, List.getD_nil, Bool.not_true, Bool.not_false, decide_true, decide_false]
            · rw [if_pos e] at st
              refine ⟨m' - 1, by omega, j + 1, by omega, ?_⟩
              rw [st]
              (repeat' apply And.intro) <;> first | (simp only [Value.int.injEq, true_and]; omega) | omega | rfl | assumption | (simp; done) | (simp; omega)
            · rw [if_neg e] at st
              refine ⟨m' - 1, by omega, j + 1, by omega, ?_⟩
              rw [st]
              (repeat' apply And.intro) <;> first | (simp only [Value.int.injEq, true_and]; omega) | omega | rfl | assumption | (simp; done) | (simp; omega)
          · have e : (p.drop (a + 1)).take j = p.drop (a + 1) := List.take_of_length_le (by omega)
            rw [e] at g4
            simp (maxSteps := 1000000) (disch := omega) only [g0, g5, g6, g4, wrap64, S, S1, S2, S3, S4, ST, eq_self, ne_eq, not_true_eq_false, not_false_eq_true, and_self, true_and, and_true, reduceIte, reduceCtorEq, Nat.reduceEqDiff, Nat.reduceAdd, Nat.zero_add, Nat.add_zero, Option.map_none, Option.map_some, List.map_cons, List.map_nil, List.append_nil, List.cons_append, List.nil_append, List.getElem?_cons_zero, List.getElem?_cons_succ, List.getD_cons_zero, List.getD_cons_succ, List.getD_nil, Bool.not_true, Bool.not_false, decide_true, decide_false]
            refine ⟨m - 1, by omega, a + 1, by omega, ?_⟩
            rw [invs]
            (repeat' apply And.intro) <;> first | (simp only [Value.int.injEq, true_and]; omega) | omega | rfl | assumption | (simp; done) | (simp; omega)
      · simp (maxSteps := 1000000) (disch := omega) only [h0, h5, h4, S, S1, S2, S3, S4, ST, eq_self, ne_eq, not_true_eq_false, not_false_eq_true, and_self, true_and, and_true, reduceIte, reduceCtorEq, Nat.reduceEqDiff, Nat.reduceAdd, Nat.zero_add, Nat.add_zero, Option.map_none, Option.map_some, List.map_cons, List.map_nil, List.append_nil, List.cons_append, List.nil_append, List.getElem?_cons_zero, List.getElem?_cons_succ, List.getD_cons_zero, List.getD_cons_succ, List.getD_nil, Bool.not_true, Bool.not_false, decide_true, decide_false]
        refine hQ _ _ _ ?_
        simp (maxSteps := 1000000) (disch := omega) only [h4, S, S1, S2, S3, S4, ST, eq_self, ne_eq, not_true_eq_false, not_false_eq_true, and_self, true_and, and_true, reduceIte, reduceCtorEq, Nat.reduceEqDiff, Nat.reduceAdd, Nat.zero_add, Nat.add_zero, Option.map_none, Option.map_some, List.map_cons, List.map_nil, List.append_nil, List.cons_append, List.nil_append, List.getElem?_cons_zero, List.getElem?_cons_succ, List.getD_cons_zero, List.getD_cons_succ, List.getD_nil, Bool.not_true, Bool.not_false, decide_true, decide_false]
        have : a = p.length := by omega
        subst this
        simp [invR, hp, List.prefix_refl]
  · refine hQ _ _ _ ?_
    simp (maxSteps := 1000000) (disch := omega) only [S, S1, S2, S3, S4, ST, eq_self, ne_eq, not_true_eq_false, not_false_eq_true, and_self, true_and, and_true, reduceIte, reduceCtorEq, Nat.reduceEqDiff, Nat.reduceAdd, Nat.zero_add, Nat.add_zero, Option.map_none, Option.map_some, List.map_cons, List.map_nil, List.append_nil, List.cons_append, List.nil_append, List.getElem?_cons_zero, List.getElem?_cons_succ, List.getD_cons_zero, List.getD_cons_succ, List.getD_nil, Bool.not_true, Bool.not_false, decide_true, decide_false]
    simp [invR, hp, List.prefix_refl]

set_option maxHeartbeats 2000000 in
theorem InvI_c (v : Value) (p : List Int) (H : AH) (hr : Row 3 H v p) (hlen : p.length ≤ 1099511627776) (hxs : ∀ y ∈ p, I64 y) :
    ACalls Try.prog 28 [v] H fun r H' => r = .tuple (List.toArray [.int .i64 (invR p), .bool (decide (Prm p))]) ∧ H <+: H' := by
  refine in28 rfl ?_
  intro Q hQ
  simp (maxSteps := 1000000) (disch := omega) only [cd28, S, S1, S2, S3, S4, ST, eq_self, ne_eq, not_true_eq_false, not_false_eq_true, and_self, true_and, and_true, reduceIte, reduceCtorEq, Nat.reduceEqDiff, Nat.reduceAdd, Nat.zero_add, Nat.add_zero, Option.map_none, Option.map_some, List.map_cons, List.map_nil, List.append_nil, List.cons_append, List.nil_append, List.getElem?_cons_zero, List.getElem?_cons_succ, List.getD_cons_zero, List.getD_cons_succ, List.getD_nil, Bool.not_true, Bool.not_false, decide_true, decide_false]
  refine CallH.by (PermI_c v p H hr hlen hxs) ?_
  rintro _ H1 ⟨rfl, hpp⟩
  have hr1 := hr.pre hpp
  simp (maxSteps := 1000000) (disch := omega) only [S, S1, S2, S3, S4, ST, eq_self, ne_eq, not_true_eq_false, not_false_eq_true, and_self, true_and, and_true, reduceIte, reduceCtorEq, Nat.reduceEqDiff, Nat.reduceAdd, Nat.zero_add, Nat.add_zero, Option.map_none, Option.map_some, List.map_cons, List.map_nil, List.append_nil, List.cons_append, List.nil_append, List.getElem?_cons_zero, List.getElem?_cons_succ, List.getD_cons_zero, List.getD_cons_succ, List.getD_nil, Bool.not_true, Bool.not_false, decide_true, decide_false]
  refine brD.intro (fun hp => ?_) (fun hp => ?_) <;> simp (maxSteps := 1000000) (disch := omega) only [hp, hr1.len Try.underlying22, S, S1, S2, S3, S4, ST, eq_self, ne_eq, not_true_eq_false, not_false_eq_true, and_self, true_and, and_true, reduceIte, reduceCtorEq, Nat.reduceEqDiff, Nat.reduceAdd, Nat.zero_add, Nat.add_zero, Option.map_none, Option.map_some, List.map_cons, List.map_nil, List.append_nil, List.cons_append, List.nil_append, List.getElem?_cons_zero, List.getElem?_cons_succ, List.getD_cons_zero, List.getD_cons_succ, List.getD_nil, Bool.not_true, Bool.not_false, decide_true, decide_false]
  · have h8 := hp.1
    refine LoopH.by (fun m s H' => ∃ a, m + a = p.length ∧ s 0 = v ∧ s 12 = v ∧ s 13 = .int .i64 (p.length : Int) ∧ s 14 = .int .i64 ((a : Nat) : Int) ∧ s 4 = .int .i64 ((invs p a : Nat) : Int) ∧ H1 = H') p.length ?_ ?_
    · exact ⟨0, by simp, rfl, rfl, rfl, rfl, rfl, rfl⟩
    · rintro m s H' ⟨a, hm, h0, h12, h13, h14, h4, rfl⟩
      simp (maxSteps := 1000000) (disch := omega) only [h0, h12, h13, h14, h4, S, S1, S2, S3, S4, ST, eq_self, ne_eq, not_true_eq_false, not_false_eq_true, and_self, true_and, and_true, reduceIte, reduceCtorEq, Nat.reduceEqDiff, Nat.reduceAdd, Nat.zero_add, Nat.add_zero, Option.map_none, Option.map_some, List.map_cons, List.map_nil, List.append_nil, List.cons_append, List.nil_append, List.getElem?_cons_zero, List.getElem?_cons_succ, List.getD_cons_zero, List.getD_cons_succ, List.getD_nil, Bool.not_true, Bool.not_false, decide_true, decide_false]
      refine brD.intro (fun g => ?_) (fun g => ?_)
      · have ha : a < p.length := by omega
        have b0 := invs_bd hp a (by omega)
        have hs := hr1.slice Try.underlying22 cs3 (lo := some (.int .i64 ((a : Nat) : Int))) (hi := none) (bound_some (by omega) _) (hi_none _) (by simp; omega) (Nat.le_refl _)
        simp only [Int.toNat_natCast] at hs
        have ed : (p.drop a).take (p.length - a) = p.drop a := List.take_of_length_le (by simp)
        rw [ed] at hs
        have hdl : (p.drop a).length = p.length - a := by simp
        have hrs := hs.2.1
        have self := invRow_self p a ha
        simp (maxSteps := 1000000) (disch := omega) only [h0, h12, h13, h14, h4, hr1.ix Try.underlying22 cs3, hr1.cell, Int.toNat_natCast, hs.1, hrs.len Try.underlying22, S, S1, S2, S3, S4, ST, eq_self, ne_eq, not_true_eq_false, not_false_eq_true, and_self, true_and, and_true, reduceIte, reduceCtorEq, Nat.reduceEqDiff, Nat.reduceAdd, Nat.zero_add, Nat.add_zero, Option.map_none, Option.map_some, List.map_cons, List.map_nil, List.append_nil, List.cons_append, List.nil_append, List.getElem?_cons_zero, List.getElem?_cons_succ, List.getD_cons_zero, List.getD_cons_succ, List.getD_nil, Bool.not_true, Bool.not_false, decide_true, decide_false]
        refine LoopH.by (fun m' s' H'' => ∃ j, m' + j = p.length - a ∧ s' 0 = v ∧ s' 12 = v ∧ s' 13 = .int .i64 (p.length : Int) ∧ s' 14 = .int .i64 ((a : Nat) : Int) ∧ s' 6 = .int .i64 (p.getD a 0) ∧ s' 21 = subV v a p.length ∧ s' 22 = .int .i64 ((p.drop a).length : Int) ∧ s' 23 = .int .i64 ((j : Nat) : Int) ∧ s' 4 = .int .i64 (((invs p a + invRow (p.getD a 0) ((p.drop a).take j) : Nat)) : Int) ∧ H1 = H'') (p.length - a) ?_ ?_
        · refine ⟨0, by simp, ?_⟩
          simp only [S, S1, S2, S3, S4, ST, eq_self, ne_eq, not_true_eq_false, not_false_eq_true, and_self, true_and, and_true, reduceIte, reduceCtorEq, Nat.reduceEqDiff, Nat.reduceAdd, Nat.zero_add, Nat.add_zero, Option.map_none, Option.map_some, List.map_cons, List.map_nil, List.append_nil, List.cons_append, List.nil_append, List.getElem?_cons_zero, List.getElem?_cons_succ, List.getD_cons_zero, List.getD_cons_succ, List.getD_nil, Bool.not_true, Bool.not_false, decide_true, decide_false, h0, h12, h13, h14, h4]
          simp [invRow]
        · rintro m' s' H'' ⟨j, hm', g0, g12, g13, g14, g6, g21, g22, g23, g4, rfl⟩
          simp (maxSteps := 1000000) (disch := omega) only [g0, g12, g13, g14, g6, g21, g22, g23, g4, S, S1, S2, S3, S4, ST, eq_self, ne_eq, not_true_eq_false, not_false_eq_true, and_self, true_and, and_true, reduceIte, reduceCtorEq, Nat.reduceEqDiff, Nat.reduceAdd, Nat.zero_add, Nat.add_zero, Option.map_none, Option.map_some, List.map_cons, List.map_nil, List.append_nil, List.cons_append, List.nil_append, List.getElem?_cons_zero, List.getElem?_cons_succ, List.getD_cons_zero, List.getD_cons_succ, List.getD_nil, Bool.not_true, Bool.not_false, decide_true, decide_false]
          refine brD.intro (fun q => ?_) (fun q => ?_)
          · have hj : j < (p.drop a).length := by omega
            have st := invRow_step (p.getD a 0) (p.drop a) j hj
            have b1 := invRow_le (p.getD a 0) ((p.drop a).take j)
            have b2 : ((p.drop a).take j).length ≤ j := by simp; omega
            simp (maxSteps := 1000000) (disch := omega) only [g0, g12, g13, g14, g6, g21, g22, g23, g4, hrs.ix Try.underlying22 cs3, hrs.cell, Int.toNat_natCast, S, S1, S2, S3, S4, ST, eq_self, ne_eq, not_true_eq_false, not_false_eq_true, and_self, true_and, and_true, reduceIte, reduceCtorEq, Nat.reduceEqDiff, Nat.reduceAdd, Nat.zero_add, Nat.add_zero, Option.map_none, Option.map_some, List.map_cons, List.map_nil, List.append_nil, List.cons_append, List.nil_append, List.getElem?_cons_zero, List.getElem?_cons_succ, List.getD_cons_zero, List.getD_cons_succ, List.getD_nil, Bool.not_true, Bool.not_false, decide_true, decide_false]
            refine brD.intro (fun e => ?_) (fun e => ?_) <;> simp (maxSteps := 1000000) (disch := omega) only [g0, g12, g13, g14, g6, g21, g22, g23, g4, wrap64, S, S1, S2, S3, S4, ST, eq_self, ne_eq, not_true_eq_false, not_false_eq_true, and_self, true_and, and_true, reduceIte, reduceCtorEq, Nat.reduceEqDiff, Nat.reduceAdd, Nat.zero_add, Nat.add_zero, Option.map_none, Option.map_some, List.map_cons, List.map_nil, List.append_nil, List.cons_append, List.nil_append, List.getElem?_cons_zero, List.getElem?_cons_succ, List.getD_cons_zero, List.getD_cons_succ, List.getD_nil, Bool.not_true, Bool.not_false, decide_true, decide_false]
            · rw [if_pos e] at st
              refine ⟨m' - 1, by omega, j + 1, by omega, ?_⟩
              rw [st]
              (repeat' apply And.intro) <;> first | (simp only [Value.int.injEq, true_and]; omega) | omega | rfl | assumption | (simp; done) | (simp; omega)
            · rw [if_neg e] at st
              refine ⟨m' - 1, by omega, j + 1, by omega, ?_⟩
              rw [st]
              (repeat' apply And.intro) <;> first | (simp only [Value.int.injEq, true_and]; omega) | omega | rfl | assumption | (simp; done) | (simp; omega)
          · have e : (p.drop a).take j = p.drop a := List.take_of_length_le (by omega)
            rw [e, self] at g4
            simp (maxSteps := 1000000) (disch := omega) only [g0, g12, g13, g14, g6, g21, g22, g23, g4, wrap64, S, S1, S2, S3, S4, ST, eq_self, ne_eq, not_true_eq_false, not_false_eq_true, and_self, true_and, and_true, reduceIte, reduceCtorEq, Nat.reduceEqDiff, Nat.reduceAdd, Nat.zero_add, Nat.add_zero, Option.map_none, Option.map_some, List.map_cons, List.map_nil, List.append_nil, List.cons_append, List.nil_append, List.getElem?_cons_zero, List.getElem?_cons_succ, List.getD_cons_zero, List.getD_cons_succ, List.getD_nil, Bool.not_true, Bool.not_false, decide_true, decide_false]
            refine ⟨m - 1, by omega, a + 1, by omega, ?_⟩
            rw [invs]
            (repeat' apply And.intro) <;> first | (simp only [Value.int.injEq, true_and]; omega) | omega | rfl | assumption | (simp; done) | (simp; omega)
      · simp (maxSteps := 1000000) (disch := omega) only [h0, h12, h13, h14, h4, S, S1, S2, S3, S4, ST, eq_self, ne_eq, not_true_eq_false, not_false_eq_true, and_self, true_and, and_true, reduceIte, reduceCtorEq, Nat.reduceEqDiff, Nat.reduceAdd, Nat.zero_add, Nat.add_zero, Option.map_none, Option.map_some, List.map_cons, List.map_nil, List.append_nil, List.cons_append, List.nil_append, List.getElem?_cons_zero, List.getElem?_cons_succ, List.getD_cons_zero, List.getD_cons_succ, List.getD_nil, Bool.not_true, Bool.not_false, decide_true, decide_false]
        refine hQ _ _ _ ?_
        simp (maxSteps := 1000000) (disch := omega) only [h4, S, S1, S2, S3, S4, ST, eq_self, ne_eq, not_true_eq_false, not_false_eq_true, and_self, true_and, and_true, reduceIte, reduceCtorEq, Nat.reduceEqDiff, Nat.reduceAdd, Nat.zero_add, Nat.add_zero, Option.map_none, Option.map_some, List.map_cons, List.map_nil, List.append_nil, List.cons_append, List.nil_append, List.getElem?_cons_zero, List.getElem?_cons_succ, List.getD_cons_zero, List.getD_cons_succ, List.getD_nil, Bool.not_true, Bool.not_false, decide_true, decide_false]
        have : a = p.length := by omega
        subst this
        simp [invR, hp, hpp]
  · refine hQ _ _ _ ?_
    simp (maxSteps := 1000000) (disch := omega) only [S, S1, S2, S3, S4, ST, eq_self, ne_eq, not_true_eq_false, not_false_eq_true, and_self, true_and, and_true, reduceIte, reduceCtorEq, Nat.reduceEqDiff, Nat.reduceAdd, Nat.zero_add, Nat.add_zero, Option.map_none, Option.map_some, List.map_cons, List.map_nil, List.append_nil, List.cons_append, List.nil_append, List.getElem?_cons_zero, List.getElem?_cons_succ, List.getD_cons_zero, List.getD_cons_succ, List.getD_nil, Bool.not_true, Bool.not_false, decide_true, decide_false]
    simp [invR, hp, hpp]
end Go.Proofs.Ytnoihoeaconllaa.Ai
