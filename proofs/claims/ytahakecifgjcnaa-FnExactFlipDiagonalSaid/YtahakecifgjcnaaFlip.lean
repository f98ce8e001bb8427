/- FlipDiagonal, both sides. -/
import Derived.Test.YtahakecifgjcnaaFlipP
import Derived.Test.YtahakecifgjcnaaAt
import Derived.Test.YtahakecifgjcnaaCommon
import Derived.Test.YtahakecifgjcnaaClone
import Derived.Test.YtahakecifgjcnaaDgs
import Derived.Test.YtahakecifgjcnaaPut
import Derived.Test.YtahakecifgjcnaaColl
import Derived.Test.YtahakecifgjcnaaCdFlip
namespace Go.Proofs.Ytahakecifgjcnaa.Ai
open Go Go.RowKit
set_option linter.unusedVariables false
set_option linter.unusedSimpArgs false

theorem rst_step (xs : List Int) (x : Int) (i : Nat) (hi : i < xs.length) : rst (xs.take (i + 1)) x = rst (xs.take i) x ++ if xs.getD i 0 = x then [] else [xs.getD i 0] := by
  unfold rst
  rw [List.take_add_one, List.getElem?_eq_getElem hi, List.filter_append]
  have hx : xs.getD i 0 = xs[i] := by simp [hi]
  rw [hx]
  by_cases h : xs[i] = x <;> simp [h]
theorem rst_le (xs : List Int) (x : Int) : (rst xs x).length ≤ xs.length := List.length_filter_le _ _

set_option maxHeartbeats 1000000 in
theorem l4Without_c (v : Value) (xs : List Int) (x : Int) (H : AH) (hr : Row 3 H v xs) (hlen : xs.length ≤ 1099511627775) :
    ACalls Try.prog 67 [v, .int .i64 x] H fun r H' => Own 3 H H' r (rst xs x) ∧ H <+: H' := by
  refine in67 rfl ?_
  intro Q hQ
  have hp0 := List.prefix_append H [AObj.cells [] 3 false]
  have hown0 : Own 3 H (H ++ [AObj.cells [] 3 false]) (.slice (some ⟨H.length, 0, none⟩) 0 0) [] := .inr ⟨H.length, rfl, Nat.le_refl _, at_new ..⟩
  simp (maxSteps := 1000000) (disch := omega) only [cd67, S, S1, S2, S3, S4, ST, eq_self, ne_eq, not_true_eq_false, not_false_eq_true, and_self, true_and, and_true, reduceIte, reduceCtorEq, Nat.reduceEqDiff, Nat.reduceAdd, Nat.zero_add, Nat.add_zero, Option.map_none, Option.map_some, List.map_cons, List.map_nil, List.append_nil, List.cons_append, List.nil_append, List.getElem?_cons_zero, List.getElem?_cons_succ, List.getD_cons_zero, List.getD_cons_succ, List.getD_nil, Bool.not_true, Bool.not_false, decide_true, decide_false]
  refine LoopH.by (fun m s H' => ∃ i, m + i = xs.length ∧ s 0 = v ∧ s 1 = .int .i64 x ∧ s 6 = .int .i64 ((i : Nat) : Int) ∧ Own 3 H H' (s 5) (rst (xs.take i) x) ∧ H <+: H') xs.length ?_ ?_
  · refine ⟨0, by simp, rfl, rfl, rfl, ?_, hp0⟩
    simp (maxSteps := 1000000) (disch := omega) only [S, S1, S2, S3, S4, ST, eq_self, ne_eq, not_true_eq_false, not_false_eq_true, and_self, true_and, and_true, reduceIte, reduceCtorEq, Nat.reduceEqDiff, Nat.reduceAdd, Nat.zero_add, Nat.add_zero, Option.map_none, Option.map_some, List.map_cons, List.map_nil, List.append_nil, List.cons_append, List.nil_append, List.getElem?_cons_zero, List.getElem?_cons_succ, List.getD_cons_zero, List.getD_cons_succ, List.getD_nil, Bool.not_true, Bool.not_false, decide_true, decide_false]; exact hown0
  · rintro m s H' ⟨i, hm, h0, h1, h6, hown, hpp⟩
    have hr' := hr.pre hpp
    generalize hw : s 5 = w at *
    simp (maxSteps := 1000000) (disch := omega) only [h0, h1, h6, hw, hr'.len Try.underlying22, S, S1, S2, S3, S4, ST, eq_self, ne_eq, not_true_eq_false, not_false_eq_true, and_self, true_and, and_true, reduceIte, reduceCtorEq, Nat.reduceEqDiff, Nat.reduceAdd, Nat.zero_add, Nat.add_zero, Option.map_none, Option.map_some, List.map_cons, List.map_nil, List.append_nil, List.cons_append, List.nil_append, List.getElem?_cons_zero, List.getElem?_cons_succ, List.getD_cons_zero, List.getD_cons_succ, List.getD_nil, Bool.not_true, Bool.not_false, decide_true, decide_false]
    refine brD.intro (fun g => ?_) (fun g => ?_)
    · have hi : i < xs.length := by omega
      have st := rst_step xs x i hi
      have le := rst_le (xs.take i) x
      have le2 : (xs.take i).length ≤ i := by simp; omega
      simp (maxSteps := 1000000) (disch := omega) only [h0, h1, h6, hw, hr'.ix Try.underlying22 cs3, hr'.cell, Int.toNat_natCast, S, S1, S2, S3, S4, ST, eq_self, ne_eq, not_true_eq_false, not_false_eq_true, and_self, true_and, and_true, reduceIte, reduceCtorEq, Nat.reduceEqDiff, Nat.reduceAdd, Nat.zero_add, Nat.add_zero, Option.map_none, Option.map_some, List.map_cons, List.map_nil, List.append_nil, List.cons_append, List.nil_append, List.getElem?_cons_zero, List.getElem?_cons_succ, List.getD_cons_zero, List.getD_cons_succ, List.getD_nil, Bool.not_true, Bool.not_false, decide_true, decide_false]
      refine brD.intro (fun e => ?_) (fun e => ?_)
      · rw [if_neg e] at st
        obtain ⟨v', H2, k1, k2, k3, k4, k5, k6⟩ := own1_22 hown hpp (by omega) (xs.getD i 0)
        simp (maxSteps := 1000000) (disch := omega) only [h0, h1, h6, hw, hr'.ix Try.underlying22 cs3, hr'.cell, Int.toNat_natCast, k1, wrap64, S, S1, S2, S3, S4, ST, eq_self, ne_eq, not_true_eq_false, not_false_eq_true, and_self, true_and, and_true, reduceIte, reduceCtorEq, Nat.reduceEqDiff, Nat.reduceAdd, Nat.zero_add, Nat.add_zero, Option.map_none, Option.map_some, List.map_cons, List.map_nil, List.append_nil, List.cons_append, List.nil_append, List.getElem?_cons_zero, List.getElem?_cons_succ, List.getD_cons_zero, List.getD_cons_succ, List.getD_nil, Bool.not_true, Bool.not_false, decide_true, decide_false]
        refine ⟨m - 1, by omega, i + 1, ?_⟩
        rw [st]
        (repeat' apply And.intro) <;> first | exact k2 | exact k3 | (simp only [Value.int.injEq, true_and]; omega) | omega | rfl | assumption | (simp; done) | (simp; omega)
      · rw [if_pos (Decidable.not_not.1 e), List.append_nil] at st
        simp (maxSteps := 1000000) (disch := omega) only [h0, h1, h6, hw, wrap64, S, S1, S2, S3, S4, ST, eq_self, ne_eq, not_true_eq_false, not_false_eq_true, and_self, true_and, and_true, reduceIte, reduceCtorEq, Nat.reduceEqDiff, Nat.reduceAdd, Nat.zero_add, Nat.add_zero, Option.map_none, Option.map_some, List.map_cons, List.map_nil, List.append_nil, List.cons_append, List.nil_append, List.getElem?_cons_zero, List.getElem?_cons_succ, List.getD_cons_zero, List.getD_cons_succ, List.getD_nil, Bool.not_true, Bool.not_false, decide_true, decide_false]
        refine ⟨m - 1, by omega, i + 1, ?_⟩
        rw [st]
        (repeat' apply And.intro) <;> first | exact hown | exact hpp | (simp only [Value.int.injEq, true_and]; omega) | omega | rfl | assumption | (simp; done) | (simp; omega)
    · simp (maxSteps := 1000000) (disch := omega) only [hw, S, S1, S2, S3, S4, ST, eq_self, ne_eq, not_true_eq_false, not_false_eq_true, and_self, true_and, and_true, reduceIte, reduceCtorEq, Nat.reduceEqDiff, Nat.reduceAdd, Nat.zero_add, Nat.add_zero, Option.map_none, Option.map_some, List.map_cons, List.map_nil, List.append_nil, List.cons_append, List.nil_append, List.getElem?_cons_zero, List.getElem?_cons_succ, List.getD_cons_zero, List.getD_cons_succ, List.getD_nil, Bool.not_true, Bool.not_false, decide_true, decide_false]
      refine hQ _ _ _ ?_
      simp (maxSteps := 1000000) (disch := omega) only [hw, hown.row.tup, S, S1, S2, S3, S4, ST, eq_self, ne_eq, not_true_eq_false, not_false_eq_true, and_self, true_and, and_true, reduceIte, reduceCtorEq, Nat.reduceEqDiff, Nat.reduceAdd, Nat.zero_add, Nat.add_zero, Option.map_none, Option.map_some, List.map_cons, List.map_nil, List.append_nil, List.cons_append, List.nil_append, List.getElem?_cons_zero, List.getElem?_cons_succ, List.getD_cons_zero, List.getD_cons_succ, List.getD_nil, Bool.not_true, Bool.not_false, decide_true, decide_false]
      rw [List.take_of_length_le (by omega)] at hown
      exact ⟨hown, hpp⟩

theorem without_rst (xs : List Int) (x : Int) : without xs [x] = rst xs x := by
  unfold without rst
  congr 1
  funext y
  simp

def flipC (n : Int) (xs : List Int) (x : Int) : Prop := Tri1 n xs ∧ x ∈ xs
instance (n : Int) (xs : List Int) (x : Int) : Decidable (flipC n xs x) := inferInstanceAs (Decidable (_ ∧ _))
def flipR (n : Int) (xs : List Int) (x : Int) : List Int := if flipC n xs x then put (rst xs x) (flipD n xs x) else []
def flipN (n : Int) (xs : List Int) (x : Int) : Int := if flipC n xs x then flipD n xs x else 0
theorem flipR_len (n : Int) (xs : List Int) (x : Int) : (flipR n xs x).length ≤ 1099511627776 := by
  unfold flipR
  split
  · rename_i h
    have h1 := put_len (rst xs x) (flipD n xs x)
    have h2 := rst_le xs x
    have h3 := h.1.len
    have h4 := h.1.1
    omega
  · simp
theorem flip_facts {n x : Int} {xs : List Int} (h : flipC n xs x) : TriSet n xs ∧ 0 ≤ flipK n xs x := by
  have ts := (triSet_iff n xs).1 h.1.2
  exact ⟨ts, (idxP_any _ _ 0).2 (flip_ex h.1.1 ts h.2)⟩
theorem dgs_bound {n : Int} (hn : 3 ≤ n ∧ n ≤ 8) {d : Int} (hd : d ∈ dgs n n.toNat) : I64 d := by
  obtain ⟨N, rfl⟩ : ∃ N : Nat, n = N := ⟨n.toNat, by omega⟩
  simp only [Int.toNat_natCast] at hd
  have := dgs_range ⟨N, by omega⟩ d hd
  exact ⟨by omega, by omega⟩
theorem flipOk_first (rest : List Int) (x d : Int) : flipOk rest x d = true ↔ ¬ d = x ∧ ¬ d ∈ rest ∧ (!rest.any fun e => decide (Crs e d)) = true := by
  simp [flipOk]

set_option maxRecDepth 20000 in
set_option maxHeartbeats 4000000 in
theorem FlipS_c (n x : Int) (v : Value) (xs : List Int) (H : AH) (hr : Row 3 H v xs) (hlen : xs.length ≤ 1099511627776) (hxs : ∀ y ∈ xs, I64 y) :
    ACalls Try.prog 25 [.int .i64 n, v, .int .i64 x] H fun r H' => ∃ g, r = .tuple (List.toArray [g, .int .i64 (flipN n xs x), .bool (decide (flipC n xs x))]) ∧ Mine 3 H H' g (flipR n xs x) ∧ H <+: H' := by
  refine in25 rfl ?_
  intro Q hQ
  have no : ¬ flipC n xs x → flipR n xs x = [] ∧ flipN n xs x = 0 ∧ decide (flipC n xs x) = false := fun h => ⟨if_neg h, if_neg h, decide_eq_false h⟩
  simp (maxSteps := 1000000) (disch := omega) only [cd25, S, S1, S2, S3, S4, ST, eq_self, ne_eq, not_true_eq_false, not_false_eq_true, and_self, true_and, and_true, reduceIte, reduceCtorEq, Nat.reduceEqDiff, Nat.reduceAdd, Nat.zero_add, Nat.add_zero, Option.map_none, Option.map_some, List.map_cons, List.map_nil, List.append_nil, List.cons_append, List.nil_append, List.getElem?_cons_zero, List.getElem?_cons_succ, List.getD_cons_zero, List.getD_cons_succ, List.getD_nil, Bool.not_true, Bool.not_false, decide_true, decide_false]
  refine CallH.by (valid_c n v xs H hr hlen hxs) ?_
  rintro _ H1 ⟨rfl, hp1⟩
  have hr1 := hr.pre hp1
  simp (maxSteps := 1000000) (disch := omega) only [S, S1, S2, S3, S4, ST, eq_self, ne_eq, not_true_eq_false, not_false_eq_true, and_self, true_and, and_true, reduceIte, reduceCtorEq, Nat.reduceEqDiff, Nat.reduceAdd, Nat.zero_add, Nat.add_zero, Option.map_none, Option.map_some, List.map_cons, List.map_nil, List.append_nil, List.cons_append, List.nil_append, List.getElem?_cons_zero, List.getElem?_cons_succ, List.getD_cons_zero, List.getD_cons_succ, List.getD_nil, Bool.not_true, Bool.not_false, decide_true, decide_false]
  refine brD.intro (fun ha => ?_) (fun ha => ?_) <;> simp (maxSteps := 1000000) (disch := omega) only [ha, S, S1, S2, S3, S4, ST, eq_self, ne_eq, not_true_eq_false, not_false_eq_true, and_self, true_and, and_true, reduceIte, reduceCtorEq, Nat.reduceEqDiff, Nat.reduceAdd, Nat.zero_add, Nat.add_zero, Option.map_none, Option.map_some, List.map_cons, List.map_nil, List.append_nil, List.cons_append, List.nil_append, List.getElem?_cons_zero, List.getElem?_cons_succ, List.getD_cons_zero, List.getD_cons_succ, List.getD_nil, Bool.not_true, Bool.not_false, decide_true, decide_false]
  · refine CallH.by (l1Has_c v xs x H1 hr1 hlen) ?_
    rintro _ _ ⟨rfl, rfl⟩
    simp (maxSteps := 1000000) (disch := omega) only [ha, S, S1, S2, S3, S4, ST, eq_self, ne_eq, not_true_eq_false, not_false_eq_true, and_self, true_and, and_true, reduceIte, reduceCtorEq, Nat.reduceEqDiff, Nat.reduceAdd, Nat.zero_add, Nat.add_zero, Option.map_none, Option.map_some, List.map_cons, List.map_nil, List.append_nil, List.cons_append, List.nil_append, List.getElem?_cons_zero, List.getElem?_cons_succ, List.getD_cons_zero, List.getD_cons_succ, List.getD_nil, Bool.not_true, Bool.not_false, decide_true, decide_false]
    refine brD.intro (fun hb => ?_) (fun hb => ?_) <;> simp (maxSteps := 1000000) (disch := omega) only [ha, hb, S, S1, S2, S3, S4, ST, eq_self, ne_eq, not_true_eq_false, not_false_eq_true, and_self, true_and, and_true, reduceIte, reduceCtorEq, Nat.reduceEqDiff, Nat.reduceAdd, Nat.zero_add, Nat.add_zero, Option.map_none, Option.map_some, List.map_cons, List.map_nil, List.append_nil, List.cons_append, List.nil_append, List.getElem?_cons_zero, List.getElem?_cons_succ, List.getD_cons_zero, List.getD_cons_succ, List.getD_nil, Bool.not_true, Bool.not_false, decide_true, decide_false]
    · have hc : flipC n xs x := ⟨ha, hb⟩
      have hn := ha.1
      have hln := ha.len
      obtain ⟨ts, hk0⟩ := flip_facts hc
      refine CallH.by (l4Without_c v xs x H1 hr1 (by omega)) ?_
      rintro u H2 ⟨ho2, hp2⟩
      simp (maxSteps := 1000000) (disch := omega) only [S, S1, S2, S3, S4, ST, eq_self, ne_eq, not_true_eq_false, not_false_eq_true, and_self, true_and, and_true, reduceIte, reduceCtorEq, Nat.reduceEqDiff, Nat.reduceAdd, Nat.zero_add, Nat.add_zero, Option.map_none, Option.map_some, List.map_cons, List.map_nil, List.append_nil, List.cons_append, List.nil_append, List.getElem?_cons_zero, List.getElem?_cons_succ, List.getD_cons_zero, List.getD_cons_succ, List.getD_nil, Bool.not_true, Bool.not_false, decide_true, decide_false]
      refine CallH.by (l8Diagonals_c n H2 (by omega)) ?_
      rintro w H3 ⟨ho3, hp3⟩
      simp (maxSteps := 1000000) (disch := omega) only [S, S1, S2, S3, S4, ST, eq_self, ne_eq, not_true_eq_false, not_false_eq_true, and_self, true_and, and_true, reduceIte, reduceCtorEq, Nat.reduceEqDiff, Nat.reduceAdd, Nat.zero_add, Nat.add_zero, Option.map_none, Option.map_some, List.map_cons, List.map_nil, List.append_nil, List.cons_append, List.nil_append, List.getElem?_cons_zero, List.getElem?_cons_succ, List.getD_cons_zero, List.getD_cons_succ, List.getD_nil, Bool.not_true, Bool.not_false, decide_true, decide_false]
      have hru : Row 3 H3 u (rst xs x) := ho2.row.pre hp3
      have hrw : Row 3 H3 w (dgs n n.toNat) := ho3.row
      have hp03 : H <+: H3 := hp1.trans (hp2.trans hp3)
      have hrl := rst_le xs x
      have hdl : (dgs n n.toNat).length ≤ 1000 := by have := dgs_len n n.toNat (by omega) (by omega); omega
      have hrI : ∀ y ∈ rst xs x, I64 y := fun y hy => hxs y (rst_mem.1 hy).1
      have hrest : rst xs x = rst xs x := rfl
      generalize hD : dgs n n.toNat = D at *
      have hDI : ∀ d ∈ D, I64 d := fun d hd => dgs_bound hn (by rw [hD]; exact hd)
      refine LoopH.by (fun m s H' => ∃ i, m + i = D.length ∧ s 0 = .int .i64 n ∧ s 2 = .int .i64 x ∧ s 9 = u ∧ s 10 = w ∧ s 11 = .int .i64 ((i : Nat) : Int) ∧ H3 = H' ∧ flipK n xs x = idxP (fun d => flipOk (rst xs x) x d) (D.drop i) i) D.length ?_ ?_
      · exact ⟨0, by simp, rfl, rfl, rfl, rfl, rfl, rfl, by rw [← hD]; rfl⟩
      · rintro m s H' ⟨i, hm, h0, h2, h9, h10, h11, rfl, hk⟩
        have hi : i < D.length := by
          by_cases hi : i < D.length
          · exact hi
          · rw [List.drop_of_length_le (by omega)] at hk
            simp only [idxP] at hk
            omega
        rw [idxP_step _ D i hi] at hk
        have hdm : D.getD i 0 ∈ D := by simp [hi]
        have hd := hDI _ hdm
        have fo := flipOk_first (rst xs x) x (D.getD i 0)
        have nxt : flipOk (rst xs x) x (D.getD i 0) = false → flipK n xs x = idxP (fun d => flipOk (rst xs x) x d) (D.drop (i + 1)) (i + 1) := fun h => by rw [hk, h]; rfl
        simp (maxSteps := 1000000) (disch := omega) only [h0, h2, h9, h10, h11, hrw.ix Try.underlying22 cs3, hrw.cell, Int.toNat_natCast, S, S1, S2, S3, S4, ST, eq_self, ne_eq, not_true_eq_false, not_false_eq_true, and_self, true_and, and_true, reduceIte, reduceCtorEq, Nat.reduceEqDiff, Nat.reduceAdd, Nat.zero_add, Nat.add_zero, Option.map_none, Option.map_some, List.map_cons, List.map_nil, List.append_nil, List.cons_append, List.nil_append, List.getElem?_cons_zero, List.getElem?_cons_succ, List.getD_cons_zero, List.getD_cons_succ, List.getD_nil, Bool.not_true, Bool.not_false, decide_true, decide_false]
        refine brD.intro (fun e1 => ?_) (fun e1 => ?_) <;> simp (maxSteps := 1000000) (disch := omega) only [e1, h0, h2, h9, h10, h11, hrw.ix Try.underlying22 cs3, hrw.cell, Int.toNat_natCast, wrap64, S, S1, S2, S3, S4, ST, eq_self, ne_eq, not_true_eq_false, not_false_eq_true, and_self, true_and, and_true, reduceIte, reduceCtorEq, Nat.reduceEqDiff, Nat.reduceAdd, Nat.zero_add, Nat.add_zero, Option.map_none, Option.map_some, List.map_cons, List.map_nil, List.append_nil, List.cons_append, List.nil_append, List.getElem?_cons_zero, List.getElem?_cons_succ, List.getD_cons_zero, List.getD_cons_succ, List.getD_nil, Bool.not_true, Bool.not_false, decide_true, decide_false]
        · have fx := nxt (by rw [Bool.eq_false_iff]; exact fun h => (fo.1 h).1 e1)
          refine ⟨m - 1, by omega, i + 1, ?_⟩
          (repeat' apply And.intro) <;> first | exact fx | (simp only [Value.int.injEq, true_and]; omega) | omega | rfl | assumption | (simp; done) | (simp; omega)
        · refine CallH.by (l1Has_c u (rst xs x) (D.getD i 0) H3 hru (by omega)) ?_
          rintro _ _ ⟨rfl, rfl⟩
          simp (maxSteps := 1000000) (disch := omega) only [e1, S, S1, S2, S3, S4, ST, eq_self, ne_eq, not_true_eq_false, not_false_eq_true, and_self, true_and, and_true, reduceIte, reduceCtorEq, Nat.reduceEqDiff, Nat.reduceAdd, Nat.zero_add, Nat.add_zero, Option.map_none, Option.map_some, List.map_cons, List.map_nil, List.append_nil, List.cons_append, List.nil_append, List.getElem?_cons_zero, List.getElem?_cons_succ, List.getD_cons_zero, List.getD_cons_succ, List.getD_nil, Bool.not_true, Bool.not_false, decide_true, decide_false]
          refine brD.intro (fun e2 => ?_) (fun e2 => ?_) <;> simp (maxSteps := 1000000) (disch := omega) only [e1, e2, h0, h2, h9, h10, h11, hrw.ix Try.underlying22 cs3, hrw.cell, Int.toNat_natCast, wrap64, S, S1, S2, S3, S4, ST, eq_self, ne_eq, not_true_eq_false, not_false_eq_true, and_self, true_and, and_true, reduceIte, reduceCtorEq, Nat.reduceEqDiff, Nat.reduceAdd, Nat.zero_add, Nat.add_zero, Option.map_none, Option.map_some, List.map_cons, List.map_nil, List.append_nil, List.cons_append, List.nil_append, List.getElem?_cons_zero, List.getElem?_cons_succ, List.getD_cons_zero, List.getD_cons_succ, List.getD_nil, Bool.not_true, Bool.not_false, decide_true, decide_false]
          · have fx := nxt (by rw [Bool.eq_false_iff]; exact fun h => (fo.1 h).2.1 e2)
            refine ⟨m - 1, by omega, i + 1, ?_⟩
            (repeat' apply And.intro) <;> first | exact fx | (simp only [Value.int.injEq, true_and]; omega) | omega | rfl | assumption | (simp; done) | (simp; omega)
          · refine CallH.by (l8Apart_c u (rst xs x) (D.getD i 0) H3 hru (by omega) hrI hd) ?_
            rintro _ _ ⟨rfl, rfl⟩
            simp (maxSteps := 1000000) (disch := omega) only [e1, e2, S, S1, S2, S3, S4, ST, eq_self, ne_eq, not_true_eq_false, not_false_eq_true, and_self, true_and, and_true, reduceIte, reduceCtorEq, Nat.reduceEqDiff, Nat.reduceAdd, Nat.zero_add, Nat.add_zero, Option.map_none, Option.map_some, List.map_cons, List.map_nil, List.append_nil, List.cons_append, List.nil_append, List.getElem?_cons_zero, List.getElem?_cons_succ, List.getD_cons_zero, List.getD_cons_succ, List.getD_nil, Bool.not_true, Bool.not_false, decide_true, decide_false]
            refine brH.intro (fun e3 => ?_) (fun e3 => ?_)
            · simp (maxSteps := 1000000) (disch := omega) only [e1, e2, e3, h0, h2, h9, h10, h11, wrap64, S, S1, S2, S3, S4, ST, eq_self, ne_eq, not_true_eq_false, not_false_eq_true, and_self, true_and, and_true, reduceIte, reduceCtorEq, Nat.reduceEqDiff, Nat.reduceAdd, Nat.zero_add, Nat.add_zero, Option.map_none, Option.map_some, List.map_cons, List.map_nil, List.append_nil, List.cons_append, List.nil_append, List.getElem?_cons_zero, List.getElem?_cons_succ, List.getD_cons_zero, List.getD_cons_succ, List.getD_nil, Bool.not_true, Bool.not_false, decide_true, decide_false]
              have fx := nxt (by rw [Bool.eq_false_iff]; exact fun h => by have := (fo.1 h).2.2; simp_all; obtain ⟨y, hy, hc⟩ := e3; exact h y hy hc)
              refine ⟨m - 1, by omega, i + 1, ?_⟩
              (repeat' apply And.intro) <;> first | exact fx | (simp only [Value.int.injEq, true_and]; omega) | omega | rfl | assumption | (simp; done) | (simp; omega)
            · have hok : flipOk (rst xs x) x (D.getD i 0) = true := fo.2 ⟨e1, e2, by simpa using e3⟩
              rw [if_pos hok] at hk
              have hfd : flipD n xs x = D.getD i 0 := by
                unfold flipD
                rw [hk, hD, Int.toNat_natCast]
              simp (maxSteps := 1000000) (disch := omega) only [e1, e2, e3, h0, h2, h9, h10, h11, hrw.ix Try.underlying22 cs3, hrw.cell, Int.toNat_natCast, S, S1, S2, S3, S4, ST, eq_self, ne_eq, not_true_eq_false, not_false_eq_true, and_self, true_and, and_true, reduceIte, reduceCtorEq, Nat.reduceEqDiff, Nat.reduceAdd, Nat.zero_add, Nat.add_zero, Option.map_none, Option.map_some, List.map_cons, List.map_nil, List.append_nil, List.cons_append, List.nil_append, List.getElem?_cons_zero, List.getElem?_cons_succ, List.getD_cons_zero, List.getD_cons_succ, List.getD_nil, Bool.not_true, Bool.not_false, decide_true, decide_false]
              refine CallH.by (l1Put_c u (rst xs x) (D.getD i 0) H3 hru (by omega) e2) ?_
              rintro g H4 ⟨ho4, hp4⟩
              have hrw4 := hrw.pre hp4
              simp (maxSteps := 1000000) (disch := omega) only [h0, h2, h9, h10, h11, hrw4.cell, ho4.row.tup, S, S1, S2, S3, S4, ST, eq_self, ne_eq, not_true_eq_false, not_false_eq_true, and_self, true_and, and_true, reduceIte, reduceCtorEq, Nat.reduceEqDiff, Nat.reduceAdd, Nat.zero_add, Nat.add_zero, Option.map_none, Option.map_some, List.map_cons, List.map_nil, List.append_nil, List.cons_append, List.nil_append, List.getElem?_cons_zero, List.getElem?_cons_succ, List.getD_cons_zero, List.getD_cons_succ, List.getD_nil, Bool.not_true, Bool.not_false, decide_true, decide_false]
              refine hQ _ _ _ ?_
              simp (maxSteps := 1000000) (disch := omega) only [ho4.row.tup, S, S1, S2, S3, S4, ST, eq_self, ne_eq, not_true_eq_false, not_false_eq_true, and_self, true_and, and_true, reduceIte, reduceCtorEq, Nat.reduceEqDiff, Nat.reduceAdd, Nat.zero_add, Nat.add_zero, Option.map_none, Option.map_some, List.map_cons, List.map_nil, List.append_nil, List.cons_append, List.nil_append, List.getElem?_cons_zero, List.getElem?_cons_succ, List.getD_cons_zero, List.getD_cons_succ, List.getD_nil, Bool.not_true, Bool.not_false, decide_true, decide_false]
              refine ⟨g, by simp [hc, flipN, hfd], ?_, hp03.trans hp4⟩
              have := (ho4.base hp03).mine
              simpa [flipR, hc, hfd] using this
    · refine hQ _ _ _ ?_
      simp (maxSteps := 1000000) (disch := omega) only [S, S1, S2, S3, S4, ST, eq_self, ne_eq, not_true_eq_false, not_false_eq_true, and_self, true_and, and_true, reduceIte, reduceCtorEq, Nat.reduceEqDiff, Nat.reduceAdd, Nat.zero_add, Nat.add_zero, Option.map_none, Option.map_some, List.map_cons, List.map_nil, List.append_nil, List.cons_append, List.nil_append, List.getElem?_cons_zero, List.getElem?_cons_succ, List.getD_cons_zero, List.getD_cons_succ, List.getD_nil, Bool.not_true, Bool.not_false, decide_true, decide_false]
      obtain ⟨f1, f2, f3⟩ := no (fun h => hb h.2)
      rw [f1, f2, f3]
      exact ⟨.slice (some ⟨H1.length, 0, none⟩) 0 0, rfl, Own.mine (.inr ⟨H1.length, rfl, hp1.length_le, at_new ..⟩), pre_app hp1 _⟩
  · refine hQ _ _ _ ?_
    simp (maxSteps := 1000000) (disch := omega) only [S, S1, S2, S3, S4, ST, eq_self, ne_eq, not_true_eq_false, not_false_eq_true, and_self, true_and, and_true, reduceIte, reduceCtorEq, Nat.reduceEqDiff, Nat.reduceAdd, Nat.zero_add, Nat.add_zero, Option.map_none, Option.map_some, List.map_cons, List.map_nil, List.append_nil, List.cons_append, List.nil_append, List.getElem?_cons_zero, List.getElem?_cons_succ, List.getD_cons_zero, List.getD_cons_succ, List.getD_nil, Bool.not_true, Bool.not_false, decide_true, decide_false]
    obtain ⟨f1, f2, f3⟩ := no (fun h => ha h.1)
    rw [f1, f2, f3]
    exact ⟨.slice (some ⟨H1.length, 0, none⟩) 0 0, rfl, Own.mine (.inr ⟨H1.length, rfl, hp1.length_le, at_new ..⟩), pre_app hp1 _⟩

set_option maxRecDepth 20000 in
set_option maxHeartbeats 4000000 in
theorem FlipI_c (n x : Int) (v : Value) (xs : List Int) (H : AH) (hr : Row 3 H v xs) (hlen : xs.length ≤ 1099511627776) (hxs : ∀ y ∈ xs, I64 y) :
    ACalls Try.prog 26 [.int .i64 n, v, .int .i64 x] H fun r H' => ∃ g, r = .tuple (List.toArray [g, .int .i64 (flipN n xs x), .bool (decide (flipC n xs x))]) ∧ Mine 3 H H' g (flipR n xs x) ∧ H <+: H' := by
  refine in26 rfl ?_
  intro Q hQ
  have no : ¬ flipC n xs x → flipR n xs x = [] ∧ flipN n xs x = 0 ∧ decide (flipC n xs x) = false := fun h => ⟨if_neg h, if_neg h, decide_eq_false h⟩
  obtain ⟨pv, ev⟩ := hr.shape
  subst ev
  simp (maxSteps := 1000000) (disch := omega) only [cd26, S, S1, S2, S3, S4, ST, eq_self, ne_eq, not_true_eq_false, not_false_eq_true, and_self, true_and, and_true, reduceIte, reduceCtorEq, Nat.reduceEqDiff, Nat.reduceAdd, Nat.zero_add, Nat.add_zero, Option.map_none, Option.map_some, List.map_cons, List.map_nil, List.append_nil, List.cons_append, List.nil_append, List.getElem?_cons_zero, List.getElem?_cons_succ, List.getD_cons_zero, List.getD_cons_succ, List.getD_nil, Bool.not_true, Bool.not_false, decide_true, decide_false]
  generalize hv : Value.slice pv xs.length xs.length = v at *
  refine CallH.by (are1_c n v xs _ _ H rfl rfl hr hlen hxs) ?_
  rintro _ H1 ⟨rfl, hp1'⟩
  have hp1 : H <+: H1 := (List.prefix_append _ _).trans hp1'
  have hr1 := hr.pre hp1
  simp (maxSteps := 1000000) (disch := omega) only [S, S1, S2, S3, S4, ST, eq_self, ne_eq, not_true_eq_false, not_false_eq_true, and_self, true_and, and_true, reduceIte, reduceCtorEq, Nat.reduceEqDiff, Nat.reduceAdd, Nat.zero_add, Nat.add_zero, Option.map_none, Option.map_some, List.map_cons, List.map_nil, List.append_nil, List.cons_append, List.nil_append, List.getElem?_cons_zero, List.getElem?_cons_succ, List.getD_cons_zero, List.getD_cons_succ, List.getD_nil, Bool.not_true, Bool.not_false, decide_true, decide_false]
  refine brD.intro (fun ha => ?_) (fun ha => ?_) <;> simp (maxSteps := 1000000) (disch := omega) only [ha, S, S1, S2, S3, S4, ST, eq_self, ne_eq, not_true_eq_false, not_false_eq_true, and_self, true_and, and_true, reduceIte, reduceCtorEq, Nat.reduceEqDiff, Nat.reduceAdd, Nat.zero_add, Nat.add_zero, Option.map_none, Option.map_some, List.map_cons, List.map_nil, List.append_nil, List.cons_append, List.nil_append, List.getElem?_cons_zero, List.getElem?_cons_succ, List.getD_cons_zero, List.getD_cons_succ, List.getD_nil, Bool.not_true, Bool.not_false, decide_true, decide_false]
  · refine CallH.by (Contains_c v xs x H1 hr1 hlen) ?_
    rintro _ _ ⟨rfl, rfl⟩
    simp (maxSteps := 1000000) (disch := omega) only [ha, S, S1, S2, S3, S4, ST, eq_self, ne_eq, not_true_eq_false, not_false_eq_true, and_self, true_and, and_true, reduceIte, reduceCtorEq, Nat.reduceEqDiff, Nat.reduceAdd, Nat.zero_add, Nat.add_zero, Option.map_none, Option.map_some, List.map_cons, List.map_nil, List.append_nil, List.cons_append, List.nil_append, List.getElem?_cons_zero, List.getElem?_cons_succ, List.getD_cons_zero, List.getD_cons_succ, List.getD_nil, Bool.not_true, Bool.not_false, decide_true, decide_false]
    refine brD.intro (fun hb => ?_) (fun hb => ?_) <;> simp (maxSteps := 1000000) (disch := omega) only [ha, hb, S, S1, S2, S3, S4, ST, eq_self, ne_eq, not_true_eq_false, not_false_eq_true, and_self, true_and, and_true, reduceIte, reduceCtorEq, Nat.reduceEqDiff, Nat.reduceAdd, Nat.zero_add, Nat.add_zero, Option.map_none, Option.map_some, List.map_cons, List.map_nil, List.append_nil, List.cons_append, List.nil_append, List.getElem?_cons_zero, List.getElem?_cons_succ, List.getD_cons_zero, List.getD_cons_succ, List.getD_nil, Bool.not_true, Bool.not_false, decide_true, decide_false]
    · have hc : flipC n xs x := ⟨ha, hb⟩
      have hn := ha.1
      have hln := ha.len
      obtain ⟨ts, hk0⟩ := flip_facts hc
      have hln' : xs.length ≤ 5 := by omega
      have hrx : Row 3 (H1 ++ [AObj.cells [.int .i64 x] 3 false]) (.slice (some ⟨H1.length, 0, none⟩) 1 1) [x] := .inr ⟨H1.length, 0, [.int .i64 x], false, rfl, at_new .., by simp, rfl⟩
      refine CallH.by (without_c v _ xs [x] _ (hr1.pre (List.prefix_append _ _)) hlen hrx (by simp)) ?_
      rintro u H2 ⟨ho2, hp2'⟩
      have hp2 : H1 <+: H2 := (List.prefix_append _ _).trans hp2'
      rw [without_rst] at ho2
      simp (maxSteps := 1000000) (disch := omega) only [S, S1, S2, S3, S4, ST, eq_self, ne_eq, not_true_eq_false, not_false_eq_true, and_self, true_and, and_true, reduceIte, reduceCtorEq, Nat.reduceEqDiff, Nat.reduceAdd, Nat.zero_add, Nat.add_zero, Option.map_none, Option.map_some, List.map_cons, List.map_nil, List.append_nil, List.cons_append, List.nil_append, List.getElem?_cons_zero, List.getElem?_cons_succ, List.getD_cons_zero, List.getD_cons_succ, List.getD_nil, Bool.not_true, Bool.not_false, decide_true, decide_false]
      refine CallH.by (diagonals_c n H2 (by omega)) ?_
      rintro w H3 ⟨⟨o, rfl, hoo, hco⟩, hp3⟩
      have hD : dgI n 100 = dgs n n.toNat := by
        obtain ⟨N, rfl⟩ : ∃ N : Nat, n = N := ⟨n.toNat, by omega⟩
        simp only [Int.toNat_natCast]
        exact dgI_eq ⟨N, by omega⟩ (by show 3 ≤ N; omega)
      have hrw : Row 3 H3 (.slice (some ⟨o, 0, none⟩) (dgI n 100).length (dgI n 100).length) (dgI n 100) := (show Own 3 H2 H3 _ (dgI n 100) from .inr ⟨o, rfl, hoo, hco⟩).row
      rw [hD] at hrw
      rw [hD]
      have hru : Row 3 H3 u (rst xs x) := ho2.row.pre hp3
      have hp03 : H <+: H3 := hp1.trans (hp2.trans hp3)
      have hrl := rst_le xs x
      have hdl : (dgs n n.toNat).length ≤ 1000 := by have := dgs_len n n.toNat (by omega) (by omega); omega
      have hmem : ∀ d, d ∈ dgs n n.toNat → d ∈ dgs n n.toNat := fun _ h => h
      have htest := fun (d : Int) (ys : List Int) (hd : d ∈ dgs n n.toNat) (hdx : d ≠ x) (hp : ys.Perm (rst xs x ++ [d])) (ha : Asc ys) => flip_test hn ts hb hd hdx hp ha
      have hfD : ∀ i : Nat, flipK n xs x = (i : Int) → flipD n xs x = (dgs n n.toNat).getD i 0 := fun i h => by unfold flipD; rw [h, Int.toNat_natCast]
      have hk1 : flipK n xs x = idxP (fun d => flipOk (rst xs x) x d) (dgs n n.toNat) 0 := rfl
      have hDI : ∀ d ∈ dgs n n.toNat, I64 d := fun d hd => dgs_bound hn hd
      generalize dgs n n.toNat = D at *
      generalize hw : Value.slice (some ⟨o, 0, none⟩) D.length D.length = w at *
      simp (maxSteps := 1000000) (disch := omega) only [hrw.len Try.underlying22, S, S1, S2, S3, S4, ST, eq_self, ne_eq, not_true_eq_false, not_false_eq_true, and_self, true_and, and_true, reduceIte, reduceCtorEq, Nat.reduceEqDiff, Nat.reduceAdd, Nat.zero_add, Nat.add_zero, Option.map_none, Option.map_some, List.map_cons, List.map_nil, List.append_nil, List.cons_append, List.nil_append, List.getElem?_cons_zero, List.getElem?_cons_succ, List.getD_cons_zero, List.getD_cons_succ, List.getD_nil, Bool.not_true, Bool.not_false, decide_true, decide_false]
      refine LoopH.by (fun m s H' => ∃ i, m + i = D.length ∧ s 0 = .int .i64 n ∧ s 2 = .int .i64 x ∧ s 9 = u ∧ s 29 = w ∧ s 30 = .int .i64 (D.length : Int) ∧ s 31 = .int .i64 ((i : Nat) : Int) ∧ H3 <+: H' ∧ flipK n xs x = idxP (fun d => flipOk (rst xs x) x d) (D.drop i) i) D.length ?_ ?_
      · exact ⟨0, by simp, rfl, rfl, rfl, rfl, rfl, rfl, List.prefix_refl _, hk1⟩
      · rintro m s H' ⟨i, hm, h0, h2, h9, h29, h30, h31, hpp, hk⟩
        have hrw' := hrw.pre hpp
        have hru' := hru.pre hpp
        simp (maxSteps := 1000000) (disch := omega) only [h0, h2, h9, h29, h30, h31, S, S1, S2, S3, S4, ST, eq_self, ne_eq, not_true_eq_false, not_false_eq_true, and_self, true_and, and_true, reduceIte, reduceCtorEq, Nat.reduceEqDiff, Nat.reduceAdd, Nat.zero_add, Nat.add_zero, Option.map_none, Option.map_some, List.map_cons, List.map_nil, List.append_nil, List.cons_append, List.nil_append, List.getElem?_cons_zero, List.getElem?_cons_succ, List.getD_cons_zero, List.getD_cons_succ, List.getD_nil, Bool.not_true, Bool.not_false, decide_true, decide_false]
        refine brD.intro (fun g => ?_) (fun g => ?_)
        · have hi : i < D.length := by omega
          rw [idxP_step _ D i hi] at hk
          have hdm : D.getD i 0 ∈ D := by simp [hi]
          have hd := hDI _ hdm
          simp (maxSteps := 1000000) (disch := omega) only [h0, h2, h9, h29, h30, h31, hrw'.ix Try.underlying22 cs3, hrw'.cell, Int.toNat_natCast, S, S1, S2, S3, S4, ST, eq_self, ne_eq, not_true_eq_false, not_false_eq_true, and_self, true_and, and_true, reduceIte, reduceCtorEq, Nat.reduceEqDiff, Nat.reduceAdd, Nat.zero_add, Nat.add_zero, Option.map_none, Option.map_some, List.map_cons, List.map_nil, List.append_nil, List.cons_append, List.nil_append, List.getElem?_cons_zero, List.getElem?_cons_succ, List.getD_cons_zero, List.getD_cons_succ, List.getD_nil, Bool.not_true, Bool.not_false, decide_true, decide_false]
          have htst := fun ys => htest (D.getD i 0) ys hdm
          have hfd := hfD i
          generalize D.getD i 0 = d at *
          have nxt : flipOk (rst xs x) x d = false → flipK n xs x = idxP (fun d => flipOk (rst xs x) x d) (D.drop (i + 1)) (i + 1) := fun h => by rw [hk, h]; rfl
          refine CallH.by (Clone_c u (rst xs x) H' hru' (by omega)) ?_
          rintro c H4 ⟨ho4, hp4⟩
          obtain ⟨v', H5, k1, k2, k3, k4, k5, k6⟩ := own1_22 ho4 hp4 (by omega) d
          simp (maxSteps := 1000000) (disch := omega) only [h0, h2, h9, h29, h30, h31, k1, S, S1, S2, S3, S4, ST, eq_self, ne_eq, not_true_eq_false, not_false_eq_true, and_self, true_and, and_true, reduceIte, reduceCtorEq, Nat.reduceEqDiff, Nat.reduceAdd, Nat.zero_add, Nat.add_zero, Option.map_none, Option.map_some, List.map_cons, List.map_nil, List.append_nil, List.cons_append, List.nil_append, List.getElem?_cons_zero, List.getElem?_cons_succ, List.getD_cons_zero, List.getD_cons_succ, List.getD_nil, Bool.not_true, Bool.not_false, decide_true, decide_false]
          refine CallH.by (Values_c v' _ H5 k2.row) ?_
          rintro _ _ ⟨rfl, rfl⟩
          have hp6 : H' <+: H5 ++ [AObj.cells [v'] 22 false] := pre_app k3 _
          have hc6 : cellA (H5 ++ [AObj.cells [v'] 22 false]) H5.length 0 = some v' := by rw [cell_of (at_new ..)]; rfl
          simp (maxSteps := 1000000) (disch := omega) only [S, S1, S2, S3, S4, ST, eq_self, ne_eq, not_true_eq_false, not_false_eq_true, and_self, true_and, and_true, reduceIte, reduceCtorEq, Nat.reduceEqDiff, Nat.reduceAdd, Nat.zero_add, Nat.add_zero, Option.map_none, Option.map_some, List.map_cons, List.map_nil, List.append_nil, List.cons_append, List.nil_append, List.getElem?_cons_zero, List.getElem?_cons_succ, List.getD_cons_zero, List.getD_cons_succ, List.getD_nil, Bool.not_true, Bool.not_false, decide_true, decide_false]
          refine CallH.by (SortedV_c H5.length v' _ _ hc6 (k2.row.pre (List.prefix_append _ _)) (by simp; omega)) ?_
          rintro y H7 ⟨ys, ho7, hperm, hasc, hp7⟩
          have hpp7 : H3 <+: H7 := hpp.trans (hp6.trans hp7)
          have hyl := hperm.length_eq
          simp only [List.length_append, List.length_cons, List.length_nil] at hyl
          have hyI : ∀ z ∈ ys, I64 z := by
            intro z hz
            have := hperm.mem_iff.1 hz
            simp only [List.mem_append, List.mem_singleton] at this
            rcases this with q | q
            · exact hxs z (rst_mem.1 q).1
            · rw [q]; exact hd
          simp (maxSteps := 1000000) (disch := omega) only [h0, h2, h9, h29, h30, h31, ho7.row.tup, S, S1, S2, S3, S4, ST, eq_self, ne_eq, not_true_eq_false, not_false_eq_true, and_self, true_and, and_true, reduceIte, reduceCtorEq, Nat.reduceEqDiff, Nat.reduceAdd, Nat.zero_add, Nat.add_zero, Option.map_none, Option.map_some, List.map_cons, List.map_nil, List.append_nil, List.cons_append, List.nil_append, List.getElem?_cons_zero, List.getElem?_cons_succ, List.getD_cons_zero, List.getD_cons_succ, List.getD_nil, Bool.not_true, Bool.not_false, decide_true, decide_false]
          refine brD.intro (fun e1 => ?_) (fun e1 => ?_) <;> simp (maxSteps := 1000000) (disch := omega) only [e1, h0, h2, h9, h29, h30, h31, ho7.row.tup, S, S1, S2, S3, S4, ST, eq_self, ne_eq, not_true_eq_false, not_false_eq_true, and_self, true_and, and_true, reduceIte, reduceCtorEq, Nat.reduceEqDiff, Nat.reduceAdd, Nat.zero_add, Nat.add_zero, Option.map_none, Option.map_some, List.map_cons, List.map_nil, List.append_nil, List.cons_append, List.nil_append, List.getElem?_cons_zero, List.getElem?_cons_succ, List.getD_cons_zero, List.getD_cons_succ, List.getD_nil, Bool.not_true, Bool.not_false, decide_true, decide_false]
          · obtain ⟨t1, t2⟩ := htst ys e1 hperm hasc
            refine CallH.by (isTriangulation_c n y ys H7 (by omega) ho7.row (by omega) hyI) ?_
            rintro _ H8 ⟨rfl, hp8⟩
            rw [t1]
            simp (maxSteps := 1000000) (disch := omega) only [e1, S, S1, S2, S3, S4, ST, eq_self, ne_eq, not_true_eq_false, not_false_eq_true, and_self, true_and, and_true, reduceIte, reduceCtorEq, Nat.reduceEqDiff, Nat.reduceAdd, Nat.zero_add, Nat.add_zero, Option.map_none, Option.map_some, List.map_cons, List.map_nil, List.append_nil, List.cons_append, List.nil_append, List.getElem?_cons_zero, List.getElem?_cons_succ, List.getD_cons_zero, List.getD_cons_succ, List.getD_nil, Bool.not_true, Bool.not_false, decide_true, decide_false]
            refine brH.intro (fun e2 => ?_) (fun e2 => ?_)
            · rw [if_pos e2] at hk
              have hys := t2 e2
              have hfd' := hfd hk
              simp (maxSteps := 1000000) (disch := omega) only [e1, e2, ho7.row.tup, S, S1, S2, S3, S4, ST, eq_self, ne_eq, not_true_eq_false, not_false_eq_true, and_self, true_and, and_true, reduceIte, reduceCtorEq, Nat.reduceEqDiff, Nat.reduceAdd, Nat.zero_add, Nat.add_zero, Option.map_none, Option.map_some, List.map_cons, List.map_nil, List.append_nil, List.cons_append, List.nil_append, List.getElem?_cons_zero, List.getElem?_cons_succ, List.getD_cons_zero, List.getD_cons_succ, List.getD_nil, Bool.not_true, Bool.not_false, decide_true, decide_false]
              refine hQ _ _ _ ?_
              simp (maxSteps := 1000000) (disch := omega) only [ho7.row.tup, S, S1, S2, S3, S4, ST, eq_self, ne_eq, not_true_eq_false, not_false_eq_true, and_self, true_and, and_true, reduceIte, reduceCtorEq, Nat.reduceEqDiff, Nat.reduceAdd, Nat.zero_add, Nat.add_zero, Option.map_none, Option.map_some, List.map_cons, List.map_nil, List.append_nil, List.cons_append, List.nil_append, List.getElem?_cons_zero, List.getElem?_cons_succ, List.getD_cons_zero, List.getD_cons_succ, List.getD_nil, Bool.not_true, Bool.not_false, decide_true, decide_false]
              refine ⟨y, by simp [hc, flipN, hfd'], ?_, hp03.trans (hpp7.trans hp8)⟩
              have := ((ho7.base (hp03.trans (hpp.trans hp6))).mine).pre hp8
              rw [hys] at this
              simpa [flipR, hc, hfd'] using this
            · have fx := nxt (by simpa using e2)
              have fp := hpp7.trans hp8
              simp (maxSteps := 1000000) (disch := omega) only [e1, e2, h0, h2, h9, h29, h30, h31, wrap64, S, S1, S2, S3, S4, ST, eq_self, ne_eq, not_true_eq_false, not_false_eq_true, and_self, true_and, and_true, reduceIte, reduceCtorEq, Nat.reduceEqDiff, Nat.reduceAdd, Nat.zero_add, Nat.add_zero, Option.map_none, Option.map_some, List.map_cons, List.map_nil, List.append_nil, List.cons_append, List.nil_append, List.getElem?_cons_zero, List.getElem?_cons_succ, List.getD_cons_zero, List.getD_cons_succ, List.getD_nil, Bool.not_true, Bool.not_false, decide_true, decide_false]
              refine ⟨m - 1, by omega, i + 1, ?_⟩
              (repeat' apply And.intro) <;> first | exact fx | exact fp | (simp only [Value.int.injEq, true_and]; omega) | omega | rfl | assumption | (simp; done) | (simp; omega)
          · have fx := nxt (by rw [Bool.eq_false_iff]; exact fun h => by have := (flipOk_first _ _ _).1 h; exact e1 this.1)
            simp (maxSteps := 1000000) (disch := omega) only [e1, h0, h2, h9, h29, h30, h31, wrap64, S, S1, S2, S3, S4, ST, eq_self, ne_eq, not_true_eq_false, not_false_eq_true, and_self, true_and, and_true, reduceIte, reduceCtorEq, Nat.reduceEqDiff, Nat.reduceAdd, Nat.zero_add, Nat.add_zero, Option.map_none, Option.map_some, List.map_cons, List.map_nil, List.append_nil, List.cons_append, List.nil_append, List.getElem?_cons_zero, List.getElem?_cons_succ, List.getD_cons_zero, List.getD_cons_succ, List.getD_nil, Bool.not_true, Bool.not_false, decide_true, decide_false]
            refine ⟨m - 1, by omega, i + 1, ?_⟩
            (repeat' apply And.intro) <;> first | exact fx | exact hpp7 | (simp only [Value.int.injEq, true_and]; omega) | omega | rfl | assumption | (simp; done) | (simp; omega)
        · rw [List.drop_of_length_le (by omega)] at hk
          simp only [idxP] at hk
          omega
    · refine hQ _ _ _ ?_
      simp (maxSteps := 1000000) (disch := omega) only [S, S1, S2, S3, S4, ST, eq_self, ne_eq, not_true_eq_false, not_false_eq_true, and_self, true_and, and_true, reduceIte, reduceCtorEq, Nat.reduceEqDiff, Nat.reduceAdd, Nat.zero_add, Nat.add_zero, Option.map_none, Option.map_some, List.map_cons, List.map_nil, List.append_nil, List.cons_append, List.nil_append, List.getElem?_cons_zero, List.getElem?_cons_succ, List.getD_cons_zero, List.getD_cons_succ, List.getD_nil, Bool.not_true, Bool.not_false, decide_true, decide_false]
      obtain ⟨f1, f2, f3⟩ := no (fun h => hb h.2)
      rw [f1, f2, f3]
      exact ⟨.slice none 0 0, rfl, .inl ⟨rfl, rfl⟩, hp1⟩
  · refine hQ _ _ _ ?_
    simp (maxSteps := 1000000) (disch := omega) only [S, S1, S2, S3, S4, ST, eq_self, ne_eq, not_true_eq_false, not_false_eq_true, and_self, true_and, and_true, reduceIte, reduceCtorEq, Nat.reduceEqDiff, Nat.reduceAdd, Nat.zero_add, Nat.add_zero, Option.map_none, Option.map_some, List.map_cons, List.map_nil, List.append_nil, List.cons_append, List.nil_append, List.getElem?_cons_zero, List.getElem?_cons_succ, List.getD_cons_zero, List.getD_cons_succ, List.getD_nil, Bool.not_true, Bool.not_false, decide_true, decide_false]
    obtain ⟨f1, f2, f3⟩ := no (fun h => ha h.1)
    rw [f1, f2, f3]
    exact ⟨.slice none 0 0, rfl, .inl ⟨rfl, rfl⟩, hp1⟩
end Go.Proofs.Ytahakecifgjcnaa.Ai
