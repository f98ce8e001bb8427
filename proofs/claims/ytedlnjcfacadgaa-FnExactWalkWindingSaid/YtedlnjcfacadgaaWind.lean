/- Heights, windings and slacks of walks, both sides. -/
import Derived.Test.YtedlnjcfacadgaaWalk
import Derived.Test.YtedlnjcfacadgaaCdWind
namespace Go.Proofs.Ytedlnjcfacadgaa.Ai
open Go Go.RowKit
set_option linter.unusedVariables false
set_option linter.unusedSimpArgs false

def sm (n : Int) (l : List Int) : Nat → Int
  | 0 => 0
  | i + 1 => sm n l i + ups n l i
theorem sm_bd {n : Int} {l : List Int} {lz : Bool} (hn : 3 ≤ n ∧ n ≤ 8) (hg : Wk n lz l) (i : Nat) (hi : i ≤ l.length) : -(i : Int) ≤ sm n l i ∧ sm n l i ≤ (i : Int) := by
  induction i with
  | zero => simp [sm]
  | succ i ih =>
    have h := ih (by omega)
    have hu := hg.up hn (show i < l.length by omega)
    have : sm n l (i + 1) = sm n l i + ups n l i := rfl
    omega
def hts (n : Int) (l : List Int) (m : Nat) : List Int := (List.range (m + 1)).map (fun i => l.getD 0 0 + sm n l i)
theorem hts_len (n : Int) (l : List Int) (m : Nat) : (hts n l m).length = m + 1 := by simp [hts]
theorem hts_at (n : Int) (l : List Int) (m i : Nat) (h : i ≤ m) : (hts n l m).getD i 0 = l.getD 0 0 + sm n l i := by simp [hts, show i < m + 1 by omega]
theorem hts_succ (n : Int) (l : List Int) (m : Nat) : hts n l (m + 1) = hts n l m ++ [l.getD 0 0 + sm n l (m + 1)] := by
  unfold hts
  rw [List.range_succ]
  simp
def wnd (n : Int) (l : List Int) : Int := (sm n l l.length).tdiv n
theorem tdiv_bd (x n : Int) (k : Nat) (h : -(k : Int) ≤ x ∧ x ≤ k) : -(k : Int) ≤ x.tdiv n ∧ x.tdiv n ≤ k := by
  have hle : (x.tdiv n).natAbs ≤ x.natAbs := by rw [Int.natAbs_tdiv]; exact Nat.div_le_self _ _
  omega
theorem wnd_bd {n : Int} {l : List Int} {lz : Bool} (hn : 3 ≤ n ∧ n ≤ 8) (hg : Wk n lz l) : -24 ≤ wnd n l ∧ wnd n l ≤ 24 := by
  have h := sm_bd hn hg l.length (Nat.le_refl _)
  have h2 := hg.2.2.2
  have := tdiv_bd (sm n l l.length) n 24 (by omega)
  unfold wnd; omega
def absI (w : Int) : Int := if w < -w then -w else w
theorem absI_bd {w : Int} (h : -24 ≤ w ∧ w ≤ 24) : 0 ≤ absI w ∧ absI w ≤ 24 := by unfold absI; split <;> omega
def slk (n : Int) (l : List Int) : Int := l.length - n * absI (wnd n l)
theorem nmul_bd {n x : Int} (hn : 3 ≤ n ∧ n ≤ 8) (h : 0 ≤ x ∧ x ≤ 24) : 0 ≤ n * x ∧ n * x ≤ 200 := by
  have h8 : n = 3 ∨ n = 4 ∨ n = 5 ∨ n = 6 ∨ n = 7 ∨ n = 8 := by omega
  rcases h8 with rfl | rfl | rfl | rfl | rfl | rfl <;> omega

theorem l1Most_c (a b : Int) (H : AH) : ACalls Try.prog 76 [.int .i64 a, .int .i64 b] H fun r H' => r = .int .i64 (if b < a then a else b) ∧ H = H' := by
  refine in76 rfl ?_
  intro Q hQ
  simp (maxSteps := 1000000) (disch := omega) only [cd76, S, S1, S2, S3, S4, ST, eq_self, ne_eq, not_true_eq_false, not_false_eq_true, and_self, true_and, and_true, reduceIte, reduceCtorEq, Nat.reduceEqDiff, Nat.reduceAdd, Nat.zero_add, Nat.add_zero, Option.map_none, Option.map_some, List.map_cons, List.map_nil, List.append_nil, List.cons_append, List.nil_append, List.getElem?_cons_zero, List.getElem?_cons_succ, List.getD_cons_zero, List.getD_cons_succ, List.getD_nil, Bool.not_true, Bool.not_false, decide_true, decide_false]
  refine brD.intro (fun h => ?_) (fun h => ?_) <;> simp (maxSteps := 1000000) (disch := omega) only [h, S, S1, S2, S3, S4, ST, eq_self, ne_eq, not_true_eq_false, not_false_eq_true, and_self, true_and, and_true, reduceIte, reduceCtorEq, Nat.reduceEqDiff, Nat.reduceAdd, Nat.zero_add, Nat.add_zero, Option.map_none, Option.map_some, List.map_cons, List.map_nil, List.append_nil, List.cons_append, List.nil_append, List.getElem?_cons_zero, List.getElem?_cons_succ, List.getD_cons_zero, List.getD_cons_succ, List.getD_nil, Bool.not_true, Bool.not_false, decide_true, decide_false] <;> refine hQ _ _ _ ?_ <;> simp (maxSteps := 1000000) (disch := omega) only [h, S, S1, S2, S3, S4, ST, eq_self, ne_eq, not_true_eq_false, not_false_eq_true, and_self, true_and, and_true, reduceIte, reduceCtorEq, Nat.reduceEqDiff, Nat.reduceAdd, Nat.zero_add, Nat.add_zero, Option.map_none, Option.map_some, List.map_cons, List.map_nil, List.append_nil, List.cons_append, List.nil_append, List.getElem?_cons_zero, List.getElem?_cons_succ, List.getD_cons_zero, List.getD_cons_succ, List.getD_nil, Bool.not_true, Bool.not_false, decide_true, decide_false]

set_option maxHeartbeats 2000000 in
theorem l10Heights_c (n : Int) (v : Value) (l : List Int) (H : AH) (hn : 3 ≤ n ∧ n ≤ 8) (hg : Wk n true l) (hr : Row 3 H v l) :
    ACalls Try.prog 56 [.int .i64 n, v] H fun r H' => Own 3 H H' r (hts n l l.length) ∧ H <+: H' := by
  have h3 := hg.2.2.1
  have h24 := hg.2.2.2
  have hc0 : cellA H (rowO v) (rowK v) = some (.int .i64 (l.getD 0 0)) := hr.cell (j := 0) (by omega)
  refine in56 rfl ?_
  intro Q hQ
  simp (maxSteps := 1000000) (disch := omega) only [cd56, hr.ix Try.underlying25 cs3, hc0, Int.toNat_zero, S, S1, S2, S3, S4, ST, eq_self, ne_eq, not_true_eq_false, not_false_eq_true, and_self, true_and, and_true, reduceIte, reduceCtorEq, Nat.reduceEqDiff, Nat.reduceAdd, Nat.zero_add, Nat.add_zero, Option.map_none, Option.map_some, List.map_cons, List.map_nil, List.append_nil, List.cons_append, List.nil_append, List.getElem?_cons_zero, List.getElem?_cons_succ, List.getD_cons_zero, List.getD_cons_succ, List.getD_nil, Bool.not_true, Bool.not_false, decide_true, decide_false]
  refine LoopH.by (fun m s H' => ∃ i, m + i = l.length ∧ s 0 = .int .i64 n ∧ s 1 = v ∧ s 6 = .int .i64 ((i : Nat) : Int) ∧ Own 3 H H' (s 5) (hts n l i) ∧ H <+: H') l.length ?_ ?_
  · refine ⟨0, by simp, rfl, rfl, rfl, ?_, List.prefix_append _ _⟩
    have : hts n l 0 = [l.getD 0 0] := by simp [hts, sm]
    rw [this]
    exact .inr ⟨H.length, rfl, Nat.le_refl _, at_new ..⟩
  · rintro m s H' ⟨i, hm, h0, h1, h6, hown, hpp⟩
    have hr' := hr.pre hpp
    have hl := hts_len n l i
    have ho := hown.row
    generalize hw : s 5 = w at *
    simp (maxSteps := 1000000) (disch := omega) only [h0, h1, h6, hw, hr'.len Try.underlying25, S, S1, S2, S3, S4, ST, eq_self, ne_eq, not_true_eq_false, not_false_eq_true, and_self, true_and, and_true, reduceIte, reduceCtorEq, Nat.reduceEqDiff, Nat.reduceAdd, Nat.zero_add, Nat.add_zero, Option.map_none, Option.map_some, List.map_cons, List.map_nil, List.append_nil, List.cons_append, List.nil_append, List.getElem?_cons_zero, List.getElem?_cons_succ, List.getD_cons_zero, List.getD_cons_succ, List.getD_nil, Bool.not_true, Bool.not_false, decide_true, decide_false]
    refine brD.intro (fun g => ?_) (fun g => ?_)
    · have hi : i < l.length := by omega
      have hm2 := tmod_nxt l i hi
      have hx := nxt_lt l i hi
      have hat := hts_at n l i i (Nat.le_refl _)
      have hb := sm_bd hn hg i (by omega)
      have hu := hg.up hn hi
      have h00 := hg.1 0 (by omega)
      unfold inr at h00
      simp (maxSteps := 1000000) (disch := omega) only [h0, h1, h6, hw, hr'.len Try.underlying25, hr'.ix Try.underlying25 cs3, hr'.cell, Int.toNat_natCast, wrap64, hm2, ho.ix Try.underlying25 cs3, ho.cell, hat, S, S1, S2, S3, S4, ST, eq_self, ne_eq, not_true_eq_false, not_false_eq_true, and_self, true_and, and_true, reduceIte, reduceCtorEq, Nat.reduceEqDiff, Nat.reduceAdd, Nat.zero_add, Nat.add_zero, Option.map_none, Option.map_some, List.map_cons, List.map_nil, List.append_nil, List.cons_append, List.nil_append, List.getElem?_cons_zero, List.getElem?_cons_succ, List.getD_cons_zero, List.getD_cons_succ, List.getD_nil, Bool.not_true, Bool.not_false, decide_true, decide_false]
      refine CallH.by (l10Up_c n _ _ _ hn (hg.1 i hi) (hg.1 _ hx)) ?_
      rintro _ _ ⟨rfl, rfl⟩
      have hu2 : up n (l.getD i 0) (l.getD (nxt l i) 0) = ups n l i := rfl
      rw [hu2]
      have hst : hts n l (i + 1) = hts n l i ++ [l.getD 0 0 + sm n l i + ups n l i] := by
        rw [hts_succ]; simp only [sm]; rw [Int.add_assoc]
      obtain ⟨w', H2, k1, k2, k3, k4, k5, k6⟩ := own1_25 hown hpp (by omega) (l.getD 0 0 + sm n l i + ups n l i)
      rw [← hst] at k2
      simp (maxSteps := 1000000) (disch := omega) only [h0, h1, h6, hw, ho.ix Try.underlying25 cs3, ho.cell, Int.toNat_natCast, hat, wrap64, k1, S, S1, S2, S3, S4, ST, eq_self, ne_eq, not_true_eq_false, not_false_eq_true, and_self, true_and, and_true, reduceIte, reduceCtorEq, Nat.reduceEqDiff, Nat.reduceAdd, Nat.zero_add, Nat.add_zero, Option.map_none, Option.map_some, List.map_cons, List.map_nil, List.append_nil, List.cons_append, List.nil_append, List.getElem?_cons_zero, List.getElem?_cons_succ, List.getD_cons_zero, List.getD_cons_succ, List.getD_nil, Bool.not_true, Bool.not_false, decide_true, decide_false]
      refine ⟨m - 1, by omega, i + 1, ?_⟩
      (repeat' apply And.intro) <;> first | rfl | trivial | assumption | omega | (simp only [Value.int.injEq, true_and]; omega) | (simp; done) | (simp; omega) | exact k2 | exact k3
    · simp (maxSteps := 1000000) (disch := omega) only [h0, h1, h6, hw, S, S1, S2, S3, S4, ST, eq_self, ne_eq, not_true_eq_false, not_false_eq_true, and_self, true_and, and_true, reduceIte, reduceCtorEq, Nat.reduceEqDiff, Nat.reduceAdd, Nat.zero_add, Nat.add_zero, Option.map_none, Option.map_some, List.map_cons, List.map_nil, List.append_nil, List.cons_append, List.nil_append, List.getElem?_cons_zero, List.getElem?_cons_succ, List.getD_cons_zero, List.getD_cons_succ, List.getD_nil, Bool.not_true, Bool.not_false, decide_true, decide_false]
      refine hQ _ _ _ ?_
      simp (maxSteps := 1000000) (disch := omega) only [hw, hown.row.tup, S, S1, S2, S3, S4, ST, eq_self, ne_eq, not_true_eq_false, not_false_eq_true, and_self, true_and, and_true, reduceIte, reduceCtorEq, Nat.reduceEqDiff, Nat.reduceAdd, Nat.zero_add, Nat.add_zero, Option.map_none, Option.map_some, List.map_cons, List.map_nil, List.append_nil, List.cons_append, List.nil_append, List.getElem?_cons_zero, List.getElem?_cons_succ, List.getD_cons_zero, List.getD_cons_succ, List.getD_nil, Bool.not_true, Bool.not_false, decide_true, decide_false]
      have : i = l.length := by omega
      subst this
      exact ⟨hown, hpp⟩

set_option maxHeartbeats 1000000 in
theorem windS_c (n : Int) (v : Value) (l : List Int) (H : AH) (hn : 3 ≤ n ∧ n ≤ 8) (hg : Wk n true l) (hr : Row 3 H v l) :
    ACalls Try.prog 47 [.int .i64 n, v] H fun r H' => r = .int .i64 (wnd n l) ∧ H <+: H' := by
  have h3 := hg.2.2.1
  have h24 := hg.2.2.2
  have hb := sm_bd hn hg l.length (Nat.le_refl _)
  have h00 := hg.1 0 (by omega)
  unfold inr at h00
  have hc0 : cellA H (rowO v) (rowK v) = some (.int .i64 (l.getD 0 0)) := hr.cell (j := 0) (by omega)
  refine in47 rfl ?_
  intro Q hQ
  simp (maxSteps := 1000000) (disch := omega) only [cd47, hr.len Try.underlying25, hr.ix Try.underlying25 cs3, hc0, Int.toNat_zero, S, S1, S2, S3, S4, ST, eq_self, ne_eq, not_true_eq_false, not_false_eq_true, and_self, true_and, and_true, reduceIte, reduceCtorEq, Nat.reduceEqDiff, Nat.reduceAdd, Nat.zero_add, Nat.add_zero, Option.map_none, Option.map_some, List.map_cons, List.map_nil, List.append_nil, List.cons_append, List.nil_append, List.getElem?_cons_zero, List.getElem?_cons_succ, List.getD_cons_zero, List.getD_cons_succ, List.getD_nil, Bool.not_true, Bool.not_false, decide_true, decide_false]
  refine CallH.by (l10Heights_c n v l H hn hg hr) ?_
  rintro w H1 ⟨hown, hp⟩
  have hr' := hr.pre hp
  have hc0' : cellA H1 (rowO v) (rowK v) = some (.int .i64 (l.getD 0 0)) := hr'.cell (j := 0) (by omega)
  have ho := hown.row
  have hl := hts_len n l l.length
  have hat := hts_at n l l.length l.length (Nat.le_refl _)
  have hd : (l.getD 0 0 + sm n l l.length - l.getD 0 0).tdiv n = wnd n l := by
    rw [show l.getD 0 0 + sm n l l.length - l.getD 0 0 = sm n l l.length by omega]; rfl
  have hwb := wnd_bd hn hg
  simp (maxSteps := 1000000) (disch := omega) only [hc0', ho.ix Try.underlying25 cs3, ho.cell, Int.toNat_natCast, hat, wrap64, hd, S, S1, S2, S3, S4, ST, eq_self, ne_eq, not_true_eq_false, not_false_eq_true, and_self, true_and, and_true, reduceIte, reduceCtorEq, Nat.reduceEqDiff, Nat.reduceAdd, Nat.zero_add, Nat.add_zero, Option.map_none, Option.map_some, List.map_cons, List.map_nil, List.append_nil, List.cons_append, List.nil_append, List.getElem?_cons_zero, List.getElem?_cons_succ, List.getD_cons_zero, List.getD_cons_succ, List.getD_nil, Bool.not_true, Bool.not_false, decide_true, decide_false]
  refine hQ _ _ _ ?_
  simp (maxSteps := 1000000) (disch := omega) only [S, S1, S2, S3, S4, ST, eq_self, ne_eq, not_true_eq_false, not_false_eq_true, and_self, true_and, and_true, reduceIte, reduceCtorEq, Nat.reduceEqDiff, Nat.reduceAdd, Nat.zero_add, Nat.add_zero, Option.map_none, Option.map_some, List.map_cons, List.map_nil, List.append_nil, List.cons_append, List.nil_append, List.getElem?_cons_zero, List.getElem?_cons_succ, List.getD_cons_zero, List.getD_cons_succ, List.getD_nil, Bool.not_true, Bool.not_false, decide_true, decide_false]
  exact hp

set_option maxHeartbeats 1000000 in
theorem windI_c (n : Int) (v : Value) (l : List Int) (H : AH) (hn : 3 ≤ n ∧ n ≤ 8) (hg : Wk n true l) (hr : Row 3 H v l) :
    ACalls Try.prog 48 [.int .i64 n, v] H fun r H' => r = .int .i64 (wnd n l) ∧ H <+: H' := by
  have h3 := hg.2.2.1
  have h24 := hg.2.2.2
  refine in48 rfl ?_
  intro Q hQ
  simp (maxSteps := 1000000) (disch := omega) only [cd48, S, S1, S2, S3, S4, ST, eq_self, ne_eq, not_true_eq_false, not_false_eq_true, and_self, true_and, and_true, reduceIte, reduceCtorEq, Nat.reduceEqDiff, Nat.reduceAdd, Nat.zero_add, Nat.add_zero, Option.map_none, Option.map_some, List.map_cons, List.map_nil, List.append_nil, List.cons_append, List.nil_append, List.getElem?_cons_zero, List.getElem?_cons_succ, List.getD_cons_zero, List.getD_cons_succ, List.getD_nil, Bool.not_true, Bool.not_false, decide_true, decide_false]
  refine CallH.by (rises_c n v l true H hn hr (by omega)) ?_
  rintro _ H1 ⟨w, rfl, hown, hp⟩
  have ho := (hown hg).row
  have hl := rise_len n l l.length
  have hwb := wnd_bd hn hg
  simp (maxSteps := 1000000) (disch := omega) only [ho.len Try.underlying25, S, S1, S2, S3, S4, ST, eq_self, ne_eq, not_true_eq_false, not_false_eq_true, and_self, true_and, and_true, reduceIte, reduceCtorEq, Nat.reduceEqDiff, Nat.reduceAdd, Nat.zero_add, Nat.add_zero, Option.map_none, Option.map_some, List.map_cons, List.map_nil, List.append_nil, List.cons_append, List.nil_append, List.getElem?_cons_zero, List.getElem?_cons_succ, List.getD_cons_zero, List.getD_cons_succ, List.getD_nil, Bool.not_true, Bool.not_false, decide_true, decide_false]
  refine LoopH.by (fun m s H' => ∃ i, m + i = l.length ∧ s 0 = .int .i64 n ∧ s 16 = w ∧ s 17 = .int .i64 (l.length : Int) ∧ s 18 = .int .i64 ((i : Nat) : Int) ∧ s 7 = .int .i64 (sm n l i) ∧ H1 = H') l.length ?_ ?_
  · exact ⟨0, by simp, rfl, rfl, by simp [S, S1, S2, S3, S4, ST, eq_self, ne_eq, not_true_eq_false, not_false_eq_true, and_self, true_and, and_true, reduceIte, reduceCtorEq, Nat.reduceEqDiff, Nat.reduceAdd, Nat.zero_add, Nat.add_zero, Option.map_none, Option.map_some, List.map_cons, List.map_nil, List.append_nil, List.cons_append, List.nil_append, List.getElem?_cons_zero, List.getElem?_cons_succ, List.getD_cons_zero, List.getD_cons_succ, List.getD_nil, Bool.not_true, Bool.not_false, decide_true, decide_false, hl], rfl, rfl, rfl⟩
  · rintro m s H' ⟨i, hm, h0, h16, h17, h18, h7, rfl⟩
    simp (maxSteps := 1000000) (disch := omega) only [h0, h16, h17, h18, h7, S, S1, S2, S3, S4, ST, eq_self, ne_eq, not_true_eq_false, not_false_eq_true, and_self, true_and, and_true, reduceIte, reduceCtorEq, Nat.reduceEqDiff, Nat.reduceAdd, Nat.zero_add, Nat.add_zero, Option.map_none, Option.map_some, List.map_cons, List.map_nil, List.append_nil, List.cons_append, List.nil_append, List.getElem?_cons_zero, List.getElem?_cons_succ, List.getD_cons_zero, List.getD_cons_succ, List.getD_nil, Bool.not_true, Bool.not_false, decide_true, decide_false]
    refine brD.intro (fun g => ?_) (fun g => ?_)
    · have hi : i < l.length := by omega
      have hat := rise_at n l l.length i hi
      have hb := sm_bd hn hg i (by omega)
      have hu := hg.up hn hi
      simp (maxSteps := 1000000) (disch := omega) only [h0, h16, h17, h18, h7, ho.ix Try.underlying25 cs3, ho.cell, Int.toNat_natCast, hat, wrap64, S, S1, S2, S3, S4, ST, eq_self, ne_eq, not_true_eq_false, not_false_eq_true, and_self, true_and, and_true, reduceIte, reduceCtorEq, Nat.reduceEqDiff, Nat.reduceAdd, Nat.zero_add, Nat.add_zero, Option.map_none, Option.map_some, List.map_cons, List.map_nil, List.append_nil, List.cons_append, List.nil_append, List.getElem?_cons_zero, List.getElem?_cons_succ, List.getD_cons_zero, List.getD_cons_succ, List.getD_nil, Bool.not_true, Bool.not_false, decide_true, decide_false]
      have e : sm n l (i + 1) = sm n l i + ups n l i := rfl
      refine ⟨m - 1, by omega, i + 1, ?_⟩
      rw [e]
      (repeat' apply And.intro) <;> first | rfl | trivial | assumption | omega | (simp only [Value.int.injEq, true_and]; omega) | (simp; done) | (simp; omega)
    · have e : i = l.length := by omega
      subst e
      have hd : (sm n l l.length).tdiv n = wnd n l := rfl
      simp (maxSteps := 1000000) (disch := omega) only [h0, h16, h17, h18, h7, hd, wrap64, S, S1, S2, S3, S4, ST, eq_self, ne_eq, not_true_eq_false, not_false_eq_true, and_self, true_and, and_true, reduceIte, reduceCtorEq, Nat.reduceEqDiff, Nat.reduceAdd, Nat.zero_add, Nat.add_zero, Option.map_none, Option.map_some, List.map_cons, List.map_nil, List.append_nil, List.cons_append, List.nil_append, List.getElem?_cons_zero, List.getElem?_cons_succ, List.getD_cons_zero, List.getD_cons_succ, List.getD_nil, Bool.not_true, Bool.not_false, decide_true, decide_false]
      refine hQ _ _ _ ?_
      simp (maxSteps := 1000000) (disch := omega) only [S, S1, S2, S3, S4, ST, eq_self, ne_eq, not_true_eq_false, not_false_eq_true, and_self, true_and, and_true, reduceIte, reduceCtorEq, Nat.reduceEqDiff, Nat.reduceAdd, Nat.zero_add, Nat.add_zero, Option.map_none, Option.map_some, List.map_cons, List.map_nil, List.append_nil, List.cons_append, List.nil_append, List.getElem?_cons_zero, List.getElem?_cons_succ, List.getD_cons_zero, List.getD_cons_succ, List.getD_nil, Bool.not_true, Bool.not_false, decide_true, decide_false]
      exact hp

set_option maxHeartbeats 1000000 in
theorem slackS_c (n : Int) (v : Value) (l : List Int) (H : AH) (hn : 3 ≤ n ∧ n ≤ 8) (hg : Wk n true l) (hr : Row 3 H v l) :
    ACalls Try.prog 59 [.int .i64 n, v] H fun r H' => r = .int .i64 (slk n l) ∧ H <+: H' := by
  have h24 := hg.2.2.2
  have hwb := wnd_bd hn hg
  have hab := absI_bd hwb
  have hnb := nmul_bd hn hab
  refine in59 rfl ?_
  intro Q hQ
  simp (maxSteps := 1000000) (disch := omega) only [cd59, S, S1, S2, S3, S4, ST, eq_self, ne_eq, not_true_eq_false, not_false_eq_true, and_self, true_and, and_true, reduceIte, reduceCtorEq, Nat.reduceEqDiff, Nat.reduceAdd, Nat.zero_add, Nat.add_zero, Option.map_none, Option.map_some, List.map_cons, List.map_nil, List.append_nil, List.cons_append, List.nil_append, List.getElem?_cons_zero, List.getElem?_cons_succ, List.getD_cons_zero, List.getD_cons_succ, List.getD_nil, Bool.not_true, Bool.not_false, decide_true, decide_false]
  refine CallH.by (windS_c n v l H hn hg hr) ?_
  rintro _ H1 ⟨rfl, hp⟩
  have hr' := hr.pre hp
  simp (maxSteps := 1000000) (disch := omega) only [hr'.len Try.underlying25, wrap64, S, S1, S2, S3, S4, ST, eq_self, ne_eq, not_true_eq_false, not_false_eq_true, and_self, true_and, and_true, reduceIte, reduceCtorEq, Nat.reduceEqDiff, Nat.reduceAdd, Nat.zero_add, Nat.add_zero, Option.map_none, Option.map_some, List.map_cons, List.map_nil, List.append_nil, List.cons_append, List.nil_append, List.getElem?_cons_zero, List.getElem?_cons_succ, List.getD_cons_zero, List.getD_cons_succ, List.getD_nil, Bool.not_true, Bool.not_false, decide_true, decide_false]
  refine CallH.by (l1Most_c ..) ?_
  rintro _ _ ⟨rfl, rfl⟩
  have e : (if 0 - wnd n l < wnd n l then wnd n l else 0 - wnd n l) = absI (wnd n l) := by
    unfold absI; split <;> split <;> omega
  simp (maxSteps := 1000000) (disch := omega) only [e, wrap64, S, S1, S2, S3, S4, ST, eq_self, ne_eq, not_true_eq_false, not_false_eq_true, and_self, true_and, and_true, reduceIte, reduceCtorEq, Nat.reduceEqDiff, Nat.reduceAdd, Nat.zero_add, Nat.add_zero, Option.map_none, Option.map_some, List.map_cons, List.map_nil, List.append_nil, List.cons_append, List.nil_append, List.getElem?_cons_zero, List.getElem?_cons_succ, List.getD_cons_zero, List.getD_cons_succ, List.getD_nil, Bool.not_true, Bool.not_false, decide_true, decide_false]
  refine hQ _ _ _ ?_
  simp (maxSteps := 1000000) (disch := omega) only [S, S1, S2, S3, S4, ST, eq_self, ne_eq, not_true_eq_false, not_false_eq_true, and_self, true_and, and_true, reduceIte, reduceCtorEq, Nat.reduceEqDiff, Nat.reduceAdd, Nat.zero_add, Nat.add_zero, Option.map_none, Option.map_some, List.map_cons, List.map_nil, List.append_nil, List.cons_append, List.nil_append, List.getElem?_cons_zero, List.getElem?_cons_succ, List.getD_cons_zero, List.getD_cons_succ, List.getD_nil, Bool.not_true, Bool.not_false, decide_true, decide_false]
  exact ⟨rfl, hp⟩

set_option maxHeartbeats 1000000 in
theorem slackI_c (n : Int) (v : Value) (l : List Int) (H : AH) (hn : 3 ≤ n ∧ n ≤ 8) (hg : Wk n true l) (hr : Row 3 H v l) :
    ACalls Try.prog 60 [.int .i64 n, v] H fun r H' => r = .int .i64 (slk n l) ∧ H <+: H' := by
  have h24 := hg.2.2.2
  have hwb := wnd_bd hn hg
  have hab := absI_bd hwb
  have hnb := nmul_bd hn hab
  refine in60 rfl ?_
  intro Q hQ
  simp (maxSteps := 1000000) (disch := omega) only [cd60, S, S1, S2, S3, S4, ST, eq_self, ne_eq, not_true_eq_false, not_false_eq_true, and_self, true_and, and_true, reduceIte, reduceCtorEq, Nat.reduceEqDiff, Nat.reduceAdd, Nat.zero_add, Nat.add_zero, Option.map_none, Option.map_some, List.map_cons, List.map_nil, List.append_nil, List.cons_append, List.nil_append, List.getElem?_cons_zero, List.getElem?_cons_succ, List.getD_cons_zero, List.getD_cons_succ, List.getD_nil, Bool.not_true, Bool.not_false, decide_true, decide_false]
  refine CallH.by (windI_c n v l H hn hg hr) ?_
  rintro _ H1 ⟨rfl, hp⟩
  have hr' := hr.pre hp
  have e : maxI (wnd n l) (0 - wnd n l) = absI (wnd n l) := by
    unfold maxI absI; split <;> split <;> omega
  simp (maxSteps := 1000000) (disch := omega) only [hr'.len Try.underlying25, wrap64, e, S, S1, S2, S3, S4, ST, eq_self, ne_eq, not_true_eq_false, not_false_eq_true, and_self, true_and, and_true, reduceIte, reduceCtorEq, Nat.reduceEqDiff, Nat.reduceAdd, Nat.zero_add, Nat.add_zero, Option.map_none, Option.map_some, List.map_cons, List.map_nil, List.append_nil, List.cons_append, List.nil_append, List.getElem?_cons_zero, List.getElem?_cons_succ, List.getD_cons_zero, List.getD_cons_succ, List.getD_nil, Bool.not_true, Bool.not_false, decide_true, decide_false]
  refine hQ _ _ _ ?_
  simp (maxSteps := 1000000) (disch := omega) only [S, S1, S2, S3, S4, ST, eq_self, ne_eq, not_true_eq_false, not_false_eq_true, and_self, true_and, and_true, reduceIte, reduceCtorEq, Nat.reduceEqDiff, Nat.reduceAdd, Nat.zero_add, Nat.add_zero, Option.map_none, Option.map_some, List.map_cons, List.map_nil, List.append_nil, List.cons_append, List.nil_append, List.getElem?_cons_zero, List.getElem?_cons_succ, List.getD_cons_zero, List.getD_cons_succ, List.getD_nil, Bool.not_true, Bool.not_false, decide_true, decide_false]
  exact ⟨rfl, hp⟩

/-- a number and whether it is told -/
def optR (n : Int) (l : List Int) (x : Int) : Value := .tuple (List.toArray [.int .i64 (if (3 ≤ n ∧ n ≤ 8) ∧ Wk n true l then x else 0), .bool (decide ((3 ≤ n ∧ n ≤ 8) ∧ Wk n true l))])

theorem WindS_c (n : Int) (v : Value) (l : List Int) (H : AH) (hr : Row 3 H v l) (hlen : l.length ≤ 1099511627776) (hxs : ∀ y ∈ l, I64 y) :
    ACalls Try.prog 20 [.int .i64 n, v] H fun r H' => r = .tuple (List.toArray [.int .i64 (if (3 ≤ n ∧ n ≤ 8) ∧ Wk n true l then wnd n l else 0), .bool (decide ((3 ≤ n ∧ n ≤ 8) ∧ Wk n true l))]) ∧ H <+: H' := by
  refine in20 rfl ?_
  intro Q hQ
  simp (maxSteps := 1000000) (disch := omega) only [cd20, S, S1, S2, S3, S4, ST, eq_self, ne_eq, not_true_eq_false, not_false_eq_true, and_self, true_and, and_true, reduceIte, reduceCtorEq, Nat.reduceEqDiff, Nat.reduceAdd, Nat.zero_add, Nat.add_zero, Option.map_none, Option.map_some, List.map_cons, List.map_nil, List.append_nil, List.cons_append, List.nil_append, List.getElem?_cons_zero, List.getElem?_cons_succ, List.getD_cons_zero, List.getD_cons_succ, List.getD_nil, Bool.not_true, Bool.not_false, decide_true, decide_false]
  refine CallH.by (l10Closed_c n v l H hr hlen) ?_
  rintro _ _ ⟨rfl, rfl⟩
  simp (maxSteps := 1000000) (disch := omega) only [S, S1, S2, S3, S4, ST, eq_self, ne_eq, not_true_eq_false, not_false_eq_true, and_self, true_and, and_true, reduceIte, reduceCtorEq, Nat.reduceEqDiff, Nat.reduceAdd, Nat.zero_add, Nat.add_zero, Option.map_none, Option.map_some, List.map_cons, List.map_nil, List.append_nil, List.cons_append, List.nil_append, List.getElem?_cons_zero, List.getElem?_cons_succ, List.getD_cons_zero, List.getD_cons_succ, List.getD_nil, Bool.not_true, Bool.not_false, decide_true, decide_false]
  refine brD.intro (fun h => ?_) (fun h => ?_) <;> simp (maxSteps := 1000000) (disch := omega) only [h, S, S1, S2, S3, S4, ST, eq_self, ne_eq, not_true_eq_false, not_false_eq_true, and_self, true_and, and_true, reduceIte, reduceCtorEq, Nat.reduceEqDiff, Nat.reduceAdd, Nat.zero_add, Nat.add_zero, Option.map_none, Option.map_some, List.map_cons, List.map_nil, List.append_nil, List.cons_append, List.nil_append, List.getElem?_cons_zero, List.getElem?_cons_succ, List.getD_cons_zero, List.getD_cons_succ, List.getD_nil, Bool.not_true, Bool.not_false, decide_true, decide_false]
  · refine CallH.by (windS_c n v l H h.1 h.2 hr) ?_
    rintro _ H1 ⟨rfl, hp⟩
    simp (maxSteps := 1000000) (disch := omega) only [h, S, S1, S2, S3, S4, ST, eq_self, ne_eq, not_true_eq_false, not_false_eq_true, and_self, true_and, and_true, reduceIte, reduceCtorEq, Nat.reduceEqDiff, Nat.reduceAdd, Nat.zero_add, Nat.add_zero, Option.map_none, Option.map_some, List.map_cons, List.map_nil, List.append_nil, List.cons_append, List.nil_append, List.getElem?_cons_zero, List.getElem?_cons_succ, List.getD_cons_zero, List.getD_cons_succ, List.getD_nil, Bool.not_true, Bool.not_false, decide_true, decide_false]
    refine hQ _ _ _ ?_
    simp (maxSteps := 1000000) (disch := omega) only [S, S1, S2, S3, S4, ST, eq_self, ne_eq, not_true_eq_false, not_false_eq_true, and_self, true_and, and_true, reduceIte, reduceCtorEq, Nat.reduceEqDiff, Nat.reduceAdd, Nat.zero_add, Nat.add_zero, Option.map_none, Option.map_some, List.map_cons, List.map_nil, List.append_nil, List.cons_append, List.nil_append, List.getElem?_cons_zero, List.getElem?_cons_succ, List.getD_cons_zero, List.getD_cons_succ, List.getD_nil, Bool.not_true, Bool.not_false, decide_true, decide_false]
    simp only [h, and_self, if_true, decide_true]; exact ⟨trivial, hp⟩
  · refine hQ _ _ _ ?_
    simp (maxSteps := 1000000) (disch := omega) only [S, S1, S2, S3, S4, ST, eq_self, ne_eq, not_true_eq_false, not_false_eq_true, and_self, true_and, and_true, reduceIte, reduceCtorEq, Nat.reduceEqDiff, Nat.reduceAdd, Nat.zero_add, Nat.add_zero, Option.map_none, Option.map_some, List.map_cons, List.map_nil, List.append_nil, List.cons_append, List.nil_append, List.getElem?_cons_zero, List.getElem?_cons_succ, List.getD_cons_zero, List.getD_cons_succ, List.getD_nil, Bool.not_true, Bool.not_false, decide_true, decide_false]
    simp only [h, if_false, decide_false]; exact ⟨trivial, List.prefix_refl _⟩

theorem WindI_c (n : Int) (v : Value) (l : List Int) (H : AH) (hr : Row 3 H v l) (hlen : l.length ≤ 1099511627776) (hxs : ∀ y ∈ l, I64 y) :
    ACalls Try.prog 21 [.int .i64 n, v] H fun r H' => r = .tuple (List.toArray [.int .i64 (if (3 ≤ n ∧ n ≤ 8) ∧ Wk n true l then wnd n l else 0), .bool (decide ((3 ≤ n ∧ n ≤ 8) ∧ Wk n true l))]) ∧ H <+: H' := by
  refine in21 rfl ?_
  intro Q hQ
  simp (maxSteps := 1000000) (disch := omega) only [cd21, S, S1, S2, S3, S4, ST, eq_self, ne_eq, not_true_eq_false, not_false_eq_true, and_self, true_and, and_true, reduceIte, reduceCtorEq, Nat.reduceEqDiff, Nat.reduceAdd, Nat.zero_add, Nat.add_zero, Option.map_none, Option.map_some, List.map_cons, List.map_nil, List.append_nil, List.cons_append, List.nil_append, List.getElem?_cons_zero, List.getElem?_cons_succ, List.getD_cons_zero, List.getD_cons_succ, List.getD_nil, Bool.not_true, Bool.not_false, decide_true, decide_false]
  refine CallH.by (iClosed_c n v l true H hr hlen) ?_
  rintro _ H1 ⟨rfl, hp⟩
  simp (maxSteps := 1000000) (disch := omega) only [S, S1, S2, S3, S4, ST, eq_self, ne_eq, not_true_eq_false, not_false_eq_true, and_self, true_and, and_true, reduceIte, reduceCtorEq, Nat.reduceEqDiff, Nat.reduceAdd, Nat.zero_add, Nat.add_zero, Option.map_none, Option.map_some, List.map_cons, List.map_nil, List.append_nil, List.cons_append, List.nil_append, List.getElem?_cons_zero, List.getElem?_cons_succ, List.getD_cons_zero, List.getD_cons_succ, List.getD_nil, Bool.not_true, Bool.not_false, decide_true, decide_false]
  refine brD.intro (fun h => ?_) (fun h => ?_) <;> simp (maxSteps := 1000000) (disch := omega) only [h, S, S1, S2, S3, S4, ST, eq_self, ne_eq, not_true_eq_false, not_false_eq_true, and_self, true_and, and_true, reduceIte, reduceCtorEq, Nat.reduceEqDiff, Nat.reduceAdd, Nat.zero_add, Nat.add_zero, Option.map_none, Option.map_some, List.map_cons, List.map_nil, List.append_nil, List.cons_append, List.nil_append, List.getElem?_cons_zero, List.getElem?_cons_succ, List.getD_cons_zero, List.getD_cons_succ, List.getD_nil, Bool.not_true, Bool.not_false, decide_true, decide_false]
  · refine CallH.by (windI_c n v l H1 h.1 h.2 (hr.pre hp)) ?_
    rintro _ H2 ⟨rfl, hp2⟩
    simp (maxSteps := 1000000) (disch := omega) only [h, S, S1, S2, S3, S4, ST, eq_self, ne_eq, not_true_eq_false, not_false_eq_true, and_self, true_and, and_true, reduceIte, reduceCtorEq, Nat.reduceEqDiff, Nat.reduceAdd, Nat.zero_add, Nat.add_zero, Option.map_none, Option.map_some, List.map_cons, List.map_nil, List.append_nil, List.cons_append, List.nil_append, List.getElem?_cons_zero, List.getElem?_cons_succ, List.getD_cons_zero, List.getD_cons_succ, List.getD_nil, Bool.not_true, Bool.not_false, decide_true, decide_false]
    refine hQ _ _ _ ?_
    simp (maxSteps := 1000000) (disch := omega) only [S, S1, S2, S3, S4, ST, eq_self, ne_eq, not_true_eq_false, not_false_eq_true, and_self, true_and, and_true, reduceIte, reduceCtorEq, Nat.reduceEqDiff, Nat.reduceAdd, Nat.zero_add, Nat.add_zero, Option.map_none, Option.map_some, List.map_cons, List.map_nil, List.append_nil, List.cons_append, List.nil_append, List.getElem?_cons_zero, List.getElem?_cons_succ, List.getD_cons_zero, List.getD_cons_succ, List.getD_nil, Bool.not_true, Bool.not_false, decide_true, decide_false]
    simp only [h, and_self, if_true, decide_true]; exact ⟨trivial, hp.trans hp2⟩
  · refine hQ _ _ _ ?_
    simp (maxSteps := 1000000) (disch := omega) only [S, S1, S2, S3, S4, ST, eq_self, ne_eq, not_true_eq_false, not_false_eq_true, and_self, true_and, and_true, reduceIte, reduceCtorEq, Nat.reduceEqDiff, Nat.reduceAdd, Nat.zero_add, Nat.add_zero, Option.map_none, Option.map_some, List.map_cons, List.map_nil, List.append_nil, List.cons_append, List.nil_append, List.getElem?_cons_zero, List.getElem?_cons_succ, List.getD_cons_zero, List.getD_cons_succ, List.getD_nil, Bool.not_true, Bool.not_false, decide_true, decide_false]
    simp only [h, if_false, decide_false]; exact ⟨trivial, hp⟩
end Go.Proofs.Ytedlnjcfacadgaa.Ai
