/- Cycles of permutations, both sides. -/
import Derived.Test.YtnoihoeaconllaaPerm
import Derived.Test.YtnoihoeaconllaaCycP
import Derived.Test.YtnoihoeaconllaaBag
import Derived.Test.YtnoihoeaconllaaAiT
import Derived.Test.YtnoihoeaconllaaCdCyc
namespace Go.Proofs.Ytnoihoeaconllaa.Ai
open Go Go.RowKit
set_option linter.unusedVariables false
set_option linter.unusedSimpArgs false

theorem cycSt_len (p : List Int) (k : Nat) : (cycSt p k).1.length ≤ k := by
  induction k with
  | zero => simp [cycSt]
  | succ k ih =>
    simp only [cycSt]
    split
    · omega
    · simp; omega
theorem shut0 (p : List Int) : Shut p [] := ⟨fun z hz => by simp at hz, fun z _ h => by simp at h⟩

/-- a state of the walk from x: nothing yet, or a way -/
def Ph (p s0 : List Int) (x : Nat) (c : List Int) (y : Int) : Prop := (c = [] ∧ y = x) ∨ (Way p (x : Int) c y ∧ (x : Int) ∉ s0 ∧ ∀ z ∈ c, z ∉ s0)
theorem Ph.yr {p s0 : List Int} {x : Nat} {c : List Int} {y : Int} (hp : Prm p) (hx : x < p.length) (h : Ph p s0 x c y) : 0 ≤ y ∧ y < p.length := by
  rcases h with ⟨_, rfl⟩ | ⟨h, _, _⟩
  · omega
  · exact h.yrng hp
theorem Ph.len {p s0 : List Int} {x : Nat} {c : List Int} {y : Int} (h : Ph p s0 x c y) : c.length ≤ p.length := by
  rcases h with ⟨rfl, _⟩ | ⟨h, _, _⟩
  · simp
  · exact h.len.2
theorem Ph.next {p s0 : List Int} {x : Nat} {c : List Int} {y : Int} (hp : Prm p) (hx : x < p.length) (h : Ph p s0 x c y) (hy : y ∉ s0 ++ c) : Ph p s0 x (c ++ [y]) (p.getD y.toNat 0) := by
  rw [List.mem_append, not_or] at hy
  rcases h with ⟨rfl, rfl⟩ | ⟨h, h1, h2⟩
  · right
    refine ⟨by have := Way.first hp hx; simpa using this, hy.1, fun z hz => ?_⟩
    simp at hz; rw [hz]; exact hy.1
  · right
    have hne : y ≠ x := fun e => hy.2 (by
      have hl := h.len
      have := getD_mem (show 0 < c.length by omega)
      rw [h.head] at this
      rw [e]; exact this)
    refine ⟨h.next hp hne, h1, fun z hz => ?_⟩
    rcases List.mem_append.1 hz with g | g
    · exact h2 z g
    · simp at g; rw [g]; exact hy.1
/-- the walk ends -/
theorem Ph.done {p s0 : List Int} {x : Nat} {c : List Int} {y : Int} (hp : Prm p) (h : Ph p s0 x c y) (hs : Shut p s0) (hy : y ∈ s0 ++ c) :
    (c = [] ∧ (x : Int) ∈ s0) ∨ (c ≠ [] ∧ (x : Int) ∉ s0 ∧ c = cycC p x ∧ Shut p (s0 ++ c)) := by
  rcases h with ⟨rfl, rfl⟩ | ⟨h, h1, h2⟩
  · rw [List.append_nil] at hy; exact .inl ⟨rfl, hy⟩
  · have ho := h.out hs h2
    have hc : y ∈ c := (List.mem_append.1 hy).resolve_left ho
    have e := h.back hp hc
    subst e
    exact .inr ⟨h.ne, h1, h.done, h.shut hp hs⟩

def Bits (b : Nat) (L : Nat) (s : List Int) : Prop := b < 256 ∧ ∀ z, z < L → b.testBit z = decide ((z : Int) ∈ s)
theorem Bits.or {b L y : Nat} {s : List Int} (h : Bits b L s) (hy : y < 8) : Bits (b ||| 2 ^ y) L (s ++ [(y : Int)]) := by
  refine ⟨?_, fun z hz => ?_⟩
  · have h1 : 2 ^ y < 2 ^ 8 := Nat.pow_lt_pow_right (by decide) hy
    exact Nat.or_lt_two_pow (n := 8) h.1 h1
  · rw [Nat.testBit_or, h.2 z hz, Nat.testBit_two_pow]
    have e : (y = z) ↔ ((z : Int) = y) := by omega
    by_cases hm : (z : Int) ∈ s <;> by_cases hz2 : y = z <;> simp [hm, hz2, e]
    · intro hh; exact hz2 (by omega)

set_option maxHeartbeats 4000000 in
theorem cycI_c (v : Value) (p : List Int) (H : AH) (hr : Row 3 H v p) (hp : Prm p) :
    ACalls Try.prog 64 [v] H fun r H' => InL H.length H'.length 22 3 H' r (cycSt p p.length).1 ∧ H <+: H' := by
  have h8 := hp.1
  have hrg := prm_range hp
  refine in64 rfl ?_
  intro Q hQ
  simp (maxSteps := 1000000) (disch := omega) only [cd64, S, S1, S2, S3, S4, ST, eq_self, ne_eq, not_true_eq_false, not_false_eq_true, and_self, true_and, and_true, reduceIte, reduceCtorEq, Nat.reduceEqDiff, Nat.reduceAdd, Nat.zero_add, Nat.add_zero, Option.map_none, Option.map_some, List.map_cons, List.map_nil, List.append_nil, List.cons_append, List.nil_append, List.getElem?_cons_zero, List.getElem?_cons_succ, List.getD_cons_zero, List.getD_cons_succ, List.getD_nil, Bool.not_true, Bool.not_false, decide_true, decide_false]
  have hp0 := List.prefix_append H [AObj.cells [] 22 false]
  simp (maxSteps := 1000000) (disch := omega) only [hr.len Try.underlying22, S, S1, S2, S3, S4, ST, eq_self, ne_eq, not_true_eq_false, not_false_eq_true, and_self, true_and, and_true, reduceIte, reduceCtorEq, Nat.reduceEqDiff, Nat.reduceAdd, Nat.zero_add, Nat.add_zero, Option.map_none, Option.map_some, List.map_cons, List.map_nil, List.append_nil, List.cons_append, List.nil_append, List.getElem?_cons_zero, List.getElem?_cons_succ, List.getD_cons_zero, List.getD_cons_succ, List.getD_nil, Bool.not_true, Bool.not_false, decide_true, decide_false]
  refine LoopH.by (fun m s H' => ∃ i b o us, m + i = p.length ∧ s 0 = v ∧ s 10 = .int .i64 (p.length : Int) ∧ s 11 = .int .i64 ((i : Nat) : Int) ∧ s 4 = .int .u64 ((b : Nat) : Int) ∧ s 3 = .slice (some ⟨o, 0, none⟩) (cycSt p i).1.length (cycSt p i).1.length ∧ Bits b p.length (cycSt p i).2 ∧ Shut p (cycSt p i).2 ∧ InU H.length H'.length 22 3 H' o us (cycSt p i).1 ∧ H <+: H') p.length ?_ ?_
  · refine ⟨0, 0, H.length, [], by simp, rfl, rfl, rfl, rfl, rfl, ⟨by decide, fun z _ => by simp [cycSt]⟩, shut0 p, ?_, hp0⟩
    have := InU.new H.length 22 3 H (Nat.le_refl _)
    simpa [cycSt] using this
  · rintro m s H' ⟨i, b, o, us, hm, h0, h10, h11, h4, h3, hbits, hshut, hin, hpp⟩
    have hcl := cycSt_len p i
    have hst : cycSt p (i + 1) = if (i : Int) ∈ (cycSt p i).2 then cycSt p i else ((cycSt p i).1 ++ [cycC p i], (cycSt p i).2 ++ cycC p i) := rfl
    have hlast : i = p.length → (cycSt p p.length).1 = (cycSt p i).1 := fun e => by rw [e]
    generalize hO : (cycSt p i).1 = O at *
    generalize hS : (cycSt p i).2 = Se at *
    simp (maxSteps := 1000000) (disch := omega) only [h0, h10, h11, h4, h3, S, S1, S2, S3, S4, ST, eq_self, ne_eq, not_true_eq_false, not_false_eq_true, and_self, true_and, and_true, reduceIte, reduceCtorEq, Nat.reduceEqDiff, Nat.reduceAdd, Nat.zero_add, Nat.add_zero, Option.map_none, Option.map_some, List.map_cons, List.map_nil, List.append_nil, List.cons_append, List.nil_append, List.getElem?_cons_zero, List.getElem?_cons_succ, List.getD_cons_zero, List.getD_cons_succ, List.getD_nil, Bool.not_true, Bool.not_false, decide_true, decide_false]
    refine brD.intro (fun g => ?_) (fun g => ?_) <;> simp (maxSteps := 1000000) (disch := omega) only [h0, h10, h11, h4, h3, S, S1, S2, S3, S4, ST, eq_self, ne_eq, not_true_eq_false, not_false_eq_true, and_self, true_and, and_true, reduceIte, reduceCtorEq, Nat.reduceEqDiff, Nat.reduceAdd, Nat.zero_add, Nat.add_zero, Option.map_none, Option.map_some, List.map_cons, List.map_nil, List.append_nil, List.cons_append, List.nil_append, List.getElem?_cons_zero, List.getElem?_cons_succ, List.getD_cons_zero, List.getD_cons_succ, List.getD_nil, Bool.not_true, Bool.not_false, decide_true, decide_false]
    · have hi : i < p.length := by omega
      refine LoopH.by (fun m' s' H'' => ∃ c y b', m' + c.length = p.length + 1 ∧ Ph p Se i c y ∧ s' 0 = v ∧ s' 10 = .int .i64 (p.length : Int) ∧ s' 11 = .int .i64 ((i : Nat) : Int) ∧ s' 3 = .slice (some ⟨o, 0, none⟩) O.length O.length ∧ s' 7 = .int .i64 y ∧ s' 4 = .int .u64 ((b' : Nat) : Int) ∧ Bits b' p.length (Se ++ c) ∧ Own 3 H' H'' (s' 6) c ∧ H' <+: H'') (p.length + 1) ?_ ?_
      · refine ⟨[], i, b, by simp, .inl ⟨rfl, rfl⟩, ?_⟩
        have f1 : Bits b p.length (Se ++ []) := by rw [List.append_nil]; exact hbits
        have f2 : Own 3 H' (H' ++ [AObj.cells [] 3 false]) (.slice (some ⟨H'.length, 0, none⟩) 0 0) [] := .inr ⟨H'.length, rfl, Nat.le_refl _, at_new ..⟩
        have f3 := List.prefix_append H' [AObj.cells [] 3 false]
        simp only [S, S1, S2, S3, S4, ST, eq_self, ne_eq, not_true_eq_false, not_false_eq_true, and_self, true_and, and_true, reduceIte, reduceCtorEq, Nat.reduceEqDiff, Nat.reduceAdd, Nat.zero_add, Nat.add_zero, Option.map_none, Option.map_some, List.map_cons, List.map_nil, List.append_nil, List.cons_append, List.nil_append, List.getElem?_cons_zero, List.getElem?_cons_succ, List.getD_cons_zero, List.getD_cons_succ, List.getD_nil, Bool.not_true, Bool.not_false, decide_true, decide_false, h0, h10, h11, h4, h3]
        exact ⟨hbits, f2, f3⟩
      · rintro m' s' H'' ⟨c, y, b', hm', hph, g0, g10, g11, g3, g7, g4, hb', hown, hpq⟩
        have hyr := hph.yr hp hi
        have hcln := hph.len
        have hr' := hr.pre (hpp.trans hpq)
        obtain ⟨Y, rfl⟩ : ∃ Y : Nat, y = Y := ⟨y.toNat, by omega⟩
        have hb64 : b' < 2 ^ 64 := Nat.lt_of_lt_of_le hb'.1 (by decide)
        have htb := hb'.2 Y (by omega)
        generalize hw : s' 6 = w at *
        simp (maxSteps := 1000000) (disch := omega) only [g0, g10, g11, g3, g7, g4, hw, S, S1, S2, S3, S4, ST, eq_self, ne_eq, not_true_eq_false, not_false_eq_true, and_self, true_and, and_true, reduceIte, reduceCtorEq, Nat.reduceEqDiff, Nat.reduceAdd, Nat.zero_add, Nat.add_zero, Option.map_none, Option.map_some, List.map_cons, List.map_nil, List.append_nil, List.cons_append, List.nil_append, List.getElem?_cons_zero, List.getElem?_cons_succ, List.getD_cons_zero, List.getD_cons_succ, List.getD_nil, Bool.not_true, Bool.not_false, decide_true, decide_false]
        refine CallH.by (has_c b' Y H'' hb64 (by omega)) ?_
        rintro _ _ ⟨rfl, rfl⟩
        rw [htb]
        simp (maxSteps := 1000000) (disch := omega) only [S, S1, S2, S3, S4, ST, eq_self, ne_eq, not_true_eq_false, not_false_eq_true, and_self, true_and, and_true, reduceIte, reduceCtorEq, Nat.reduceEqDiff, Nat.reduceAdd, Nat.zero_add, Nat.add_zero, Option.map_none, Option.map_some, List.map_cons, List.map_nil, List.append_nil, List.cons_append, List.nil_append, List.getElem?_cons_zero, List.getElem?_cons_succ, List.getD_cons_zero, List.getD_cons_succ, List.getD_nil, Bool.not_true, Bool.not_false, decide_true, decide_false]
        refine brD.intro (fun e => ?_) (fun e => ?_)
        · -- the walk ends
          simp (maxSteps := 1000000) (disch := omega) only [g0, g10, g11, g3, g7, g4, hw, hown.row.len Try.underlying22, S, S1, S2, S3, S4, ST, eq_self, ne_eq, not_true_eq_false, not_false_eq_true, and_self, true_and, and_true, reduceIte, reduceCtorEq, Nat.reduceEqDiff, Nat.reduceAdd, Nat.zero_add, Nat.add_zero, Option.map_none, Option.map_some, List.map_cons, List.map_nil, List.append_nil, List.cons_append, List.nil_append, List.getElem?_cons_zero, List.getElem?_cons_succ, List.getD_cons_zero, List.getD_cons_succ, List.getD_nil, Bool.not_true, Bool.not_false, decide_true, decide_false]
          rcases hph.done hp hshut e with ⟨rfl, hx⟩ | ⟨hne, hx, hc, hsh⟩
          · refine brD.intro (fun h => absurd h (by simp)) (fun _ => ?_)
            simp (maxSteps := 1000000) (disch := omega) only [g0, g10, g11, g3, g7, g4, hw, wrap64, S, S1, S2, S3, S4, ST, eq_self, ne_eq, not_true_eq_false, not_false_eq_true, and_self, true_and, and_true, reduceIte, reduceCtorEq, Nat.reduceEqDiff, Nat.reduceAdd, Nat.zero_add, Nat.add_zero, Option.map_none, Option.map_some, List.map_cons, List.map_nil, List.append_nil, List.cons_append, List.nil_append, List.getElem?_cons_zero, List.getElem?_cons_succ, List.getD_cons_zero, List.getD_cons_succ, List.getD_nil, Bool.not_true, Bool.not_false, decide_true, decide_false]
            rw [if_pos hx] at hst
            have hin2 := (hin.pre hpq).wide (Nat.le_refl _) hpq.length_le
            rw [List.append_nil] at hb'
            have hpp2 := hpp.trans hpq
            refine ⟨m - 1, by omega, i + 1, b', o, us, by omega, ?_⟩
            rw [hst, hO, hS]
            (repeat' first | exact hb' | exact hshut | exact hin2 | exact hpp2 | apply And.intro) <;> first | (simp only [Value.int.injEq, true_and]; omega) | omega | rfl | assumption | (simp; done) | (simp; omega)
          · have hlen1 : 1 ≤ c.length := by
              cases c with
              | nil => exact absurd rfl hne
              | cons _ _ => simp
            refine brD.intro (fun _ => ?_) (fun h => absurd (show (0 : Int) < c.length by omega) h)
            rw [if_neg hx] at hst
            have hinw := InI.of hown.mine
            obtain ⟨H3, k1, k2, k3, k4⟩ := (hin.pre hpq).app1 (P := Try.prog) (t2 := 35) Try.underlying35 cs22 (by rw [by22]; decide) zk22 hinw hpp.length_le hpq.length_le (Nat.le_refl _) (by omega)
            have hbs : buildSliceA Try.prog 35 1 [(0, w)] H'' = some (.slice (some ⟨H''.length, 0, none⟩) 1 1, H'' ++ [.cells [w] 22 false]) := by
              obtain ⟨q, eq⟩ := hown.row.shape
              rw [eq]
              exact bs1 Try.underlying35 cs22 ze22 ⟨by kernel_rfl, by kernel_rfl⟩ H'' rfl
            simp (maxSteps := 1000000) (disch := omega) only [g0, g10, g11, g3, g7, g4, hw, hbs, k1, wrap64, S, S1, S2, S3, S4, ST, eq_self, ne_eq, not_true_eq_false, not_false_eq_true, and_self, true_and, and_true, reduceIte, reduceCtorEq, Nat.reduceEqDiff, Nat.reduceAdd, Nat.zero_add, Nat.add_zero, Option.map_none, Option.map_some, List.map_cons, List.map_nil, List.append_nil, List.cons_append, List.nil_append, List.getElem?_cons_zero, List.getElem?_cons_succ, List.getD_cons_zero, List.getD_cons_succ, List.getD_nil, Bool.not_true, Bool.not_false, decide_true, decide_false]
            have ho := hin.1
            have f1 : H <+: H3 := prefix_of fun j x hx' => k4 j x (by have := at_lt hx'; omega) (pre_at (hpp.trans hpq) hx')
            have f2 : InU H.length H3.length 22 3 H3 (H''.length + 1) (us.take O.length ++ [w]) (O ++ [cycC p i]) := by
              rw [k3, ← hc]; exact k2
            rw [hc] at hb' hsh
            have f3 : (O ++ [cycC p i]).length = O.length + 1 := by simp
            refine ⟨m - 1, by omega, i + 1, b', H''.length + 1, us.take O.length ++ [w], by omega, ?_⟩
            rw [hst]
            simp only [f3]
            (repeat' first | exact hb' | exact hsh | exact f2 | exact f1 | apply And.intro) <;> first | (simp only [Value.int.injEq, true_and]; omega) | omega | rfl | assumption | (simp; done) | (simp; omega)
        · -- one more
          have e3 : (Y : Int).toNat = Y := by omega
          have hYl : Y < p.length := by omega
          have hb2 := hb'.or (y := Y) (by omega)
          have sh := bin_shl Try.prog 88 Y (by omega)
          have hp2 : 2 ^ Y < 2 ^ 64 := Nat.pow_lt_pow_right (by decide) (by omega)
          have bo := bin_or Try.prog 88 b' (2 ^ Y) hb64 hp2
          obtain ⟨w', H3, k1, k2, k3, k4, k5, k6⟩ := own1_22 hown hpq (by omega) (Y : Int)
          have hr3 := hr.pre (hpp.trans k3)
          have nx := hph.next hp hi e
          rw [e3] at nx
          have f0 : m' - 1 + (c ++ [(Y : Int)]).length = p.length + 1 := by simp; have := nx.len; simp at this; omega
          simp (maxSteps := 1000000) (disch := omega) only [g0, g10, g11, g3, g7, g4, hw, sh, bo, k1, hr3.ix Try.underlying22 cs3, hr3.cell, Int.toNat_natCast, S, S1, S2, S3, S4, ST, eq_self, ne_eq, not_true_eq_false, not_false_eq_true, and_self, true_and, and_true, reduceIte, reduceCtorEq, Nat.reduceEqDiff, Nat.reduceAdd, Nat.zero_add, Nat.add_zero, Option.map_none, Option.map_some, List.map_cons, List.map_nil, List.append_nil, List.cons_append, List.nil_append, List.getElem?_cons_zero, List.getElem?_cons_succ, List.getD_cons_zero, List.getD_cons_succ, List.getD_nil, Bool.not_true, Bool.not_false, decide_true, decide_false]
          have hm1 : m' - 1 < m' := by have := nx.len; simp at this; omega
          refine ⟨m' - 1, hm1, c ++ [(Y : Int)], p.getD Y 0, b' ||| 2 ^ Y, f0, nx, ?_⟩
          have hb3 : Bits (b' ||| 2 ^ Y) p.length (Se ++ (c ++ [(Y : Int)])) := by rw [← List.append_assoc]; exact hb2
          (repeat' first | exact hb3 | exact k2 | exact k3 | apply And.intro) <;> first | (simp only [Value.int.injEq, true_and]; omega) | omega | rfl | assumption | (simp; done) | (simp; omega)
    · refine hQ _ _ _ ?_
      simp (maxSteps := 1000000) (disch := omega) only [h3, S, S1, S2, S3, S4, ST, eq_self, ne_eq, not_true_eq_false, not_false_eq_true, and_self, true_and, and_true, reduceIte, reduceCtorEq, Nat.reduceEqDiff, Nat.reduceAdd, Nat.zero_add, Nat.add_zero, Option.map_none, Option.map_some, List.map_cons, List.map_nil, List.append_nil, List.cons_append, List.nil_append, List.getElem?_cons_zero, List.getElem?_cons_succ, List.getD_cons_zero, List.getD_cons_succ, List.getD_nil, Bool.not_true, Bool.not_false, decide_true, decide_false]
      rw [hlast (by omega)]
      exact ⟨hin.inl, hpp⟩

set_option maxHeartbeats 4000000 in
theorem cycS_c (v : Value) (p : List Int) (H : AH) (hr : Row 3 H v p) (hp : Prm p) :
    ACalls Try.prog 63 [v] H fun r H' => InL H.length H'.length 22 3 H' r (cycSt p p.length).1 ∧ H <+: H' := by
  have h8 := hp.1
  have hrg := prm_range hp
  refine in63 rfl ?_
  intro Q hQ
  simp (maxSteps := 1000000) (disch := omega) only [cd63, S, S1, S2, S3, S4, ST, eq_self, ne_eq, not_true_eq_false, not_false_eq_true, and_self, true_and, and_true, reduceIte, reduceCtorEq, Nat.reduceEqDiff, Nat.reduceAdd, Nat.zero_add, Nat.add_zero, Option.map_none, Option.map_some, List.map_cons, List.map_nil, List.append_nil, List.cons_append, List.nil_append, List.getElem?_cons_zero, List.getElem?_cons_succ, List.getD_cons_zero, List.getD_cons_succ, List.getD_nil, Bool.not_true, Bool.not_false, decide_true, decide_false]
  have hp0 := List.prefix_append H [AObj.cells [] 22 false]
  have hp1 := pre_app hp0 [AObj.cells [] 3 false]
  refine LoopH.by (fun m s H' => ∃ i o q us, m + i = p.length ∧ s 0 = v ∧ s 5 = .int .i64 ((i : Nat) : Int) ∧ s 3 = .slice (some ⟨o, 0, none⟩) (cycSt p i).1.length (cycSt p i).1.length ∧ s 4 = .slice (some ⟨q, 0, none⟩) (cycSt p i).2.length (cycSt p i).2.length ∧ H.length ≤ q ∧ H'[q]? = some (.cells (ints (cycSt p i).2) 3 false) ∧ Away q o us (cycSt p i).1 ∧ Shut p (cycSt p i).2 ∧ (cycSt p i).2.Nodup ∧ InU H.length H'.length 22 3 H' o us (cycSt p i).1 ∧ H <+: H') p.length ?_ ?_
  · refine ⟨0, H.length, (H ++ [AObj.cells [] 22 false]).length, [], by simp, rfl, rfl, rfl, rfl, by simp, at_new .., ⟨by simp, fun i hi => absurd hi (by simp [cycSt])⟩, shut0 p, by simp [cycSt], ?_, hp1⟩
    have := ((InU.new H.length 22 3 H (Nat.le_refl _)).pre (List.prefix_append (H ++ [AObj.cells [] 22 false]) [AObj.cells [] 3 false])).wide (Nat.le_refl _) (show H.length + 1 ≤ (H ++ [AObj.cells [] 22 false] ++ [AObj.cells [] 3 false]).length by simp)
    simpa [cycSt] using this
  · rintro m s H' ⟨i, o, q, us, hm, h0, h5, h3, h4, hq0, hq, haw, hshut, hnd, hin, hpp⟩
    have hcl := cycSt_len p i
    have hst : cycSt p (i + 1) = if (i : Int) ∈ (cycSt p i).2 then cycSt p i else ((cycSt p i).1 ++ [cycC p i], (cycSt p i).2 ++ cycC p i) := rfl
    have hlast : i = p.length → (cycSt p p.length).1 = (cycSt p i).1 := fun e => by rw [e]
    generalize hO : (cycSt p i).1 = O at *
    generalize hS : (cycSt p i).2 = Se at *
    have hr' := hr.pre hpp
    have hsl := nodup_len p.length Se hnd hshut.1
    have hseen : Row 3 H' (.slice (some ⟨q, 0, none⟩) Se.length Se.length) Se := .inr ⟨q, 0, ints Se, false, rfl, hq, by rw [ints_len]; omega, by rw [List.drop_zero, List.take_of_length_le (by rw [ints_len]; exact Nat.le_refl _)]⟩
    simp (maxSteps := 1000000) (disch := omega) only [h0, h5, h3, h4, hr'.len Try.underlying22, S, S1, S2, S3, S4, ST, eq_self, ne_eq, not_true_eq_false, not_false_eq_true, and_self, true_and, and_true, reduceIte, reduceCtorEq, Nat.reduceEqDiff, Nat.reduceAdd, Nat.zero_add, Nat.add_zero, Option.map_none, Option.map_some, List.map_cons, List.map_nil, List.append_nil, List.cons_append, List.nil_append, List.getElem?_cons_zero, List.getElem?_cons_succ, List.getD_cons_zero, List.getD_cons_succ, List.getD_nil, Bool.not_true, Bool.not_false, decide_true, decide_false]
    refine brD.intro (fun g => ?_) (fun g => ?_) <;> simp (maxSteps := 1000000) (disch := omega) only [h0, h5, h3, h4, S, S1, S2, S3, S4, ST, eq_self, ne_eq, not_true_eq_false, not_false_eq_true, and_self, true_and, and_true, reduceIte, reduceCtorEq, Nat.reduceEqDiff, Nat.reduceAdd, Nat.zero_add, Nat.add_zero, Option.map_none, Option.map_some, List.map_cons, List.map_nil, List.append_nil, List.cons_append, List.nil_append, List.getElem?_cons_zero, List.getElem?_cons_succ, List.getD_cons_zero, List.getD_cons_succ, List.getD_nil, Bool.not_true, Bool.not_false, decide_true, decide_false]
    · have hi : i < p.length := by omega
      refine CallH.by (l1Has_c _ Se _ H' hseen (by omega)) ?_
      rintro _ _ ⟨rfl, rfl⟩
      simp (maxSteps := 1000000) (disch := omega) only [S, S1, S2, S3, S4, ST, eq_self, ne_eq, not_true_eq_false, not_false_eq_true, and_self, true_and, and_true, reduceIte, reduceCtorEq, Nat.reduceEqDiff, Nat.reduceAdd, Nat.zero_add, Nat.add_zero, Option.map_none, Option.map_some, List.map_cons, List.map_nil, List.append_nil, List.cons_append, List.nil_append, List.getElem?_cons_zero, List.getElem?_cons_succ, List.getD_cons_zero, List.getD_cons_succ, List.getD_nil, Bool.not_true, Bool.not_false, decide_true, decide_false]
      refine brD.intro (fun hx => ?_) (fun hx => ?_) <;> simp (maxSteps := 1000000) (disch := omega) only [h0, h5, h3, h4, wrap64, S, S1, S2, S3, S4, ST, eq_self, ne_eq, not_true_eq_false, not_false_eq_true, and_self, true_and, and_true, reduceIte, reduceCtorEq, Nat.reduceEqDiff, Nat.reduceAdd, Nat.zero_add, Nat.add_zero, Option.map_none, Option.map_some, List.map_cons, List.map_nil, List.append_nil, List.cons_append, List.nil_append, List.getElem?_cons_zero, List.getElem?_cons_succ, List.getD_cons_zero, List.getD_cons_succ, List.getD_nil, Bool.not_true, Bool.not_false, decide_true, decide_false]
      · rw [if_pos hx] at hst
        refine ⟨m - 1, by omega, i + 1, o, q, us, ?_⟩
        rw [hst, hO, hS]
        (repeat' first | exact haw | exact hshut | exact hnd | exact hin | exact hpp | exact hq | exact hq0 | apply And.intro) <;> first | (simp only [Value.int.injEq, true_and]; omega) | omega | rfl | assumption | (simp; done) | (simp; omega)
      · rw [if_neg hx] at hst
        have hcp := List.prefix_append H' [AObj.cells [.int .i64 (i : Int)] 3 false]
        have hr2 := hr'.pre hcp
        simp (maxSteps := 1000000) (disch := omega) only [h0, h5, h3, h4, hr2.ix Try.underlying22 cs3, hr2.cell, Int.toNat_natCast, S, S1, S2, S3, S4, ST, eq_self, ne_eq, not_true_eq_false, not_false_eq_true, and_self, true_and, and_true, reduceIte, reduceCtorEq, Nat.reduceEqDiff, Nat.reduceAdd, Nat.zero_add, Nat.add_zero, Option.map_none, Option.map_some, List.map_cons, List.map_nil, List.append_nil, List.cons_append, List.nil_append, List.getElem?_cons_zero, List.getElem?_cons_succ, List.getD_cons_zero, List.getD_cons_succ, List.getD_nil, Bool.not_true, Bool.not_false, decide_true, decide_false]
        refine LoopH.by (fun m' s' H'' => ∃ c y, m' + c.length = p.length + 1 ∧ Way p (i : Int) c y ∧ (∀ z ∈ c, z ∉ Se) ∧ s' 0 = v ∧ s' 5 = .int .i64 ((i : Nat) : Int) ∧ s' 3 = .slice (some ⟨o, 0, none⟩) O.length O.length ∧ s' 4 = .slice (some ⟨q, 0, none⟩) Se.length Se.length ∧ s' 7 = .int .i64 y ∧ Own 3 H' H'' (s' 6) c ∧ H' <+: H'') p.length ?_ ?_
        · have f1 := Way.first hp hi
          have f2 : ∀ z ∈ [(i : Int)], z ∉ Se := fun z hz => by simp at hz; rw [hz]; exact hx
          have f3 : Own 3 H' (H' ++ [AObj.cells [.int .i64 (i : Int)] 3 false]) (.slice (some ⟨H'.length, 0, none⟩) 1 1) [(i : Int)] := .inr ⟨H'.length, rfl, Nat.le_refl _, at_new ..⟩
          refine ⟨[(i : Int)], p.getD i 0, by simp, f1, f2, ?_⟩
          simp only [S, S1, S2, S3, S4, ST, eq_self, ne_eq, not_true_eq_false, not_false_eq_true, and_self, true_and, and_true, reduceIte, reduceCtorEq, Nat.reduceEqDiff, Nat.reduceAdd, Nat.zero_add, Nat.add_zero, Option.map_none, Option.map_some, List.map_cons, List.map_nil, List.append_nil, List.cons_append, List.nil_append, List.getElem?_cons_zero, List.getElem?_cons_succ, List.getD_cons_zero, List.getD_cons_succ, List.getD_nil, Bool.not_true, Bool.not_false, decide_true, decide_false, h0, h5, h3, h4]
          exact ⟨f3, hcp⟩
        · rintro m' s' H'' ⟨c, y, hm', hway, hdis, g0, g5, g3, g4, g7, hown, hpq⟩
          have hyr := hway.yrng hp
          have hcln := hway.len
          have hr3 := hr'.pre hpq
          have e3 : ((y.toNat : Nat) : Int) = y := by omega
          generalize hw : s' 6 = w at *
          simp (maxSteps := 1000000) (disch := omega) only [g0, g5, g3, g4, g7, hw, S, S1, S2, S3, S4, ST, eq_self, ne_eq, not_true_eq_false, not_false_eq_true, and_self, true_and, and_true, reduceIte, reduceCtorEq, Nat.reduceEqDiff, Nat.reduceAdd, Nat.zero_add, Nat.add_zero, Option.map_none, Option.map_some, List.map_cons, List.map_nil, List.append_nil, List.cons_append, List.nil_append, List.getElem?_cons_zero, List.getElem?_cons_succ, List.getD_cons_zero, List.getD_cons_succ, List.getD_nil, Bool.not_true, Bool.not_false, decide_true, decide_false]
          refine brD.intro (fun e => ?_) (fun e => ?_)
          · -- one more
            have hne : y ≠ (i : Int) := e
            have nx := hway.next hp hne
            have nout := hway.out hshut hdis
            obtain ⟨w', H3, k1, k2, k3, k4, k5, k6⟩ := own1_22 hown hpq (by omega) y
            have hr4 := hr'.pre k3
            simp (maxSteps := 1000000) (disch := omega) only [g0, g5, g3, g4, g7, hw, k1, hr4.ix Try.underlying22 cs3, hr4.cell, S, S1, S2, S3, S4, ST, eq_self, ne_eq, not_true_eq_false, not_false_eq_true, and_self, true_and, and_true, reduceIte, reduceCtorEq, Nat.reduceEqDiff, Nat.reduceAdd, Nat.zero_add, Nat.add_zero, Option.map_none, Option.map_some, List.map_cons, List.map_nil, List.append_nil, List.cons_append, List.nil_append, List.getElem?_cons_zero, List.getElem?_cons_succ, List.getD_cons_zero, List.getD_cons_succ, List.getD_nil, Bool.not_true, Bool.not_false, decide_true, decide_false]
            have f0 : m' - 1 + (c ++ [y]).length = p.length + 1 := by have := nx.len; simp at this ⊢; omega
            have f1 : ∀ z ∈ c ++ [y], z ∉ Se := fun z hz => by
              rcases List.mem_append.1 hz with h | h
              · exact hdis z h
              · simp at h; rw [h]; exact nout
            have hm1 : m' - 1 < m' := by have := nx.len; simp at this; omega
            refine ⟨m' - 1, hm1, c ++ [y], p.getD y.toNat 0, f0, nx, f1, ?_⟩
            (repeat' first | exact k2 | exact k3 | apply And.intro) <;> first | (simp only [Value.int.injEq, true_and]; omega) | omega | rfl | assumption | (simp; done) | (simp; omega)
          · -- the cycle is whole
            have ey : y = (i : Int) := Decidable.not_not.1 e
            subst ey
            have hc := hway.done
            have hsh := hway.shut hp hshut
            have hnd2 : (Se ++ c).Nodup := List.nodup_append.2 ⟨hnd, hway.nd, fun a ha b hb e => hdis b hb (e ▸ ha)⟩
            have hq2 := pre_at hpq hq
            have hqlt := at_lt hq
            have hoS : Own 3 H H'' (.slice (some ⟨q, 0, none⟩) Se.length Se.length) Se := .inr ⟨q, rfl, hq0, hq2⟩
            have hcl2 := nodup_len p.length (Se ++ c) hnd2 hsh.1
            obtain ⟨w2, H3, k1, k2, k3, k4, k5⟩ := hoS.app (P := Try.prog) (t := 22) Try.underlying22 cs3 (by rw [by3]; decide) zk3 hown.row (hpp.trans hpq) (by simp at hcl2; omega)
            have hcne : 1 ≤ c.length := hcln.1
            obtain ⟨q2, hw2, hq20, hq2c⟩ : ∃ q2, w2 = .slice (some ⟨q2, 0, none⟩) (Se ++ c).length (Se ++ c).length ∧ H''.length ≤ q2 ∧ H3[q2]? = some (.cells (ints (Se ++ c)) 3 false) := by
              rcases k2 with ⟨_, h⟩ | ⟨q2, e1, e2, e3⟩
              · have := congrArg List.length h
                rw [List.length_append, List.length_nil] at this
                omega
              · refine ⟨q2, e1, ?_, e3⟩
                rcases k5 with h | ⟨h, _⟩
                · rw [e1] at h; exact h
                · rw [h] at e1
                  have := congrArg (fun v => match v with | Value.slice _ n _ => n | _ => 0) e1
                  simp only [List.length_append] at this
                  omega
            subst hw2
            have keepq : ∀ (j : Nat) (x : AObj), j ≠ q → H''[j]? = some x → H3[j]? = some x := fun j x hj hx => k4 j x (.inr hj) hx
            have hin3 := ((hin.pre hpq).moveq haw keepq)
            have hown3 : Own 3 H' H3 w c := hown.keep fun x hx => keepq _ _ (by
              rcases hown with ⟨hn, hc0⟩ | ⟨o2, e1, e2, e3⟩
              · rw [hc0] at hcne; simp at hcne
              · rw [e1]; show o2 ≠ q; omega) hx
            have hl3 : H''.length ≤ H3.length := by have := at_lt hq2c; omega
            have hinw : InI H'.length H''.length 3 H3 w c := by
              rcases hown with ⟨hn, hc0⟩ | ⟨o2, e1, e2, e3⟩
              · rw [hc0] at hcne; simp at hcne
              · rcases hown3 with ⟨hn, _⟩ | ⟨o3, f1, f2, f3⟩
                · rw [e1] at hn; cases hn
                · rw [e1] at f1
                  simp only [Value.slice.injEq, Option.some.injEq, Addr.mk.injEq] at f1
                  have : o2 = o3 := f1.1.1
                  subst this
                  exact .inr ⟨o2, c, e1, e2, at_lt e3, f3, List.take_length ..⟩
            obtain ⟨H4, j1, j2, j3, j4⟩ := hin3.app1 (P := Try.prog) (t2 := 35) Try.underlying35 cs22 (by rw [by22]; decide) zk22 hinw hpp.length_le (by have := hpq.length_le; omega) hl3 (by omega)
            have hbs : buildSliceA Try.prog 35 1 [(0, w)] H3 = some (.slice (some ⟨H3.length, 0, none⟩) 1 1, H3 ++ [.cells [w] 22 false]) := by
              obtain ⟨qq, eq⟩ := hown.row.shape
              rw [eq]
              exact bs1 Try.underlying35 cs22 ze22 ⟨by kernel_rfl, by kernel_rfl⟩ H3 rfl
            simp (maxSteps := 1000000) (disch := omega) only [g0, g5, g3, g4, g7, hw, k1, hbs, j1, wrap64, S, S1, S2, S3, S4, ST, eq_self, ne_eq, not_true_eq_false, not_false_eq_true, and_self, true_and, and_true, reduceIte, reduceCtorEq, Nat.reduceEqDiff, Nat.reduceAdd, Nat.zero_add, Nat.add_zero, Option.map_none, Option.map_some, List.map_cons, List.map_nil, List.append_nil, List.cons_append, List.nil_append, List.getElem?_cons_zero, List.getElem?_cons_succ, List.getD_cons_zero, List.getD_cons_succ, List.getD_nil, Bool.not_true, Bool.not_false, decide_true, decide_false]
            have ho := hin.1
            have ho2 := hin.2.1
            have f1 : H <+: H4 := prefix_of fun j x hx' => j4 j x (by have := at_lt hx'; omega) (pre_at k3 hx')
            have f2 : InU H.length H4.length 22 3 H4 (H3.length + 1) (us.take O.length ++ [w]) (O ++ [cycC p i]) := by
              rw [j3, ← hc]; exact j2
            have f3 : H4[q2]? = some (.cells (ints (Se ++ cycC p i)) 3 false) := by
              rw [← hc]; exact j4 _ _ (by have := hpq.length_le; omega) hq2c
            have f4 : Away q2 (H3.length + 1) (us.take O.length ++ [w]) (O ++ [cycC p i]) := by
              rw [← hc]
              refine ⟨by have := at_lt hq2c; omega, fun j hj => ?_⟩
              obtain ⟨g2, g3, g4, g5, g6, g7⟩ := hin
              simp only [List.length_append, List.length_cons, List.length_nil] at hj
              have hul : (us.take O.length).length = O.length := by simp; omega
              by_cases cj : j < O.length
              · have : (us.take O.length ++ [w]).getD j undef = us.getD j undef := by
                  rw [List.getD_eq_getElem?_getD, List.getD_eq_getElem?_getD, List.getElem?_append_left (by omega), List.getElem?_take, if_pos cj]
                rw [this]
                rcases (g6 j cj).1.at_ with h | h
                · exact .inl h
                · exact .inr (by have := hpq.length_le; omega)
              · obtain rfl : j = O.length := by omega
                have : (us.take O.length ++ [w]).getD O.length undef = w := by
                  rw [List.getD_eq_getElem?_getD, List.getElem?_append_right (by omega), hul]; simp
                rw [this]
                rcases hinw.at_ with h | h
                · exact .inl h
                · exact .inr (by omega)
            rw [hc] at hsh hnd2
            have f5 : (O ++ [cycC p i]).length = O.length + 1 := by simp
            have f6 : H.length ≤ q2 := by have := hpp.length_le; have := hpq.length_le; omega
            rw [hc]
            refine ⟨m - 1, by omega, i + 1, H3.length + 1, q2, us.take O.length ++ [w], by omega, ?_⟩
            rw [hst]
            simp only [f5]
            (repeat' first | exact f4 | exact hsh | exact hnd2 | exact f2 | exact f1 | exact f3 | exact f6 | apply And.intro) <;> first | (simp only [Value.int.injEq, true_and]; omega) | omega | rfl | assumption | (simp; done) | (simp; omega)
    · refine hQ _ _ _ ?_
      simp (maxSteps := 1000000) (disch := omega) only [h3, S, S1, S2, S3, S4, ST, eq_self, ne_eq, not_true_eq_false, not_false_eq_true, and_self, true_and, and_true, reduceIte, reduceCtorEq, Nat.reduceEqDiff, Nat.reduceAdd, Nat.zero_add, Nat.add_zero, Option.map_none, Option.map_some, List.map_cons, List.map_nil, List.append_nil, List.cons_append, List.nil_append, List.getElem?_cons_zero, List.getElem?_cons_succ, List.getD_cons_zero, List.getD_cons_succ, List.getD_nil, Bool.not_true, Bool.not_false, decide_true, decide_false]
      rw [hlast (by omega)]
      exact ⟨hin.inl, hpp⟩
end Go.Proofs.Ytnoihoeaconllaa.Ai
