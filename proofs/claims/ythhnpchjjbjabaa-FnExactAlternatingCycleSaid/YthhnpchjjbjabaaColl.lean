/- slices.Collect, slices.Sorted over slices.Values of short rows of ints, as contracts. -/
import Derived.Test.YthhnpchjjbjabaaSeq
import Derived.Test.YthhnpchjjbjabaaAiM3
import Derived.Test.YthhnpchjjbjabaaSort
import Derived.Test.YthhnpchjjbjabaaProg
import Derived.Test.YthhnpchjjbjabaaAiM2
import Derived.KernelRfl
/- Slim code of this translation. By the kernel. -/
namespace Go.Proofs.Ythhnpchjjbjabaa.Ai
open Go

/- slices.Collect[int] -/
def ords201 : List (Nat × List (Nat × Bool)) := []
def cd201 : Cd := (.seq (.reg [⟨⟨some 2, Op.assign (Operand.const (Value.slice none 0 0)), none⟩, []⟩]) (.seq (.reg [⟨⟨some 3, Op.move (Operand.tmp 0), none⟩, []⟩,
  ⟨⟨some 4, Op.call { callee := (Callee.value (Operand.func 207)), args := #[(Operand.const (Value.slice none 0 0)), (Operand.tmp 3)], argTypes := #[32, 154] }, none⟩, []⟩,
  ⟨⟨some 2, Op.assign (Operand.tmp 4), none⟩, []⟩]) .ret))
theorem sl201 : slim Try.f201.ntmps ords201 (Try.f201.body.getD .skip) = some cd201 := by kernel_rfl
theorem in201 {args : List Value} {H : AH} {R : Value → AH → Prop} (hl : args.length = 1) (h : ∀ (Q : Exit → Sl → AH → Prop), (∀ e s H, endA Try.prog [ResultVar.tmp 2] R e s H → Q e s H) → wpC Try.prog cd201 Q (enterA args) H) : ACalls Try.prog 201 args H R :=
  ACalls.intro (by kernel_rfl) Try.func201 rfl (by kernel_rfl) sl201 hl (of_decide_eq_true (by kernel_rfl)) (by kernel_rfl) h

/- slices.Values[[]int,int] -/
def ords182 : List (Nat × List (Nat × Bool)) := []
def cd182 : Cd := (.seq (.reg [⟨⟨some 1, Op.box 32 (Operand.tmp 0), none⟩, []⟩,
  ⟨⟨some 2, Op.assign (Operand.const Value.nilFunc), none⟩, []⟩]) (.seq (.reg [⟨⟨some 3, Op.makeFunc (Fn.func 202) #[] #[(Operand.tmp 1)], none⟩, []⟩,
  ⟨⟨some 2, Op.assign (Operand.tmp 3), none⟩, []⟩]) .ret))
theorem sl182 : slim Try.f182.ntmps ords182 (Try.f182.body.getD .skip) = some cd182 := by kernel_rfl
theorem in182 {args : List Value} {H : AH} {R : Value → AH → Prop} (hl : args.length = 1) (h : ∀ (Q : Exit → Sl → AH → Prop), (∀ e s H, endA Try.prog [ResultVar.tmp 2] R e s H → Q e s H) → wpC Try.prog cd182 Q (enterA args) H) : ACalls Try.prog 182 args H R :=
  ACalls.intro (by kernel_rfl) Try.func182 rfl (by kernel_rfl) sl182 hl (of_decide_eq_true (by kernel_rfl)) (by kernel_rfl) h

/- slices.Sorted[int] -/
def ords181 : List (Nat × List (Nat × Bool)) := []
def cd181 : Cd := (.seq (.reg [⟨⟨some 2, Op.assign (Operand.const (Value.slice none 0 0)), none⟩, []⟩]) (.seq (.reg [⟨⟨some 4, Op.move (Operand.tmp 0), none⟩, []⟩,
  ⟨⟨some 5, Op.call { callee := (Callee.value (Operand.func 201)), args := #[(Operand.tmp 4)], argTypes := #[154] }, none⟩, []⟩,
  ⟨⟨some 3, Op.assign (Operand.tmp 5), none⟩, []⟩]) (.seq (.reg [⟨⟨some 6, Op.move (Operand.tmp 3), none⟩, []⟩,
  ⟨⟨some 7, Op.call { callee := (Callee.value (Operand.func 153)), args := #[(Operand.tmp 6)], argTypes := #[32] }, none⟩, []⟩]) (.seq (.reg [⟨⟨some 8, Op.move (Operand.tmp 3), none⟩, []⟩,
  ⟨⟨some 2, Op.assign (Operand.tmp 8), none⟩, []⟩]) .ret))))
theorem sl181 : slim Try.f181.ntmps ords181 (Try.f181.body.getD .skip) = some cd181 := by kernel_rfl
theorem in181 {args : List Value} {H : AH} {R : Value → AH → Prop} (hl : args.length = 1) (h : ∀ (Q : Exit → Sl → AH → Prop), (∀ e s H, endA Try.prog [ResultVar.tmp 2] R e s H → Q e s H) → wpC Try.prog cd181 Q (enterA args) H) : ACalls Try.prog 181 args H R :=
  ACalls.intro (by kernel_rfl) Try.func181 rfl (by kernel_rfl) sl181 hl (of_decide_eq_true (by kernel_rfl)) (by kernel_rfl) h
end Go.Proofs.Ythhnpchjjbjabaa.Ai

namespace Go.Proofs.Ythhnpchjjbjabaa.Ai
open Go Go.RowKit
set_option linter.unusedVariables false
set_option linter.unusedSimpArgs false

theorem AppendSeq_c (o k : Nat) (v : Value) (xs : List Int) (H : AH) (ho : cellA H o k = some v) (hr : Row 3 H v xs) (hlen : xs.length ≤ 1099511627776) :
    ACalls Try.prog 207 [.slice none 0 0, .func (.func 202) #[] (List.toArray [.pointer (some ⟨o, k, none⟩)])] H fun r H' => Own 3 H H' r xs ∧ H <+: H' := by
  refine ⟨⟨_, Try.func207, rfl, by kernel_rfl⟩, ?_⟩
  intro μ w cargs hH hall
  -- what the arguments are in memory
  obtain ⟨c0, c1, e0⟩ : ∃ c0 c1, cargs = #[c0, c1] := by
    match hcs : cargs.toList, hall with
    | [c0, c1], _ => exact ⟨c0, c1, by rw [← Array.toArray_toList (xs := cargs), hcs]⟩
  subst e0
  obtain ⟨h0, h1, _⟩ := hall
  obtain ⟨_, _, e0⟩ := h0
  subst e0
  obtain ⟨es0, ds, e1, hes0, hds⟩ := h1
  have ees : es0 = #[] := by
    match hcs : es0.toList, hes0 with
    | [], _ => rw [← Array.toArray_toList (xs := es0), hcs]
  subst ees
  subst e1
  obtain ⟨d, ed⟩ : ∃ d, ds = #[d] := by
    match hcs : ds.toList, hds with
    | [d], _ => exact ⟨d, by rw [← Array.toArray_toList (xs := ds), hcs]⟩
  subst ed
  obtain ⟨⟨_, L, hL, e2⟩, _⟩ := hds
  subst e2
  -- the box and what it holds
  unfold cellA at ho
  split at ho
  case h_2 => cases ho
  rename_i vs t ro hobj
  obtain ⟨f1, f2, f3, f4, f5, f6⟩ := hH.cells_ o vs t ro L hobj hL
  obtain ⟨cv, g1, g2⟩ := f5 k v ho
  have hI : SlInts w.heap.size w cv xs := by
    rcases hr with ⟨rfl, rfl⟩ | ⟨o', k', us, ro', rfl, hu, hk, he⟩
    · obtain ⟨_, _, e⟩ := g2
      exact .inl ⟨_, _, e, rfl⟩
    · obtain ⟨_, _, a, m, e, hm, hor⟩ := g2
      by_cases hz : xs.length = 0
      · have : xs = [] := List.eq_nil_of_length_eq_zero hz
        subst this
        exact .inl ⟨_, _, e, rfl⟩
      · rcases hor with hor | ⟨L', hL', ea, hx⟩
        · omega
        · subst ea
          obtain ⟨q1, q2, q3, q4, q5, q6⟩ := hH.cells_ o' us _ ro' L' hu hL'
          refine .inr ⟨L'.blk, L'.base + k', m, e, q1, ?_⟩
          intro j hj
          have hat : us[k' + j]? = some (.int .i64 (xs.getD j 0)) := by
            have := congrArg (·[j]?) he
            simp only [List.getElem?_take, List.getElem?_drop, if_pos hj] at this
            rw [this, ints_at xs hj]
          obtain ⟨cv2, p1, p2⟩ := q5 _ _ hat
          have : cv2 = .int .i64 (xs.getD j 0) := p2
          rw [Nat.add_assoc, p1, this, List.getD_eq_getElem?_getD]
  refine (appendSeq_calls L.blk (L.base + k) cv xs hlen w f1 g1 hI).mono ?_
  rintro e w' ⟨v', rfl, hrow, hnil, hb⟩
  rcases hrow with ⟨_, ⟨hv, hz⟩ | ⟨g, cap, cur, hv, hg, hcell, hn, hcap, hsz, hcur⟩⟩
  · have : xs = [] := List.eq_nil_of_length_eq_zero hz
    subst this
    exact ⟨μ, .slice none 0 0, H, v', rfl, by rw [hv]; exact ⟨rfl, rfl, rfl⟩, hH.below hb, Evo.below' hH hb, .inl ⟨rfl, rfl⟩, List.prefix_refl _⟩
  · have hc1 : Try.prog.cellsOf 3 = 1 := cs3
    have hcs : ∀ (i : Nat) (x : Value), (ints xs)[i]? = some x → ∃ cv, cur[i]? = some cv ∧ CRel μ x cv := by
      intro i x hx
      have hi : i < xs.length := by have := (List.getElem?_eq_some_iff.1 hx).1; rwa [ints_len] at this
      have := congrArg (·[i]?) hcur
      simp only [Nat.mul_one, List.getElem?_take, if_pos hi, Array.getElem?_toList] at this
      have e : (xs.map (Value.int .i64))[i]? = (ints xs)[i]? := rfl
      rw [e, hx] at this
      refine ⟨x, this, ?_⟩
      rw [ints_at xs hi] at hx
      cases hx
      rfl
    have ad := hH.adopt hb (vs := ints xs) (ext := cap) hg hcell (by rw [hc1]; decide) (by rw [ints_len]; exact hn) (by omega) hcs
    refine ⟨_, .slice (some ⟨H.length, 0, none⟩) xs.length xs.length, _, v', rfl, ?_, ad.1, ad.2, .inr ⟨H.length, rfl, Nat.le_refl _, at_new ..⟩, List.prefix_append _ _⟩
    rw [hv]
    exact ⟨rfl, rfl, _, cap, rfl, hn, .inr ⟨_, Mu.put_same _ _ _, rfl, by rw [hc1]; simp⟩⟩

theorem Collect_c (o k : Nat) (v : Value) (xs : List Int) (H : AH) (ho : cellA H o k = some v) (hr : Row 3 H v xs) (hlen : xs.length ≤ 1099511627776) :
    ACalls Try.prog 201 [.func (.func 202) #[] (List.toArray [.pointer (some ⟨o, k, none⟩)])] H fun r H' => Own 3 H H' r xs ∧ H <+: H' := by
  refine in201 rfl ?_
  intro Q hQ
  simp (maxSteps := 1000000) (disch := omega) only [cd201, S, S1, S2, S3, S4, S5, ST, eq_self, reduceIte, reduceCtorEq, Nat.reduceEqDiff, Nat.reduceAdd]
  refine CallH.by (AppendSeq_c o k v xs H ho hr hlen) ?_
  rintro r H1 ⟨hown, hp⟩
  simp (maxSteps := 1000000) (disch := omega) only [hown.row.tup, S, S1, S2, S3, S4, S5, ST, eq_self, reduceIte, reduceCtorEq, Nat.reduceEqDiff, Nat.reduceAdd]
  refine hQ _ _ _ ?_
  simp (maxSteps := 1000000) (disch := omega) only [hown.row.tup, S, S1, S2, S3, S4, S5, ST, eq_self, reduceIte, reduceCtorEq, Nat.reduceEqDiff, Nat.reduceAdd]
  exact ⟨hown, hp⟩

theorem Values_c (v : Value) (xs : List Int) (H : AH) (hr : Row 3 H v xs) :
    ACalls Try.prog 182 [v] H fun r H' => r = .func (.func 202) #[] (List.toArray [.pointer (some ⟨H.length, 0, none⟩)]) ∧ H' = H ++ [.cells [v] 32 false] := by
  refine in182 rfl ?_
  intro Q hQ
  obtain ⟨p, e⟩ := hr.shape
  have hb : boxA Try.prog 32 v H = some (.pointer (some ⟨H.length, 0, none⟩), H ++ [.cells [v] 32 false]) := by
    subst e
    simp only [boxA, cs32]
    rfl
  have hm : ∀ p : Addr, makeFuncA (.func 202) [] [.pointer (some p)] = some (.func (.func 202) #[] (List.toArray [.pointer (some p)])) := fun _ => rfl
  have ht : ∀ f fs cs, isTup (.func f fs cs) = false := fun _ _ _ => rfl
  simp (maxSteps := 1000000) (disch := omega) only [cd182, hb, hm, ht, S, S1, S2, S3, S4, S5, ST, eq_self, reduceIte, reduceCtorEq, Nat.reduceEqDiff, Nat.reduceAdd]
  refine hQ _ _ _ ?_
  simp (maxSteps := 1000000) (disch := omega) only [ht, S, S1, S2, S3, S4, S5, ST, eq_self, reduceIte, reduceCtorEq, Nat.reduceEqDiff, Nat.reduceAdd]

/-- the sorted list of what a slice shows -/
theorem SortedV_c (o : Nat) (v : Value) (xs : List Int) (H : AH) (ho : cellA H o 0 = some v) (hr : Row 3 H v xs) (hlen : xs.length ≤ 12) :
    ACalls Try.prog 181 [.func (.func 202) #[] (List.toArray [.pointer (some ⟨o, 0, none⟩)])] H fun r H' => ∃ ys, Own 3 H H' r ys ∧ ys.Perm xs ∧ Asc ys ∧ H <+: H' := by
  refine in181 rfl ?_
  intro Q hQ
  simp (maxSteps := 1000000) (disch := omega) only [cd181, S, S1, S2, S3, S4, S5, ST, eq_self, reduceIte, reduceCtorEq, Nat.reduceEqDiff, Nat.reduceAdd]
  refine CallH.by (Collect_c o 0 v xs H ho hr (by omega)) ?_
  rintro u H1 ⟨hown, hp⟩
  simp (maxSteps := 1000000) (disch := omega) only [S, S1, S2, S3, S4, S5, ST, eq_self, reduceIte, reduceCtorEq, Nat.reduceEqDiff, Nat.reduceAdd]
  refine CallH.by (Sort_c u xs H H1 hown hlen) ?_
  rintro _ H2 ⟨ys, hown2, hperm, hasc, hel⟩
  simp (maxSteps := 1000000) (disch := omega) only [hown2.row.tup, S, S1, S2, S3, S4, S5, ST, eq_self, reduceIte, reduceCtorEq, Nat.reduceEqDiff, Nat.reduceAdd]
  refine hQ _ _ _ ?_
  simp (maxSteps := 1000000) (disch := omega) only [hown2.row.tup, S, S1, S2, S3, S4, S5, ST, eq_self, reduceIte, reduceCtorEq, Nat.reduceEqDiff, Nat.reduceAdd]
  exact ⟨ys, hown2, hperm, hasc, hown.else_pre hp hel⟩
end Go.Proofs.Ythhnpchjjbjabaa.Ai
