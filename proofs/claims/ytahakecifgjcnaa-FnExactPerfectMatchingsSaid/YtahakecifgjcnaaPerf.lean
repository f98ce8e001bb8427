/- PerfectMatchings, both sides. -/
import Derived.Test.YtahakecifgjcnaaOfSz
import Derived.Test.YtahakecifgjcnaaMatN
import Derived.Test.YtahakecifgjcnaaExt
import Derived.Test.YtahakecifgjcnaaProg
import Derived.Test.YtahakecifgjcnaaAiM2
import Derived.KernelRfl
/- Slim code of this translation. By the kernel. -/
namespace Go.Proofs.Ytahakecifgjcnaa.Ai
open Go

/- (loop.example/g01128/impl.Graph).perfect -/
def ords97 : List (Nat × List (Nat × Bool)) := []
def cd97 : Cd := (.seq (.reg [⟨⟨some 1, Op.box 41 (Operand.tmp 0), none⟩, []⟩,
  ⟨⟨some 2, Op.assign (Operand.const (Value.slice none 0 0)), none⟩, []⟩]) (.seq (.seq (.reg [⟨⟨some 3, Op.fieldAddr 41 (Operand.tmp 1) 0, none⟩, []⟩,
  ⟨⟨some 4, Op.load 3 (Operand.tmp 3), none⟩, []⟩,
  ⟨⟨some 5, Op.binOp BinOp.rem 3 (Operand.tmp 4) (Operand.const (Value.int IntKind.i64 2)) 3, none⟩, []⟩,
  ⟨⟨some 6, Op.binOp BinOp.eql 3 (Operand.tmp 5) (Operand.const (Value.int IntKind.i64 1)) 3, none⟩, []⟩]) (.cond (Operand.tmp 6) (.seq (.reg [⟨⟨some 7, Op.buildSlice 47 0 #[], none⟩, []⟩,
  ⟨⟨some 2, Op.assign (Operand.tmp 7), none⟩, []⟩]) .ret) .skip)) (.seq (.reg [⟨⟨some 8, Op.load 41 (Operand.tmp 1), none⟩, []⟩,
  ⟨⟨some 9, Op.fieldAddr 41 (Operand.tmp 1) 0, none⟩, []⟩,
  ⟨⟨some 10, Op.load 3 (Operand.tmp 9), none⟩, []⟩,
  ⟨⟨some 11, Op.binOp BinOp.quo 3 (Operand.tmp 10) (Operand.const (Value.int IntKind.i64 2)) 3, none⟩, []⟩,
  ⟨⟨some 12, Op.call { callee := (Callee.value (Operand.func 147)), args := #[(Operand.tmp 8), (Operand.tmp 11)], argTypes := #[41, 3] }, none⟩, []⟩,
  ⟨⟨some 2, Op.assign (Operand.tmp 12), none⟩, []⟩]) .ret)))
theorem sl97 : slim Try.f97.ntmps ords97 (Try.f97.body.getD .skip) = some cd97 := by kernel_rfl
theorem in97 {args : List Value} {H : AH} {R : Value → AH → Prop} (hl : args.length = 1) (h : ∀ (Q : Exit → Sl → AH → Prop), (∀ e s H, endA Try.prog [ResultVar.tmp 2] R e s H → Q e s H) → wpC Try.prog cd97 Q (enterA args) H) : ACalls Try.prog 97 args H R :=
  ACalls.intro (by kernel_rfl) Try.func97 rfl (by kernel_rfl) sl97 hl (of_decide_eq_true (by kernel_rfl)) (by kernel_rfl) h

/- loop.example/g01128/spec.l8Perfect -/
def ords96 : List (Nat × List (Nat × Bool)) := []
def cd96 : Cd := (.seq (.reg [⟨⟨some 1, Op.box 41 (Operand.tmp 0), none⟩, []⟩,
  ⟨⟨some 2, Op.assign (Operand.const (Value.slice none 0 0)), none⟩, []⟩]) (.seq (.seq (.reg [⟨⟨some 3, Op.fieldAddr 41 (Operand.tmp 1) 0, none⟩, []⟩,
  ⟨⟨some 4, Op.load 3 (Operand.tmp 3), none⟩, []⟩,
  ⟨⟨some 5, Op.binOp BinOp.rem 3 (Operand.tmp 4) (Operand.const (Value.int IntKind.i64 2)) 3, none⟩, []⟩,
  ⟨⟨some 6, Op.binOp BinOp.neq 3 (Operand.tmp 5) (Operand.const (Value.int IntKind.i64 0)) 3, none⟩, []⟩]) (.cond (Operand.tmp 6) (.seq (.reg [⟨⟨some 7, Op.buildSlice 47 0 #[], none⟩, []⟩,
  ⟨⟨some 2, Op.assign (Operand.tmp 7), none⟩, []⟩]) .ret) .skip)) (.seq (.reg [⟨⟨some 8, Op.load 41 (Operand.tmp 1), none⟩, []⟩,
  ⟨⟨some 9, Op.buildSlice 22 0 #[], none⟩, []⟩,
  ⟨⟨some 10, Op.fieldAddr 41 (Operand.tmp 1) 0, none⟩, []⟩,
  ⟨⟨some 11, Op.load 3 (Operand.tmp 10), none⟩, []⟩,
  ⟨⟨some 12, Op.binOp BinOp.quo 3 (Operand.tmp 11) (Operand.const (Value.int IntKind.i64 2)) 3, none⟩, []⟩,
  ⟨⟨some 13, Op.call { callee := (Callee.value (Operand.func 93)), args := #[(Operand.tmp 8), (Operand.tmp 9), (Operand.tmp 12)], argTypes := #[41, 22, 3] }, none⟩, []⟩,
  ⟨⟨some 2, Op.assign (Operand.tmp 13), none⟩, []⟩]) .ret)))
theorem sl96 : slim Try.f96.ntmps ords96 (Try.f96.body.getD .skip) = some cd96 := by kernel_rfl
theorem in96 {args : List Value} {H : AH} {R : Value → AH → Prop} (hl : args.length = 1) (h : ∀ (Q : Exit → Sl → AH → Prop), (∀ e s H, endA Try.prog [ResultVar.tmp 2] R e s H → Q e s H) → wpC Try.prog cd96 Q (enterA args) H) : ACalls Try.prog 96 args H R :=
  ACalls.intro (by kernel_rfl) Try.func96 rfl (by kernel_rfl) sl96 hl (of_decide_eq_true (by kernel_rfl)) (by kernel_rfl) h

/- loop.example/g01128/impl.PerfectMatchings -/
def ords45 : List (Nat × List (Nat × Bool)) := []
def cd45 : Cd := (.seq (.reg [⟨⟨some 1, Op.box 41 (Operand.tmp 0), none⟩, []⟩,
  ⟨⟨some 2, Op.assign (Operand.const (Value.slice none 0 0)), none⟩, []⟩,
  ⟨⟨some 3, Op.assign (Operand.const (Value.bool false)), none⟩, []⟩]) (.seq (.seq (.reg [⟨⟨some 4, Op.load 41 (Operand.tmp 1), none⟩, []⟩,
  ⟨⟨some 5, Op.call { callee := (Callee.value (Operand.func 80)), args := #[(Operand.tmp 4)], argTypes := #[41] }, none⟩, []⟩,
  ⟨⟨some 6, Op.unOp UnOp.not 4 (Operand.tmp 5), none⟩, []⟩]) (.cond (Operand.tmp 6) (.seq (.reg [⟨⟨some 2, Op.assign (Operand.const (Value.slice none 0 0)), none⟩, []⟩,
  ⟨⟨some 3, Op.assign (Operand.const (Value.bool false)), none⟩, []⟩]) .ret) .skip)) (.seq (.reg [⟨⟨some 7, Op.load 41 (Operand.tmp 1), none⟩, []⟩,
  ⟨⟨some 8, Op.call { callee := (Callee.value (Operand.func 97)), args := #[(Operand.tmp 7)], argTypes := #[41] }, none⟩, []⟩,
  ⟨⟨some 2, Op.assign (Operand.tmp 8), none⟩, []⟩,
  ⟨⟨some 3, Op.assign (Operand.const (Value.bool true)), none⟩, []⟩]) .ret)))
theorem sl45 : slim Try.f45.ntmps ords45 (Try.f45.body.getD .skip) = some cd45 := by kernel_rfl
theorem in45 {args : List Value} {H : AH} {R : Value → AH → Prop} (hl : args.length = 1) (h : ∀ (Q : Exit → Sl → AH → Prop), (∀ e s H, endA Try.prog [ResultVar.tmp 2, ResultVar.tmp 3] R e s H → Q e s H) → wpC Try.prog cd45 Q (enterA args) H) : ACalls Try.prog 45 args H R :=
  ACalls.intro (by kernel_rfl) Try.func45 rfl (by kernel_rfl) sl45 hl (of_decide_eq_true (by kernel_rfl)) (by kernel_rfl) h

/- loop.example/g01128/spec.PerfectMatchings -/
def ords44 : List (Nat × List (Nat × Bool)) := []
def cd44 : Cd := (.seq (.reg [⟨⟨some 1, Op.box 41 (Operand.tmp 0), none⟩, []⟩,
  ⟨⟨some 2, Op.assign (Operand.const (Value.slice none 0 0)), none⟩, []⟩,
  ⟨⟨some 3, Op.assign (Operand.const (Value.bool false)), none⟩, []⟩]) (.seq (.seq (.reg [⟨⟨some 4, Op.load 41 (Operand.tmp 1), none⟩, []⟩,
  ⟨⟨some 5, Op.call { callee := (Callee.value (Operand.func 78)), args := #[(Operand.tmp 4)], argTypes := #[41] }, none⟩, []⟩,
  ⟨⟨some 6, Op.unOp UnOp.not 4 (Operand.tmp 5), none⟩, []⟩]) (.cond (Operand.tmp 6) (.seq (.reg [⟨⟨some 7, Op.buildSlice 47 0 #[], none⟩, []⟩,
  ⟨⟨some 2, Op.assign (Operand.tmp 7), none⟩, []⟩,
  ⟨⟨some 3, Op.assign (Operand.const (Value.bool false)), none⟩, []⟩]) .ret) .skip)) (.seq (.reg [⟨⟨some 8, Op.load 41 (Operand.tmp 1), none⟩, []⟩,
  ⟨⟨some 9, Op.call { callee := (Callee.value (Operand.func 96)), args := #[(Operand.tmp 8)], argTypes := #[41] }, none⟩, []⟩,
  ⟨⟨some 2, Op.assign (Operand.tmp 9), none⟩, []⟩,
  ⟨⟨some 3, Op.assign (Operand.const (Value.bool true)), none⟩, []⟩]) .ret)))
theorem sl44 : slim Try.f44.ntmps ords44 (Try.f44.body.getD .skip) = some cd44 := by kernel_rfl
theorem in44 {args : List Value} {H : AH} {R : Value → AH → Prop} (hl : args.length = 1) (h : ∀ (Q : Exit → Sl → AH → Prop), (∀ e s H, endA Try.prog [ResultVar.tmp 2, ResultVar.tmp 3] R e s H → Q e s H) → wpC Try.prog cd44 Q (enterA args) H) : ACalls Try.prog 44 args H R :=
  ACalls.intro (by kernel_rfl) Try.func44 rfl (by kernel_rfl) sl44 hl (of_decide_eq_true (by kernel_rfl)) (by kernel_rfl) h
end Go.Proofs.Ytahakecifgjcnaa.Ai

namespace Go.Proofs.Ytahakecifgjcnaa.Ai
open Go Go.RowKit
set_option linter.unusedVariables false
set_option linter.unusedSimpArgs false

/-- all perfect matchings -/
def perfL (n : Int) (es : List (Int × Int)) : List (List Int) := if n.toNat % 2 = 1 then [] else mext es es.length [] (n.toNat / 2)
theorem perfL_len {n : Int} {es : List (Int × Int)} (hg : Grd n es) : (perfL n es).length ≤ 105 := by
  unfold perfL
  split
  · simp
  · exact perfect_le hg (by omega)
def perfR (n : Int) (es : List (Int × Int)) : List (List Int) := if Grd n es then perfL n es else []
theorem mext_len {n : Int} {es : List (Int × Int)} {j : Nat} {x : List Int} (h : x ∈ mext es es.length [] j) : x.length = j := by
  unfold mext at h
  exact of_decide_eq_true (List.mem_filter.1 h).2
theorem sizeL_max (m : Nat) : ∀ (ls : List (List Int)), (∀ l ∈ ls, l.length ≤ m) → sizeL ls ≤ ls.length * m
  | [], _ => by simp [sizeL]
  | l :: ls, h => by
    have := sizeL_max m ls (fun x hx => h x (by simp [hx]))
    have := h l (by simp)
    simp only [sizeL, List.map_cons, List.sum_cons, List.length_cons, Nat.add_mul, Nat.one_mul] at *
    omega
theorem perfR_ok (n : Int) (es : List (Int × Int)) : (perfR n es).length ≤ 1099511627776 ∧ sizeL (perfR n es) ≤ 1099511627776 := by
  unfold perfR
  split
  · rename_i hg
    have h1 := perfL_len hg
    have h2 : ∀ l ∈ perfL n es, l.length ≤ 4 := by
      intro l hl
      unfold perfL at hl
      split at hl
      · simp at hl
      · have := mext_len (n := n) hl
        have := hg.1
        omega
    have h3 := sizeL_max 4 _ h2
    omega
  · exact ⟨by simp, by simp [sizeL]⟩

set_option maxRecDepth 20000 in
theorem perfect_c (n : Int) (v : Value) (es : List (Int × Int)) (H : AH) (hr : RowP 66 H v es) (hlen : es.length ≤ 1048576) (hg : Grd n es) :
    ACalls Try.prog 97 [.agg (List.toArray [.int .i64 n, v])] H fun r H' => InL H.length H'.length 22 3 H' r (perfL n es) ∧ H <+: H' := by
  refine in97 rfl ?_
  intro Q hQ
  have hnn := hg.1
  have hmod : n.tmod 2 = ((n.toNat % 2 : Nat) : Int) := by rw [Int.tmod_eq_emod_of_nonneg hnn.1]; omega
  have hq : IntKind.i64.wrap (n.tdiv 2) = ((n.toNat / 2 : Nat) : Int) := by
    rw [Int.tdiv_eq_ediv_of_nonneg hnn.1, wrap64 (by omega) (by omega)]
    omega
  have hpl := perfL_len hg
  simp (maxSteps := 1000000) (disch := omega) only [cd97, hr.boxG, S, S1, S2, S3, S4, ST, eq_self, ne_eq, not_true_eq_false, not_false_eq_true, and_self, true_and, and_true, reduceIte, reduceCtorEq, Nat.reduceEqDiff, Nat.reduceAdd, Nat.zero_add, Nat.add_zero, Option.map_none, Option.map_some, List.map_cons, List.map_nil, List.append_nil, List.cons_append, List.nil_append, List.getElem?_cons_zero, List.getElem?_cons_succ, List.getD_cons_zero, List.getD_cons_succ, List.getD_nil, Bool.not_true, Bool.not_false, decide_true, decide_false]
  generalize hA : H ++ [AObj.cells [.int .i64 n, v] 41 false] = A
  have pA : H <+: A := by rw [← hA]; exact List.prefix_append _ _
  have cA : A[H.length]? = some (.cells [.int .i64 n, v] 41 false) := by rw [← hA]; exact at_new ..
  have rA := hr.pre pA
  simp (maxSteps := 1000000) (disch := omega) only [cell_of cA, hmod, S, S1, S2, S3, S4, ST, eq_self, ne_eq, not_true_eq_false, not_false_eq_true, and_self, true_and, and_true, reduceIte, reduceCtorEq, Nat.reduceEqDiff, Nat.reduceAdd, Nat.zero_add, Nat.add_zero, Option.map_none, Option.map_some, List.map_cons, List.map_nil, List.append_nil, List.cons_append, List.nil_append, List.getElem?_cons_zero, List.getElem?_cons_succ, List.getD_cons_zero, List.getD_cons_succ, List.getD_nil, Bool.not_true, Bool.not_false, decide_true, decide_false]
  refine brD.intro (fun e => ?_) (fun e => ?_)
  · simp (maxSteps := 1000000) (disch := omega) only [S, S1, S2, S3, S4, ST, eq_self, ne_eq, not_true_eq_false, not_false_eq_true, and_self, true_and, and_true, reduceIte, reduceCtorEq, Nat.reduceEqDiff, Nat.reduceAdd, Nat.zero_add, Nat.add_zero, Option.map_none, Option.map_some, List.map_cons, List.map_nil, List.append_nil, List.cons_append, List.nil_append, List.getElem?_cons_zero, List.getElem?_cons_succ, List.getD_cons_zero, List.getD_cons_succ, List.getD_nil, Bool.not_true, Bool.not_false, decide_true, decide_false]
    refine hQ _ _ _ ?_
    simp (maxSteps := 1000000) (disch := omega) only [S, S1, S2, S3, S4, ST, eq_self, ne_eq, not_true_eq_false, not_false_eq_true, and_self, true_and, and_true, reduceIte, reduceCtorEq, Nat.reduceEqDiff, Nat.reduceAdd, Nat.zero_add, Nat.add_zero, Option.map_none, Option.map_some, List.map_cons, List.map_nil, List.append_nil, List.cons_append, List.nil_append, List.getElem?_cons_zero, List.getElem?_cons_succ, List.getD_cons_zero, List.getD_cons_succ, List.getD_nil, Bool.not_true, Bool.not_false, decide_true, decide_false]
    have : perfL n es = [] := by unfold perfL; rw [if_pos (by omega)]
    rw [this]
    have u0 := InU.new H.length 22 3 A pA.length_le
    refine ⟨?_, pre_app pA _⟩
    have := u0.inl
    simpa using this
  · have hP : perfL n es = mext es es.length [] (n.toNat / 2) := by unfold perfL; rw [if_neg (by omega)]
    simp (maxSteps := 1000000) (disch := omega) only [cell_of cA, ld_agg ag41 cs41 cA, hq, S, S1, S2, S3, S4, ST, eq_self, ne_eq, not_true_eq_false, not_false_eq_true, and_self, true_and, and_true, reduceIte, reduceCtorEq, Nat.reduceEqDiff, Nat.reduceAdd, Nat.zero_add, Nat.add_zero, Option.map_none, Option.map_some, List.map_cons, List.map_nil, List.append_nil, List.cons_append, List.nil_append, List.getElem?_cons_zero, List.getElem?_cons_succ, List.getD_cons_zero, List.getD_cons_succ, List.getD_nil, Bool.not_true, Bool.not_false, decide_true, decide_false]
    refine CallH.by (ofSize_c n v es (n.toNat / 2) A rA hlen hg (by omega)) ?_
    rintro g B ⟨hL, pB⟩
    rw [← hP, List.take_of_length_le (by omega)] at hL
    have ht : isTup g = false := by
      obtain ⟨us, r1, _⟩ := hL.parts
      exact r1.tup
    simp (maxSteps := 1000000) (disch := omega) only [S, S1, S2, S3, S4, ST, eq_self, ne_eq, not_true_eq_false, not_false_eq_true, and_self, true_and, and_true, reduceIte, reduceCtorEq, Nat.reduceEqDiff, Nat.reduceAdd, Nat.zero_add, Nat.add_zero, Option.map_none, Option.map_some, List.map_cons, List.map_nil, List.append_nil, List.cons_append, List.nil_append, List.getElem?_cons_zero, List.getElem?_cons_succ, List.getD_cons_zero, List.getD_cons_succ, List.getD_nil, Bool.not_true, Bool.not_false, decide_true, decide_false]
    refine hQ _ _ _ ?_
    simp (maxSteps := 1000000) (disch := omega) only [ht, S, S1, S2, S3, S4, ST, eq_self, ne_eq, not_true_eq_false, not_false_eq_true, and_self, true_and, and_true, reduceIte, reduceCtorEq, Nat.reduceEqDiff, Nat.reduceAdd, Nat.zero_add, Nat.add_zero, Option.map_none, Option.map_some, List.map_cons, List.map_nil, List.append_nil, List.cons_append, List.nil_append, List.getElem?_cons_zero, List.getElem?_cons_succ, List.getD_cons_zero, List.getD_cons_succ, List.getD_nil, Bool.not_true, Bool.not_false, decide_true, decide_false]
    exact ⟨hL.wide pA.length_le (Nat.le_refl _), pA.trans pB⟩

set_option maxRecDepth 20000 in
theorem l8Perfect_c (n : Int) (v : Value) (es : List (Int × Int)) (H : AH) (hr : RowP 66 H v es) (hg : Grd n es) :
    ACalls Try.prog 96 [.agg (List.toArray [.int .i64 n, v])] H fun r H' => InL H.length H'.length 22 3 H' r (perfL n es) ∧ H <+: H' := by
  refine in96 rfl ?_
  intro Q hQ
  have hnn := hg.1
  have hmod : n.tmod 2 = ((n.toNat % 2 : Nat) : Int) := by rw [Int.tmod_eq_emod_of_nonneg hnn.1]; omega
  have hq : IntKind.i64.wrap (n.tdiv 2) = ((n.toNat / 2 : Nat) : Int) := by
    rw [Int.tdiv_eq_ediv_of_nonneg hnn.1, wrap64 (by omega) (by omega)]
    omega
  simp (maxSteps := 1000000) (disch := omega) only [cd96, hr.boxG, S, S1, S2, S3, S4, ST, eq_self, ne_eq, not_true_eq_false, not_false_eq_true, and_self, true_and, and_true, reduceIte, reduceCtorEq, Nat.reduceEqDiff, Nat.reduceAdd, Nat.zero_add, Nat.add_zero, Option.map_none, Option.map_some, List.map_cons, List.map_nil, List.append_nil, List.cons_append, List.nil_append, List.getElem?_cons_zero, List.getElem?_cons_succ, List.getD_cons_zero, List.getD_cons_succ, List.getD_nil, Bool.not_true, Bool.not_false, decide_true, decide_false]
  generalize hA : H ++ [AObj.cells [.int .i64 n, v] 41 false] = A
  have pA : H <+: A := by rw [← hA]; exact List.prefix_append _ _
  have cA : A[H.length]? = some (.cells [.int .i64 n, v] 41 false) := by rw [← hA]; exact at_new ..
  have rA := hr.pre pA
  simp (maxSteps := 1000000) (disch := omega) only [cell_of cA, hmod, S, S1, S2, S3, S4, ST, eq_self, ne_eq, not_true_eq_false, not_false_eq_true, and_self, true_and, and_true, reduceIte, reduceCtorEq, Nat.reduceEqDiff, Nat.reduceAdd, Nat.zero_add, Nat.add_zero, Option.map_none, Option.map_some, List.map_cons, List.map_nil, List.append_nil, List.cons_append, List.nil_append, List.getElem?_cons_zero, List.getElem?_cons_succ, List.getD_cons_zero, List.getD_cons_succ, List.getD_nil, Bool.not_true, Bool.not_false, decide_true, decide_false]
  refine brD.intro (fun e => ?_) (fun e => ?_)
  · simp (maxSteps := 1000000) (disch := omega) only [S, S1, S2, S3, S4, ST, eq_self, ne_eq, not_true_eq_false, not_false_eq_true, and_self, true_and, and_true, reduceIte, reduceCtorEq, Nat.reduceEqDiff, Nat.reduceAdd, Nat.zero_add, Nat.add_zero, Option.map_none, Option.map_some, List.map_cons, List.map_nil, List.append_nil, List.cons_append, List.nil_append, List.getElem?_cons_zero, List.getElem?_cons_succ, List.getD_cons_zero, List.getD_cons_succ, List.getD_nil, Bool.not_true, Bool.not_false, decide_true, decide_false]
    refine hQ _ _ _ ?_
    simp (maxSteps := 1000000) (disch := omega) only [S, S1, S2, S3, S4, ST, eq_self, ne_eq, not_true_eq_false, not_false_eq_true, and_self, true_and, and_true, reduceIte, reduceCtorEq, Nat.reduceEqDiff, Nat.reduceAdd, Nat.zero_add, Nat.add_zero, Option.map_none, Option.map_some, List.map_cons, List.map_nil, List.append_nil, List.cons_append, List.nil_append, List.getElem?_cons_zero, List.getElem?_cons_succ, List.getD_cons_zero, List.getD_cons_succ, List.getD_nil, Bool.not_true, Bool.not_false, decide_true, decide_false]
    have : perfL n es = [] := by unfold perfL; rw [if_pos (by omega)]
    rw [this]
    have u0 := InU.new H.length 22 3 A pA.length_le
    refine ⟨?_, pre_app pA _⟩
    have := u0.inl
    simpa using this
  · have hP : perfL n es = mext es es.length [] (n.toNat / 2) := by unfold perfL; rw [if_neg (by omega)]
    have cA2 := at_app cA [AObj.cells [] 3 false]
    simp (maxSteps := 1000000) (disch := omega) only [cell_of cA, cell_of cA2, ld_agg ag41 cs41 cA, hq, S, S1, S2, S3, S4, ST, eq_self, ne_eq, not_true_eq_false, not_false_eq_true, and_self, true_and, and_true, reduceIte, reduceCtorEq, Nat.reduceEqDiff, Nat.reduceAdd, Nat.zero_add, Nat.add_zero, Option.map_none, Option.map_some, List.map_cons, List.map_nil, List.append_nil, List.cons_append, List.nil_append, List.getElem?_cons_zero, List.getElem?_cons_succ, List.getD_cons_zero, List.getD_cons_succ, List.getD_nil, Bool.not_true, Bool.not_false, decide_true, decide_false]
    refine CallH.by (l8Extend_c v n es (grd_len hg) (n.toNat / 2) (by omega) es.length [] (.slice (some ⟨A.length, 0, none⟩) 0 0) A.length (A ++ [.cells [] 3 false]) (rA.pre (List.prefix_append _ _)) (.inr ⟨A.length, [], rfl, Nat.le_refl _, by simp, at_new .., rfl⟩) (by simp) (Nat.le_refl _) (MtU.zero _ _) (by simp) (Nat.zero_le _) (fun _ => rfl) (fun h => absurd h (by simp))) ?_
    rintro g B ⟨hL, _, pB⟩
    rw [← hP] at hL
    have ht : isTup g = false := by
      obtain ⟨us, r1, _⟩ := hL.parts
      exact r1.tup
    simp (maxSteps := 1000000) (disch := omega) only [S, S1, S2, S3, S4, ST, eq_self, ne_eq, not_true_eq_false, not_false_eq_true, and_self, true_and, and_true, reduceIte, reduceCtorEq, Nat.reduceEqDiff, Nat.reduceAdd, Nat.zero_add, Nat.add_zero, Option.map_none, Option.map_some, List.map_cons, List.map_nil, List.append_nil, List.cons_append, List.nil_append, List.getElem?_cons_zero, List.getElem?_cons_succ, List.getD_cons_zero, List.getD_cons_succ, List.getD_nil, Bool.not_true, Bool.not_false, decide_true, decide_false]
    refine hQ _ _ _ ?_
    simp (maxSteps := 1000000) (disch := omega) only [ht, S, S1, S2, S3, S4, ST, eq_self, ne_eq, not_true_eq_false, not_false_eq_true, and_self, true_and, and_true, reduceIte, reduceCtorEq, Nat.reduceEqDiff, Nat.reduceAdd, Nat.zero_add, Nat.add_zero, Option.map_none, Option.map_some, List.map_cons, List.map_nil, List.append_nil, List.cons_append, List.nil_append, List.getElem?_cons_zero, List.getElem?_cons_succ, List.getD_cons_zero, List.getD_cons_succ, List.getD_nil, Bool.not_true, Bool.not_false, decide_true, decide_false]
    exact ⟨hL.wide pA.length_le (Nat.le_refl _), pA.trans ((List.prefix_append _ _).trans pB)⟩

set_option maxRecDepth 20000 in
theorem PerfI_c (n : Int) (v : Value) (es : List (Int × Int)) (H : AH) (hr : RowP 66 H v es) (hlen : es.length ≤ 1048576) (hes : ∀ y ∈ es, I64 y.1 ∧ I64 y.2) (hn : I64 n) :
    ACalls Try.prog 45 [.agg (List.toArray [.int .i64 n, v])] H fun r H' => ∃ g, r = .tuple (List.toArray [g, .bool (decide (Grd n es))]) ∧ InL H.length H'.length 22 3 H' g (perfR n es) ∧ H <+: H' := by
  refine in45 rfl ?_
  intro Q hQ
  simp (maxSteps := 1000000) (disch := omega) only [cd45, hr.boxG, S, S1, S2, S3, S4, ST, eq_self, ne_eq, not_true_eq_false, not_false_eq_true, and_self, true_and, and_true, reduceIte, reduceCtorEq, Nat.reduceEqDiff, Nat.reduceAdd, Nat.zero_add, Nat.add_zero, Option.map_none, Option.map_some, List.map_cons, List.map_nil, List.append_nil, List.cons_append, List.nil_append, List.getElem?_cons_zero, List.getElem?_cons_succ, List.getD_cons_zero, List.getD_cons_succ, List.getD_nil, Bool.not_true, Bool.not_false, decide_true, decide_false]
  generalize hA : H ++ [AObj.cells [.int .i64 n, v] 41 false] = A
  have pA : H <+: A := by rw [← hA]; exact List.prefix_append _ _
  have cA : A[H.length]? = some (.cells [.int .i64 n, v] 41 false) := by rw [← hA]; exact at_new ..
  have rA := hr.pre pA
  simp (maxSteps := 1000000) (disch := omega) only [ld_agg ag41 cs41 cA, S, S1, S2, S3, S4, ST, eq_self, ne_eq, not_true_eq_false, not_false_eq_true, and_self, true_and, and_true, reduceIte, reduceCtorEq, Nat.reduceEqDiff, Nat.reduceAdd, Nat.zero_add, Nat.add_zero, Option.map_none, Option.map_some, List.map_cons, List.map_nil, List.append_nil, List.cons_append, List.nil_append, List.getElem?_cons_zero, List.getElem?_cons_succ, List.getD_cons_zero, List.getD_cons_succ, List.getD_nil, Bool.not_true, Bool.not_false, decide_true, decide_false]
  refine CallH.by (IsGraph_c n v es A rA (by omega)) ?_
  rintro _ B ⟨rfl, pB⟩
  have cB := pre_at pB cA
  have pHB := pA.trans pB
  simp (maxSteps := 1000000) (disch := omega) only [S, S1, S2, S3, S4, ST, eq_self, ne_eq, not_true_eq_false, not_false_eq_true, and_self, true_and, and_true, reduceIte, reduceCtorEq, Nat.reduceEqDiff, Nat.reduceAdd, Nat.zero_add, Nat.add_zero, Option.map_none, Option.map_some, List.map_cons, List.map_nil, List.append_nil, List.cons_append, List.nil_append, List.getElem?_cons_zero, List.getElem?_cons_succ, List.getD_cons_zero, List.getD_cons_succ, List.getD_nil, Bool.not_true, Bool.not_false, decide_true, decide_false]
  refine brD.intro (fun e => ?_) (fun e => ?_)
  · simp (maxSteps := 1000000) (disch := omega) only [e, ld_agg ag41 cs41 cB, S, S1, S2, S3, S4, ST, eq_self, ne_eq, not_true_eq_false, not_false_eq_true, and_self, true_and, and_true, reduceIte, reduceCtorEq, Nat.reduceEqDiff, Nat.reduceAdd, Nat.zero_add, Nat.add_zero, Option.map_none, Option.map_some, List.map_cons, List.map_nil, List.append_nil, List.cons_append, List.nil_append, List.getElem?_cons_zero, List.getElem?_cons_succ, List.getD_cons_zero, List.getD_cons_succ, List.getD_nil, Bool.not_true, Bool.not_false, decide_true, decide_false]
    refine CallH.by (perfect_c n v es B (rA.pre pB) hlen e) ?_
    rintro g C ⟨hL, pC⟩
    have ht : isTup g = false := by
      obtain ⟨us, r1, _⟩ := hL.parts
      exact r1.tup
    simp (maxSteps := 1000000) (disch := omega) only [S, S1, S2, S3, S4, ST, eq_self, ne_eq, not_true_eq_false, not_false_eq_true, and_self, true_and, and_true, reduceIte, reduceCtorEq, Nat.reduceEqDiff, Nat.reduceAdd, Nat.zero_add, Nat.add_zero, Option.map_none, Option.map_some, List.map_cons, List.map_nil, List.append_nil, List.cons_append, List.nil_append, List.getElem?_cons_zero, List.getElem?_cons_succ, List.getD_cons_zero, List.getD_cons_succ, List.getD_nil, Bool.not_true, Bool.not_false, decide_true, decide_false]
    refine hQ _ _ _ ?_
    simp (maxSteps := 1000000) (disch := omega) only [ht, S, S1, S2, S3, S4, ST, eq_self, ne_eq, not_true_eq_false, not_false_eq_true, and_self, true_and, and_true, reduceIte, reduceCtorEq, Nat.reduceEqDiff, Nat.reduceAdd, Nat.zero_add, Nat.add_zero, Option.map_none, Option.map_some, List.map_cons, List.map_nil, List.append_nil, List.cons_append, List.nil_append, List.getElem?_cons_zero, List.getElem?_cons_succ, List.getD_cons_zero, List.getD_cons_succ, List.getD_nil, Bool.not_true, Bool.not_false, decide_true, decide_false]
    have hR : perfR n es = perfL n es := by unfold perfR; rw [if_pos e]
    rw [hR, decide_eq_true e]
    exact ⟨g, rfl, hL.wide pHB.length_le (Nat.le_refl _), pHB.trans pC⟩
  · simp (maxSteps := 1000000) (disch := omega) only [e, S, S1, S2, S3, S4, ST, eq_self, ne_eq, not_true_eq_false, not_false_eq_true, and_self, true_and, and_true, reduceIte, reduceCtorEq, Nat.reduceEqDiff, Nat.reduceAdd, Nat.zero_add, Nat.add_zero, Option.map_none, Option.map_some, List.map_cons, List.map_nil, List.append_nil, List.cons_append, List.nil_append, List.getElem?_cons_zero, List.getElem?_cons_succ, List.getD_cons_zero, List.getD_cons_succ, List.getD_nil, Bool.not_true, Bool.not_false, decide_true, decide_false]
    refine hQ _ _ _ ?_
    simp (maxSteps := 1000000) (disch := omega) only [e, S, S1, S2, S3, S4, ST, eq_self, ne_eq, not_true_eq_false, not_false_eq_true, and_self, true_and, and_true, reduceIte, reduceCtorEq, Nat.reduceEqDiff, Nat.reduceAdd, Nat.zero_add, Nat.add_zero, Option.map_none, Option.map_some, List.map_cons, List.map_nil, List.append_nil, List.cons_append, List.nil_append, List.getElem?_cons_zero, List.getElem?_cons_succ, List.getD_cons_zero, List.getD_cons_succ, List.getD_nil, Bool.not_true, Bool.not_false, decide_true, decide_false]
    have hR : perfR n es = [] := by unfold perfR; rw [if_neg e]
    rw [hR]
    exact ⟨_, rfl, .inl ⟨rfl, rfl⟩, pHB⟩

set_option maxRecDepth 20000 in
theorem PerfS_c (n : Int) (v : Value) (es : List (Int × Int)) (H : AH) (hr : RowP 66 H v es) (hlen : es.length ≤ 1048576) (hes : ∀ y ∈ es, I64 y.1 ∧ I64 y.2) (hn : I64 n) :
    ACalls Try.prog 44 [.agg (List.toArray [.int .i64 n, v])] H fun r H' => ∃ g, r = .tuple (List.toArray [g, .bool (decide (Grd n es))]) ∧ InL H.length H'.length 22 3 H' g (perfR n es) ∧ H <+: H' := by
  refine in44 rfl ?_
  intro Q hQ
  simp (maxSteps := 1000000) (disch := omega) only [cd44, hr.boxG, S, S1, S2, S3, S4, ST, eq_self, ne_eq, not_true_eq_false, not_false_eq_true, and_self, true_and, and_true, reduceIte, reduceCtorEq, Nat.reduceEqDiff, Nat.reduceAdd, Nat.zero_add, Nat.add_zero, Option.map_none, Option.map_some, List.map_cons, List.map_nil, List.append_nil, List.cons_append, List.nil_append, List.getElem?_cons_zero, List.getElem?_cons_succ, List.getD_cons_zero, List.getD_cons_succ, List.getD_nil, Bool.not_true, Bool.not_false, decide_true, decide_false]
  generalize hA : H ++ [AObj.cells [.int .i64 n, v] 41 false] = A
  have pA : H <+: A := by rw [← hA]; exact List.prefix_append _ _
  have cA : A[H.length]? = some (.cells [.int .i64 n, v] 41 false) := by rw [← hA]; exact at_new ..
  have rA := hr.pre pA
  simp (maxSteps := 1000000) (disch := omega) only [ld_agg ag41 cs41 cA, S, S1, S2, S3, S4, ST, eq_self, ne_eq, not_true_eq_false, not_false_eq_true, and_self, true_and, and_true, reduceIte, reduceCtorEq, Nat.reduceEqDiff, Nat.reduceAdd, Nat.zero_add, Nat.add_zero, Option.map_none, Option.map_some, List.map_cons, List.map_nil, List.append_nil, List.cons_append, List.nil_append, List.getElem?_cons_zero, List.getElem?_cons_succ, List.getD_cons_zero, List.getD_cons_succ, List.getD_nil, Bool.not_true, Bool.not_false, decide_true, decide_false]
  refine CallH.by (l2Good_c n v es A rA (by omega)) ?_
  rintro _ B ⟨rfl, pB⟩
  have cB := pre_at pB cA
  have pHB := pA.trans pB
  simp (maxSteps := 1000000) (disch := omega) only [S, S1, S2, S3, S4, ST, eq_self, ne_eq, not_true_eq_false, not_false_eq_true, and_self, true_and, and_true, reduceIte, reduceCtorEq, Nat.reduceEqDiff, Nat.reduceAdd, Nat.zero_add, Nat.add_zero, Option.map_none, Option.map_some, List.map_cons, List.map_nil, List.append_nil, List.cons_append, List.nil_append, List.getElem?_cons_zero, List.getElem?_cons_succ, List.getD_cons_zero, List.getD_cons_succ, List.getD_nil, Bool.not_true, Bool.not_false, decide_true, decide_false]
  refine brD.intro (fun e => ?_) (fun e => ?_)
  · simp (maxSteps := 1000000) (disch := omega) only [e, ld_agg ag41 cs41 cB, S, S1, S2, S3, S4, ST, eq_self, ne_eq, not_true_eq_false, not_false_eq_true, and_self, true_and, and_true, reduceIte, reduceCtorEq, Nat.reduceEqDiff, Nat.reduceAdd, Nat.zero_add, Nat.add_zero, Option.map_none, Option.map_some, List.map_cons, List.map_nil, List.append_nil, List.cons_append, List.nil_append, List.getElem?_cons_zero, List.getElem?_cons_succ, List.getD_cons_zero, List.getD_cons_succ, List.getD_nil, Bool.not_true, Bool.not_false, decide_true, decide_false]
    refine CallH.by (l8Perfect_c n v es B (rA.pre pB) e) ?_
    rintro g C ⟨hL, pC⟩
    have ht : isTup g = false := by
      obtain ⟨us, r1, _⟩ := hL.parts
      exact r1.tup
    simp (maxSteps := 1000000) (disch := omega) only [S, S1, S2, S3, S4, ST, eq_self, ne_eq, not_true_eq_false, not_false_eq_true, and_self, true_and, and_true, reduceIte, reduceCtorEq, Nat.reduceEqDiff, Nat.reduceAdd, Nat.zero_add, Nat.add_zero, Option.map_none, Option.map_some, List.map_cons, List.map_nil, List.append_nil, List.cons_append, List.nil_append, List.getElem?_cons_zero, List.getElem?_cons_succ, List.getD_cons_zero, List.getD_cons_succ, List.getD_nil, Bool.not_true, Bool.not_false, decide_true, decide_false]
    refine hQ _ _ _ ?_
    simp (maxSteps := 1000000) (disch := omega) only [ht, S, S1, S2, S3, S4, ST, eq_self, ne_eq, not_true_eq_false, not_false_eq_true, and_self, true_and, and_true, reduceIte, reduceCtorEq, Nat.reduceEqDiff, Nat.reduceAdd, Nat.zero_add, Nat.add_zero, Option.map_none, Option.map_some, List.map_cons, List.map_nil, List.append_nil, List.cons_append, List.nil_append, List.getElem?_cons_zero, List.getElem?_cons_succ, List.getD_cons_zero, List.getD_cons_succ, List.getD_nil, Bool.not_true, Bool.not_false, decide_true, decide_false]
    have hR : perfR n es = perfL n es := by unfold perfR; rw [if_pos e]
    rw [hR, decide_eq_true e]
    exact ⟨g, rfl, hL.wide pHB.length_le (Nat.le_refl _), pHB.trans pC⟩
  · simp (maxSteps := 1000000) (disch := omega) only [e, S, S1, S2, S3, S4, ST, eq_self, ne_eq, not_true_eq_false, not_false_eq_true, and_self, true_and, and_true, reduceIte, reduceCtorEq, Nat.reduceEqDiff, Nat.reduceAdd, Nat.zero_add, Nat.add_zero, Option.map_none, Option.map_some, List.map_cons, List.map_nil, List.append_nil, List.cons_append, List.nil_append, List.getElem?_cons_zero, List.getElem?_cons_succ, List.getD_cons_zero, List.getD_cons_succ, List.getD_nil, Bool.not_true, Bool.not_false, decide_true, decide_false]
    refine hQ _ _ _ ?_
    simp (maxSteps := 1000000) (disch := omega) only [e, S, S1, S2, S3, S4, ST, eq_self, ne_eq, not_true_eq_false, not_false_eq_true, and_self, true_and, and_true, reduceIte, reduceCtorEq, Nat.reduceEqDiff, Nat.reduceAdd, Nat.zero_add, Nat.add_zero, Option.map_none, Option.map_some, List.map_cons, List.map_nil, List.append_nil, List.cons_append, List.nil_append, List.getElem?_cons_zero, List.getElem?_cons_succ, List.getD_cons_zero, List.getD_cons_succ, List.getD_nil, Bool.not_true, Bool.not_false, decide_true, decide_false]
    have hR : perfR n es = [] := by unfold perfR; rw [if_neg e]
    rw [hR]
    have u0 := InU.new H.length 22 3 B pHB.length_le
    refine ⟨_, rfl, ?_, pre_app pHB _⟩
    have := u0.inl
    simpa using this
end Go.Proofs.Ytahakecifgjcnaa.Ai
