/- FnExactPolygonSpace: the law, from both sides' contracts. -/
import Derived.Test.YtahakecifgjcnaaPoly
import Derived.Test.YtahakecifgjcnaaMark
import Derived.Test.YtahakecifgjcnaaMarkS
import Derived.Test.YtahakecifgjcnaaProg
import Derived.Test.YtahakecifgjcnaaAiM2
import Derived.KernelRfl
/- Slim code of this translation. By the kernel. -/
namespace Go.Proofs.Ytahakecifgjcnaa.Ai
open Go

/- loop.example/g01128/laws.FnExactPolygonSpace -/
def ords8 : List (Nat × List (Nat × Bool)) := []
def cd8 : Cd := (.seq (.reg [⟨⟨some 2, Op.assign (Operand.const (Value.bool false)), none⟩, []⟩]) (.seq (.reg [⟨⟨some 12, Op.move (Operand.tmp 0), none⟩, []⟩,
  ⟨⟨some 13, Op.call { callee := (Callee.value (Operand.func 36)), args := #[(Operand.tmp 12)], argTypes := #[3] }, none⟩, []⟩,
  ⟨⟨some 11, Op.move (Operand.tmp 13), none⟩, []⟩,
  ⟨⟨some 14, Op.extract (Operand.tmp 11) 0, none⟩, []⟩,
  ⟨⟨some 15, Op.extract (Operand.tmp 11) 1, none⟩, []⟩,
  ⟨⟨some 3, Op.alloc 49, none⟩, []⟩,
  ⟨⟨none, Op.store 49 (Operand.tmp 3) (Operand.tmp 14), none⟩, []⟩,
  ⟨⟨some 4, Op.assign (Operand.tmp 15), none⟩, []⟩]) (.seq (.reg [⟨⟨some 17, Op.move (Operand.tmp 0), none⟩, []⟩,
  ⟨⟨some 18, Op.call { callee := (Callee.value (Operand.func 37)), args := #[(Operand.tmp 17)], argTypes := #[3] }, none⟩, []⟩,
  ⟨⟨some 16, Op.move (Operand.tmp 18), none⟩, []⟩,
  ⟨⟨some 19, Op.extract (Operand.tmp 16) 0, none⟩, []⟩,
  ⟨⟨some 20, Op.extract (Operand.tmp 16) 1, none⟩, []⟩,
  ⟨⟨some 5, Op.alloc 49, none⟩, []⟩,
  ⟨⟨none, Op.store 49 (Operand.tmp 5) (Operand.tmp 19), none⟩, []⟩,
  ⟨⟨some 6, Op.assign (Operand.tmp 20), none⟩, []⟩]) (.seq (.seq (.reg [⟨⟨some 21, Op.load 49 (Operand.tmp 5), none⟩, []⟩,
  ⟨⟨some 22, Op.load 49 (Operand.tmp 3), none⟩, []⟩,
  ⟨⟨some 23, Op.call { callee := (Callee.value (Operand.func 38)), args := #[(Operand.tmp 21), (Operand.tmp 22)], argTypes := #[49, 49] }, none⟩, []⟩,
  ⟨⟨some 24, Op.unOp UnOp.not 4 (Operand.tmp 23), none⟩, []⟩,
  ⟨⟨some 25, Op.move (Operand.tmp 24), none⟩, []⟩,
  ⟨⟨some 26, Op.move (Operand.tmp 6), some (25, false)⟩, []⟩,
  ⟨⟨some 27, Op.move (Operand.tmp 4), some (25, false)⟩, []⟩,
  ⟨⟨some 28, Op.binOp BinOp.neq 4 (Operand.tmp 26) (Operand.tmp 27) 4, some (25, false)⟩, []⟩,
  ⟨⟨some 29, Op.pick (Operand.tmp 25) (Operand.const (Value.bool true)) (Operand.tmp 28), none⟩, []⟩]) (.cond (Operand.tmp 29) (.seq (.reg [⟨⟨some 2, Op.assign (Operand.const (Value.bool false)), none⟩, []⟩]) .ret) .skip)) (.seq (.reg [⟨⟨some 7, Op.assign (Operand.const (Value.int IntKind.i64 1)), none⟩, []⟩]) (.seq (.reg [⟨⟨some 30, Op.load 49 (Operand.tmp 5), none⟩, []⟩,
  ⟨⟨some 31, Op.move (Operand.tmp 7), none⟩, []⟩,
  ⟨⟨some 32, Op.call { callee := (Callee.value (Operand.func 39)), args := #[(Operand.tmp 30), (Operand.tmp 31)], argTypes := #[49, 3] }, none⟩, []⟩,
  ⟨⟨some 7, Op.assign (Operand.tmp 32), none⟩, []⟩]) (.seq (.reg [⟨⟨some 8, Op.assign (Operand.const (Value.int IntKind.i64 1)), none⟩, []⟩]) (.seq (.reg [⟨⟨some 33, Op.load 49 (Operand.tmp 5), none⟩, []⟩,
  ⟨⟨some 34, Op.move (Operand.tmp 8), none⟩, []⟩,
  ⟨⟨some 35, Op.call { callee := (Callee.value (Operand.func 40)), args := #[(Operand.tmp 33), (Operand.tmp 34)], argTypes := #[49, 3] }, none⟩, []⟩,
  ⟨⟨some 8, Op.assign (Operand.tmp 35), none⟩, []⟩]) (.seq (.seq (.reg [⟨⟨some 36, Op.move (Operand.tmp 8), none⟩, []⟩,
  ⟨⟨some 37, Op.binOp BinOp.lss 3 (Operand.tmp 36) (Operand.const (Value.int IntKind.i64 0)) 3, none⟩, []⟩]) (.cond (Operand.tmp 37) (.seq (.reg [⟨⟨some 2, Op.assign (Operand.const (Value.bool false)), none⟩, []⟩]) .ret) .skip)) (.seq (.seq (.reg [⟨⟨some 38, Op.move (Operand.tmp 8), none⟩, []⟩,
  ⟨⟨some 39, Op.move (Operand.tmp 7), none⟩, []⟩,
  ⟨⟨some 40, Op.binOp BinOp.neq 3 (Operand.tmp 38) (Operand.tmp 39) 3, none⟩, []⟩]) (.cond (Operand.tmp 40) (.seq (.reg [⟨⟨some 2, Op.assign (Operand.const (Value.bool false)), none⟩, []⟩]) .ret) .skip)) (.seq (.reg [⟨⟨some 42, Op.move (Operand.tmp 0), none⟩, []⟩,
  ⟨⟨some 43, Op.call { callee := (Callee.value (Operand.func 37)), args := #[(Operand.tmp 42)], argTypes := #[3] }, none⟩, []⟩,
  ⟨⟨some 41, Op.move (Operand.tmp 43), none⟩, []⟩,
  ⟨⟨some 44, Op.extract (Operand.tmp 41) 0, none⟩, []⟩,
  ⟨⟨some 45, Op.extract (Operand.tmp 41) 1, none⟩, []⟩,
  ⟨⟨some 9, Op.alloc 49, none⟩, []⟩,
  ⟨⟨none, Op.store 49 (Operand.tmp 9) (Operand.tmp 44), none⟩, []⟩,
  ⟨⟨some 10, Op.assign (Operand.tmp 45), none⟩, []⟩]) (.seq (.seq (.reg [⟨⟨some 46, Op.load 49 (Operand.tmp 9), none⟩, []⟩,
  ⟨⟨some 47, Op.load 49 (Operand.tmp 3), none⟩, []⟩,
  ⟨⟨some 48, Op.call { callee := (Callee.value (Operand.func 38)), args := #[(Operand.tmp 46), (Operand.tmp 47)], argTypes := #[49, 49] }, none⟩, []⟩,
  ⟨⟨some 49, Op.unOp UnOp.not 4 (Operand.tmp 48), none⟩, []⟩,
  ⟨⟨some 50, Op.move (Operand.tmp 49), none⟩, []⟩,
  ⟨⟨some 51, Op.move (Operand.tmp 10), some (50, false)⟩, []⟩,
  ⟨⟨some 52, Op.move (Operand.tmp 4), some (50, false)⟩, []⟩,
  ⟨⟨some 53, Op.binOp BinOp.neq 4 (Operand.tmp 51) (Operand.tmp 52) 4, some (50, false)⟩, []⟩,
  ⟨⟨some 54, Op.pick (Operand.tmp 50) (Operand.const (Value.bool true)) (Operand.tmp 53), none⟩, []⟩]) (.cond (Operand.tmp 54) (.seq (.reg [⟨⟨some 2, Op.assign (Operand.const (Value.bool false)), none⟩, []⟩]) .ret) .skip)) (.seq (.reg [⟨⟨some 8, Op.assign (Operand.const (Value.int IntKind.i64 1)), none⟩, []⟩]) (.seq (.reg [⟨⟨some 55, Op.load 49 (Operand.tmp 5), none⟩, []⟩,
  ⟨⟨some 56, Op.move (Operand.tmp 8), none⟩, []⟩,
  ⟨⟨some 57, Op.call { callee := (Callee.value (Operand.func 40)), args := #[(Operand.tmp 55), (Operand.tmp 56)], argTypes := #[49, 3] }, none⟩, []⟩,
  ⟨⟨some 8, Op.assign (Operand.tmp 57), none⟩, []⟩]) (.seq (.seq (.reg [⟨⟨some 58, Op.move (Operand.tmp 8), none⟩, []⟩,
  ⟨⟨some 59, Op.binOp BinOp.lss 3 (Operand.tmp 58) (Operand.const (Value.int IntKind.i64 0)) 3, none⟩, []⟩]) (.cond (Operand.tmp 59) (.seq (.reg [⟨⟨some 2, Op.assign (Operand.const (Value.bool false)), none⟩, []⟩]) .ret) .skip)) (.seq (.seq (.reg [⟨⟨some 60, Op.move (Operand.tmp 8), none⟩, []⟩,
  ⟨⟨some 61, Op.move (Operand.tmp 7), none⟩, []⟩,
  ⟨⟨some 62, Op.binOp BinOp.neq 3 (Operand.tmp 60) (Operand.tmp 61) 3, none⟩, []⟩]) (.cond (Operand.tmp 62) (.seq (.reg [⟨⟨some 2, Op.assign (Operand.const (Value.bool false)), none⟩, []⟩]) .ret) .skip)) (.seq (.reg [⟨⟨some 2, Op.assign (Operand.const (Value.bool true)), none⟩, []⟩]) .ret)))))))))))))))))
theorem sl8 : slim Try.f8.ntmps ords8 (Try.f8.body.getD .skip) = some cd8 := by kernel_rfl
theorem in8 {args : List Value} {H : AH} {R : Value → AH → Prop} (hl : args.length = 1) (h : ∀ (Q : Exit → Sl → AH → Prop), (∀ e s H, endA Try.prog [ResultVar.tmp 2] R e s H → Q e s H) → wpC Try.prog cd8 Q (enterA args) H) : ACalls Try.prog 8 args H R :=
  ACalls.intro (by kernel_rfl) Try.func8 rfl (by kernel_rfl) sl8 hl (of_decide_eq_true (by kernel_rfl)) (by kernel_rfl) h
end Go.Proofs.Ytahakecifgjcnaa.Ai

namespace Go.Proofs.Ytahakecifgjcnaa.Ai
open Go Go.RowKit
set_option linter.unusedVariables false
set_option linter.unusedSimpArgs false
set_option maxRecDepth 20000 in
set_option maxHeartbeats 8000000 in
theorem polyLaw_c (a0 : Int) (H0 : AH) :
    ACalls Try.prog 8 [.int .i64 a0] H0 fun r H' => r = .bool true := by
  refine in8 rfl ?_
  intro Q hQ
  simp (maxSteps := 4000000) (disch := omega) only [cd8, S, S1, S2, S3, S4, ST, eq_self, ne_eq, not_true_eq_false, not_false_eq_true, and_self, true_and, and_true, reduceIte, reduceCtorEq, Nat.reduceEqDiff, Nat.reduceAdd, Nat.zero_add, Nat.add_zero, Option.map_none, Option.map_some, List.map_cons, List.map_nil, List.append_nil, List.cons_append, List.nil_append, List.getElem?_cons_zero, List.getElem?_cons_succ, List.getD_cons_zero, List.getD_cons_succ, List.getD_nil, Bool.not_true, Bool.not_false, decide_true, decide_false]
  refine CallH.by (PolyS_c a0    H0 ) ?_
  rintro _ H1 ⟨w0a, w0b, rfl, qw0, p1⟩
  have L1 := p1.length_le
  have Mw0_1 := qw0
  have Rw0_1 := Mw0_1.row
  have hstw0 := Rw0_1.store (at_new H1 (.cells [.slice none 0 0, .slice none 0 0] 49 false)) rfl
  simp (maxSteps := 4000000) (disch := omega) only [alloc_sp, hstw0, set_new, S, S1, S2, S3, S4, ST, eq_self, ne_eq, not_true_eq_false, not_false_eq_true, and_self, true_and, and_true, reduceIte, reduceCtorEq, Nat.reduceEqDiff, Nat.reduceAdd, Nat.zero_add, Nat.add_zero, Option.map_none, Option.map_some, List.map_cons, List.map_nil, List.append_nil, List.cons_append, List.nil_append, List.getElem?_cons_zero, List.getElem?_cons_succ, List.getD_cons_zero, List.getD_cons_succ, List.getD_nil, Bool.not_true, Bool.not_false, decide_true, decide_false]
  generalize hXw0 : H1 ++ [AObj.cells [w0a, w0b] 49 false] = H2
  have p2 : H1 <+: H2 := by rw [← hXw0]; exact List.prefix_append _ _
  have Cw0_2 : H2[H1.length]? = some (.cells [w0a, w0b] 49 false) := by rw [← hXw0]; exact at_new ..
  have Lxw0 := at_lt Cw0_2
  have Rw0_2 := Rw0_1.pre p2
  have Mw0_2 := Mw0_1.pre p2
  have L2 := p2.length_le
  try simp (maxSteps := 4000000) (disch := omega) only [ld_agg ag49 cs49 Cw0_2, S, S1, S2, S3, S4, ST, eq_self, ne_eq, not_true_eq_false, not_false_eq_true, and_self, true_and, and_true, reduceIte, reduceCtorEq, Nat.reduceEqDiff, Nat.reduceAdd, Nat.zero_add, Nat.add_zero, Option.map_none, Option.map_some, List.map_cons, List.map_nil, List.append_nil, List.cons_append, List.nil_append, List.getElem?_cons_zero, List.getElem?_cons_succ, List.getD_cons_zero, List.getD_cons_succ, List.getD_nil, Bool.not_true, Bool.not_false, decide_true, decide_false]
  refine CallH.by (PolyI_c a0    H2 ) ?_
  rintro _ H3 ⟨g0a, g0b, rfl, qg0, p3⟩
  have Rw0_3 := Rw0_2.pre p3
  have Mw0_3 := Mw0_2.pre p3
  have Cw0_3 := pre_at p3 Cw0_2
  have L3 := p3.length_le
  have Mg0_3 := qg0
  have Rg0_3 := Mg0_3.row
  have hstg0 := Rg0_3.store (at_new H3 (.cells [.slice none 0 0, .slice none 0 0] 49 false)) rfl
  simp (maxSteps := 4000000) (disch := omega) only [alloc_sp, hstg0, set_new, ld_agg ag49 cs49 Cw0_3, S, S1, S2, S3, S4, ST, eq_self, ne_eq, not_true_eq_false, not_false_eq_true, and_self, true_and, and_true, reduceIte, reduceCtorEq, Nat.reduceEqDiff, Nat.reduceAdd, Nat.zero_add, Nat.add_zero, Option.map_none, Option.map_some, List.map_cons, List.map_nil, List.append_nil, List.cons_append, List.nil_append, List.getElem?_cons_zero, List.getElem?_cons_succ, List.getD_cons_zero, List.getD_cons_succ, List.getD_nil, Bool.not_true, Bool.not_false, decide_true, decide_false]
  generalize hXg0 : H3 ++ [AObj.cells [g0a, g0b] 49 false] = H4
  have p4 : H3 <+: H4 := by rw [← hXg0]; exact List.prefix_append _ _
  have Cg0_4 : H4[H3.length]? = some (.cells [g0a, g0b] 49 false) := by rw [← hXg0]; exact at_new ..
  have Lxg0 := at_lt Cg0_4
  have Rw0_4 := Rw0_3.pre p4
  have Rg0_4 := Rg0_3.pre p4
  have Mw0_4 := Mw0_3.pre p4
  have Mg0_4 := Mg0_3.pre p4
  have Cw0_4 := pre_at p4 Cw0_3
  have L4 := p4.length_le
  try simp (maxSteps := 4000000) (disch := omega) only [ld_agg ag49 cs49 Cw0_4, ld_agg ag49 cs49 Cg0_4, S, S1, S2, S3, S4, ST, eq_self, ne_eq, not_true_eq_false, not_false_eq_true, and_self, true_and, and_true, reduceIte, reduceCtorEq, Nat.reduceEqDiff, Nat.reduceAdd, Nat.zero_add, Nat.add_zero, Option.map_none, Option.map_some, List.map_cons, List.map_nil, List.append_nil, List.cons_append, List.nil_append, List.getElem?_cons_zero, List.getElem?_cons_succ, List.getD_cons_zero, List.getD_cons_succ, List.getD_nil, Bool.not_true, Bool.not_false, decide_true, decide_false]
  have hR := (poly_ok a0)
  refine CallH.by (eqSpace_c g0a g0b w0a w0b _ _ _ _ H4 Rg0_4 Rw0_4 hR.1 (Nat.le_trans hR.2.1 (by decide)) hR.2.2) ?_
  rintro _ H5 ⟨rfl, p5⟩
  have Rw0_5 := Rw0_4.pre p5
  have Rg0_5 := Rg0_4.pre p5
  have Mw0_5 := Mw0_4.pre p5
  have Mg0_5 := Mg0_4.pre p5
  have Cw0_5 := pre_at p5 Cw0_4
  have Cg0_5 := pre_at p5 Cg0_4
  have L5 := p5.length_le
  simp (maxSteps := 4000000) (disch := omega) only [ld_agg ag49 cs49 Cw0_5, ld_agg ag49 cs49 Cg0_5, S, S1, S2, S3, S4, ST, eq_self, ne_eq, not_true_eq_false, not_false_eq_true, and_self, true_and, and_true, reduceIte, reduceCtorEq, Nat.reduceEqDiff, Nat.reduceAdd, Nat.zero_add, Nat.add_zero, Option.map_none, Option.map_some, List.map_cons, List.map_nil, List.append_nil, List.cons_append, List.nil_append, List.getElem?_cons_zero, List.getElem?_cons_succ, List.getD_cons_zero, List.getD_cons_succ, List.getD_nil, Bool.not_true, Bool.not_false, decide_true, decide_false]
  refine CallH.by (markSpace_B g0a g0b _ _ 1 _ _ H5 Mg0_5 hR.1 hR.2.1 hR.2.2 (by omega) (by omega)) ?_
  rintro _ H7 ⟨rfl, H6, n_6, e6, p7⟩
  have L6 := Nat.le_of_eq e6.1.symm
  have Mw0_6 := Mw0_5.keep e6 (by omega)
  have Rw0_6 := Mw0_6.row
  have Cw0_6 := e6.2 _ _ (by omega) Cw0_5
  have Cg0_6 := e6.2 _ _ (by omega) Cg0_5
  have Mg0_6 := n_6
  have Rg0_6 := n_6.row
  have Rw0_7 := Rw0_6.pre p7
  have Rg0_7 := Rg0_6.pre p7
  have Mw0_7 := Mw0_6.pre p7
  have Mg0_7 := Mg0_6.pre p7
  have Cw0_7 := pre_at p7 Cw0_6
  have Cg0_7 := pre_at p7 Cg0_6
  have L7 := p7.length_le
  simp (maxSteps := 4000000) (disch := omega) only [ld_agg ag49 cs49 Cw0_7, ld_agg ag49 cs49 Cg0_7, S, S1, S2, S3, S4, ST, eq_self, ne_eq, not_true_eq_false, not_false_eq_true, and_self, true_and, and_true, reduceIte, reduceCtorEq, Nat.reduceEqDiff, Nat.reduceAdd, Nat.zero_add, Nat.add_zero, Option.map_none, Option.map_some, List.map_cons, List.map_nil, List.append_nil, List.cons_append, List.nil_append, List.getElem?_cons_zero, List.getElem?_cons_succ, List.getD_cons_zero, List.getD_cons_succ, List.getD_nil, Bool.not_true, Bool.not_false, decide_true, decide_false]
  refine CallH.by (heldSpace_c g0a g0b _ _ 1 H7 Rg0_7 hR.1 hR.2.1 hR.2.2 (by omega)) ?_
  rintro _ H8 ⟨rfl, p8⟩
  have Rw0_8 := Rw0_7.pre p8
  have Rg0_8 := Rg0_7.pre p8
  have Mw0_8 := Mw0_7.pre p8
  have Mg0_8 := Mg0_7.pre p8
  have Cw0_8 := pre_at p8 Cw0_7
  have Cg0_8 := pre_at p8 Cg0_7
  have L8 := p8.length_le
  simp (maxSteps := 4000000) (disch := omega) only [ld_agg ag49 cs49 Cw0_8, ld_agg ag49 cs49 Cg0_8, S, S1, S2, S3, S4, ST, eq_self, ne_eq, not_true_eq_false, not_false_eq_true, and_self, true_and, and_true, reduceIte, reduceCtorEq, Nat.reduceEqDiff, Nat.reduceAdd, Nat.zero_add, Nat.add_zero, Option.map_none, Option.map_some, List.map_cons, List.map_nil, List.append_nil, List.cons_append, List.nil_append, List.getElem?_cons_zero, List.getElem?_cons_succ, List.getD_cons_zero, List.getD_cons_succ, List.getD_nil, Bool.not_true, Bool.not_false, decide_true, decide_false]
  refine brD.intro (fun g => absurd g (by omega)) (fun _ => ?_)
  simp (maxSteps := 4000000) (disch := omega) only [ld_agg ag49 cs49 Cw0_8, ld_agg ag49 cs49 Cg0_8, S, S1, S2, S3, S4, ST, eq_self, ne_eq, not_true_eq_false, not_false_eq_true, and_self, true_and, and_true, reduceIte, reduceCtorEq, Nat.reduceEqDiff, Nat.reduceAdd, Nat.zero_add, Nat.add_zero, Option.map_none, Option.map_some, List.map_cons, List.map_nil, List.append_nil, List.cons_append, List.nil_append, List.getElem?_cons_zero, List.getElem?_cons_succ, List.getD_cons_zero, List.getD_cons_succ, List.getD_nil, Bool.not_true, Bool.not_false, decide_true, decide_false]
  refine CallH.by (PolyI_c a0    H8 ) ?_
  rintro _ H9 ⟨h0a, h0b, rfl, qh0, p9⟩
  have Rw0_9 := Rw0_8.pre p9
  have Rg0_9 := Rg0_8.pre p9
  have Mw0_9 := Mw0_8.pre p9
  have Mg0_9 := Mg0_8.pre p9
  have Cw0_9 := pre_at p9 Cw0_8
  have Cg0_9 := pre_at p9 Cg0_8
  have L9 := p9.length_le
  have Mh0_9 := qh0
  have Rh0_9 := Mh0_9.row
  have hsth0 := Rh0_9.store (at_new H9 (.cells [.slice none 0 0, .slice none 0 0] 49 false)) rfl
  simp (maxSteps := 4000000) (disch := omega) only [alloc_sp, hsth0, set_new, ld_agg ag49 cs49 Cw0_9, ld_agg ag49 cs49 Cg0_9, S, S1, S2, S3, S4, ST, eq_self, ne_eq, not_true_eq_false, not_false_eq_true, and_self, true_and, and_true, reduceIte, reduceCtorEq, Nat.reduceEqDiff, Nat.reduceAdd, Nat.zero_add, Nat.add_zero, Option.map_none, Option.map_some, List.map_cons, List.map_nil, List.append_nil, List.cons_append, List.nil_append, List.getElem?_cons_zero, List.getElem?_cons_succ, List.getD_cons_zero, List.getD_cons_succ, List.getD_nil, Bool.not_true, Bool.not_false, decide_true, decide_false]
  generalize hXh0 : H9 ++ [AObj.cells [h0a, h0b] 49 false] = H10
  have p10 : H9 <+: H10 := by rw [← hXh0]; exact List.prefix_append _ _
  have Ch0_10 : H10[H9.length]? = some (.cells [h0a, h0b] 49 false) := by rw [← hXh0]; exact at_new ..
  have Lxh0 := at_lt Ch0_10
  have Rw0_10 := Rw0_9.pre p10
  have Rg0_10 := Rg0_9.pre p10
  have Rh0_10 := Rh0_9.pre p10
  have Mw0_10 := Mw0_9.pre p10
  have Mg0_10 := Mg0_9.pre p10
  have Mh0_10 := Mh0_9.pre p10
  have Cw0_10 := pre_at p10 Cw0_9
  have Cg0_10 := pre_at p10 Cg0_9
  have L10 := p10.length_le
  try simp (maxSteps := 4000000) (disch := omega) only [ld_agg ag49 cs49 Cw0_10, ld_agg ag49 cs49 Cg0_10, ld_agg ag49 cs49 Ch0_10, S, S1, S2, S3, S4, ST, eq_self, ne_eq, not_true_eq_false, not_false_eq_true, and_self, true_and, and_true, reduceIte, reduceCtorEq, Nat.reduceEqDiff, Nat.reduceAdd, Nat.zero_add, Nat.add_zero, Option.map_none, Option.map_some, List.map_cons, List.map_nil, List.append_nil, List.cons_append, List.nil_append, List.getElem?_cons_zero, List.getElem?_cons_succ, List.getD_cons_zero, List.getD_cons_succ, List.getD_nil, Bool.not_true, Bool.not_false, decide_true, decide_false]
  refine CallH.by (eqSpace_c h0a h0b w0a w0b _ _ _ _ H10 Rh0_10 Rw0_10 hR.1 (Nat.le_trans hR.2.1 (by decide)) hR.2.2) ?_
  rintro _ H11 ⟨rfl, p11⟩
  have Rw0_11 := Rw0_10.pre p11
  have Rg0_11 := Rg0_10.pre p11
  have Rh0_11 := Rh0_10.pre p11
  have Mw0_11 := Mw0_10.pre p11
  have Mg0_11 := Mg0_10.pre p11
  have Mh0_11 := Mh0_10.pre p11
  have Cw0_11 := pre_at p11 Cw0_10
  have Cg0_11 := pre_at p11 Cg0_10
  have Ch0_11 := pre_at p11 Ch0_10
  have L11 := p11.length_le
  simp (maxSteps := 4000000) (disch := omega) only [ld_agg ag49 cs49 Cw0_11, ld_agg ag49 cs49 Cg0_11, ld_agg ag49 cs49 Ch0_11, S, S1, S2, S3, S4, ST, eq_self, ne_eq, not_true_eq_false, not_false_eq_true, and_self, true_and, and_true, reduceIte, reduceCtorEq, Nat.reduceEqDiff, Nat.reduceAdd, Nat.zero_add, Nat.add_zero, Option.map_none, Option.map_some, List.map_cons, List.map_nil, List.append_nil, List.cons_append, List.nil_append, List.getElem?_cons_zero, List.getElem?_cons_succ, List.getD_cons_zero, List.getD_cons_succ, List.getD_nil, Bool.not_true, Bool.not_false, decide_true, decide_false]
  refine CallH.by (heldSpace_c g0a g0b _ _ 1 H11 Rg0_11 hR.1 hR.2.1 hR.2.2 (by omega)) ?_
  rintro _ H12 ⟨rfl, p12⟩
  have Rw0_12 := Rw0_11.pre p12
  have Rg0_12 := Rg0_11.pre p12
  have Rh0_12 := Rh0_11.pre p12
  have Mw0_12 := Mw0_11.pre p12
  have Mg0_12 := Mg0_11.pre p12
  have Mh0_12 := Mh0_11.pre p12
  have Cw0_12 := pre_at p12 Cw0_11
  have Cg0_12 := pre_at p12 Cg0_11
  have Ch0_12 := pre_at p12 Ch0_11
  have L12 := p12.length_le
  simp (maxSteps := 4000000) (disch := omega) only [ld_agg ag49 cs49 Cw0_12, ld_agg ag49 cs49 Cg0_12, ld_agg ag49 cs49 Ch0_12, S, S1, S2, S3, S4, ST, eq_self, ne_eq, not_true_eq_false, not_false_eq_true, and_self, true_and, and_true, reduceIte, reduceCtorEq, Nat.reduceEqDiff, Nat.reduceAdd, Nat.zero_add, Nat.add_zero, Option.map_none, Option.map_some, List.map_cons, List.map_nil, List.append_nil, List.cons_append, List.nil_append, List.getElem?_cons_zero, List.getElem?_cons_succ, List.getD_cons_zero, List.getD_cons_succ, List.getD_nil, Bool.not_true, Bool.not_false, decide_true, decide_false]
  refine brD.intro (fun g => absurd g (by omega)) (fun _ => ?_)
  simp (maxSteps := 4000000) (disch := omega) only [ld_agg ag49 cs49 Cw0_12, ld_agg ag49 cs49 Cg0_12, ld_agg ag49 cs49 Ch0_12, S, S1, S2, S3, S4, ST, eq_self, ne_eq, not_true_eq_false, not_false_eq_true, and_self, true_and, and_true, reduceIte, reduceCtorEq, Nat.reduceEqDiff, Nat.reduceAdd, Nat.zero_add, Nat.add_zero, Option.map_none, Option.map_some, List.map_cons, List.map_nil, List.append_nil, List.cons_append, List.nil_append, List.getElem?_cons_zero, List.getElem?_cons_succ, List.getD_cons_zero, List.getD_cons_succ, List.getD_nil, Bool.not_true, Bool.not_false, decide_true, decide_false]
  refine hQ _ _ _ ?_
  simp (maxSteps := 4000000) (disch := omega) only [ld_agg ag49 cs49 Cw0_12, ld_agg ag49 cs49 Cg0_12, ld_agg ag49 cs49 Ch0_12, S, S1, S2, S3, S4, ST, eq_self, ne_eq, not_true_eq_false, not_false_eq_true, and_self, true_and, and_true, reduceIte, reduceCtorEq, Nat.reduceEqDiff, Nat.reduceAdd, Nat.zero_add, Nat.add_zero, Option.map_none, Option.map_some, List.map_cons, List.map_nil, List.append_nil, List.cons_append, List.nil_append, List.getElem?_cons_zero, List.getElem?_cons_succ, List.getD_cons_zero, List.getD_cons_succ, List.getD_nil, Bool.not_true, Bool.not_false, decide_true, decide_false]

end Go.Proofs.Ytahakecifgjcnaa.Ai
