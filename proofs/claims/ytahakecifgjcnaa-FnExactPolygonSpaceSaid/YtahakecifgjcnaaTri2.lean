/- Triangulations, the program's side. -/
import Derived.Test.YtahakecifgjcnaaTri
import Derived.Test.YtahakecifgjcnaaProg
import Derived.Test.YtahakecifgjcnaaAiM2
import Derived.KernelRfl
/- Slim code of this translation. By the kernel. -/
namespace Go.Proofs.Ytahakecifgjcnaa.Ai
open Go

/- loop.example/g01128/impl.isTriangulation$1 -/
def ords126 : List (Nat × List (Nat × Bool)) := []
def cd126 : Cd := (.seq (.reg [⟨⟨some 3, Op.assign (Operand.const (Value.bool false)), none⟩, []⟩]) (.seq (.reg [⟨⟨some 4, Op.load 3 (Operand.tmp 1), none⟩, []⟩,
  ⟨⟨some 5, Op.move (Operand.tmp 0), none⟩, []⟩,
  ⟨⟨some 6, Op.call { callee := (Callee.value (Operand.func 127)), args := #[(Operand.tmp 4), (Operand.tmp 5)], argTypes := #[3, 3] }, none⟩, []⟩,
  ⟨⟨some 3, Op.assign (Operand.tmp 6), none⟩, []⟩]) .ret))
theorem sl126 : slim Try.f126.ntmps ords126 (Try.f126.body.getD .skip) = some cd126 := by kernel_rfl
theorem in126 {args : List Value} {H : AH} {R : Value → AH → Prop} (hl : args.length = 2) (h : ∀ (Q : Exit → Sl → AH → Prop), (∀ e s H, endA Try.prog [ResultVar.tmp 3] R e s H → Q e s H) → wpC Try.prog cd126 Q (enterA args) H) : ACalls Try.prog 126 args H R :=
  ACalls.intro (by kernel_rfl) Try.func126 rfl (by kernel_rfl) sl126 hl (of_decide_eq_true (by kernel_rfl)) (by kernel_rfl) h

/- loop.example/g01128/impl.isTriangulation -/
def ords77 : List (Nat × List (Nat × Bool)) := [(6, [(0, false), (1, false), (2, true), (3, false), (4, false), (5, false), (6, false), (7, false), (8, false), (9, false), (10, false), (11, false), (12, false), (13, false), (14, false), (15, false), (16, false), (17, false), (18, false), (19, false), (20, false), (21, false), (22, true), (23, false)])]
def cd77 : Cd := (.seq (.reg [⟨⟨some 4, Op.assign (Operand.const (Value.bool false)), none⟩, []⟩]) (.seq (.seq (.reg [⟨⟨some 7, Op.move (Operand.tmp 1), none⟩, []⟩,
  ⟨⟨some 8, Op.call { callee := (Callee.builtin Builtin.len), args := #[(Operand.tmp 7)], argTypes := #[22] }, none⟩, []⟩,
  ⟨⟨some 9, Op.move (Operand.tmp 0), none⟩, []⟩,
  ⟨⟨some 10, Op.binOp BinOp.sub 3 (Operand.tmp 9) (Operand.const (Value.int IntKind.i64 3)) 3, none⟩, []⟩,
  ⟨⟨some 11, Op.binOp BinOp.neq 3 (Operand.tmp 8) (Operand.tmp 10) 3, none⟩, []⟩]) (.cond (Operand.tmp 11) (.seq (.reg [⟨⟨some 4, Op.assign (Operand.const (Value.bool false)), none⟩, []⟩]) .ret) .skip)) (.seq (.seq (.reg [⟨⟨some 12, Op.move (Operand.tmp 1), none⟩, []⟩,
  ⟨⟨some 13, Op.call { callee := (Callee.builtin Builtin.len), args := #[(Operand.tmp 12)], argTypes := #[22] }, none⟩, []⟩,
  ⟨⟨some 14, Op.move (Operand.const (Value.int IntKind.i64 0)), none⟩, []⟩]) (.block 0 (.loop (.seq (.reg [⟨⟨some 15, Op.binOp BinOp.lss 3 (Operand.tmp 14) (Operand.tmp 13) 3, none⟩, []⟩]) (.seq (.cond (Operand.tmp 15) .skip (.exit 0)) (.seq (.block 1 (.seq (.reg [⟨⟨some 16, Op.move (Operand.tmp 14), none⟩, []⟩,
  ⟨⟨some 17, Op.indexAddr 22 (Operand.tmp 12) (Operand.tmp 14), none⟩, []⟩,
  ⟨⟨some 18, Op.load 3 (Operand.tmp 17), none⟩, []⟩,
  ⟨⟨some 6, Op.alloc 3, none⟩, []⟩,
  ⟨⟨some 5, Op.assign (Operand.tmp 16), none⟩, []⟩,
  ⟨⟨none, Op.store 3 (Operand.tmp 6) (Operand.tmp 18), none⟩, []⟩]) (.seq (.reg [⟨⟨some 19, Op.move (Operand.tmp 0), none⟩, []⟩,
  ⟨⟨some 20, Op.load 3 (Operand.tmp 6), none⟩, []⟩,
  ⟨⟨some 21, Op.call { callee := (Callee.value (Operand.func 121)), args := #[(Operand.tmp 19), (Operand.tmp 20)], argTypes := #[3, 3] }, none⟩, []⟩,
  ⟨⟨some 22, Op.unOp UnOp.not 4 (Operand.tmp 21), none⟩, []⟩,
  ⟨⟨some 23, Op.move (Operand.tmp 22), none⟩, []⟩,
  ⟨⟨some 24, Op.move (Operand.tmp 5), some (23, false)⟩, []⟩,
  ⟨⟨some 25, Op.binOp BinOp.gtr 3 (Operand.tmp 24) (Operand.const (Value.int IntKind.i64 0)) 3, some (23, false)⟩, []⟩,
  ⟨⟨some 26, Op.move (Operand.tmp 25), some (23, false)⟩, []⟩,
  ⟨⟨some 27, Op.load 3 (Operand.tmp 6), some (26, true)⟩, []⟩,
  ⟨⟨some 28, Op.move (Operand.tmp 1), some (26, true)⟩, []⟩,
  ⟨⟨some 29, Op.move (Operand.tmp 5), some (26, true)⟩, []⟩,
  ⟨⟨some 30, Op.binOp BinOp.sub 3 (Operand.tmp 29) (Operand.const (Value.int IntKind.i64 1)) 3, some (26, true)⟩, []⟩,
  ⟨⟨some 31, Op.indexAddr 22 (Operand.tmp 28) (Operand.tmp 30), some (26, true)⟩, []⟩,
  ⟨⟨some 32, Op.load 3 (Operand.tmp 31), some (26, true)⟩, []⟩,
  ⟨⟨some 33, Op.binOp BinOp.leq 3 (Operand.tmp 27) (Operand.tmp 32) 3, some (26, true)⟩, []⟩,
  ⟨⟨some 34, Op.pick (Operand.tmp 26) (Operand.tmp 33) (Operand.const (Value.bool false)), some (23, false)⟩, []⟩,
  ⟨⟨some 35, Op.pick (Operand.tmp 23) (Operand.const (Value.bool true)) (Operand.tmp 34), none⟩, []⟩,
  ⟨⟨some 36, Op.move (Operand.tmp 35), none⟩, []⟩,
  ⟨⟨some 37, Op.move (Operand.tmp 1), some (36, false)⟩, []⟩,
  ⟨⟨some 38, Op.move (Operand.tmp 5), some (36, false)⟩, []⟩,
  ⟨⟨some 39, Op.slice 22 (Operand.tmp 37) none (some (Operand.tmp 38)) none, some (36, false)⟩, []⟩,
  ⟨⟨some 40, Op.makeFunc (Fn.func 126) #[] #[(Operand.tmp 6)], some (36, false)⟩, []⟩,
  ⟨⟨some 41, Op.call { callee := (Callee.value (Operand.func 125)), args := #[(Operand.tmp 39), (Operand.tmp 40)], argTypes := #[22, 54] }, some (36, false)⟩, []⟩,
  ⟨⟨some 42, Op.pick (Operand.tmp 36) (Operand.const (Value.bool true)) (Operand.tmp 41), none⟩, []⟩]) (.cond (Operand.tmp 42) (.seq (.reg [⟨⟨some 4, Op.assign (Operand.const (Value.bool false)), none⟩, []⟩]) .ret) .skip)))) (.reg [⟨⟨some 43, Op.binOp BinOp.add 3 (Operand.tmp 14) (Operand.const (Value.int IntKind.i64 1)) 3, none⟩, []⟩,
  ⟨⟨some 14, Op.move (Operand.tmp 43), none⟩, []⟩]))))))) (.seq (.reg [⟨⟨some 4, Op.assign (Operand.const (Value.bool true)), none⟩, []⟩]) .ret))))
theorem sl77 : slim Try.f77.ntmps ords77 (Try.f77.body.getD .skip) = some cd77 := by kernel_rfl
theorem in77 {args : List Value} {H : AH} {R : Value → AH → Prop} (hl : args.length = 2) (h : ∀ (Q : Exit → Sl → AH → Prop), (∀ e s H, endA Try.prog [ResultVar.tmp 4] R e s H → Q e s H) → wpC Try.prog cd77 Q (enterA args) H) : ACalls Try.prog 77 args H R :=
  ACalls.intro (by kernel_rfl) Try.func77 rfl (by kernel_rfl) sl77 hl (of_decide_eq_true (by kernel_rfl)) (by kernel_rfl) h
end Go.Proofs.Ytahakecifgjcnaa.Ai

namespace Go.Proofs.Ytahakecifgjcnaa.Ai
open Go Go.RowKit
set_option linter.unusedVariables false
set_option linter.unusedSimpArgs false

theorem cell_new (H : AH) (vs : List Value) (t : TypeId) (ro : Bool) (i : Nat) : cellA (H ++ [.cells vs t ro]) H.length i = vs[i]? := by simp [cellA]
theorem alloc_int (H : AH) : allocA Try.prog 3 H = some (.pointer (some ⟨H.length, 0, none⟩), H ++ [.cells [.int .i64 0] 3 false]) := by kernel_rfl
theorem store_int (H : AH) (x y : Int) : storeA Try.prog 3 (.pointer (some ⟨H.length, 0, none⟩)) (.int .i64 x) (H ++ [.cells [.int .i64 y] 3 false]) = some (H ++ [.cells [.int .i64 x] 3 false]) :=
  st_new rfl (by rw [cs3]; rfl) (by rw [cs3]; decide) (by rw [cs3]; rfl)

theorem mkf_p (f : Fn) (p : Option Addr) : makeFuncA f [] [.pointer p] = some (.func f #[] (List.toArray [.pointer p])) := rfl

theorem triClos_c (d e : Int) (o : Nat) (H : AH) (hd : I64 d) (he : I64 e) (ho : cellA H o 0 = some (.int .i64 d)) : ACalls Try.prog 126 [.int .i64 e, .pointer (some ⟨o, 0, none⟩)] H fun r H' => r = .bool (decide (Crs d e)) ∧ H = H' := by
  refine in126 rfl ?_
  intro Q hQ
  simp (maxSteps := 1000000) (disch := omega) only [cd126, ho, S, S1, S2, S3, S4, ST, eq_self, ne_eq, not_true_eq_false, not_false_eq_true, and_self, true_and, and_true, reduceIte, reduceCtorEq, Nat.reduceEqDiff, Nat.reduceAdd, Nat.zero_add, Nat.add_zero, Option.map_none, Option.map_some, List.map_cons, List.map_nil, List.append_nil, List.cons_append, List.nil_append, List.getElem?_cons_zero, List.getElem?_cons_succ, List.getD_cons_zero, List.getD_cons_succ, List.getD_nil, Bool.not_true, Bool.not_false, decide_true, decide_false]
  refine CallH.by (cross_c d e H hd he) ?_
  rintro _ _ ⟨rfl, rfl⟩
  simp (maxSteps := 1000000) (disch := omega) only [S, S1, S2, S3, S4, ST, eq_self, ne_eq, not_true_eq_false, not_false_eq_true, and_self, true_and, and_true, reduceIte, reduceCtorEq, Nat.reduceEqDiff, Nat.reduceAdd, Nat.zero_add, Nat.add_zero, Option.map_none, Option.map_some, List.map_cons, List.map_nil, List.append_nil, List.cons_append, List.nil_append, List.getElem?_cons_zero, List.getElem?_cons_succ, List.getD_cons_zero, List.getD_cons_succ, List.getD_nil, Bool.not_true, Bool.not_false, decide_true, decide_false]
  refine hQ _ _ _ ?_
  simp (maxSteps := 1000000) (disch := omega) only [S, S1, S2, S3, S4, ST, eq_self, ne_eq, not_true_eq_false, not_false_eq_true, and_self, true_and, and_true, reduceIte, reduceCtorEq, Nat.reduceEqDiff, Nat.reduceAdd, Nat.zero_add, Nat.add_zero, Option.map_none, Option.map_some, List.map_cons, List.map_nil, List.append_nil, List.cons_append, List.nil_append, List.getElem?_cons_zero, List.getElem?_cons_succ, List.getD_cons_zero, List.getD_cons_succ, List.getD_nil, Bool.not_true, Bool.not_false, decide_true, decide_false]

/-- the i-th of a list goes well with those before it -/
def triOk (n : Int) (xs : List Int) (i : Nat) : Bool := decide (Diag n (xs.getD i 0)) && (decide (i = 0) || decide (xs.getD (i - 1) 0 < xs.getD i 0)) && !(xs.take i).any fun e => decide (Crs (xs.getD i 0) e)
def triI (n : Int) (xs : List Int) : Bool := decide ((xs.length : Int) = n - 3) && (List.range xs.length).all (triOk n xs)

set_option maxHeartbeats 2000000 in
theorem isTriangulation_c (n : Int) (v : Value) (xs : List Int) (H : AH) (hn : 0 ≤ n ∧ n ≤ 100) (hr : Row 3 H v xs) (hlen : xs.length ≤ 1099511627776) (hxs : ∀ y ∈ xs, I64 y) :
    ACalls Try.prog 77 [.int .i64 n, v] H fun r H' => r = .bool (triI n xs) ∧ H <+: H' := by
  refine in77 rfl ?_
  intro Q hQ
  simp (maxSteps := 1000000) (disch := omega) only [cd77, hr.len Try.underlying22, wrap64, S, S1, S2, S3, S4, ST, eq_self, ne_eq, not_true_eq_false, not_false_eq_true, and_self, true_and, and_true, reduceIte, reduceCtorEq, Nat.reduceEqDiff, Nat.reduceAdd, Nat.zero_add, Nat.add_zero, Option.map_none, Option.map_some, List.map_cons, List.map_nil, List.append_nil, List.cons_append, List.nil_append, List.getElem?_cons_zero, List.getElem?_cons_succ, List.getD_cons_zero, List.getD_cons_succ, List.getD_nil, Bool.not_true, Bool.not_false, decide_true, decide_false]
  refine brD.intro (fun g => ?_) (fun g => ?_) <;> simp (maxSteps := 1000000) (disch := omega) only [hr.len Try.underlying22, S, S1, S2, S3, S4, ST, eq_self, ne_eq, not_true_eq_false, not_false_eq_true, and_self, true_and, and_true, reduceIte, reduceCtorEq, Nat.reduceEqDiff, Nat.reduceAdd, Nat.zero_add, Nat.add_zero, Option.map_none, Option.map_some, List.map_cons, List.map_nil, List.append_nil, List.cons_append, List.nil_append, List.getElem?_cons_zero, List.getElem?_cons_succ, List.getD_cons_zero, List.getD_cons_succ, List.getD_nil, Bool.not_true, Bool.not_false, decide_true, decide_false]
  · refine hQ _ _ _ ?_
    simp (maxSteps := 1000000) (disch := omega) only [triI, g, decide_false, Bool.false_and, S, S1, S2, S3, S4, ST, eq_self, ne_eq, not_true_eq_false, not_false_eq_true, and_self, true_and, and_true, reduceIte, reduceCtorEq, Nat.reduceEqDiff, Nat.reduceAdd, Nat.zero_add, Nat.add_zero, Option.map_none, Option.map_some, List.map_cons, List.map_nil, List.append_nil, List.cons_append, List.nil_append, List.getElem?_cons_zero, List.getElem?_cons_succ, List.getD_cons_zero, List.getD_cons_succ, List.getD_nil, Bool.not_true, Bool.not_false, decide_true, decide_false]
    exact List.prefix_refl _
  · have g' : (xs.length : Int) = n - 3 := by omega
    refine LoopH.by (fun m s H' => ∃ i, m + i = xs.length ∧ s 0 = .int .i64 n ∧ s 1 = v ∧ s 12 = v ∧ s 13 = .int .i64 (xs.length : Int) ∧ s 14 = .int .i64 ((i : Nat) : Int) ∧ H <+: H' ∧ ∀ j, j < i → triOk n xs j = true) xs.length ?_ ?_
    · exact ⟨0, by simp, rfl, rfl, rfl, rfl, rfl, List.prefix_refl _, by omega⟩
    · rintro m s H' ⟨i, hm, h0, h1, h12, h13, h14, hp, hj⟩
      have hr' := hr.pre hp
      simp (maxSteps := 1000000) (disch := omega) only [h0, h1, h12, h13, h14, S, S1, S2, S3, S4, ST, eq_self, ne_eq, not_true_eq_false, not_false_eq_true, and_self, true_and, and_true, reduceIte, reduceCtorEq, Nat.reduceEqDiff, Nat.reduceAdd, Nat.zero_add, Nat.add_zero, Option.map_none, Option.map_some, List.map_cons, List.map_nil, List.append_nil, List.cons_append, List.nil_append, List.getElem?_cons_zero, List.getElem?_cons_succ, List.getD_cons_zero, List.getD_cons_succ, List.getD_nil, Bool.not_true, Bool.not_false, decide_true, decide_false]
      refine brD.intro (fun g => ?_) (fun g => ?_) <;> simp (maxSteps := 1000000) (disch := omega) only [h0, h1, h12, h13, h14, hr'.ix Try.underlying22 cs3, hr'.cell, Int.toNat_natCast, alloc_int, store_int, cell_new, S, S1, S2, S3, S4, ST, eq_self, ne_eq, not_true_eq_false, not_false_eq_true, and_self, true_and, and_true, reduceIte, reduceCtorEq, Nat.reduceEqDiff, Nat.reduceAdd, Nat.zero_add, Nat.add_zero, Option.map_none, Option.map_some, List.map_cons, List.map_nil, List.append_nil, List.cons_append, List.nil_append, List.getElem?_cons_zero, List.getElem?_cons_succ, List.getD_cons_zero, List.getD_cons_succ, List.getD_nil, Bool.not_true, Bool.not_false, decide_true, decide_false]
      · have hi : i < xs.length := by omega
        have hx : xs.getD i 0 = xs[i] := by simp [hi]
        have hI : I64 (xs.getD i 0) := by rw [hx]; exact hxs _ (List.getElem_mem hi)
        have bad : triOk n xs i = false → triI n xs = false := by
          intro hb
          have : (List.range xs.length).all (triOk n xs) = false := by
            rw [List.all_eq_false]
            exact ⟨i, List.mem_range.2 hi, by simp [hb]⟩
          simp [triI, this]
        generalize hH2 : H' ++ [AObj.cells [.int .i64 (xs.getD i 0)] 3 false] = H2
        have hr2 : Row 3 H2 v xs := hH2 ▸ hr'.pre (List.prefix_append _ _)
        have hp2 : H <+: H2 := hH2 ▸ pre_app hp _
        have hc2 : cellA H2 H'.length 0 = some (.int .i64 (xs.getD i 0)) := by rw [← hH2, cell_new]; rfl
        have hs2 := hr2.slice Try.underlying22 cs3 (lo := none) (hi := some (.int .i64 (i : Int))) lo_none (bound_some (by omega) _) (by omega) (by omega)
        have hlast : ∀ j, j < xs.length → i - 1 = j → xs.getD (i - 1) 0 = xs.getD j 0 := fun j _ e => by rw [e]
        have hpred : ((i : Int) - 1).toNat = i - 1 := by omega
        refine CallH.by (isDiagonal_c n _ _ hn hI) ?_
        rintro _ _ ⟨rfl, rfl⟩
        simp (maxSteps := 1000000) (disch := omega) only [h0, h1, h12, h13, h14, S, S1, S2, S3, S4, ST, eq_self, ne_eq, not_true_eq_false, not_false_eq_true, and_self, true_and, and_true, reduceIte, reduceCtorEq, Nat.reduceEqDiff, Nat.reduceAdd, Nat.zero_add, Nat.add_zero, Option.map_none, Option.map_some, List.map_cons, List.map_nil, List.append_nil, List.cons_append, List.nil_append, List.getElem?_cons_zero, List.getElem?_cons_succ, List.getD_cons_zero, List.getD_cons_succ, List.getD_nil, Bool.not_true, Bool.not_false, decide_true, decide_false]
        refine brD.intro (fun gd => ?_) (fun gd => ?_) <;> simp (maxSteps := 1000000) (disch := omega) only [gd, h0, h1, h12, h13, h14, wrap64, hc2, hr2.ix Try.underlying22 cs3, hr2.cell, hpred, hs2.1, mkf_p, S, S1, S2, S3, S4, ST, eq_self, ne_eq, not_true_eq_false, not_false_eq_true, and_self, true_and, and_true, reduceIte, reduceCtorEq, Nat.reduceEqDiff, Nat.reduceAdd, Nat.zero_add, Nat.add_zero, Option.map_none, Option.map_some, List.map_cons, List.map_nil, List.append_nil, List.cons_append, List.nil_append, List.getElem?_cons_zero, List.getElem?_cons_succ, List.getD_cons_zero, List.getD_cons_succ, List.getD_nil, Bool.not_true, Bool.not_false, decide_true, decide_false]
        · refine brD.intro (fun gi => ?_) (fun gi => ?_) <;> simp (maxSteps := 1000000) (disch := omega) only [gd, gi, h0, h1, h12, h13, h14, wrap64, hc2, hr2.ix Try.underlying22 cs3, hr2.cell, hpred, hs2.1, mkf_p, S, S1, S2, S3, S4, ST, eq_self, ne_eq, not_true_eq_false, not_false_eq_true, and_self, true_and, and_true, reduceIte, reduceCtorEq, Nat.reduceEqDiff, Nat.reduceAdd, Nat.zero_add, Nat.add_zero, Option.map_none, Option.map_some, List.map_cons, List.map_nil, List.append_nil, List.cons_append, List.nil_append, List.getElem?_cons_zero, List.getElem?_cons_succ, List.getD_cons_zero, List.getD_cons_succ, List.getD_nil, Bool.not_true, Bool.not_false, decide_true, decide_false]
          · refine brD.intro (fun gl => ?_) (fun gl => ?_) <;> simp (maxSteps := 1000000) (disch := omega) only [gd, gi, gl, h0, h1, h12, h13, h14, wrap64, hc2, hr2.ix Try.underlying22 cs3, hr2.cell, hpred, hs2.1, mkf_p, S, S1, S2, S3, S4, ST, eq_self, ne_eq, not_true_eq_false, not_false_eq_true, and_self, true_and, and_true, reduceIte, reduceCtorEq, Nat.reduceEqDiff, Nat.reduceAdd, Nat.zero_add, Nat.add_zero, Option.map_none, Option.map_some, List.map_cons, List.map_nil, List.append_nil, List.cons_append, List.nil_append, List.getElem?_cons_zero, List.getElem?_cons_succ, List.getD_cons_zero, List.getD_cons_succ, List.getD_nil, Bool.not_true, Bool.not_false, decide_true, decide_false]
            · refine hQ _ _ _ ?_
              simp (maxSteps := 1000000) (disch := omega) only [S, S1, S2, S3, S4, ST, eq_self, ne_eq, not_true_eq_false, not_false_eq_true, and_self, true_and, and_true, reduceIte, reduceCtorEq, Nat.reduceEqDiff, Nat.reduceAdd, Nat.zero_add, Nat.add_zero, Option.map_none, Option.map_some, List.map_cons, List.map_nil, List.append_nil, List.cons_append, List.nil_append, List.getElem?_cons_zero, List.getElem?_cons_succ, List.getD_cons_zero, List.getD_cons_succ, List.getD_nil, Bool.not_true, Bool.not_false, decide_true, decide_false]
              refine ⟨?_, hp2⟩
              rw [bad]
              have : ¬ xs.getD (i - 1) 0 < xs.getD i 0 := by omega
              simp only [triOk, gd, this, show ¬ i = 0 from by omega, decide_true, decide_false, Bool.or_false, Bool.and_false, Bool.false_and]
            · refine CallH.by (ContainsFunc_c _ _ (fun e => decide (Crs (xs.getD i 0) e)) _ _ H2 hs2.2.1 (by simp; omega) ?_) ?_
              · intro e he
                exact triClos_c _ _ _ _ hI (hxs e (List.mem_of_mem_drop (List.mem_of_mem_take he))) hc2
              rintro _ _ ⟨rfl, rfl⟩
              simp (maxSteps := 1000000) (disch := omega) only [gd, gi, gl, h0, h1, h12, h13, h14, wrap64, hc2, hr2.ix Try.underlying22 cs3, hr2.cell, hpred, hs2.1, mkf_p, S, S1, S2, S3, S4, ST, eq_self, ne_eq, not_true_eq_false, not_false_eq_true, and_self, true_and, and_true, reduceIte, reduceCtorEq, Nat.reduceEqDiff, Nat.reduceAdd, Nat.zero_add, Nat.add_zero, Option.map_none, Option.map_some, List.map_cons, List.map_nil, List.append_nil, List.cons_append, List.nil_append, List.getElem?_cons_zero, List.getElem?_cons_succ, List.getD_cons_zero, List.getD_cons_succ, List.getD_nil, Bool.not_true, Bool.not_false, decide_true, decide_false]
              refine brH.intro (fun ga => ?_) (fun ga => ?_) <;> simp (maxSteps := 1000000) (disch := omega) only [gd, gi, gl, h0, h1, h12, h13, h14, wrap64, hc2, hr2.ix Try.underlying22 cs3, hr2.cell, hpred, hs2.1, mkf_p, S, S1, S2, S3, S4, ST, eq_self, ne_eq, not_true_eq_false, not_false_eq_true, and_self, true_and, and_true, reduceIte, reduceCtorEq, Nat.reduceEqDiff, Nat.reduceAdd, Nat.zero_add, Nat.add_zero, Option.map_none, Option.map_some, List.map_cons, List.map_nil, List.append_nil, List.cons_append, List.nil_append, List.getElem?_cons_zero, List.getElem?_cons_succ, List.getD_cons_zero, List.getD_cons_succ, List.getD_nil, Bool.not_true, Bool.not_false, decide_true, decide_false]
              · refine hQ _ _ _ ?_
                simp (maxSteps := 1000000) (disch := omega) only [S, S1, S2, S3, S4, ST, eq_self, ne_eq, not_true_eq_false, not_false_eq_true, and_self, true_and, and_true, reduceIte, reduceCtorEq, Nat.reduceEqDiff, Nat.reduceAdd, Nat.zero_add, Nat.add_zero, Option.map_none, Option.map_some, List.map_cons, List.map_nil, List.append_nil, List.cons_append, List.nil_append, List.getElem?_cons_zero, List.getElem?_cons_succ, List.getD_cons_zero, List.getD_cons_succ, List.getD_nil, Bool.not_true, Bool.not_false, decide_true, decide_false]
                refine ⟨?_, hp2⟩
                rw [bad]
                simp only [Int.toNat_natCast, List.drop_zero, Nat.sub_zero] at ga
                simp only [triOk, ga, Bool.not_true, Bool.and_false]
              · refine ⟨m - 1, by omega, i + 1, by omega, by simp, hp2, ?_⟩
                intro j hjj
                by_cases e : j = i
                · subst e
                  simp only [Int.toNat_natCast, List.drop_zero, Nat.sub_zero] at ga
                  simp only [triOk, ga, gd, decide_true, Bool.true_and, Bool.not_false, Bool.and_true]
                  have : xs.getD (j - 1) 0 < xs.getD j 0 := by omega
                  simp only [this, decide_true, Bool.or_true]
                · exact hj j (by omega)
          · refine CallH.by (ContainsFunc_c _ _ (fun e => decide (Crs (xs.getD i 0) e)) _ _ H2 hs2.2.1 (by simp; omega) ?_) ?_
            · intro e he
              exact triClos_c _ _ _ _ hI (hxs e (List.mem_of_mem_drop (List.mem_of_mem_take he))) hc2
            rintro _ _ ⟨rfl, rfl⟩
            simp (maxSteps := 1000000) (disch := omega) only [gd, gi, h0, h1, h12, h13, h14, wrap64, hc2, hr2.ix Try.underlying22 cs3, hr2.cell, hpred, hs2.1, mkf_p, S, S1, S2, S3, S4, ST, eq_self, ne_eq, not_true_eq_false, not_false_eq_true, and_self, true_and, and_true, reduceIte, reduceCtorEq, Nat.reduceEqDiff, Nat.reduceAdd, Nat.zero_add, Nat.add_zero, Option.map_none, Option.map_some, List.map_cons, List.map_nil, List.append_nil, List.cons_append, List.nil_append, List.getElem?_cons_zero, List.getElem?_cons_succ, List.getD_cons_zero, List.getD_cons_succ, List.getD_nil, Bool.not_true, Bool.not_false, decide_true, decide_false]
            refine brH.intro (fun ga => ?_) (fun ga => ?_) <;> simp (maxSteps := 1000000) (disch := omega) only [gd, gi, h0, h1, h12, h13, h14, wrap64, hc2, hr2.ix Try.underlying22 cs3, hr2.cell, hpred, hs2.1, mkf_p, S, S1, S2, S3, S4, ST, eq_self, ne_eq, not_true_eq_false, not_false_eq_true, and_self, true_and, and_true, reduceIte, reduceCtorEq, Nat.reduceEqDiff, Nat.reduceAdd, Nat.zero_add, Nat.add_zero, Option.map_none, Option.map_some, List.map_cons, List.map_nil, List.append_nil, List.cons_append, List.nil_append, List.getElem?_cons_zero, List.getElem?_cons_succ, List.getD_cons_zero, List.getD_cons_succ, List.getD_nil, Bool.not_true, Bool.not_false, decide_true, decide_false]
            · refine hQ _ _ _ ?_
              simp (maxSteps := 1000000) (disch := omega) only [S, S1, S2, S3, S4, ST, eq_self, ne_eq, not_true_eq_false, not_false_eq_true, and_self, true_and, and_true, reduceIte, reduceCtorEq, Nat.reduceEqDiff, Nat.reduceAdd, Nat.zero_add, Nat.add_zero, Option.map_none, Option.map_some, List.map_cons, List.map_nil, List.append_nil, List.cons_append, List.nil_append, List.getElem?_cons_zero, List.getElem?_cons_succ, List.getD_cons_zero, List.getD_cons_succ, List.getD_nil, Bool.not_true, Bool.not_false, decide_true, decide_false]
              refine ⟨?_, hp2⟩
              rw [bad]
              simp only [Int.toNat_natCast, List.drop_zero, Nat.sub_zero] at ga
              simp only [triOk, ga, Bool.not_true, Bool.and_false]
            · refine ⟨m - 1, by omega, i + 1, by omega, by simp, hp2, ?_⟩
              intro j hjj
              by_cases e : j = i
              · subst e
                simp only [Int.toNat_natCast, List.drop_zero, Nat.sub_zero] at ga
                simp only [triOk, ga, gd, decide_true, Bool.true_and, Bool.not_false, Bool.and_true]
                simp only [show j = 0 from by omega, decide_true, Bool.true_or]
              · exact hj j (by omega)
        · refine hQ _ _ _ ?_
          simp (maxSteps := 1000000) (disch := omega) only [S, S1, S2, S3, S4, ST, eq_self, ne_eq, not_true_eq_false, not_false_eq_true, and_self, true_and, and_true, reduceIte, reduceCtorEq, Nat.reduceEqDiff, Nat.reduceAdd, Nat.zero_add, Nat.add_zero, Option.map_none, Option.map_some, List.map_cons, List.map_nil, List.append_nil, List.cons_append, List.nil_append, List.getElem?_cons_zero, List.getElem?_cons_succ, List.getD_cons_zero, List.getD_cons_succ, List.getD_nil, Bool.not_true, Bool.not_false, decide_true, decide_false]
          refine ⟨?_, hp2⟩
          rw [bad]
          simp only [triOk, gd, decide_false, Bool.false_and]
      · refine hQ _ _ _ ?_
        simp (maxSteps := 1000000) (disch := omega) only [S, S1, S2, S3, S4, ST, eq_self, ne_eq, not_true_eq_false, not_false_eq_true, and_self, true_and, and_true, reduceIte, reduceCtorEq, Nat.reduceEqDiff, Nat.reduceAdd, Nat.zero_add, Nat.add_zero, Option.map_none, Option.map_some, List.map_cons, List.map_nil, List.append_nil, List.cons_append, List.nil_append, List.getElem?_cons_zero, List.getElem?_cons_succ, List.getD_cons_zero, List.getD_cons_succ, List.getD_nil, Bool.not_true, Bool.not_false, decide_true, decide_false]
        refine ⟨?_, hp⟩
        have : (List.range xs.length).all (triOk n xs) = true := List.all_eq_true.2 fun j hj' => hj j (by have := List.mem_range.1 hj'; omega)
        simp [triI, this, g']
end Go.Proofs.Ytahakecifgjcnaa.Ai
