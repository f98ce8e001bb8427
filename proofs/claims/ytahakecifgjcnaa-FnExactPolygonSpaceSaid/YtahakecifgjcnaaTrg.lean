/- All triangulations (impl.triangulations). -/
import Derived.Test.YtahakecifgjcnaaTrgP
import Derived.Test.YtahakecifgjcnaaLst
import Derived.Test.YtahakecifgjcnaaTri
import Derived.Test.YtahakecifgjcnaaProg
import Derived.Test.YtahakecifgjcnaaAiM2
import Derived.KernelRfl
/- Slim code of this translation. By the kernel. -/
namespace Go.Proofs.Ytahakecifgjcnaa.Ai
open Go

/- loop.example/g01128/impl.triangulations$1$1 -/
def ords145 : List (Nat × List (Nat × Bool)) := []
def cd145 : Cd := (.seq (.reg [⟨⟨some 3, Op.assign (Operand.const (Value.bool false)), none⟩, []⟩]) (.seq (.reg [⟨⟨some 4, Op.load 3 (Operand.tmp 1), none⟩, []⟩,
  ⟨⟨some 5, Op.move (Operand.tmp 0), none⟩, []⟩,
  ⟨⟨some 6, Op.call { callee := (Callee.value (Operand.func 127)), args := #[(Operand.tmp 4), (Operand.tmp 5)], argTypes := #[3, 3] }, none⟩, []⟩,
  ⟨⟨some 3, Op.assign (Operand.tmp 6), none⟩, []⟩]) .ret))
theorem sl145 : slim Try.f145.ntmps ords145 (Try.f145.body.getD .skip) = some cd145 := by kernel_rfl
theorem in145 {args : List Value} {H : AH} {R : Value → AH → Prop} (hl : args.length = 2) (h : ∀ (Q : Exit → Sl → AH → Prop), (∀ e s H, endA Try.prog [ResultVar.tmp 3] R e s H → Q e s H) → wpC Try.prog cd145 Q (enterA args) H) : ACalls Try.prog 145 args H R :=
  ACalls.intro (by kernel_rfl) Try.func145 rfl (by kernel_rfl) sl145 hl (of_decide_eq_true (by kernel_rfl)) (by kernel_rfl) h

/- loop.example/g01128/impl.triangulations$1 -/
def ords144 : List (Nat × List (Nat × Bool)) := [(1, [(0, false), (1, false), (2, true), (3, false), (4, true), (5, true)])]
def cd144 : Cd := (.seq (.seq (.reg [⟨⟨some 8, Op.load 22 (Operand.tmp 1), none⟩, []⟩,
  ⟨⟨some 9, Op.call { callee := (Callee.builtin Builtin.len), args := #[(Operand.tmp 8)], argTypes := #[22] }, none⟩, []⟩,
  ⟨⟨some 10, Op.load 3 (Operand.tmp 2), none⟩, []⟩,
  ⟨⟨some 11, Op.binOp BinOp.sub 3 (Operand.tmp 10) (Operand.const (Value.int IntKind.i64 3)) 3, none⟩, []⟩,
  ⟨⟨some 12, Op.binOp BinOp.eql 3 (Operand.tmp 9) (Operand.tmp 11) 3, none⟩, []⟩]) (.cond (Operand.tmp 12) (.seq (.reg [⟨⟨some 13, Op.load 47 (Operand.tmp 3), none⟩, []⟩,
  ⟨⟨some 14, Op.load 22 (Operand.tmp 1), none⟩, []⟩,
  ⟨⟨some 15, Op.call { callee := (Callee.value (Operand.func 62)), args := #[(Operand.tmp 14)], argTypes := #[22] }, none⟩, [⟨some 13, Op.load 47 (Operand.tmp 3), none⟩]⟩,
  ⟨⟨some 16, Op.buildSlice 47 1 #[(0, (Operand.tmp 15))], none⟩, []⟩,
  ⟨⟨some 17, Op.call { callee := (Callee.builtin Builtin.append), args := #[(Operand.tmp 13), (Operand.tmp 16)], argTypes := #[47, 47] }, none⟩, []⟩,
  ⟨⟨none, Op.store 47 (Operand.tmp 3) (Operand.tmp 17), none⟩, []⟩]) .ret) .skip)) (.block 0 (.loop (.seq (.seq (.reg [⟨⟨some 18, Op.move (Operand.tmp 0), none⟩, []⟩,
  ⟨⟨some 19, Op.load 22 (Operand.tmp 4), none⟩, []⟩,
  ⟨⟨some 20, Op.call { callee := (Callee.builtin Builtin.len), args := #[(Operand.tmp 19)], argTypes := #[22] }, none⟩, []⟩,
  ⟨⟨some 21, Op.binOp BinOp.lss 3 (Operand.tmp 18) (Operand.tmp 20) 3, none⟩, []⟩]) (.cond (Operand.tmp 21) .skip (.exit 0))) (.seq (.block 1 (.seq (.reg [⟨⟨some 24, Op.load 22 (Operand.tmp 4), none⟩, []⟩,
  ⟨⟨some 25, Op.move (Operand.tmp 0), none⟩, []⟩,
  ⟨⟨some 26, Op.indexAddr 22 (Operand.tmp 24) (Operand.tmp 25), none⟩, []⟩,
  ⟨⟨some 27, Op.load 3 (Operand.tmp 26), none⟩, []⟩,
  ⟨⟨some 7, Op.alloc 3, none⟩, []⟩,
  ⟨⟨none, Op.store 3 (Operand.tmp 7) (Operand.tmp 27), none⟩, []⟩]) (.seq (.reg [⟨⟨some 28, Op.load 22 (Operand.tmp 1), none⟩, []⟩,
  ⟨⟨some 29, Op.makeFunc (Fn.func 145) #[] #[(Operand.tmp 7)], none⟩, []⟩,
  ⟨⟨some 30, Op.call { callee := (Callee.value (Operand.func 125)), args := #[(Operand.tmp 28), (Operand.tmp 29)], argTypes := #[22, 54] }, none⟩, []⟩,
  ⟨⟨some 31, Op.unOp UnOp.not 4 (Operand.tmp 30), none⟩, []⟩]) (.cond (Operand.tmp 31) (.seq (.reg [⟨⟨some 32, Op.load 22 (Operand.tmp 1), none⟩, []⟩,
  ⟨⟨some 33, Op.load 3 (Operand.tmp 7), none⟩, []⟩,
  ⟨⟨some 34, Op.buildSlice 22 1 #[(0, (Operand.tmp 33))], none⟩, []⟩,
  ⟨⟨some 35, Op.call { callee := (Callee.builtin Builtin.append), args := #[(Operand.tmp 32), (Operand.tmp 34)], argTypes := #[22, 22] }, none⟩, []⟩,
  ⟨⟨none, Op.store 22 (Operand.tmp 1) (Operand.tmp 35), none⟩, []⟩]) (.seq (.reg [⟨⟨some 36, Op.load 121 (Operand.tmp 5), none⟩, []⟩,
  ⟨⟨some 37, Op.move (Operand.tmp 0), none⟩, []⟩,
  ⟨⟨some 38, Op.binOp BinOp.add 3 (Operand.tmp 37) (Operand.const (Value.int IntKind.i64 1)) 3, none⟩, []⟩,
  ⟨⟨some 39, Op.call { callee := (Callee.value (Operand.tmp 36)), args := #[(Operand.tmp 38)], argTypes := #[3] }, none⟩, []⟩]) (.reg [⟨⟨some 40, Op.load 22 (Operand.tmp 1), none⟩, []⟩,
  ⟨⟨some 41, Op.load 22 (Operand.tmp 1), none⟩, []⟩,
  ⟨⟨some 42, Op.call { callee := (Callee.builtin Builtin.len), args := #[(Operand.tmp 41)], argTypes := #[22] }, none⟩, []⟩,
  ⟨⟨some 43, Op.binOp BinOp.sub 3 (Operand.tmp 42) (Operand.const (Value.int IntKind.i64 1)) 3, none⟩, []⟩,
  ⟨⟨some 44, Op.slice 22 (Operand.tmp 40) none (some (Operand.tmp 43)) none, none⟩, []⟩,
  ⟨⟨none, Op.store 22 (Operand.tmp 1) (Operand.tmp 44), none⟩, []⟩]))) .skip)))) (.reg [⟨⟨some 22, Op.move (Operand.tmp 0), none⟩, []⟩,
  ⟨⟨some 23, Op.binOp BinOp.add 3 (Operand.tmp 22) (Operand.const (Value.int IntKind.i64 1)) 3, none⟩, []⟩,
  ⟨⟨some 0, Op.assign (Operand.tmp 23), none⟩, []⟩]))))))
theorem sl144 : slim Try.f144.ntmps ords144 (Try.f144.body.getD .skip) = some cd144 := by kernel_rfl
theorem in144 {args : List Value} {H : AH} {R : Value → AH → Prop} (hl : args.length = 6) (h : ∀ (Q : Exit → Sl → AH → Prop), (∀ e s H, endA Try.prog [] R e s H → Q e s H) → wpC Try.prog cd144 Q (enterA args) H) : ACalls Try.prog 144 args H R :=
  ACalls.intro (by kernel_rfl) Try.func144 rfl (by kernel_rfl) sl144 hl (of_decide_eq_true (by kernel_rfl)) (by kernel_rfl) h

/- loop.example/g01128/impl.triangulations -/
def ords90 : List (Nat × List (Nat × Bool)) := []
def cd90 : Cd := (.seq (.reg [⟨⟨some 1, Op.box 3 (Operand.tmp 0), none⟩, []⟩,
  ⟨⟨some 2, Op.assign (Operand.const (Value.slice none 0 0)), none⟩, []⟩]) (.seq (.reg [⟨⟨some 7, Op.buildSlice 47 0 #[], none⟩, []⟩,
  ⟨⟨some 8, Op.load 3 (Operand.tmp 1), none⟩, []⟩,
  ⟨⟨some 9, Op.call { callee := (Callee.value (Operand.func 74)), args := #[(Operand.tmp 8)], argTypes := #[3] }, none⟩, []⟩,
  ⟨⟨some 10, Op.buildSlice 22 0 #[], none⟩, []⟩,
  ⟨⟨some 3, Op.alloc 47, none⟩, []⟩,
  ⟨⟨some 4, Op.alloc 22, none⟩, []⟩,
  ⟨⟨some 5, Op.alloc 22, none⟩, []⟩,
  ⟨⟨none, Op.store 47 (Operand.tmp 3) (Operand.tmp 7), none⟩, []⟩,
  ⟨⟨none, Op.store 22 (Operand.tmp 4) (Operand.tmp 9), none⟩, []⟩,
  ⟨⟨none, Op.store 22 (Operand.tmp 5) (Operand.tmp 10), none⟩, []⟩]) (.seq (.reg [⟨⟨some 6, Op.alloc 121, none⟩, []⟩]) (.seq (.reg [⟨⟨some 11, Op.makeFunc (Fn.func 144) #[] #[(Operand.tmp 5), (Operand.tmp 1), (Operand.tmp 3), (Operand.tmp 4), (Operand.tmp 6)], none⟩, []⟩,
  ⟨⟨none, Op.store 121 (Operand.tmp 6) (Operand.tmp 11), none⟩, []⟩]) (.seq (.reg [⟨⟨some 12, Op.load 121 (Operand.tmp 6), none⟩, []⟩,
  ⟨⟨some 13, Op.call { callee := (Callee.value (Operand.tmp 12)), args := #[(Operand.const (Value.int IntKind.i64 0))], argTypes := #[3] }, none⟩, []⟩]) (.seq (.reg [⟨⟨some 14, Op.load 47 (Operand.tmp 3), none⟩, []⟩,
  ⟨⟨some 2, Op.assign (Operand.tmp 14), none⟩, []⟩]) .ret))))))
theorem sl90 : slim Try.f90.ntmps ords90 (Try.f90.body.getD .skip) = some cd90 := by kernel_rfl
theorem in90 {args : List Value} {H : AH} {R : Value → AH → Prop} (hl : args.length = 1) (h : ∀ (Q : Exit → Sl → AH → Prop), (∀ e s H, endA Try.prog [ResultVar.tmp 2] R e s H → Q e s H) → wpC Try.prog cd90 Q (enterA args) H) : ACalls Try.prog 90 args H R :=
  ACalls.intro (by kernel_rfl) Try.func90 rfl (by kernel_rfl) sl90 hl (of_decide_eq_true (by kernel_rfl)) (by kernel_rfl) h
end Go.Proofs.Ytahakecifgjcnaa.Ai

namespace Go.Proofs.Ytahakecifgjcnaa.Ai
open Go Go.RowKit
set_option linter.unusedVariables false
set_option linter.unusedSimpArgs false

theorem agT : isAggA Try.prog 121 = some false := by kernel_rfl
theorem csT : Try.prog.cellsOf 121 = 1 := by kernel_rfl
theorem alloc_iT (H : AH) : allocA Try.prog 3 H = some (.pointer (some ⟨H.length, 0, none⟩), H ++ [.cells [.int .i64 0] 3 false]) := by kernel_rfl
theorem alloc_slT (H : AH) : allocA Try.prog 22 H = some (.pointer (some ⟨H.length, 0, none⟩), H ++ [.cells [.slice none 0 0] 22 false]) := by kernel_rfl
theorem alloc_llT (H : AH) : allocA Try.prog 47 H = some (.pointer (some ⟨H.length, 0, none⟩), H ++ [.cells [.slice none 0 0] 47 false]) := by kernel_rfl
theorem alloc_fT (H : AH) : allocA Try.prog 121 H = some (.pointer (some ⟨H.length, 0, none⟩), H ++ [.cells [.nilFunc] 121 false]) := by kernel_rfl
theorem box_iT (H : AH) (k : Int) : boxA Try.prog 3 (.int .i64 k) H = some (.pointer (some ⟨H.length, 0, none⟩), H ++ [.cells [.int .i64 k] 3 false]) := by kernel_rfl
theorem mkf_1T (f : Fn) (p : Option Addr) : makeFuncA f [] [.pointer p] = some (.func f #[] (List.toArray [.pointer p])) := rfl
theorem mkf_5T (f : Fn) (p q r t u : Option Addr) : makeFuncA f [] [.pointer p, .pointer q, .pointer r, .pointer t, .pointer u] = some (.func f #[] (List.toArray [.pointer p, .pointer q, .pointer r, .pointer t, .pointer u])) := rfl

theorem crsClos_c (d e : Int) (o : Nat) (H : AH) (hd : I64 d) (he : I64 e) (ho : cellA H o 0 = some (.int .i64 d)) : ACalls Try.prog 145 [.int .i64 e, .pointer (some ⟨o, 0, none⟩)] H fun r H' => r = .bool (decide (Crs d e)) ∧ H = H' := by
  refine in145 rfl ?_
  intro Q hQ
  simp (maxSteps := 1000000) (disch := omega) only [cd145, ho, S, S1, S2, S3, S4, ST, eq_self, ne_eq, not_true_eq_false, not_false_eq_true, and_self, true_and, and_true, reduceIte, reduceCtorEq, Nat.reduceEqDiff, Nat.reduceAdd, Nat.zero_add, Nat.add_zero, Option.map_none, Option.map_some, List.map_cons, List.map_nil, List.append_nil, List.cons_append, List.nil_append, List.getElem?_cons_zero, List.getElem?_cons_succ, List.getD_cons_zero, List.getD_cons_succ, List.getD_nil, Bool.not_true, Bool.not_false, decide_true, decide_false]
  refine CallH.by (cross_c d e H hd he) ?_
  rintro _ _ ⟨rfl, rfl⟩
  simp (maxSteps := 1000000) (disch := omega) only [S, S1, S2, S3, S4, ST, eq_self, ne_eq, not_true_eq_false, not_false_eq_true, and_self, true_and, and_true, reduceIte, reduceCtorEq, Nat.reduceEqDiff, Nat.reduceAdd, Nat.zero_add, Nat.add_zero, Option.map_none, Option.map_some, List.map_cons, List.map_nil, List.append_nil, List.cons_append, List.nil_append, List.getElem?_cons_zero, List.getElem?_cons_succ, List.getD_cons_zero, List.getD_cons_succ, List.getD_nil, Bool.not_true, Bool.not_false, decide_true, decide_false]
  refine hQ _ _ _ ?_
  simp (maxSteps := 1000000) (disch := omega) only [S, S1, S2, S3, S4, ST, eq_self, ne_eq, not_true_eq_false, not_false_eq_true, and_self, true_and, and_true, reduceIte, reduceCtorEq, Nat.reduceEqDiff, Nat.reduceAdd, Nat.zero_add, Nat.add_zero, Option.map_none, Option.map_some, List.map_cons, List.map_nil, List.append_nil, List.cons_append, List.nil_append, List.getElem?_cons_zero, List.getElem?_cons_succ, List.getD_cons_zero, List.getD_cons_succ, List.getD_nil, Bool.not_true, Bool.not_false, decide_true, decide_false]

/-- what stays in the walk -/
abbrev trgFx (n : Int) (all : List Int) (pn pa oa pf pl po : Nat) : List (Nat × AObj) :=
  [(pn, .cells [.int .i64 n] 3 false), (pa, .cells [.slice (some ⟨oa, 0, none⟩) all.length all.length] 22 false), (oa, .cells (ints all) 3 false),
   (pf, .cells [.func (.func 144) #[] (List.toArray [.pointer (some ⟨pl, 0, none⟩), .pointer (some ⟨pn, 0, none⟩), .pointer (some ⟨po, 0, none⟩), .pointer (some ⟨pa, 0, none⟩), .pointer (some ⟨pf, 0, none⟩)])] 121 false)]

set_option maxRecDepth 20000 in
set_option maxHeartbeats 4000000 in
theorem trg_c {HB : AH} (n : Int) (h : Nat) (hn : n - 3 = (h : Int)) (hh : h ≤ 100) (all : List Int) (hN : all.length ≤ 28) (hall : ∀ y ∈ all, 0 ≤ y ∧ y ≤ 100) (pn pa oa pf pl po : Nat) :
    ∀ (k : Nat) (ed : List Int) (out : List (List Int)) (F : Nat → Prop) (H : AH), k ≤ all.length → ed.length + k ≤ all.length → (∀ y ∈ ed, 0 ≤ y ∧ y ≤ 100) → out.length + 2 ^ k ≤ 1000000000 → IOut HB po out F H → LSt HB (trgFx n all pn pa oa pf pl po) pl F H ed →
      ACalls Try.prog 144 [.int .i64 ((all.length - k : Nat) : Int), .pointer (some ⟨pl, 0, none⟩), .pointer (some ⟨pn, 0, none⟩), .pointer (some ⟨po, 0, none⟩), .pointer (some ⟨pa, 0, none⟩), .pointer (some ⟨pf, 0, none⟩)] H fun r H' =>
        ∃ F', IOut HB po (out ++ tex all h k ed) F' H' ∧ LSt HB (trgFx n all pn pa oa pf pl po) pl F' H' ed := by
  intro k
  induction k using Nat.strongRecOn with
  | ind k ih =>
  intro ed out F H hk hek hed hout hO hL
  refine in144 rfl ?_
  intro Q hQ
  have f1 : ∀ {F H}, LSt HB (trgFx n all pn pa oa pf pl po) pl F H ed → cellA H pn 0 = some (.int .i64 n) := fun h => cell_of (h.fix (pn, _) (.head _)).1 0
  obtain ⟨w, hw1, hw2, hw3, hw4⟩ := hL.row
  have hpos : 1 ≤ 2 ^ k := Nat.one_le_two_pow
  simp (maxSteps := 1000000) (disch := omega) only [cd144, hw1, hw2.len Try.underlying22, f1 hL, wrap64, S, S1, S2, S3, S4, ST, eq_self, ne_eq, not_true_eq_false, not_false_eq_true, and_self, true_and, and_true, reduceIte, reduceCtorEq, Nat.reduceEqDiff, Nat.reduceAdd, Nat.zero_add, Nat.add_zero, Option.map_none, Option.map_some, List.map_cons, List.map_nil, List.append_nil, List.cons_append, List.nil_append, List.getElem?_cons_zero, List.getElem?_cons_succ, List.getD_cons_zero, List.getD_cons_succ, List.getD_nil, Bool.not_true, Bool.not_false, decide_true, decide_false]
  refine brD.intro (fun g => ?_) (fun g => ?_)
  · have hel : ed.length = h := by omega
    have ht : tex all h k ed = [ed] := by unfold tex; rw [if_pos hel]
    rw [ht] at hQ
    have hO1 := hO
    obtain ⟨o, us, hpo, _⟩ := hO1
    simp (maxSteps := 1000000) (disch := omega) only [cell_of hpo, hw1, S, S1, S2, S3, S4, ST, eq_self, ne_eq, not_true_eq_false, not_false_eq_true, and_self, true_and, and_true, reduceIte, reduceCtorEq, Nat.reduceEqDiff, Nat.reduceAdd, Nat.zero_add, Nat.add_zero, Option.map_none, Option.map_some, List.map_cons, List.map_nil, List.append_nil, List.cons_append, List.nil_append, List.getElem?_cons_zero, List.getElem?_cons_succ, List.getD_cons_zero, List.getD_cons_succ, List.getD_nil, Bool.not_true, Bool.not_false, decide_true, decide_false]
    refine CallH.by (Clone_c w ed H hw2 (by omega)) ?_
    rintro c C ⟨hc, pC⟩
    obtain ⟨w2, H3, H4, p0, p1, p2, p3, p4, F', hO4, hF4, hk4⟩ := hO.push hL.pre pC hc (by omega)
    have hww := p0.symm.trans (cell_of hpo 0)
    simp only [List.getElem?_cons_zero, Option.some.injEq, Value.slice.injEq] at hww
    obtain ⟨hww, _, _⟩ := hww
    subst hww
    simp (maxSteps := 1000000) (disch := omega) only [p1, p2, p3, p4, S, S1, S2, S3, S4, ST, eq_self, ne_eq, not_true_eq_false, not_false_eq_true, and_self, true_and, and_true, reduceIte, reduceCtorEq, Nat.reduceEqDiff, Nat.reduceAdd, Nat.zero_add, Nat.add_zero, Option.map_none, Option.map_some, List.map_cons, List.map_nil, List.append_nil, List.cons_append, List.nil_append, List.getElem?_cons_zero, List.getElem?_cons_succ, List.getD_cons_zero, List.getD_cons_succ, List.getD_nil, Bool.not_true, Bool.not_false, decide_true, decide_false]
    refine hQ _ _ _ ?_
    simp (maxSteps := 1000000) (disch := omega) only [S, S1, S2, S3, S4, ST, eq_self, ne_eq, not_true_eq_false, not_false_eq_true, and_self, true_and, and_true, reduceIte, reduceCtorEq, Nat.reduceEqDiff, Nat.reduceAdd, Nat.zero_add, Nat.add_zero, Option.map_none, Option.map_some, List.map_cons, List.map_nil, List.append_nil, List.cons_append, List.nil_append, List.getElem?_cons_zero, List.getElem?_cons_succ, List.getD_cons_zero, List.getD_cons_succ, List.getD_nil, Bool.not_true, Bool.not_false, decide_true, decide_false]
    exact ⟨F', hO4, hL.cb (fun o ho => (hO.live ho).2) hF4 hk4⟩
  have hel : ed.length ≠ h := by omega
  have ht : tex all h k ed = tlp all h k ed := by unfold tex; rw [if_neg hel]
  rw [ht] at hQ
  simp (maxSteps := 1000000) (disch := omega) only [g, S, S1, S2, S3, S4, ST, eq_self, ne_eq, not_true_eq_false, not_false_eq_true, and_self, true_and, and_true, reduceIte, reduceCtorEq, Nat.reduceEqDiff, Nat.reduceAdd, Nat.zero_add, Nat.add_zero, Option.map_none, Option.map_some, List.map_cons, List.map_nil, List.append_nil, List.cons_append, List.nil_append, List.getElem?_cons_zero, List.getElem?_cons_succ, List.getD_cons_zero, List.getD_cons_succ, List.getD_nil, Bool.not_true, Bool.not_false, decide_true, decide_false]
  refine LoopH.by (fun m s H' => ∃ out' F', m ≤ k ∧ s 0 = .int .i64 ((all.length - m : Nat) : Int) ∧ s 1 = .pointer (some ⟨pl, 0, none⟩) ∧ s 2 = .pointer (some ⟨pn, 0, none⟩) ∧ s 3 = .pointer (some ⟨po, 0, none⟩) ∧ s 4 = .pointer (some ⟨pa, 0, none⟩) ∧ s 5 = .pointer (some ⟨pf, 0, none⟩) ∧ out'.length + 2 ^ m ≤ 1000000000 ∧ out' ++ tlp all h m ed = out ++ tlp all h k ed ∧ IOut HB po out' F' H' ∧ LSt HB (trgFx n all pn pa oa pf pl po) pl F' H' ed) k ?_ ?_
  · exact ⟨out, F, Nat.le_refl _, rfl, rfl, rfl, rfl, rfl, rfl, hout, rfl, hO, hL⟩
  rintro m s H' ⟨out', F', hmk, h0, h1, h2, h3, h4, h5, hcnt, hout', hO', hL'⟩
  have fa : ∀ {F H}, LSt HB (trgFx n all pn pa oa pf pl po) pl F H ed → H[pa]? = some (.cells [.slice (some ⟨oa, 0, none⟩) all.length all.length] 22 false) := fun h => (h.fix (pa, _) (.tail _ (.head _))).1
  have foa : ∀ {F H}, LSt HB (trgFx n all pn pa oa pf pl po) pl F H ed → H[oa]? = some (.cells (ints all) 3 false) := fun h => (h.fix (oa, _) (.tail _ (.tail _ (.head _)))).1
  simp (maxSteps := 1000000) (disch := omega) only [h0, h1, h2, h3, h4, h5, cell_of (fa hL'), S, S1, S2, S3, S4, ST, eq_self, ne_eq, not_true_eq_false, not_false_eq_true, and_self, true_and, and_true, reduceIte, reduceCtorEq, Nat.reduceEqDiff, Nat.reduceAdd, Nat.zero_add, Nat.add_zero, Option.map_none, Option.map_some, List.map_cons, List.map_nil, List.append_nil, List.cons_append, List.nil_append, List.getElem?_cons_zero, List.getElem?_cons_succ, List.getD_cons_zero, List.getD_cons_succ, List.getD_nil, Bool.not_true, Bool.not_false, decide_true, decide_false]
  refine brD.intro (fun g2 => ?_) (fun g2 => ?_)
  rotate_left
  · have hm0 : m = 0 := by omega
    subst hm0
    simp (maxSteps := 1000000) (disch := omega) only [S, S1, S2, S3, S4, ST, eq_self, ne_eq, not_true_eq_false, not_false_eq_true, and_self, true_and, and_true, reduceIte, reduceCtorEq, Nat.reduceEqDiff, Nat.reduceAdd, Nat.zero_add, Nat.add_zero, Option.map_none, Option.map_some, List.map_cons, List.map_nil, List.append_nil, List.cons_append, List.nil_append, List.getElem?_cons_zero, List.getElem?_cons_succ, List.getD_cons_zero, List.getD_cons_succ, List.getD_nil, Bool.not_true, Bool.not_false, decide_true, decide_false]
    refine hQ _ _ _ ?_
    simp (maxSteps := 1000000) (disch := omega) only [S, S1, S2, S3, S4, ST, eq_self, ne_eq, not_true_eq_false, not_false_eq_true, and_self, true_and, and_true, reduceIte, reduceCtorEq, Nat.reduceEqDiff, Nat.reduceAdd, Nat.zero_add, Nat.add_zero, Option.map_none, Option.map_some, List.map_cons, List.map_nil, List.append_nil, List.cons_append, List.nil_append, List.getElem?_cons_zero, List.getElem?_cons_succ, List.getD_cons_zero, List.getD_cons_succ, List.getD_nil, Bool.not_true, Bool.not_false, decide_true, decide_false]
    rw [← hout']
    simp only [tlp, List.append_nil]
    exact ⟨F', hO', hL'⟩
  obtain ⟨i, rfl⟩ : ∃ i, m = i + 1 := ⟨m - 1, by omega⟩
  have hei : all.length - (i + 1) < all.length := by omega
  have he1 : ((all.length - (i + 1) : Nat) : Int) + 1 = ((all.length - i : Nat) : Int) := by omega
  have hstep := tlp_step all h i ed
  have hP : 2 ^ (i + 1) = 2 ^ i + 2 ^ i := by rw [Nat.pow_succ]; omega
  have hpi : 1 ≤ 2 ^ i := Nat.one_le_two_pow
  generalize he : all.length - (i + 1) = e at *
  have hdm : all.getD e 0 ∈ all := by simp [hei]
  have hdr := hall _ hdm
  generalize hd : all.getD e 0 = d at *
  have hca := cell_ints (foa hL') hei
  rw [hd] at hca
  have st0 := st_at (P := Try.prog) (t := 3) (i := 0) (y := .int .i64 d) cs3 (at_new H' (.cells [.int .i64 0] 3 false)) (by show 0 < 1; decide) rfl rfl
  rw [set_new, List.set_cons_zero] at st0
  simp (maxSteps := 1000000) (disch := omega) only [h0, h1, h2, h3, h4, h5, cell_of (fa hL'), Int.toNat_natCast, Nat.zero_add, hca, alloc_iT, st0, S, S1, S2, S3, S4, ST, eq_self, ne_eq, not_true_eq_false, not_false_eq_true, and_self, true_and, and_true, reduceIte, reduceCtorEq, Nat.reduceEqDiff, Nat.reduceAdd, Nat.zero_add, Nat.add_zero, Option.map_none, Option.map_some, List.map_cons, List.map_nil, List.append_nil, List.cons_append, List.nil_append, List.getElem?_cons_zero, List.getElem?_cons_succ, List.getD_cons_zero, List.getD_cons_succ, List.getD_nil, Bool.not_true, Bool.not_false, decide_true, decide_false]
  generalize hG : H' ++ [AObj.cells [.int .i64 d] 3 false] = G
  have pG : H' <+: G := by rw [← hG]; exact List.prefix_append _ _
  have cG : G[H'.length]? = some (.cells [.int .i64 d] 3 false) := by rw [← hG]; exact at_new ..
  have hlv : ∀ o, F' o → HB.length ≤ o := fun o ho => (hO'.live ho).2
  have hLG := hL'.grow hlv pG
  have hOG := hO'.keep (fun o y _ hy => pre_at pG hy)
  obtain ⟨w', hw1', hw2', hw3', hw4'⟩ := hLG.row
  simp (maxSteps := 1000000) (disch := omega) only [h0, h1, h2, h3, h4, h5, hw1', mkf_1T, S, S1, S2, S3, S4, ST, eq_self, ne_eq, not_true_eq_false, not_false_eq_true, and_self, true_and, and_true, reduceIte, reduceCtorEq, Nat.reduceEqDiff, Nat.reduceAdd, Nat.zero_add, Nat.add_zero, Option.map_none, Option.map_some, List.map_cons, List.map_nil, List.append_nil, List.cons_append, List.nil_append, List.getElem?_cons_zero, List.getElem?_cons_succ, List.getD_cons_zero, List.getD_cons_succ, List.getD_nil, Bool.not_true, Bool.not_false, decide_true, decide_false]
  refine CallH.by (ContainsFunc_c w' ed (fun y => decide (Crs d y)) 145 [.pointer (some ⟨H'.length, 0, none⟩)] G hw2' (by omega) (fun y hy => crsClos_c d y H'.length G ⟨by omega, by omega⟩ (by have := hed y hy; exact ⟨by omega, by omega⟩) (cell_of cG 0))) ?_
  rintro _ _ ⟨rfl, rfl⟩
  have hap := apB_comm ed d
  simp (maxSteps := 1000000) (disch := omega) only [S, S1, S2, S3, S4, ST, eq_self, ne_eq, not_true_eq_false, not_false_eq_true, and_self, true_and, and_true, reduceIte, reduceCtorEq, Nat.reduceEqDiff, Nat.reduceAdd, Nat.zero_add, Nat.add_zero, Option.map_none, Option.map_some, List.map_cons, List.map_nil, List.append_nil, List.cons_append, List.nil_append, List.getElem?_cons_zero, List.getElem?_cons_succ, List.getD_cons_zero, List.getD_cons_succ, List.getD_nil, Bool.not_true, Bool.not_false, decide_true, decide_false]
  refine brH.intro (fun q => ?_) (fun q => ?_)
  · have hno : ¬ apB ed d = true := by rw [← hap, q]; decide
    rw [if_neg hno, List.nil_append] at hstep
    rw [hstep] at hout'
    have f2 : out'.length + 2 ^ i ≤ 1000000000 := by omega
    simp (maxSteps := 1000000) (disch := omega) only [q, h0, h1, h2, h3, h4, h5, he1, wrap64, S, S1, S2, S3, S4, ST, eq_self, ne_eq, not_true_eq_false, not_false_eq_true, and_self, true_and, and_true, reduceIte, reduceCtorEq, Nat.reduceEqDiff, Nat.reduceAdd, Nat.zero_add, Nat.add_zero, Option.map_none, Option.map_some, List.map_cons, List.map_nil, List.append_nil, List.cons_append, List.nil_append, List.getElem?_cons_zero, List.getElem?_cons_succ, List.getD_cons_zero, List.getD_cons_succ, List.getD_nil, Bool.not_true, Bool.not_false, decide_true, decide_false]
    refine ⟨i, by omega, out', F', by omega, ?_⟩
    (repeat' first | exact f2 | exact hout' | exact hOG | exact hLG | apply And.intro) <;> first | (simp only [Value.int.injEq, true_and]; omega) | omega | rfl | assumption | (simp; done) | (simp; omega)
  · have hyes : apB ed d = true := by rw [← hap, q]; rfl
    rw [if_pos hyes] at hstep
    obtain ⟨w3, H2, H3, p1, p2, p3, hL3, hk3, hl3, _⟩ := hLG.push (fun o ho => (hOG.live ho).1) (by omega) d
    have hO3 := hOG.keep hk3
    have hff : H3[pf]? = some (.cells [.func (.func 144) #[] (List.toArray [.pointer (some ⟨pl, 0, none⟩), .pointer (some ⟨pn, 0, none⟩), .pointer (some ⟨po, 0, none⟩), .pointer (some ⟨pa, 0, none⟩), .pointer (some ⟨pf, 0, none⟩)])] 121 false) := (hL3.fix (pf, _) (.tail _ (.tail _ (.tail _ (.head _))))).1
    simp (maxSteps := 1000000) (disch := omega) only [q, h0, h1, h2, h3, h4, h5, p1, cell_of cG, p2, p3, ld_one agT, cell_of hff, he1, wrap64, S, S1, S2, S3, S4, ST, eq_self, ne_eq, not_true_eq_false, not_false_eq_true, and_self, true_and, and_true, reduceIte, reduceCtorEq, Nat.reduceEqDiff, Nat.reduceAdd, Nat.zero_add, Nat.add_zero, Option.map_none, Option.map_some, List.map_cons, List.map_nil, List.append_nil, List.cons_append, List.nil_append, List.getElem?_cons_zero, List.getElem?_cons_succ, List.getD_cons_zero, List.getD_cons_succ, List.getD_nil, Bool.not_true, Bool.not_false, decide_true, decide_false]
    refine CallH.by (ih i (by omega) (ed ++ [d]) out' F' H3 (by omega) (by simp; omega) (fun y hy => by
      rcases List.mem_append.1 hy with hy | hy
      · exact hed y hy
      · simp at hy; rw [hy]; exact hdr) (by omega) hO3 hL3) ?_
    rintro _ H4 ⟨F4, hO4, hL4⟩
    obtain ⟨w4, c4, r1, r2, H5, r3, hL5, hk5, hl5⟩ := hL4.pop
    have hO5 := hO4.keep hk5
    have htl : (tex all h i (ed ++ [d])).length ≤ 2 ^ i := by
      unfold tex
      split
      · simp; exact hpi
      · have := tex_len all h i (ed ++ [d]); omega
    have f2 : (out' ++ tex all h i (ed ++ [d])).length + 2 ^ i ≤ 1000000000 := by rw [List.length_append]; omega
    have f3 : (out' ++ tex all h i (ed ++ [d])) ++ tlp all h i ed = out ++ tlp all h k ed := by rw [← hout', hstep, List.append_assoc]
    have hcl : ((ed.length + 1 : Nat) : Int) - 1 = (ed.length : Int) := by omega
    simp (maxSteps := 1000000) (disch := omega) only [h0, h1, h2, h3, h4, h5, r1, hcl, r2, r3, he1, wrap64, S, S1, S2, S3, S4, ST, eq_self, ne_eq, not_true_eq_false, not_false_eq_true, and_self, true_and, and_true, reduceIte, reduceCtorEq, Nat.reduceEqDiff, Nat.reduceAdd, Nat.zero_add, Nat.add_zero, Option.map_none, Option.map_some, List.map_cons, List.map_nil, List.append_nil, List.cons_append, List.nil_append, List.getElem?_cons_zero, List.getElem?_cons_succ, List.getD_cons_zero, List.getD_cons_succ, List.getD_nil, Bool.not_true, Bool.not_false, decide_true, decide_false]
    refine ⟨i, by omega, out' ++ tex all h i (ed ++ [d]), F4, by omega, ?_⟩
    (repeat' first | exact f2 | exact f3 | exact hO5 | exact hL5 | apply And.intro) <;> first | (simp only [Value.int.injEq, true_and]; omega) | omega | rfl | assumption | (simp; done) | (simp; omega)

set_option maxRecDepth 20000 in
set_option maxHeartbeats 2000000 in
theorem triangulations_c (n : Int) (H : AH) (hn : 3 ≤ n ∧ n ≤ 8) (hdg : dgI n 100 = dgs n n.toNat) :
    ACalls Try.prog 90 [.int .i64 n] H fun r H' => InL H.length H'.length 22 3 H' r (triA n) ∧ H <+: H' := by
  obtain ⟨hk1, hk2, hk3, hk4, hk5, hk6⟩ := triA_ok hn
  refine in90 rfl ?_
  intro Q hQ
  simp (maxSteps := 1000000) (disch := omega) only [cd90, box_iT, S, S1, S2, S3, S4, ST, eq_self, ne_eq, not_true_eq_false, not_false_eq_true, and_self, true_and, and_true, reduceIte, reduceCtorEq, Nat.reduceEqDiff, Nat.reduceAdd, Nat.zero_add, Nat.add_zero, Option.map_none, Option.map_some, List.map_cons, List.map_nil, List.append_nil, List.cons_append, List.nil_append, List.getElem?_cons_zero, List.getElem?_cons_succ, List.getD_cons_zero, List.getD_cons_succ, List.getD_nil, Bool.not_true, Bool.not_false, decide_true, decide_false]
  generalize hA : H ++ [AObj.cells [.int .i64 n] 3 false] = A
  have pA : H <+: A := by rw [← hA]; exact List.prefix_append _ _
  have cA : A[H.length]? = some (.cells [.int .i64 n] 3 false) := by rw [← hA]; exact at_new ..
  generalize hB : A ++ [AObj.cells [] 22 false] = B
  have pB : A <+: B := by rw [← hB]; exact List.prefix_append _ _
  have cB : B[A.length]? = some (.cells [] 22 false) := by rw [← hB]; exact at_new ..
  have cBA := pre_at pB cA
  simp (maxSteps := 1000000) (disch := omega) only [cell_of cBA, S, S1, S2, S3, S4, ST, eq_self, ne_eq, not_true_eq_false, not_false_eq_true, and_self, true_and, and_true, reduceIte, reduceCtorEq, Nat.reduceEqDiff, Nat.reduceAdd, Nat.zero_add, Nat.add_zero, Option.map_none, Option.map_some, List.map_cons, List.map_nil, List.append_nil, List.cons_append, List.nil_append, List.getElem?_cons_zero, List.getElem?_cons_succ, List.getD_cons_zero, List.getD_cons_succ, List.getD_nil, Bool.not_true, Bool.not_false, decide_true, decide_false]
  refine CallH.by (diagonals_c n B (by omega)) ?_
  rintro _ C ⟨⟨oa, rfl, hoa, hca⟩, pC⟩
  rw [hdg] at hca ⊢
  generalize hall : dgs n n.toNat = all at *
  simp (maxSteps := 1000000) (disch := omega) only [alloc_llT, alloc_slT, S, S1, S2, S3, S4, ST, eq_self, ne_eq, not_true_eq_false, not_false_eq_true, and_self, true_and, and_true, reduceIte, reduceCtorEq, Nat.reduceEqDiff, Nat.reduceAdd, Nat.zero_add, Nat.add_zero, Option.map_none, Option.map_some, List.map_cons, List.map_nil, List.append_nil, List.cons_append, List.nil_append, List.getElem?_cons_zero, List.getElem?_cons_succ, List.getD_cons_zero, List.getD_cons_succ, List.getD_nil, Bool.not_true, Bool.not_false, decide_true, decide_false]
  generalize hD : C ++ [AObj.cells [] 3 false] = D
  have pD : C <+: D := by rw [← hD]; exact List.prefix_append _ _
  have cD : D[C.length]? = some (.cells (ints []) 3 false) := by rw [← hD]; exact at_new ..
  generalize hE1 : D ++ [AObj.cells [.slice none 0 0] 47 false] = E1
  have pE1 : D <+: E1 := by rw [← hE1]; exact List.prefix_append _ _
  have cE1 : E1[D.length]? = some (.cells [.slice none 0 0] 47 false) := by rw [← hE1]; exact at_new ..
  generalize hE2 : E1 ++ [AObj.cells [.slice none 0 0] 22 false] = E2
  have pE2 : E1 <+: E2 := by rw [← hE2]; exact List.prefix_append _ _
  have cE2 : E2[E1.length]? = some (.cells [.slice none 0 0] 22 false) := by rw [← hE2]; exact at_new ..
  generalize hE3 : E2 ++ [AObj.cells [.slice none 0 0] 22 false] = E3
  have pE3 : E2 <+: E3 := by rw [← hE3]; exact List.prefix_append _ _
  have cE3 : E3[E2.length]? = some (.cells [.slice none 0 0] 22 false) := by rw [← hE3]; exact at_new ..
  have lA : A.length = H.length + 1 := by rw [← hA]; simp
  have lB : B.length = A.length + 1 := by rw [← hB]; simp
  have lC := pC.length_le
  have lD : D.length = C.length + 1 := by rw [← hD]; simp
  have lE1 : E1.length = D.length + 1 := by rw [← hE1]; simp
  have lE2 : E2.length = E1.length + 1 := by rw [← hE2]; simp
  have lE3 : E3.length = E2.length + 1 := by rw [← hE3]; simp
  have loa := at_lt hca
  have s1 := st_at (P := Try.prog) (t := 47) (i := 0) (y := .slice (some ⟨A.length, 0, none⟩) 0 0) cs47 (pre_at (pE2.trans pE3) cE1) (by show 0 < 1; decide) rfl rfl
  rw [List.set_cons_zero] at s1
  generalize hE4 : E3.set D.length (.cells [.slice (some ⟨A.length, 0, none⟩) 0 0] 47 false) = E4 at *
  have at4 : ∀ {o y}, o ≠ D.length → E3[o]? = some y → E4[o]? = some y := fun ho hy => by rw [← hE4, List.getElem?_set_ne (fun e => ho e.symm)]; exact hy
  have l4 : E4.length = E3.length := by rw [← hE4]; simp
  have c4 : E4[D.length]? = some (.cells [.slice (some ⟨A.length, 0, none⟩) 0 0] 47 false) := by rw [← hE4, List.getElem?_set_self (by omega)]
  have s2 := st_at (P := Try.prog) (t := 22) (i := 0) (y := .slice (some ⟨oa, 0, none⟩) all.length all.length) cs22 (at4 (by omega) (pre_at pE3 cE2)) (by show 0 < 1; decide) rfl rfl
  rw [List.set_cons_zero] at s2
  generalize hE5 : E4.set E1.length (.cells [.slice (some ⟨oa, 0, none⟩) all.length all.length] 22 false) = E5 at *
  have at5 : ∀ {o y}, o ≠ E1.length → E4[o]? = some y → E5[o]? = some y := fun ho hy => by rw [← hE5, List.getElem?_set_ne (fun e => ho e.symm)]; exact hy
  have l5 : E5.length = E4.length := by rw [← hE5]; simp
  have c5 : E5[E1.length]? = some (.cells [.slice (some ⟨oa, 0, none⟩) all.length all.length] 22 false) := by rw [← hE5, List.getElem?_set_self (by omega)]
  have s3 := st_at (P := Try.prog) (t := 22) (i := 0) (y := .slice (some ⟨C.length, 0, none⟩) 0 0) cs22 (at5 (by omega) (at4 (by omega) cE3)) (by show 0 < 1; decide) rfl rfl
  rw [List.set_cons_zero] at s3
  generalize hE6 : E5.set E2.length (.cells [.slice (some ⟨C.length, 0, none⟩) 0 0] 22 false) = E6 at *
  have at6 : ∀ {o y}, o ≠ E2.length → E5[o]? = some y → E6[o]? = some y := fun ho hy => by rw [← hE6, List.getElem?_set_ne (fun e => ho e.symm)]; exact hy
  have l6 : E6.length = E5.length := by rw [← hE6]; simp
  have c6 : E6[E2.length]? = some (.cells [.slice (some ⟨C.length, 0, none⟩) 0 0] 22 false) := by rw [← hE6, List.getElem?_set_self (by omega)]
  have old : ∀ {o y}, o < D.length → D[o]? = some y → E6[o]? = some y := fun ho hy => at6 (by omega) (at5 (by omega) (at4 (by omega) (pre_at (pE1.trans (pE2.trans pE3)) hy)))
  have st7 := st_at (P := Try.prog) (t := 121) (i := 0) (y := .func (.func 144) #[] (List.toArray [.pointer (some ⟨E2.length, 0, none⟩), .pointer (some ⟨H.length, 0, none⟩), .pointer (some ⟨D.length, 0, none⟩), .pointer (some ⟨E1.length, 0, none⟩), .pointer (some ⟨E6.length, 0, none⟩)])) csT (at_new E6 (.cells [.nilFunc] 121 false)) (by show 0 < 1; decide) rfl rfl
  rw [set_new, List.set_cons_zero] at st7
  simp (maxSteps := 1000000) (disch := omega) only [s1, s2, s3, alloc_fT, mkf_5T, st7, ld_one agT, cell_new, S, S1, S2, S3, S4, ST, eq_self, ne_eq, not_true_eq_false, not_false_eq_true, and_self, true_and, and_true, reduceIte, reduceCtorEq, Nat.reduceEqDiff, Nat.reduceAdd, Nat.zero_add, Nat.add_zero, Option.map_none, Option.map_some, List.map_cons, List.map_nil, List.append_nil, List.cons_append, List.nil_append, List.getElem?_cons_zero, List.getElem?_cons_succ, List.getD_cons_zero, List.getD_cons_succ, List.getD_nil, Bool.not_true, Bool.not_false, decide_true, decide_false]
  generalize hG : E6 ++ [AObj.cells [.func (.func 144) #[] (List.toArray [.pointer (some ⟨E2.length, 0, none⟩), .pointer (some ⟨H.length, 0, none⟩), .pointer (some ⟨D.length, 0, none⟩), .pointer (some ⟨E1.length, 0, none⟩), .pointer (some ⟨E6.length, 0, none⟩)])] 121 false] = G
  have pG : E6 <+: G := by rw [← hG]; exact List.prefix_append _ _
  have cG : G[E6.length]? = some (.cells [.func (.func 144) #[] (List.toArray [.pointer (some ⟨E2.length, 0, none⟩), .pointer (some ⟨H.length, 0, none⟩), .pointer (some ⟨D.length, 0, none⟩), .pointer (some ⟨E1.length, 0, none⟩), .pointer (some ⟨E6.length, 0, none⟩)])] 121 false) := by rw [← hG]; exact at_new ..
  have lG : G.length = E6.length + 1 := by rw [← hG]; simp
  have oldG : ∀ {o y}, o < D.length → D[o]? = some y → G[o]? = some y := fun ho hy => pre_at pG (old ho hy)
  have pHD := pA.trans (pB.trans (pC.trans pD))
  have pHG : H <+: G := prefix_of fun o y hy => oldG (by have := at_lt hy; omega) (pre_at pHD hy)
  have gA := oldG (by omega) (pre_at (pB.trans (pC.trans pD)) cA)
  have gB := oldG (by omega) (pre_at (pC.trans pD) cB)
  have ga := oldG (by omega) (pre_at pD hca)
  have gD := oldG (by omega) cD
  have g4 := pre_at pG (at6 (by omega) (at5 (by omega) c4))
  have g5 := pre_at pG (at6 (by omega) c5)
  have g6 := pre_at pG c6
  have nob : ∀ j, j ≠ A.length → ¬ Obs A.length [] [] j := by
    rintro j hj (e | ⟨i, hi, _⟩)
    · exact hj e
    · simp at hi
  have hO : IOut H D.length [] (fun j => j = D.length ∨ Obs A.length [] [] j) G :=
    ⟨A.length, [], g4, ⟨by omega, by omega, gB, Nat.le_refl _, fun i hi => absurd hi (by simp), fun i j _ hi _ => absurd hi (by simp)⟩, by omega, nob _ (by omega), rfl⟩
  have nF : ∀ {j}, j ≠ D.length → j ≠ A.length → ¬ ((fun j => j = D.length ∨ Obs A.length [] [] j) j) := fun h1 h2 h => h.elim h1 (nob _ h2)
  have hL : LSt H (trgFx n all H.length E1.length oa E6.length E2.length D.length) E2.length (fun j => j = D.length ∨ Obs A.length [] [] j) G [] := by
    refine ⟨?_, ⟨C.length, [], g6, gD, rfl, nF (by omega) (by omega), by omega, ?_, by omega⟩, nF (by omega) (by omega), by omega, pHG⟩
    · intro q hq
      simp only [List.mem_cons, List.not_mem_nil, or_false] at hq
      rcases hq with rfl | rfl | rfl | rfl
      · exact ⟨gA, nF (by show H.length ≠ _; omega) (by show H.length ≠ _; omega), by show H.length ≠ _; omega⟩
      · exact ⟨g5, nF (by show E1.length ≠ _; omega) (by show E1.length ≠ _; omega), by show E1.length ≠ _; omega⟩
      · exact ⟨ga, nF (by show oa ≠ _; omega) (by show oa ≠ _; omega), by show oa ≠ _; omega⟩
      · exact ⟨cG, nF (by show E6.length ≠ _; omega) (by show E6.length ≠ _; omega), by show E6.length ≠ _; omega⟩
    · intro q hq
      simp only [List.mem_cons, List.not_mem_nil, or_false] at hq
      rcases hq with rfl | rfl | rfl | rfl
      · show H.length ≠ _; omega
      · show E1.length ≠ _; omega
      · show oa ≠ _; omega
      · show E6.length ≠ _; omega
  have hpw : 2 ^ all.length ≤ 2 ^ 28 := Nat.pow_le_pow_right (by decide) hk4
  have hf := trg_c n (n - 3).toNat (by omega) (by omega) all hk4 hk5 H.length E1.length oa E6.length E2.length D.length all.length [] [] _ G (Nat.le_refl _) (by simp) (fun y hy => absurd hy (by simp)) (by simp; omega) hO hL
  have z0 : ((0 : Nat) : Int) = 0 := rfl
  rw [Nat.sub_self, z0] at hf
  refine CallH.by hf ?_
  rintro _ H' ⟨F', hO', hL'⟩
  have htri : triA n = [] ++ tex all (n - 3).toNat all.length [] := by unfold triA; rw [hall, List.nil_append]
  obtain ⟨o, us, h1, h2, _⟩ := hO'
  simp (maxSteps := 1000000) (disch := omega) only [cell_of h1, S, S1, S2, S3, S4, ST, eq_self, ne_eq, not_true_eq_false, not_false_eq_true, and_self, true_and, and_true, reduceIte, reduceCtorEq, Nat.reduceEqDiff, Nat.reduceAdd, Nat.zero_add, Nat.add_zero, Option.map_none, Option.map_some, List.map_cons, List.map_nil, List.append_nil, List.cons_append, List.nil_append, List.getElem?_cons_zero, List.getElem?_cons_succ, List.getD_cons_zero, List.getD_cons_succ, List.getD_nil, Bool.not_true, Bool.not_false, decide_true, decide_false]
  refine hQ _ _ _ ?_
  simp (maxSteps := 1000000) (disch := omega) only [S, S1, S2, S3, S4, ST, eq_self, ne_eq, not_true_eq_false, not_false_eq_true, and_self, true_and, and_true, reduceIte, reduceCtorEq, Nat.reduceEqDiff, Nat.reduceAdd, Nat.zero_add, Nat.add_zero, Option.map_none, Option.map_some, List.map_cons, List.map_nil, List.append_nil, List.cons_append, List.nil_append, List.getElem?_cons_zero, List.getElem?_cons_succ, List.getD_cons_zero, List.getD_cons_succ, List.getD_nil, Bool.not_true, Bool.not_false, decide_true, decide_false]
  rw [htri]
  exact ⟨h2.inl, hL'.pre⟩
end Go.Proofs.Ytahakecifgjcnaa.Ai
