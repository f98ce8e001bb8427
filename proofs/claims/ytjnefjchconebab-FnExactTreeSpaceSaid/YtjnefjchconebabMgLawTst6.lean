/- Texts of this claim, joined: Trw, Swp, Reach, Wout, Two, L3s, OrN, Tri, TrI, TrS, Grw, Trl, Tss, Tst, LTst. -/
import Derived.Test.YtjnefjchconebabProg
import Derived.KernelRfl
import Derived.Test.YtjnefjchconebabMgLawTst5
namespace Go.Proofs.Ytjnefjchconebab.Ai
open Go
def ords62 : List (Nat × List (Nat × Bool)) := []
def cd62 : Cd := (.seq (.reg [⟨⟨some 2, Op.assign (Operand.const (Value.slice none 0 0)), none⟩, []⟩]) (.seq (.seq (.reg [⟨⟨some 3, Op.move (Operand.tmp 0), none⟩, []⟩,
  ⟨⟨some 4, Op.binOp BinOp.eql 80 (Operand.tmp 3) (Operand.const (Value.slice none 0 0)) 80, none⟩, []⟩]) (.cond (Operand.tmp 4) (.seq (.reg [⟨⟨some 2, Op.assign (Operand.const (Value.slice none 0 0)), none⟩, []⟩]) .ret) .skip)) (.seq (.reg [⟨⟨some 5, Op.buildSlice 80 0 #[], none⟩, []⟩,
  ⟨⟨some 6, Op.move (Operand.tmp 0), none⟩, []⟩,
  ⟨⟨some 7, Op.call { callee := (Callee.builtin Builtin.append), args := #[(Operand.tmp 5), (Operand.tmp 6)], argTypes := #[80, 80] }, none⟩, []⟩,
  ⟨⟨some 2, Op.assign (Operand.tmp 7), none⟩, []⟩]) .ret)))
theorem sl62 : slim Try.f62.ntmps ords62 (Try.f62.body.getD .skip) = some cd62 := by kernel_rfl
theorem in62 {args : List Value} {H : AH} {R : Value → AH → Prop} (hl : args.length = 1) (h : ∀ (Q : Exit → Sl → AH → Prop), (∀ e s H, endA Try.prog [ResultVar.tmp 2] R e s H → Q e s H) → wpC Try.prog cd62 Q (enterA args) H) : ACalls Try.prog 62 args H R :=
  ACalls.intro (by kernel_rfl) Try.func62 rfl (by kernel_rfl) sl62 hl (of_decide_eq_true (by kernel_rfl)) (by kernel_rfl) h
def ords60 : List (Nat × List (Nat × Bool)) := [(2, [(0, false), (1, false), (2, true), (3, false), (4, true), (5, true)])]
def cd60 : Cd := (.seq (.reg [⟨⟨some 8, Op.assign (Operand.const (Value.bool false)), none⟩, []⟩]) (.seq (.seq (.reg [⟨⟨some 10, Op.load 38 (Operand.tmp 2), none⟩, []⟩,
  ⟨⟨some 11, Op.call { callee := (Callee.builtin Builtin.len), args := #[(Operand.tmp 10)], argTypes := #[38] }, none⟩, []⟩,
  ⟨⟨some 12, Op.fieldAddr 31 (Operand.tmp 3) 0, none⟩, []⟩,
  ⟨⟨some 13, Op.load 3 (Operand.tmp 12), none⟩, []⟩,
  ⟨⟨some 14, Op.binOp BinOp.sub 3 (Operand.tmp 13) (Operand.const (Value.int IntKind.i64 1)) 3, none⟩, []⟩,
  ⟨⟨some 15, Op.binOp BinOp.eql 3 (Operand.tmp 11) (Operand.tmp 14) 3, none⟩, []⟩]) (.cond (Operand.tmp 15) (.seq (.reg [⟨⟨some 16, Op.load 26 (Operand.tmp 4), none⟩, []⟩,
  ⟨⟨some 17, Op.load 38 (Operand.tmp 2), none⟩, []⟩,
  ⟨⟨some 18, Op.call { callee := (Callee.value (Operand.func 61)), args := #[(Operand.tmp 17)], argTypes := #[38] }, none⟩, [⟨some 16, Op.load 26 (Operand.tmp 4), none⟩]⟩,
  ⟨⟨some 19, Op.buildSlice 26 1 #[(0, (Operand.tmp 18))], none⟩, []⟩,
  ⟨⟨some 20, Op.call { callee := (Callee.builtin Builtin.append), args := #[(Operand.tmp 16), (Operand.tmp 19)], argTypes := #[26, 26] }, none⟩, []⟩,
  ⟨⟨none, Op.store 26 (Operand.tmp 4) (Operand.tmp 20), none⟩, []⟩]) (.seq (.reg [⟨⟨some 21, Op.load 26 (Operand.tmp 4), none⟩, []⟩,
  ⟨⟨some 22, Op.call { callee := (Callee.builtin Builtin.len), args := #[(Operand.tmp 21)], argTypes := #[26] }, none⟩, []⟩,
  ⟨⟨some 23, Op.binOp BinOp.leq 3 (Operand.tmp 22) (Operand.const (Value.int IntKind.i64 300)) 3, none⟩, []⟩,
  ⟨⟨some 8, Op.assign (Operand.tmp 23), none⟩, []⟩]) .ret)) .skip)) (.seq (.seq (.reg [⟨⟨some 24, Op.fieldAddr 31 (Operand.tmp 3) 1, none⟩, []⟩,
  ⟨⟨some 25, Op.load 22 (Operand.tmp 24), none⟩, []⟩,
  ⟨⟨some 26, Op.call { callee := (Callee.builtin Builtin.len), args := #[(Operand.tmp 25)], argTypes := #[22] }, none⟩, []⟩,
  ⟨⟨some 27, Op.move (Operand.tmp 0), none⟩, []⟩,
  ⟨⟨some 28, Op.binOp BinOp.sub 3 (Operand.tmp 26) (Operand.tmp 27) 3, none⟩, []⟩,
  ⟨⟨some 29, Op.fieldAddr 31 (Operand.tmp 3) 0, none⟩, []⟩,
  ⟨⟨some 30, Op.load 3 (Operand.tmp 29), none⟩, []⟩,
  ⟨⟨some 31, Op.binOp BinOp.sub 3 (Operand.tmp 30) (Operand.const (Value.int IntKind.i64 1)) 3, none⟩, []⟩,
  ⟨⟨some 32, Op.load 38 (Operand.tmp 2), none⟩, []⟩,
  ⟨⟨some 33, Op.call { callee := (Callee.builtin Builtin.len), args := #[(Operand.tmp 32)], argTypes := #[38] }, none⟩, []⟩,
  ⟨⟨some 34, Op.binOp BinOp.sub 3 (Operand.tmp 31) (Operand.tmp 33) 3, none⟩, []⟩,
  ⟨⟨some 35, Op.binOp BinOp.lss 3 (Operand.tmp 28) (Operand.tmp 34) 3, none⟩, []⟩]) (.cond (Operand.tmp 35) (.seq (.reg [⟨⟨some 8, Op.assign (Operand.const (Value.bool true)), none⟩, []⟩]) .ret) .skip)) (.seq (.seq (.reg [⟨⟨some 36, Op.move (Operand.tmp 1), none⟩, []⟩,
  ⟨⟨some 37, Op.call { callee := (Callee.value (Operand.func 62)), args := #[(Operand.tmp 36)], argTypes := #[80] }, none⟩, []⟩,
  ⟨⟨some 9, Op.assign (Operand.tmp 37), none⟩, []⟩]) (.seq (.reg [⟨⟨some 38, Op.move (Operand.tmp 9), none⟩, []⟩,
  ⟨⟨some 39, Op.fieldAddr 31 (Operand.tmp 3) 1, none⟩, []⟩,
  ⟨⟨some 40, Op.load 22 (Operand.tmp 39), none⟩, []⟩,
  ⟨⟨some 41, Op.move (Operand.tmp 0), none⟩, []⟩,
  ⟨⟨some 42, Op.indexAddr 22 (Operand.tmp 40) (Operand.tmp 41), none⟩, []⟩,
  ⟨⟨some 43, Op.load 66 (Operand.tmp 42), none⟩, []⟩,
  ⟨⟨some 44, Op.call { callee := (Callee.value (Operand.func 63)), args := #[(Operand.tmp 38), (Operand.tmp 43)], argTypes := #[80, 66] }, none⟩, []⟩]) (.cond (Operand.tmp 44) (.seq (.reg [⟨⟨some 45, Op.load 38 (Operand.tmp 2), none⟩, []⟩,
  ⟨⟨some 46, Op.move (Operand.tmp 0), none⟩, []⟩,
  ⟨⟨some 47, Op.buildSlice 38 1 #[(0, (Operand.tmp 46))], none⟩, []⟩,
  ⟨⟨some 48, Op.call { callee := (Callee.builtin Builtin.append), args := #[(Operand.tmp 45), (Operand.tmp 47)], argTypes := #[38, 38] }, none⟩, []⟩,
  ⟨⟨none, Op.store 38 (Operand.tmp 2) (Operand.tmp 48), none⟩, []⟩]) (.seq (.seq (.reg [⟨⟨some 49, Op.load 79 (Operand.tmp 5), none⟩, []⟩,
  ⟨⟨some 50, Op.move (Operand.tmp 0), none⟩, []⟩,
  ⟨⟨some 51, Op.binOp BinOp.add 3 (Operand.tmp 50) (Operand.const (Value.int IntKind.i64 1)) 3, none⟩, []⟩,
  ⟨⟨some 52, Op.move (Operand.tmp 9), none⟩, []⟩,
  ⟨⟨some 53, Op.call { callee := (Callee.value (Operand.tmp 49)), args := #[(Operand.tmp 51), (Operand.tmp 52)], argTypes := #[3, 80] }, none⟩, []⟩,
  ⟨⟨some 54, Op.unOp UnOp.not 4 (Operand.tmp 53), none⟩, []⟩]) (.cond (Operand.tmp 54) (.seq (.reg [⟨⟨some 8, Op.assign (Operand.const (Value.bool false)), none⟩, []⟩]) .ret) .skip)) (.reg [⟨⟨some 55, Op.load 38 (Operand.tmp 2), none⟩, []⟩,
  ⟨⟨some 56, Op.load 38 (Operand.tmp 2), none⟩, []⟩,
  ⟨⟨some 57, Op.call { callee := (Callee.builtin Builtin.len), args := #[(Operand.tmp 56)], argTypes := #[38] }, none⟩, []⟩,
  ⟨⟨some 58, Op.binOp BinOp.sub 3 (Operand.tmp 57) (Operand.const (Value.int IntKind.i64 1)) 3, none⟩, []⟩,
  ⟨⟨some 59, Op.slice 38 (Operand.tmp 55) none (some (Operand.tmp 58)) none, none⟩, []⟩,
  ⟨⟨none, Op.store 38 (Operand.tmp 2) (Operand.tmp 59), none⟩, []⟩]))) .skip))) (.seq (.reg [⟨⟨some 60, Op.load 79 (Operand.tmp 5), none⟩, []⟩,
  ⟨⟨some 61, Op.move (Operand.tmp 0), none⟩, []⟩,
  ⟨⟨some 62, Op.binOp BinOp.add 3 (Operand.tmp 61) (Operand.const (Value.int IntKind.i64 1)) 3, none⟩, []⟩,
  ⟨⟨some 63, Op.move (Operand.tmp 1), none⟩, []⟩,
  ⟨⟨some 64, Op.call { callee := (Callee.value (Operand.tmp 60)), args := #[(Operand.tmp 62), (Operand.tmp 63)], argTypes := #[3, 80] }, none⟩, []⟩,
  ⟨⟨some 8, Op.assign (Operand.tmp 64), none⟩, []⟩]) .ret)))))
theorem sl60 : slim Try.f60.ntmps ords60 (Try.f60.body.getD .skip) = some cd60 := by kernel_rfl
theorem in60 {args : List Value} {H : AH} {R : Value → AH → Prop} (hl : args.length = 6) (h : ∀ (Q : Exit → Sl → AH → Prop), (∀ e s H, endA Try.prog [ResultVar.tmp 8] R e s H → Q e s H) → wpC Try.prog cd60 Q (enterA args) H) : ACalls Try.prog 60 args H R :=
  ACalls.intro (by kernel_rfl) Try.func60 rfl (by kernel_rfl) sl60 hl (of_decide_eq_true (by kernel_rfl)) (by kernel_rfl) h
def ords38 : List (Nat × List (Nat × Bool)) := [(4, [(0, false), (1, false), (2, false), (3, true), (4, true), (5, false)]), (5, [(0, false), (1, false), (2, false), (3, false), (4, false), (5, false), (6, false), (7, false), (8, false)])]
def cd38 : Cd := (.seq (.reg [⟨⟨some 1, Op.box 31 (Operand.tmp 0), none⟩, []⟩,
  ⟨⟨some 2, Op.assign (Operand.const (Value.slice none 0 0)), none⟩, []⟩,
  ⟨⟨some 3, Op.assign (Operand.const (Value.bool false)), none⟩, []⟩]) (.seq (.reg [⟨⟨some 8, Op.buildSlice 26 0 #[], none⟩, []⟩,
  ⟨⟨some 9, Op.buildSlice 38 0 #[], none⟩, []⟩,
  ⟨⟨some 4, Op.alloc 26, none⟩, []⟩,
  ⟨⟨some 5, Op.alloc 38, none⟩, []⟩,
  ⟨⟨none, Op.store 26 (Operand.tmp 4) (Operand.tmp 8), none⟩, []⟩,
  ⟨⟨none, Op.store 38 (Operand.tmp 5) (Operand.tmp 9), none⟩, []⟩]) (.seq (.reg [⟨⟨some 6, Op.alloc 79, none⟩, []⟩]) (.seq (.reg [⟨⟨some 10, Op.makeFunc (Fn.func 60) #[] #[(Operand.tmp 5), (Operand.tmp 1), (Operand.tmp 4), (Operand.tmp 6)], none⟩, []⟩,
  ⟨⟨none, Op.store 79 (Operand.tmp 6) (Operand.tmp 10), none⟩, []⟩]) (.seq (.reg [⟨⟨some 11, Op.load 79 (Operand.tmp 6), none⟩, []⟩,
  ⟨⟨some 12, Op.fieldAddr 31 (Operand.tmp 1) 0, none⟩, []⟩,
  ⟨⟨some 13, Op.load 3 (Operand.tmp 12), none⟩, []⟩,
  ⟨⟨some 14, Op.call { callee := (Callee.value (Operand.func 64)), args := #[(Operand.tmp 13)], argTypes := #[3] }, none⟩, [⟨some 11, Op.load 79 (Operand.tmp 6), none⟩]⟩,
  ⟨⟨some 15, Op.call { callee := (Callee.value (Operand.tmp 11)), args := #[(Operand.const (Value.int IntKind.i64 0)), (Operand.tmp 14)], argTypes := #[3, 80] }, none⟩, []⟩,
  ⟨⟨some 7, Op.assign (Operand.tmp 15), none⟩, []⟩]) (.seq (.reg [⟨⟨some 16, Op.load 26 (Operand.tmp 4), none⟩, []⟩,
  ⟨⟨some 17, Op.move (Operand.tmp 7), none⟩, []⟩,
  ⟨⟨some 18, Op.move (Operand.tmp 17), none⟩, []⟩,
  ⟨⟨some 19, Op.load 26 (Operand.tmp 4), some (18, true)⟩, []⟩,
  ⟨⟨some 20, Op.call { callee := (Callee.builtin Builtin.len), args := #[(Operand.tmp 19)], argTypes := #[26] }, some (18, true)⟩, []⟩,
  ⟨⟨some 21, Op.binOp BinOp.gtr 3 (Operand.tmp 20) (Operand.const (Value.int IntKind.i64 0)) 3, some (18, true)⟩, []⟩,
  ⟨⟨some 22, Op.pick (Operand.tmp 18) (Operand.tmp 21) (Operand.const (Value.bool false)), none⟩, []⟩,
  ⟨⟨some 2, Op.assign (Operand.tmp 16), none⟩, []⟩,
  ⟨⟨some 3, Op.assign (Operand.tmp 22), none⟩, []⟩]) .ret))))))
theorem sl38 : slim Try.f38.ntmps ords38 (Try.f38.body.getD .skip) = some cd38 := by kernel_rfl
theorem in38 {args : List Value} {H : AH} {R : Value → AH → Prop} (hl : args.length = 1) (h : ∀ (Q : Exit → Sl → AH → Prop), (∀ e s H, endA Try.prog [ResultVar.tmp 2, ResultVar.tmp 3] R e s H → Q e s H) → wpC Try.prog cd38 Q (enterA args) H) : ACalls Try.prog 38 args H R :=
  ACalls.intro (by kernel_rfl) Try.func38 rfl (by kernel_rfl) sl38 hl (of_decide_eq_true (by kernel_rfl)) (by kernel_rfl) h
end Go.Proofs.Ytjnefjchconebab.Ai
namespace Go.Proofs.Ytjnefjchconebab.Ai
open Go Go.RowKit
set_option linter.unusedVariables false
set_option linter.unusedSimpArgs false
set_option maxRecDepth 20000 in
theorem CloneJ_c (v : Value) (xs : List Int) (H : AH) (hr : Row 3 H v xs) (hlen : xs.length ≤ 1099511627776) : ACalls Try.prog 62 [v] H fun r H' => Own 3 H H' r xs ∧ H <+: H' := by
  refine in62 rfl ?_
  intro Q hQ
  obtain ⟨p, e⟩ := hr.shape
  subst e
  simp (maxSteps := 1000000) (disch := omega) only [cd62, S, S1, S2, S3, S4, S5, ST, eq_self, reduceIte, reduceCtorEq, Nat.reduceEqDiff, Nat.reduceAdd]
  refine brH.intro (fun g => ?_) (fun g => ?_) <;> simp (maxSteps := 1000000) (disch := omega) only [S, S1, S2, S3, S4, S5, ST, eq_self, reduceIte, reduceCtorEq, Nat.reduceEqDiff, Nat.reduceAdd]
  · refine hQ _ _ _ ?_
    simp (maxSteps := 1000000) (disch := omega) only [S, S1, S2, S3, S4, S5, ST, eq_self, reduceIte, reduceCtorEq, Nat.reduceEqDiff, Nat.reduceAdd]
    have : xs = [] := by
      rcases hr with h | ⟨o, k, vs, ro, h1, _⟩
      · exact h.2
      · cases p with
        | none => cases h1
        | some p => cases g
    exact ⟨.inl ⟨rfl, this⟩, List.prefix_refl _⟩
  · have hp := List.prefix_append H [AObj.cells [] 3 false]
    have ho : Own 3 H (H ++ [AObj.cells [] 3 false]) (.slice (some ⟨H.length, 0, none⟩) 0 0) [] := .inr ⟨H.length, rfl, Nat.le_refl _, at_new ..⟩
    obtain ⟨v', H2, k1, k2, k3, _⟩ := ho.app (P := Try.prog) (t := 80) Try.underlying80 cs3 (by rw [by3]; decide) zk3 (hr.pre hp) hp (by simp; omega)
    simp (maxSteps := 1000000) (disch := omega) only [k1, S, S1, S2, S3, S4, S5, ST, eq_self, reduceIte, reduceCtorEq, Nat.reduceEqDiff, Nat.reduceAdd]
    refine hQ _ _ _ ?_
    simp (maxSteps := 1000000) (disch := omega) only [k2.row.tup, S, S1, S2, S3, S4, S5, ST, eq_self, reduceIte, reduceCtorEq, Nat.reduceEqDiff, Nat.reduceAdd]
    exact ⟨k2, k3⟩
theorem agT : isAggA Try.prog 79 = some false := by kernel_rfl
theorem csT : Try.prog.cellsOf 79 = 1 := by kernel_rfl
abbrev treClo (pe pg po pf : Nat) : Value := .func (.func 60) #[] (List.toArray [.pointer (some ⟨pe, 0, none⟩), .pointer (some ⟨pg, 0, none⟩), .pointer (some ⟨po, 0, none⟩), .pointer (some ⟨pf, 0, none⟩)])
/-- what the walk reads -/
structure TreR (H : AH) (n : Nat) (v : Value) (es : List (Int × Int)) (pe pg po pf : Nat) : Prop where
  g : H[pg]? = some (.cells [.int .i64 (n : Int), v] 31 false)
  c : H[pf]? = some (.cells [treClo pe pg po pf] 79 false)
  es : RowP 66 H v es
theorem LSt.less {HB : AH} {fx : List (Nat × AObj)} {x : Nat × AObj} {pe : Nat} {F : Nat → Prop} {H : AH} {ed : List Int} (h : LSt HB (x :: fx) pe F H ed) : LSt HB fx pe F H ed := by
  obtain ⟨oe, zs, e1, e2, e3, e4, e5, e6, e7⟩ := h.e
  exact ⟨fun q hq => h.fix q (by simp [hq]), ⟨oe, zs, e1, e2, e3, e4, e5, fun q hq => e6 q (by simp [hq]), e7⟩, h.out, h.lo, h.pre⟩
theorem LSt.more {HB : AH} {fx : List (Nat × AObj)} {pe : Nat} {F : Nat → Prop} {H : AH} {ed : List Int} (h : LSt HB fx pe F H ed) {o : Nat} {y : AObj} (ho : H[o]? = some y) (hF : ¬ F o) (hpe : o ≠ pe) (hw : ∀ w, cellA H pe 0 = some w → o ≠ rowO w) : LSt HB ((o, y) :: fx) pe F H ed := by
  obtain ⟨oe, zs, e1, e2, e3, e4, e5, e6, e7⟩ := h.e
  have hoe : o ≠ oe := hw _ (cell_of e1 0)
  refine ⟨fun q hq => ?_, ⟨oe, zs, e1, e2, e3, e4, e5, fun q hq => ?_, e7⟩, h.out, h.lo, h.pre⟩
  · rcases List.mem_cons.1 hq with rfl | hq
    · exact ⟨ho, hF, hpe⟩
    · exact h.fix q hq
  · rcases List.mem_cons.1 hq with rfl | hq
    · exact hoe
    · exact e6 q hq
/-- what was stored at the beginning of an object is there -/
theorem stored0 {t : TypeId} {o : Nat} {p : Option Addr} {n c : Nat} {H H' : AH} (h : storeA Try.prog t (.pointer (some ⟨o, 0, none⟩)) (.slice p n c) H = some H') : cellA H' o 0 = some (.slice p n c) := by
  simp only [storeA] at h
  split at h
  · rename_i vs e hv
    split at h
    · rename_i hc
      have h' := Option.some.inj h
      subst h'
      simp only [cellA]
      rw [List.getElem?_set_self (at_lt hv)]
      show (putAt vs 0 [Value.slice p n c])[0]? = _
      unfold putAt
      rfl
    · cases h
  · cases h
set_option maxRecDepth 20000 in
set_option maxHeartbeats 8000000 in
theorem treRec_c {HB : AH} {n : Nat} {es : List (Int × Int)} (hn : 1 ≤ n) (hg : Grd (n : Int) es) (pe pg po pf : Nat) (v : Value) :
    ∀ (k : Nat) (T : List Int) (fx : List (Nat × AObj)) (oj : Nat) (J : List Int) (out : List (List Int)) (F : Nat → Prop) (H : AH),
      k ≤ es.length → Beg n es k T → JR es T n J → (oj, AObj.cells (ints J) 3 false) ∈ fx → (∀ {F : Nat → Prop} {H : AH} {ed : List Int}, LSt HB fx pe F H ed → TreR H n v es pe pg po pf) → out.length ≤ 300 → IOut HB po out F H → LSt HB fx pe F H T →
      ACalls Try.prog 60 [.int .i64 ((es.length - k : Nat) : Int), .slice (some ⟨oj, 0, none⟩) n n, .pointer (some ⟨pe, 0, none⟩), .pointer (some ⟨pg, 0, none⟩), .pointer (some ⟨po, 0, none⟩), .pointer (some ⟨pf, 0, none⟩)] H fun r H' =>
        r = .bool (decide ((out ++ grA es n k T).length ≤ 300)) ∧ ∃ (F' : Nat → Prop) (ed' : List Int), IOut HB po ((out ++ grA es n k T).take 301) F' H' ∧ LSt HB fx pe F' H' ed' ∧ ((out ++ grA es n k T).length ≤ 300 → ed' = T) := by
  have h28 : es.length ≤ 28 := grd_len hg
  have hn8 : n ≤ 8 := by have := hg.1; omega
  intro k
  induction k using Nat.strongRecOn with
  | ind k ih =>
    intro T fx oj J out F H hk hB hJ hfx hR hol hO hL
    have hTn := hB.len
    obtain ⟨E, hE⟩ : ∃ E, E = es.length - k := ⟨_, rfl⟩
    rw [← hE]
    refine in60 rfl ?_
    intro Q hQ
    rw [cd60]
    let SL : Sl → Prop := fun s => s 0 = .int .i64 (E : Int) ∧ s 1 = .slice (some ⟨oj, 0, none⟩) n n ∧ s 2 = .pointer (some ⟨pe, 0, none⟩) ∧ s 3 = .pointer (some ⟨pg, 0, none⟩) ∧ s 4 = .pointer (some ⟨po, 0, none⟩) ∧ s 5 = .pointer (some ⟨pf, 0, none⟩)
    have q := hR hL
    obtain ⟨w, hw1, hw2, hw3, hw4⟩ := hL.row
    have qg := cell_of q.g
    have ql := q.es.len (P := Try.prog) Try.underlying22
    refine cutC (fun s H' => SL s ∧ H = H') (fun c hc => ?_) ?_
    · simp (maxSteps := 1000000) (disch := omega) only [S, S1, S2, S3, S4, S5, ST, eq_self, reduceIte, reduceCtorEq, Nat.reduceEqDiff, Nat.reduceAdd]
      exact hc _ _ ⟨⟨rfl, rfl, rfl, rfl, rfl, rfl⟩, rfl⟩
    rintro s _ ⟨⟨s0, s1, s2, s3, s4, s5⟩, rfl⟩
    refine cutC (fun s H' => SL s ∧ H = H' ∧ T.length + 1 ≠ n) (fun c hc => ?_) ?_
    · simp (maxSteps := 1000000) (disch := omega) only [s2, s3, hw1, hw2.len Try.underlying38, qg, wrap64, S, S1, S2, S3, S4, S5, ST, eq_self, reduceIte, reduceCtorEq, Nat.reduceEqDiff, Nat.reduceAdd]
      refine brD.intro (fun e => ?_) (fun e => ?_)
      rotate_left
      · simp (maxSteps := 1000000) (disch := omega) only [S, S1, S2, S3, S4, S5, ST, eq_self, reduceIte, reduceCtorEq, Nat.reduceEqDiff, Nat.reduceAdd]
        exact hc _ _ ⟨⟨s0, s1, s2, s3, s4, s5⟩, rfl, by omega⟩
      have hfull : grA es n k T = [T] := grA_full (by omega) k
      rw [hfull] at hQ
      have hO1 := hO
      obtain ⟨o, us1, hpo, _⟩ := hO1
      simp (maxSteps := 1000000) (disch := omega) only [s2, s4, cell_of hpo, hw1, S, S1, S2, S3, S4, S5, ST, eq_self, reduceIte, reduceCtorEq, Nat.reduceEqDiff, Nat.reduceAdd]
      refine CallH.by (Clone_c w T H hw2 (by omega)) ?_
      rintro c2 C ⟨hc2, pC⟩
      obtain ⟨w2, H3, H4, p0, p1, p2, p3, p4, F', hO4, hF4, hk4⟩ := hO.push hL.pre pC hc2 (by omega)
      have hww := p0.symm.trans (cell_of hpo 0)
      simp only [List.getElem?_cons_zero, Option.some.injEq, Value.slice.injEq] at hww
      obtain ⟨hww, _, _⟩ := hww
      subst hww
      have hO5 := hO4
      obtain ⟨o4, us4, hpo4, _⟩ := hO5
      simp (maxSteps := 1000000) (disch := omega) only [s4, p1, p2, p3, p4, cell_of hpo4, S, S1, S2, S3, S4, S5, ST, eq_self, reduceIte, reduceCtorEq, Nat.reduceEqDiff, Nat.reduceAdd]
      refine hQ _ _ _ ?_
      simp (maxSteps := 1000000) (disch := omega) only [S, S1, S2, S3, S4, S5, ST, eq_self, reduceIte, reduceCtorEq, Nat.reduceEqDiff, Nat.reduceAdd]
      have e301 : (out ++ [T]).take 301 = out ++ [T] := List.take_of_length_le (by simp; omega)
      refine ⟨?_, F', T, by rw [e301]; exact hO4, hL.cb (fun o ho => (hO.live ho).2) hF4 hk4, fun _ => rfl⟩
      congr 1
      exact decide_eq_decide.2 ⟨fun h => by omega, fun h => by omega⟩
    rintro s _ ⟨⟨s0, s1, s2, s3, s4, s5⟩, rfl, hne⟩
    refine cutC (fun s H' => SL s ∧ H = H' ∧ n ≤ T.length + 1 + k) (fun c hc => ?_) ?_
    · simp (maxSteps := 1000000) (disch := omega) only [s0, s2, s3, hw1, hw2.len Try.underlying38, qg, ql, wrap64, S, S1, S2, S3, S4, S5, ST, eq_self, reduceIte, reduceCtorEq, Nat.reduceEqDiff, Nat.reduceAdd]
      refine brD.intro (fun e => ?_) (fun e => ?_)
      rotate_left
      · simp (maxSteps := 1000000) (disch := omega) only [S, S1, S2, S3, S4, S5, ST, eq_self, reduceIte, reduceCtorEq, Nat.reduceEqDiff, Nat.reduceAdd]
        exact hc _ _ ⟨⟨s0, s1, s2, s3, s4, s5⟩, rfl, by omega⟩
      have hfew : grA es n k T = [] := grA_few k T (by omega)
      rw [hfew, List.append_nil] at hQ
      simp (maxSteps := 1000000) (disch := omega) only [S, S1, S2, S3, S4, S5, ST, eq_self, reduceIte, reduceCtorEq, Nat.reduceEqDiff, Nat.reduceAdd]
      refine hQ _ _ _ ?_
      simp (maxSteps := 1000000) (disch := omega) only [S, S1, S2, S3, S4, S5, ST, eq_self, reduceIte, reduceCtorEq, Nat.reduceEqDiff, Nat.reduceAdd]
      have e301 : out.take 301 = out := List.take_of_length_le (by omega)
      exact ⟨by rw [decide_eq_true hol], F, T, by rw [e301]; exact hO, hL, fun _ => rfl⟩
    rintro s _ ⟨⟨s0, s1, s2, s3, s4, s5⟩, rfl, hge⟩
    obtain ⟨k', rfl⟩ : ∃ k', k = k' + 1 := ⟨k - 1, by omega⟩
    have heN : ((es.length - (k' + 1) : Nat) : Int) + 1 = ((es.length - k' : Nat) : Int) := by omega
    have heb : (0 : Int) ≤ ((es.length - (k' + 1) : Nat) : Int) ∧ ((es.length - (k' + 1) : Nat) : Int) < es.length := by omega
    have hen := en_eq hg heb
    have hgr : grA es n (k' + 1) T = (if jnB es n T (enA es ((es.length - (k' + 1) : Nat) : Int)) (enB es ((es.length - (k' + 1) : Nat) : Int)) = true then [] else grA es n k' (T ++ [((es.length - (k' + 1) : Nat) : Int)])) ++ grA es n k' T := by
      rw [grA, if_neg hne]
    have hsnoc := hB.snoc hg hk hne
    have hjB := jnB_iff hg hB.ed (i := enA es ((es.length - (k' + 1) : Nat) : Int)) (j := enB es ((es.length - (k' + 1) : Nat) : Int)) (by omega) (by omega)
    rw [Int.toNat_natCast] at hen
    rw [← hE] at heN heb hen hgr hsnoc hjB
    refine cutC (fun s H' => SL s ∧ ∃ (out' : List (List Int)) (F' : Nat → Prop), out'.length ≤ 300 ∧ out' ++ grA es n k' T = out ++ grA es n (k' + 1) T ∧ IOut HB po out' F' H' ∧ LSt HB fx pe F' H' T) (fun c hc => ?_) ?_
    · have hJl : J.length = n := by obtain ⟨rt, d, h1, _⟩ := hJ; exact h1.len
      have hojH := (hL.fix _ hfx).1
      have hrJ : Row 3 H (.slice (some ⟨oj, 0, none⟩) n n) J := .inr ⟨oj, 0, ints J, false, by rw [hJl], hojH, by rw [ints_len]; omega, by rw [List.drop_zero, List.take_of_length_le (by rw [ints_len]; exact Nat.le_refl _)]⟩
      simp (maxSteps := 1000000) (disch := omega) only [s1, S, S1, S2, S3, S4, S5, ST, eq_self, reduceIte, reduceCtorEq, Nat.reduceEqDiff, Nat.reduceAdd]
      refine CallH.by (CloneJ_c _ J H hrJ (by omega)) ?_
      rintro c2 C ⟨hc2, pC⟩
      obtain ⟨ow, rfl, how, hCow⟩ : ∃ ow, c2 = .slice (some ⟨ow, 0, none⟩) n n ∧ H.length ≤ ow ∧ C[ow]? = some (.cells (ints J) 3 false) := by
        rcases hc2 with ⟨_, q2⟩ | ⟨ow, q1, q2, q3⟩
        · rw [q2] at hJl; simp at hJl; omega
        · exact ⟨ow, by rw [q1, hJl], q2, q3⟩
      have qC := pre_at pC q.g
      have rC := q.es.pre pC
      simp (maxSteps := 1000000) (disch := omega) only [s0, s3, cell_of qC, rC.ix Try.underlying22 cs66, Int.toNat_natCast, rC.ld ag66 cs66 (show E < es.length by omega), S, S1, S2, S3, S4, S5, ST, eq_self, reduceIte, reduceCtorEq, Nat.reduceEqDiff, Nat.reduceAdd]
      have hj := join_c hJ ow C hCow (E : Int) (by omega) (by omega) (by rw [Int.toNat_natCast, hen.1]) (by rw [Int.toNat_natCast, hen.1])
      rw [Int.toNat_natCast] at hj
      refine CallH.by hj ?_
      rintro _ D ⟨b, J', rfl, hb, hDow, hJ', kD⟩
      have keep : ∀ (o : Nat) (y : AObj), H[o]? = some y → D[o]? = some y := fun o y hy => kD.2 o y (by have := at_lt hy; omega) (pre_at pC hy)
      have lD : H.length ≤ D.length := Nat.le_trans pC.length_le kD.1
      have hLD : LSt HB fx pe F D T := hL.cb (fun o ho => (hO.live ho).2) (fun o ho => .inl ho) fun o y _ hy => keep o y hy
      have hOD := hO.keep fun o y _ hy => keep o y hy
      simp (maxSteps := 1000000) (disch := omega) only [S, S1, S2, S3, S4, S5, ST, eq_self, reduceIte, reduceCtorEq, Nat.reduceEqDiff, Nat.reduceAdd]
      cases b with
      | false =>
        have hjn : jnB es n T (enA es (E : Int)) (enB es (E : Int)) = true := hjB.2 (Classical.byContradiction fun w => by have := hb.2 w; cases this)
        rw [if_pos hjn, List.nil_append] at hgr
        refine brH.intro (fun w => by cases w) (fun _ => ?_)
        simp (maxSteps := 1000000) (disch := omega) only [S, S1, S2, S3, S4, S5, ST, eq_self, reduceIte, reduceCtorEq, Nat.reduceEqDiff, Nat.reduceAdd]
        exact hc _ _ ⟨⟨s0, s1, s2, s3, s4, s5⟩, out, F, hol, by rw [hgr], hOD, hLD⟩
      | true =>
        have hnj := hb.1 rfl
        have hjn : ¬ jnB es n T (enA es (E : Int)) (enB es (E : Int)) = true := fun w => hnj (hjB.1 w)
        rw [if_neg hjn] at hgr
        refine brH.intro (fun _ => ?_) (fun w => by cases w)
        obtain ⟨w3, H2, H3, p0, p1, p2, hL3, hk3, hl3, hk3'⟩ := hLD.push (fun o ho => (hOD.live ho).1) (by omega) (E : Int)
        have hO3 := hOD.keep hk3
        have hwD := hLD.row
        obtain ⟨wD, hwD1, hwD2, _, _⟩ := hwD
        have how3 : H3[ow]? = some (.cells (ints J') 3 false) := by
          obtain ⟨oe, zs, e1, e2, _⟩ := hL.e
          have hpe := at_lt e1
          have hoe := at_lt e2
          refine hk3' ow _ (by omega) (fun w' hw' => ?_) hDow
          have e1D := keep _ _ e1
          rw [cell_of e1D 0] at hw'
          simp only [List.getElem?_cons_zero, Option.some.injEq] at hw'
          rw [← hw']
          show ow ≠ oe
          omega
        have hF3 : ¬ F ow := fun w => by have := (hO.live w).1; omega
        have hpe3 : ow ≠ pe := by
          obtain ⟨oe, zs, e1, e2, _⟩ := hL.e
          have := at_lt e1; omega
        have hL4 := hL3.more how3 hF3 hpe3 fun w hw => by
          rw [stored0 p2] at hw
          have hw' := Option.some.inj hw
          rw [← hw']
          show ow ≠ D.length + 1
          have := at_lt hDow
          omega
        have q3 := hR hL3
        simp (maxSteps := 1000000) (disch := omega) only [s0, s2, s5, p0, p1, p2, ld_one agT, cell_of q3.c, wrap64, heN, S, S1, S2, S3, S4, S5, ST, eq_self, reduceIte, reduceCtorEq, Nat.reduceEqDiff, Nat.reduceAdd]
        refine CallH.by (ih k' (by omega) (T ++ [(E : Int)]) _ ow J' out F H3 (by omega) (hsnoc hjn) hJ' (by simp) (fun h => hR h.less) hol hO3 hL4) ?_
        rintro _ H4 ⟨rfl, F4, ed4, hO4, hL4', hed⟩
        have hL5 := hL4'.less
        by_cases hlen : (out ++ grA es n k' (T ++ [(E : Int)])).length ≤ 300
        · have hed := hed hlen
          subst hed
          obtain ⟨w4, c4, r1, r2, H5, r3, hL6, hk6, hl6⟩ := hL5.pop
          have hO6 := hO4.keep hk6
          have e301 : (out ++ grA es n k' (T ++ [(E : Int)])).take 301 = out ++ grA es n k' (T ++ [(E : Int)]) := List.take_of_length_le (by omega)
          rw [e301] at hO6
          have hcl : ((T.length + 1 : Nat) : Int) - 1 = (T.length : Int) := by omega
          simp (maxSteps := 1000000) (disch := omega) only [decide_eq_true hlen, s2, r1, hcl, r2, r3, wrap64, S, S1, S2, S3, S4, S5, ST, eq_self, reduceIte, reduceCtorEq, Nat.reduceEqDiff, Nat.reduceAdd]
          exact hc _ _ ⟨⟨s0, s1, s2, s3, s4, s5⟩, out ++ grA es n k' (T ++ [(E : Int)]), F4, hlen, by rw [hgr, List.append_assoc], hO6, hL6⟩
        · simp (maxSteps := 1000000) (disch := omega) only [decide_eq_false hlen, S, S1, S2, S3, S4, S5, ST, eq_self, reduceIte, reduceCtorEq, Nat.reduceEqDiff, Nat.reduceAdd]
          refine hQ _ _ _ ?_
          simp (maxSteps := 1000000) (disch := omega) only [S, S1, S2, S3, S4, S5, ST, eq_self, reduceIte, reduceCtorEq, Nat.reduceEqDiff, Nat.reduceAdd]
          have hbig : ¬ (out ++ grA es n (k' + 1) T).length ≤ 300 := by
            rw [hgr, ← List.append_assoc, List.length_append]; omega
          have htk : (out ++ grA es n (k' + 1) T).take 301 = (out ++ grA es n k' (T ++ [(E : Int)])).take 301 := by
            rw [hgr, ← List.append_assoc, List.take_append_of_le_length (by omega)]
          refine ⟨by rw [decide_eq_false hbig], F4, ed4, by rw [htk]; exact hO4, hL5, fun w => absurd w hbig⟩
    rintro s H' ⟨⟨s0, s1, s2, s3, s4, s5⟩, out', F', hol', heq, hO', hL'⟩
    have q' := hR hL'
    simp (maxSteps := 1000000) (disch := omega) only [s0, s1, s2, s3, s4, s5, ld_one agT, cell_of q'.c, wrap64, heN, S, S1, S2, S3, S4, S5, ST, eq_self, reduceIte, reduceCtorEq, Nat.reduceEqDiff, Nat.reduceAdd]
    refine CallH.by (ih k' (by omega) T fx oj J out' F' H' (by omega) hB.skip hJ hfx hR hol' hO' hL') ?_
    rintro _ H4 ⟨rfl, F4, ed4, hO4, hL4, hed⟩
    rw [heq] at hO4 hed ⊢
    simp (maxSteps := 1000000) (disch := omega) only [S, S1, S2, S3, S4, S5, ST, eq_self, reduceIte, reduceCtorEq, Nat.reduceEqDiff, Nat.reduceAdd]
    refine hQ _ _ _ ?_
    simp (maxSteps := 1000000) (disch := omega) only [S, S1, S2, S3, S4, S5, ST, eq_self, reduceIte, reduceCtorEq, Nat.reduceEqDiff, Nat.reduceAdd]
    exact ⟨F4, ed4, hO4, hL4, hed⟩
theorem alloc_slT (H : AH) : allocA Try.prog 38 H = some (.pointer (some ⟨H.length, 0, none⟩), H ++ [.cells [.slice none 0 0] 38 false]) := by kernel_rfl
theorem alloc_llT (H : AH) : allocA Try.prog 26 H = some (.pointer (some ⟨H.length, 0, none⟩), H ++ [.cells [.slice none 0 0] 26 false]) := by kernel_rfl
theorem alloc_fT (H : AH) : allocA Try.prog 79 H = some (.pointer (some ⟨H.length, 0, none⟩), H ++ [.cells [.nilFunc] 79 false]) := by kernel_rfl
theorem mkf_4T (f : Fn) (p q r t : Option Addr) : makeFuncA f [] [.pointer p, .pointer q, .pointer r, .pointer t] = some (.func f #[] (List.toArray [.pointer p, .pointer q, .pointer r, .pointer t])) := rfl
/-- all objects but some -/
def objsT (G : AH) (p : Nat → Bool) : List (Nat × AObj) := (List.range G.length).filterMap fun i => if p i = true then G[i]?.map fun y => (i, y) else none
theorem objsT_mem {G : AH} {p : Nat → Bool} {q : Nat × AObj} : q ∈ objsT G p ↔ p q.1 = true ∧ G[q.1]? = some q.2 := by
  unfold objsT
  rw [List.mem_filterMap]
  constructor
  · rintro ⟨i, hi, h⟩
    split at h
    · rename_i hp
      rw [Option.map_eq_some_iff] at h
      obtain ⟨y, h1, rfl⟩ := h
      exact ⟨hp, h1⟩
    · cases h
  · rintro ⟨h1, h2⟩
    refine ⟨q.1, List.mem_range.2 (at_lt h2), ?_⟩
    rw [if_pos h1, h2]; rfl
set_option maxRecDepth 20000 in
set_option maxHeartbeats 8000000 in
theorem trees_c (n : Nat) (hn : 1 ≤ n) (v : Value) (es : List (Int × Int)) (H : AH) (hr : RowP 66 H v es) (hg : Grd (n : Int) es) :
    ACalls Try.prog 38 [.agg (List.toArray [.int .i64 (n : Int), v])] H fun r H' => ∃ a, r = .tuple (List.toArray [a, .bool (decide ((treA n es).length ≤ 300) && decide (0 < (treA n es).length))]) ∧ InL H.length H'.length 38 3 H' a ((treA n es).take 301) ∧ H <+: H' := by
  have h28 : es.length ≤ 28 := grd_len hg
  have hn8 : n ≤ 8 := by have := hg.1; omega
  refine in38 rfl ?_
  intro Q hQ
  simp (maxSteps := 1000000) (disch := omega) only [cd38, hr.boxG, S, S1, S2, S3, S4, S5, ST, eq_self, reduceIte, reduceCtorEq, Nat.reduceEqDiff, Nat.reduceAdd]
  generalize hA : H ++ [AObj.cells [.int .i64 n, v] 31 false] = A
  have pA : H <+: A := by rw [← hA]; exact List.prefix_append _ _
  have cA : A[H.length]? = some (.cells [.int .i64 n, v] 31 false) := by rw [← hA]; exact at_new ..
  have rA := hr.pre pA
  have lA : A.length = H.length + 1 := by rw [← hA]; simp
  generalize hB : A ++ [AObj.cells [] 38 false] = B
  have pB : A <+: B := by rw [← hB]; exact List.prefix_append _ _
  have cB : B[A.length]? = some (.cells [] 38 false) := by rw [← hB]; exact at_new ..
  have lB : B.length = A.length + 1 := by rw [← hB]; simp
  generalize hC : B ++ [AObj.cells [] 3 false] = C
  have pC : B <+: C := by rw [← hC]; exact List.prefix_append _ _
  have cC : C[B.length]? = some (.cells (ints []) 3 false) := by rw [← hC]; exact at_new ..
  have lC : C.length = B.length + 1 := by rw [← hC]; simp
  simp (maxSteps := 1000000) (disch := omega) only [alloc_llT, alloc_slT, S, S1, S2, S3, S4, S5, ST, eq_self, reduceIte, reduceCtorEq, Nat.reduceEqDiff, Nat.reduceAdd]
  generalize hD : C ++ [AObj.cells [.slice none 0 0] 26 false] = D
  have pD : C <+: D := by rw [← hD]; exact List.prefix_append _ _
  have cD : D[C.length]? = some (.cells [.slice none 0 0] 26 false) := by rw [← hD]; exact at_new ..
  have lD : D.length = C.length + 1 := by rw [← hD]; simp
  generalize hE : D ++ [AObj.cells [.slice none 0 0] 38 false] = E
  have pE : D <+: E := by rw [← hE]; exact List.prefix_append _ _
  have cE : E[D.length]? = some (.cells [.slice none 0 0] 38 false) := by rw [← hE]; exact at_new ..
  have lE : E.length = D.length + 1 := by rw [← hE]; simp
  have s1 := st_at (P := Try.prog) (t := 26) (i := 0) (y := .slice (some ⟨A.length, 0, none⟩) 0 0) cs26 (pre_at pE cD) (by show 0 < 1; decide) rfl rfl
  rw [List.set_cons_zero] at s1
  generalize hE3 : E.set C.length (.cells [.slice (some ⟨A.length, 0, none⟩) 0 0] 26 false) = E3 at *
  have at3 : ∀ {o y}, o ≠ C.length → E[o]? = some y → E3[o]? = some y := fun ho hy => by rw [← hE3, List.getElem?_set_ne (fun e => ho e.symm)]; exact hy
  have l3 : E3.length = E.length := by rw [← hE3]; simp
  have c3 : E3[C.length]? = some (.cells [.slice (some ⟨A.length, 0, none⟩) 0 0] 26 false) := by rw [← hE3, List.getElem?_set_self (by omega)]
  have s2 := st_at (P := Try.prog) (t := 38) (i := 0) (y := .slice (some ⟨B.length, 0, none⟩) 0 0) cs38 (at3 (by omega) cE) (by show 0 < 1; decide) rfl rfl
  rw [List.set_cons_zero] at s2
  generalize hE4 : E3.set D.length (.cells [.slice (some ⟨B.length, 0, none⟩) 0 0] 38 false) = E4 at *
  have at4 : ∀ {o y}, o ≠ D.length → E3[o]? = some y → E4[o]? = some y := fun ho hy => by rw [← hE4, List.getElem?_set_ne (fun e => ho e.symm)]; exact hy
  have l4 : E4.length = E3.length := by rw [← hE4]; simp
  have c4 : E4[D.length]? = some (.cells [.slice (some ⟨B.length, 0, none⟩) 0 0] 38 false) := by rw [← hE4, List.getElem?_set_self (by omega)]
  have old4 : ∀ {o y}, o < C.length → C[o]? = some y → E4[o]? = some y := fun ho hy => at4 (by omega) (at3 (by omega) (pre_at (pD.trans pE) hy))
  have pC4 : C <+: E4 := prefix_of fun o y hy => old4 (at_lt hy) hy
  have d4 := at4 (by omega) c3
  have st11 := st_at (P := Try.prog) (t := 79) (i := 0) (y := treClo D.length H.length C.length E4.length) csT (at_new E4 (.cells [.nilFunc] 79 false)) (by show 0 < 1; decide) rfl rfl
  rw [set_new, List.set_cons_zero] at st11
  simp (maxSteps := 1000000) (disch := omega) only [s1, s2, alloc_fT, mkf_4T, st11, ld_one agT, cell_new, S, S1, S2, S3, S4, S5, ST, eq_self, reduceIte, reduceCtorEq, Nat.reduceEqDiff, Nat.reduceAdd]
  generalize hF : E4 ++ [AObj.cells [treClo D.length H.length C.length E4.length] 79 false] = F
  have pF : E4 <+: F := by rw [← hF]; exact List.prefix_append _ _
  have cF : F[E4.length]? = some (.cells [treClo D.length H.length C.length E4.length] 79 false) := by rw [← hF]; exact at_new ..
  have lF : F.length = E4.length + 1 := by rw [← hF]; simp
  have pBC := pB.trans pC
  have pHF := pA.trans (pBC.trans (pC4.trans pF))
  simp (maxSteps := 1000000) (disch := omega) only [cell_of (pre_at (pBC.trans (pC4.trans pF)) cA), S, S1, S2, S3, S4, S5, ST, eq_self, reduceIte, reduceCtorEq, Nat.reduceEqDiff, Nat.reduceAdd]
  refine CallH.by (newJoiner_c n F (by omega)) ?_
  rintro jv K ⟨hj, pK⟩
  have lK := pK.length_le
  obtain ⟨oj, rfl, hoj, hKj⟩ : ∃ oj, jv = .slice (some ⟨oj, 0, none⟩) n n ∧ F.length ≤ oj ∧ K[oj]? = some (.cells (ints (alls n)) 3 false) := by
    rcases hj with ⟨_, q2⟩ | ⟨oj, q1, q2, q3⟩
    · have := congrArg List.length q2
      simp [alls] at this
      omega
    · refine ⟨oj, ?_, q2, q3⟩
      rw [q1]
      simp [alls]
  have pHK := pHF.trans pK
  have pFK := pF.trans pK
  have gpo := pre_at pFK d4
  have goo := pre_at pFK (pre_at pC4 (pre_at pC cB))
  have gpe := pre_at pFK c4
  have goe := pre_at pFK (pre_at pC4 cC)
  have gg := pre_at pFK (pre_at pC4 (pre_at pBC cA))
  have gf := pre_at pK cF
  have nob : ∀ j, j ≠ A.length → ¬ Obs A.length [] [] j := by
    rintro j hj (e | ⟨i, hi, _⟩)
    · exact hj e
    · simp at hi
  have hO : IOut H C.length [] (fun j => j = C.length ∨ Obs A.length [] [] j) K :=
    ⟨A.length, [], gpo, ⟨by omega, by omega, goo, Nat.le_refl _, fun i hi => absurd hi (by simp), fun i j _ hi _ => absurd hi (by simp)⟩, by omega, nob _ (by omega), rfl⟩
  have nF : ∀ {j}, j ≠ C.length → j ≠ A.length → ¬ ((fun j => j = C.length ∨ Obs A.length [] [] j) j) := fun h1 h2 h => h.elim h1 (nob _ h2)
  have hLS : LSt H (objsT K fun i => decide (i ≠ C.length ∧ i ≠ A.length ∧ i ≠ D.length ∧ i ≠ B.length)) D.length (fun j => j = C.length ∨ Obs A.length [] [] j) K [] := by
    refine ⟨fun q hq => ?_, ⟨B.length, [], gpe, goe, rfl, nF (by omega) (by omega), by omega, fun q hq => ?_, by omega⟩, nF (by omega) (by omega), by omega, pHK⟩
    · obtain ⟨q1, q2⟩ := objsT_mem.1 hq
      have q1 := of_decide_eq_true q1
      exact ⟨q2, nF q1.1 q1.2.1, q1.2.2.1⟩
    · obtain ⟨q1, _⟩ := objsT_mem.1 hq
      exact (of_decide_eq_true q1).2.2.2
  have hR : ∀ {F' : Nat → Prop} {H' : AH} {ed : List Int}, LSt H (objsT K fun i => decide (i ≠ C.length ∧ i ≠ A.length ∧ i ≠ D.length ∧ i ≠ B.length)) D.length F' H' ed → TreR H' n v es D.length H.length C.length E4.length := by
    intro F' H' ed h
    have keep : ∀ {j : Nat} {y : AObj}, j ≠ C.length → j ≠ A.length → j ≠ D.length → j ≠ B.length → K[j]? = some y → H'[j]? = some y := fun h1 h2 h3 h4 hy => (h.fix (_, _) (objsT_mem.2 ⟨decide_eq_true ⟨h1, h2, h3, h4⟩, hy⟩)).1
    exact ⟨keep (by omega) (by omega) (by omega) (by omega) gg, keep (by omega) (by omega) (by omega) (by omega) gf, hr.pre h.pre⟩
  have hcall := treRec_c hn hg D.length H.length C.length E4.length v es.length [] _ oj (alls n) [] _ K (Nat.le_refl _) (Beg.nil hn es) (JR.zero es n) (objsT_mem.2 ⟨decide_eq_true ⟨by omega, by omega, by omega, by omega⟩, hKj⟩) hR (by simp) hO hLS
  have e0 : ((es.length - es.length : Nat) : Int) = 0 := by rw [Nat.sub_self]; rfl
  rw [e0] at hcall
  simp (maxSteps := 1000000) (disch := omega) only [ld_one agT, cell_of gf, S, S1, S2, S3, S4, S5, ST, eq_self, reduceIte, reduceCtorEq, Nat.reduceEqDiff, Nat.reduceAdd]
  refine CallH.by hcall ?_
  rintro _ M ⟨rfl, F2, ed2, hO2, hL2, _⟩
  have etr : treA n es = grA es n es.length [] := rfl
  rw [← etr, List.nil_append] at hO2 ⊢
  obtain ⟨o2, us2, hpo2, hU2, _⟩ := hO2
  generalize treA n es = tr at *
  have pHM := hL2.pre
  by_cases hl : tr.length ≤ 300
  · have e301 : tr.take 301 = tr := List.take_of_length_le (by omega)
    simp (maxSteps := 1000000) (disch := omega) only [cell_of hpo2, decide_eq_true hl, S, S1, S2, S3, S4, S5, ST, eq_self, reduceIte, reduceCtorEq, Nat.reduceEqDiff, Nat.reduceAdd]
    refine hQ _ _ _ ?_
    simp (maxSteps := 1000000) (disch := omega) only [S, S1, S2, S3, S4, S5, ST, eq_self, reduceIte, reduceCtorEq, Nat.reduceEqDiff, Nat.reduceAdd]
    refine ⟨_, ?_, hU2.inl, pHM⟩
    have e2 : decide ((0 : Int) < (tr.length : Int)) = decide (0 < tr.length) := decide_eq_decide.2 ⟨fun h => by omega, fun h => by omega⟩
    rw [e301, decide_eq_true hl, Bool.true_and, e2]
  · simp (maxSteps := 1000000) (disch := omega) only [cell_of hpo2, decide_eq_false hl, S, S1, S2, S3, S4, S5, ST, eq_self, reduceIte, reduceCtorEq, Nat.reduceEqDiff, Nat.reduceAdd]
    refine hQ _ _ _ ?_
    simp (maxSteps := 1000000) (disch := omega) only [S, S1, S2, S3, S4, S5, ST, eq_self, reduceIte, reduceCtorEq, Nat.reduceEqDiff, Nat.reduceAdd]
    exact ⟨_, by rw [decide_eq_false hl]; rfl, hU2.inl, pHM⟩
end Go.Proofs.Ytjnefjchconebab.Ai
namespace Go.Proofs.Ytjnefjchconebab.Ai
open Go
def ords55 : List (Nat × List (Nat × Bool)) := []
def cd55 : Cd := (.seq (.reg [⟨⟨some 2, Op.assign (Operand.const (Value.slice none 0 0)), none⟩, []⟩]) (.seq (.reg [⟨⟨some 3, Op.buildSlice 38 0 #[], none⟩, []⟩,
  ⟨⟨some 4, Op.move (Operand.tmp 0), none⟩, []⟩,
  ⟨⟨some 5, Op.call { callee := (Callee.builtin Builtin.append), args := #[(Operand.tmp 3), (Operand.tmp 4)], argTypes := #[38, 38] }, none⟩, []⟩,
  ⟨⟨some 2, Op.assign (Operand.tmp 5), none⟩, []⟩]) .ret))
theorem sl55 : slim Try.f55.ntmps ords55 (Try.f55.body.getD .skip) = some cd55 := by kernel_rfl
theorem in55 {args : List Value} {H : AH} {R : Value → AH → Prop} (hl : args.length = 1) (h : ∀ (Q : Exit → Sl → AH → Prop), (∀ e s H, endA Try.prog [ResultVar.tmp 2] R e s H → Q e s H) → wpC Try.prog cd55 Q (enterA args) H) : ACalls Try.prog 55 args H R :=
  ACalls.intro (by kernel_rfl) Try.func55 rfl (by kernel_rfl) sl55 hl (of_decide_eq_true (by kernel_rfl)) (by kernel_rfl) h
end Go.Proofs.Ytjnefjchconebab.Ai
namespace Go.Proofs.Ytjnefjchconebab.Ai
open Go Go.RowKit
set_option linter.unusedVariables false
set_option linter.unusedSimpArgs false
set_option maxRecDepth 20000 in
theorem l1Own_c (v : Value) (xs : List Int) (H : AH) (hr : Row 3 H v xs) (hlen : xs.length ≤ 1099511627776) : ACalls Try.prog 55 [v] H fun r H' => Own 3 H H' r xs ∧ H <+: H' := by
  refine in55 rfl ?_
  intro Q hQ
  simp (maxSteps := 1000000) (disch := omega) only [cd55, S, S1, S2, S3, S4, S5, ST, eq_self, reduceIte, reduceCtorEq, Nat.reduceEqDiff, Nat.reduceAdd]
  have hp := List.prefix_append H [AObj.cells [] 3 false]
  have ho : Own 3 H (H ++ [AObj.cells [] 3 false]) (.slice (some ⟨H.length, 0, none⟩) 0 0) [] := .inr ⟨H.length, rfl, Nat.le_refl _, at_new ..⟩
  obtain ⟨v', H2, k1, k2, k3, _⟩ := ho.app (P := Try.prog) (t := 38) Try.underlying38 cs3 (by rw [by3]; decide) zk3 (hr.pre hp) hp (by simp; omega)
  simp (maxSteps := 1000000) (disch := omega) only [k1, S, S1, S2, S3, S4, S5, ST, eq_self, reduceIte, reduceCtorEq, Nat.reduceEqDiff, Nat.reduceAdd]
  refine hQ _ _ _ ?_
  simp (maxSteps := 1000000) (disch := omega) only [k2.row.tup, S, S1, S2, S3, S4, S5, ST, eq_self, reduceIte, reduceCtorEq, Nat.reduceEqDiff, Nat.reduceAdd]
  exact ⟨k2, k3⟩
end Go.Proofs.Ytjnefjchconebab.Ai
namespace Go.Proofs.Ytjnefjchconebab.Ai
open Go Go.RowKit
set_option linter.unusedVariables false
set_option linter.unusedSimpArgs false
theorem bsRow {H0 : AH} {v : Value} {xs : List Int} (h : Row 3 H0 v xs) (K : AH) : buildSliceA Try.prog 26 1 [(0, v)] K = some (.slice (some ⟨K.length, 0, none⟩) 1 1, K ++ [.cells [v] 38 false]) := by
  obtain ⟨q, eq⟩ := h.shape
  rw [eq]
  exact bs1 Try.underlying26 cs38 ze38 ⟨by kernel_rfl, by kernel_rfl⟩ K rfl
/-- a set of few nodes -/
def Sm (o : List Int) : Prop := o.Pairwise (· < ·) ∧ ∀ z ∈ o, 0 ≤ z ∧ z < 8
theorem Sm.len {o : List Int} (h : Sm o) : o.length ≤ 8 := by
  have := nodup_le (a := o) (b := (List.range 8).map fun z : Nat => (z : Int)) (lt_nodup h.1) fun x hx => by
    have := h.2 x hx
    exact List.mem_map.2 ⟨x.toNat, List.mem_range.2 (by omega), by omega⟩
  simpa using this
theorem Sm.put {o : List Int} (h : Sm o) {x : Int} (hx : 0 ≤ x ∧ x < 8) : Sm (put o x) := by
  refine ⟨put_sorted _ _ h.1, fun z hz => ?_⟩
  rcases (put_mem _ _ _).1 hz with rfl | hz
  · exact hx
  · exact h.2 z hz
theorem Sm.nil : Sm [] := ⟨List.Pairwise.nil, fun z hz => by simp at hz⟩
theorem Sm.one {x : Int} (hx : 0 ≤ x ∧ x < 8) : Sm [x] := ⟨List.pairwise_singleton _ _, fun z hz => by simp at hz; subst hz; exact hx⟩
end Go.Proofs.Ytjnefjchconebab.Ai
namespace Go.Proofs.Ytjnefjchconebab.Ai
open Go Go.RowKit
set_option linter.unusedVariables false
set_option linter.unusedSimpArgs false
/-- what of a list another one does not have -/
def without (xs ys : List Int) : List Int := xs.filter fun x => decide (¬ x ∈ ys)
theorem without_step (xs ys : List Int) (i : Nat) (hi : i < xs.length) : without (xs.take (i + 1)) ys = without (xs.take i) ys ++ if xs.getD i 0 ∈ ys then [] else [xs.getD i 0] := by
  unfold without
  rw [List.take_add_one, List.getElem?_eq_getElem hi, List.filter_append]
  have hx : xs.getD i 0 = xs[i] := by simp [hi]
  rw [hx]
  by_cases h : xs[i] ∈ ys <;> simp [h]
end Go.Proofs.Ytjnefjchconebab.Ai
namespace Go.Proofs.Ytjnefjchconebab.Ai
open Go
def ords79 : List (Nat × List (Nat × Bool)) := []
def cd79 : Cd := (.seq (.reg [⟨⟨some 4, Op.assign (Operand.const (Value.slice none 0 0)), none⟩, []⟩]) (.seq (.reg [⟨⟨some 7, Op.buildSlice 38 0 #[], none⟩, []⟩,
  ⟨⟨some 5, Op.assign (Operand.tmp 7), none⟩, []⟩]) (.seq (.seq (.reg [⟨⟨some 6, Op.assign (Operand.const (Value.int IntKind.i64 0)), none⟩, []⟩]) (.block 0 (.loop (.seq (.seq (.reg [⟨⟨some 8, Op.move (Operand.tmp 6), none⟩, []⟩,
  ⟨⟨some 9, Op.move (Operand.tmp 0), none⟩, []⟩,
  ⟨⟨some 10, Op.call { callee := (Callee.builtin Builtin.len), args := #[(Operand.tmp 9)], argTypes := #[38] }, none⟩, []⟩,
  ⟨⟨some 11, Op.binOp BinOp.lss 3 (Operand.tmp 8) (Operand.tmp 10) 3, none⟩, []⟩]) (.cond (Operand.tmp 11) .skip (.exit 0))) (.seq (.block 1 (.seq (.reg [⟨⟨some 14, Op.move (Operand.tmp 1), none⟩, []⟩,
  ⟨⟨some 15, Op.move (Operand.tmp 0), none⟩, []⟩,
  ⟨⟨some 16, Op.move (Operand.tmp 6), none⟩, []⟩,
  ⟨⟨some 17, Op.indexAddr 38 (Operand.tmp 15) (Operand.tmp 16), none⟩, []⟩,
  ⟨⟨some 18, Op.load 3 (Operand.tmp 17), none⟩, []⟩,
  ⟨⟨some 19, Op.call { callee := (Callee.value (Operand.func 97)), args := #[(Operand.tmp 14), (Operand.tmp 18)], argTypes := #[38, 3] }, none⟩, []⟩,
  ⟨⟨some 20, Op.unOp UnOp.not 4 (Operand.tmp 19), none⟩, []⟩]) (.cond (Operand.tmp 20) (.reg [⟨⟨some 21, Op.move (Operand.tmp 5), none⟩, []⟩,
  ⟨⟨some 22, Op.move (Operand.tmp 0), none⟩, []⟩,
  ⟨⟨some 23, Op.move (Operand.tmp 6), none⟩, []⟩,
  ⟨⟨some 24, Op.indexAddr 38 (Operand.tmp 22) (Operand.tmp 23), none⟩, []⟩,
  ⟨⟨some 25, Op.load 3 (Operand.tmp 24), none⟩, []⟩,
  ⟨⟨some 26, Op.buildSlice 38 1 #[(0, (Operand.tmp 25))], none⟩, []⟩,
  ⟨⟨some 27, Op.call { callee := (Callee.builtin Builtin.append), args := #[(Operand.tmp 21), (Operand.tmp 26)], argTypes := #[38, 38] }, none⟩, []⟩,
  ⟨⟨some 5, Op.assign (Operand.tmp 27), none⟩, []⟩]) .skip))) (.reg [⟨⟨some 12, Op.move (Operand.tmp 6), none⟩, []⟩,
  ⟨⟨some 13, Op.binOp BinOp.add 3 (Operand.tmp 12) (Operand.const (Value.int IntKind.i64 1)) 3, none⟩, []⟩,
  ⟨⟨some 6, Op.assign (Operand.tmp 13), none⟩, []⟩])))))) (.seq (.reg [⟨⟨some 28, Op.move (Operand.tmp 5), none⟩, []⟩,
  ⟨⟨some 4, Op.assign (Operand.tmp 28), none⟩, []⟩]) .ret))))
theorem sl79 : slim Try.f79.ntmps ords79 (Try.f79.body.getD .skip) = some cd79 := by kernel_rfl
theorem in79 {args : List Value} {H : AH} {R : Value → AH → Prop} (hl : args.length = 2) (h : ∀ (Q : Exit → Sl → AH → Prop), (∀ e s H, endA Try.prog [ResultVar.tmp 4] R e s H → Q e s H) → wpC Try.prog cd79 Q (enterA args) H) : ACalls Try.prog 79 args H R :=
  ACalls.intro (by kernel_rfl) Try.func79 rfl (by kernel_rfl) sl79 hl (of_decide_eq_true (by kernel_rfl)) (by kernel_rfl) h
end Go.Proofs.Ytjnefjchconebab.Ai
namespace Go.Proofs.Ytjnefjchconebab.Ai
open Go Go.RowKit
set_option linter.unusedVariables false
set_option linter.unusedSimpArgs false
set_option maxRecDepth 20000 in
set_option maxHeartbeats 1000000 in
theorem l3Only_c (v w : Value) (xs ys : List Int) (H : AH) (hr : Row 3 H v xs) (hy : Row 3 H w ys) (hlen : xs.length ≤ 1000000) (hlen2 : ys.length ≤ 1000000) :
    ACalls Try.prog 79 [v, w] H fun r H' => Own 3 H H' r (without xs ys) ∧ H <+: H' := by
  refine in79 rfl ?_
  intro Q hQ
  simp (maxSteps := 1000000) (disch := omega) only [cd79, S, S1, S2, S3, S4, S5, ST, eq_self, reduceIte, reduceCtorEq, Nat.reduceEqDiff, Nat.reduceAdd]
  refine LoopH.by (fun m s H' => ∃ i, m + i = xs.length ∧ s 0 = v ∧ s 1 = w ∧ s 6 = .int .i64 ((i : Nat) : Int) ∧ Own 3 H H' (s 5) (without (xs.take i) ys) ∧ H <+: H') xs.length ?_ ?_
  · exact ⟨0, by simp, rfl, rfl, rfl, .inr ⟨H.length, rfl, Nat.le_refl _, at_new ..⟩, List.prefix_append _ _⟩
  · rintro m s H' ⟨i, hm, h0, h1, h6, ho, hp⟩
    have hr' := hr.pre hp
    have hy' := hy.pre hp
    generalize hu : s 5 = u at *
    simp (maxSteps := 1000000) (disch := omega) only [h0, h1, h6, hu, hr'.len Try.underlying38, S, S1, S2, S3, S4, S5, ST, eq_self, reduceIte, reduceCtorEq, Nat.reduceEqDiff, Nat.reduceAdd]
    refine brD.intro (fun g => ?_) (fun g => ?_)
    · have hi : i < xs.length := by omega
      have st := without_step xs ys i hi
      have le : (without (xs.take i) ys).length ≤ i := by
        unfold without
        refine Nat.le_trans (List.length_filter_le _ _) ?_
        simp; omega
      simp (maxSteps := 1000000) (disch := omega) only [h0, h1, h6, hu, hr'.ix Try.underlying38 cs3, hr'.cell, Int.toNat_natCast, S, S1, S2, S3, S4, S5, ST, eq_self, reduceIte, reduceCtorEq, Nat.reduceEqDiff, Nat.reduceAdd]
      refine CallH.by (l1Has_c w ys _ H' hy' (by omega)) ?_
      rintro _ _ ⟨rfl, rfl⟩
      simp (maxSteps := 1000000) (disch := omega) only [S, S1, S2, S3, S4, S5, ST, eq_self, reduceIte, reduceCtorEq, Nat.reduceEqDiff, Nat.reduceAdd]
      refine brD.intro (fun e => ?_) (fun e => ?_)
      · rw [if_pos e, List.append_nil] at st
        simp (maxSteps := 1000000) (disch := omega) only [h0, h1, h6, hu, wrap64, S, S1, S2, S3, S4, S5, ST, eq_self, reduceIte, reduceCtorEq, Nat.reduceEqDiff, Nat.reduceAdd]
        refine ⟨m - 1, by omega, i + 1, ?_⟩
        rw [st]
        (repeat' apply And.intro) <;> first | exact ho | exact hp | (simp only [Value.int.injEq, true_and]; omega) | omega | rfl | assumption | (simp; done) | (simp; omega)
      · rw [if_neg e] at st
        obtain ⟨v', H2, k1, k2, k3, k4, k5, k6⟩ := own1_38 ho hp (by omega) (xs.getD i 0)
        simp (maxSteps := 1000000) (disch := omega) only [h0, h1, h6, hu, hr'.ix Try.underlying38 cs3, hr'.cell, Int.toNat_natCast, k1, wrap64, S, S1, S2, S3, S4, S5, ST, eq_self, reduceIte, reduceCtorEq, Nat.reduceEqDiff, Nat.reduceAdd]
        refine ⟨m - 1, by omega, i + 1, ?_⟩
        rw [st]
        (repeat' apply And.intro) <;> first | exact k2 | exact k3 | (simp only [Value.int.injEq, true_and]; omega) | omega | rfl | assumption | (simp; done) | (simp; omega)
    · simp (maxSteps := 1000000) (disch := omega) only [hu, S, S1, S2, S3, S4, S5, ST, eq_self, reduceIte, reduceCtorEq, Nat.reduceEqDiff, Nat.reduceAdd]
      refine hQ _ _ _ ?_
      simp (maxSteps := 1000000) (disch := omega) only [hu, ho.row.tup, S, S1, S2, S3, S4, S5, ST, eq_self, reduceIte, reduceCtorEq, Nat.reduceEqDiff, Nat.reduceAdd]
      rw [List.take_of_length_le (by omega)] at ho
      exact ⟨ho, hp⟩
end Go.Proofs.Ytjnefjchconebab.Ai
namespace Go.Proofs.Ytjnefjchconebab.Ai
open Go
def ords67 : List (Nat × List (Nat × Bool)) := [(4, [(0, false), (1, false), (2, false), (3, false), (4, false), (5, false), (6, false), (7, false), (8, false), (9, false), (10, false), (11, false), (12, false), (13, false), (14, false), (15, false), (16, false), (17, false), (18, false), (19, true), (20, false), (21, false), (22, false)])]
def cd67 : Cd := (.seq (.reg [⟨⟨some 4, Op.box 31 (Operand.tmp 0), none⟩, []⟩,
  ⟨⟨some 8, Op.assign (Operand.const (Value.bool false)), none⟩, []⟩]) (.seq (.reg [⟨⟨some 11, Op.move (Operand.tmp 2), none⟩, []⟩,
  ⟨⟨some 12, Op.move (Operand.tmp 3), none⟩, []⟩,
  ⟨⟨some 13, Op.call { callee := (Callee.value (Operand.func 79)), args := #[(Operand.tmp 11), (Operand.tmp 12)], argTypes := #[38, 38] }, none⟩, []⟩,
  ⟨⟨some 14, Op.move (Operand.tmp 3), none⟩, []⟩,
  ⟨⟨some 15, Op.move (Operand.tmp 2), none⟩, []⟩,
  ⟨⟨some 16, Op.call { callee := (Callee.value (Operand.func 79)), args := #[(Operand.tmp 14), (Operand.tmp 15)], argTypes := #[38, 38] }, none⟩, []⟩,
  ⟨⟨some 9, Op.assign (Operand.tmp 13), none⟩, []⟩,
  ⟨⟨some 10, Op.assign (Operand.tmp 16), none⟩, []⟩]) (.seq (.seq (.reg [⟨⟨some 17, Op.move (Operand.tmp 1), none⟩, []⟩,
  ⟨⟨some 18, Op.binOp BinOp.eql 3 (Operand.tmp 17) (Operand.const (Value.int IntKind.i64 2)) 3, none⟩, []⟩]) (.cond (Operand.tmp 18) (.seq (.reg [⟨⟨some 19, Op.move (Operand.tmp 9), none⟩, []⟩,
  ⟨⟨some 20, Op.call { callee := (Callee.builtin Builtin.len), args := #[(Operand.tmp 19)], argTypes := #[38] }, none⟩, []⟩,
  ⟨⟨some 21, Op.move (Operand.tmp 10), none⟩, []⟩,
  ⟨⟨some 22, Op.call { callee := (Callee.builtin Builtin.len), args := #[(Operand.tmp 21)], argTypes := #[38] }, none⟩, []⟩,
  ⟨⟨some 23, Op.binOp BinOp.add 3 (Operand.tmp 20) (Operand.tmp 22) 3, none⟩, []⟩,
  ⟨⟨some 24, Op.binOp BinOp.eql 3 (Operand.tmp 23) (Operand.const (Value.int IntKind.i64 1)) 3, none⟩, []⟩,
  ⟨⟨some 8, Op.assign (Operand.tmp 24), none⟩, []⟩]) .ret) .skip)) (.seq (.reg [⟨⟨some 25, Op.move (Operand.tmp 9), none⟩, []⟩,
  ⟨⟨some 26, Op.call { callee := (Callee.builtin Builtin.len), args := #[(Operand.tmp 25)], argTypes := #[38] }, none⟩, []⟩,
  ⟨⟨some 27, Op.binOp BinOp.eql 3 (Operand.tmp 26) (Operand.const (Value.int IntKind.i64 1)) 3, none⟩, []⟩,
  ⟨⟨some 28, Op.move (Operand.tmp 27), none⟩, []⟩,
  ⟨⟨some 29, Op.move (Operand.tmp 10), some (28, true)⟩, []⟩,
  ⟨⟨some 30, Op.call { callee := (Callee.builtin Builtin.len), args := #[(Operand.tmp 29)], argTypes := #[38] }, some (28, true)⟩, []⟩,
  ⟨⟨some 31, Op.binOp BinOp.eql 3 (Operand.tmp 30) (Operand.const (Value.int IntKind.i64 1)) 3, some (28, true)⟩, []⟩,
  ⟨⟨some 32, Op.pick (Operand.tmp 28) (Operand.tmp 31) (Operand.const (Value.bool false)), none⟩, []⟩,
  ⟨⟨some 33, Op.move (Operand.tmp 32), none⟩, []⟩,
  ⟨⟨some 34, Op.move (Operand.tmp 1), some (33, true)⟩, []⟩,
  ⟨⟨some 35, Op.binOp BinOp.eql 3 (Operand.tmp 34) (Operand.const (Value.int IntKind.i64 1)) 3, some (33, true)⟩, []⟩,
  ⟨⟨some 36, Op.move (Operand.tmp 35), some (33, true)⟩, []⟩,
  ⟨⟨some 37, Op.load 31 (Operand.tmp 4), some (36, false)⟩, []⟩,
  ⟨⟨some 38, Op.move (Operand.tmp 9), some (36, false)⟩, []⟩,
  ⟨⟨some 39, Op.indexAddr 38 (Operand.tmp 38) (Operand.const (Value.int IntKind.i64 0)), some (36, false)⟩, []⟩,
  ⟨⟨some 40, Op.load 3 (Operand.tmp 39), some (36, false)⟩, []⟩,
  ⟨⟨some 41, Op.move (Operand.tmp 10), some (36, false)⟩, []⟩,
  ⟨⟨some 42, Op.indexAddr 38 (Operand.tmp 41) (Operand.const (Value.int IntKind.i64 0)), some (36, false)⟩, []⟩,
  ⟨⟨some 43, Op.load 3 (Operand.tmp 42), some (36, false)⟩, []⟩,
  ⟨⟨some 44, Op.call { callee := (Callee.value (Operand.func 80)), args := #[(Operand.tmp 37), (Operand.tmp 40), (Operand.tmp 43)], argTypes := #[31, 3, 3] }, some (36, false)⟩, []⟩,
  ⟨⟨some 45, Op.pick (Operand.tmp 36) (Operand.const (Value.bool true)) (Operand.tmp 44), some (33, true)⟩, []⟩,
  ⟨⟨some 46, Op.pick (Operand.tmp 33) (Operand.tmp 45) (Operand.const (Value.bool false)), none⟩, []⟩,
  ⟨⟨some 8, Op.assign (Operand.tmp 46), none⟩, []⟩]) .ret))))
theorem sl67 : slim Try.f67.ntmps ords67 (Try.f67.body.getD .skip) = some cd67 := by kernel_rfl
theorem in67 {args : List Value} {H : AH} {R : Value → AH → Prop} (hl : args.length = 4) (h : ∀ (Q : Exit → Sl → AH → Prop), (∀ e s H, endA Try.prog [ResultVar.tmp 8] R e s H → Q e s H) → wpC Try.prog cd67 Q (enterA args) H) : ACalls Try.prog 67 args H R :=
  ACalls.intro (by kernel_rfl) Try.func67 rfl (by kernel_rfl) sl67 hl (of_decide_eq_true (by kernel_rfl)) (by kernel_rfl) h
def ords44 : List (Nat × List (Nat × Bool)) := [(8, [(0, false), (1, false), (2, false), (3, false), (4, false), (5, false), (6, false), (7, false), (8, false), (9, false), (10, true)])]
def cd44 : Cd := (.seq (.reg [⟨⟨some 3, Op.box 31 (Operand.tmp 0), none⟩, []⟩,
  ⟨⟨some 6, Op.alloc 28, none⟩, []⟩]) (.seq (.reg [⟨⟨some 10, Op.move (Operand.tmp 2), none⟩, []⟩,
  ⟨⟨some 11, Op.buildSlice 22 0 #[], none⟩, []⟩,
  ⟨⟨some 12, Op.build 28 #[(0, (Operand.tmp 10)), (1, (Operand.tmp 11))], none⟩, []⟩,
  ⟨⟨some 7, Op.alloc 28, none⟩, []⟩,
  ⟨⟨none, Op.store 28 (Operand.tmp 7) (Operand.tmp 12), none⟩, []⟩]) (.seq (.seq (.reg [⟨⟨some 8, Op.assign (Operand.const (Value.int IntKind.i64 0)), none⟩, []⟩]) (.block 0 (.loop (.seq (.seq (.reg [⟨⟨some 13, Op.move (Operand.tmp 8), none⟩, []⟩,
  ⟨⟨some 14, Op.move (Operand.tmp 2), none⟩, []⟩,
  ⟨⟨some 15, Op.call { callee := (Callee.builtin Builtin.len), args := #[(Operand.tmp 14)], argTypes := #[26] }, none⟩, []⟩,
  ⟨⟨some 16, Op.binOp BinOp.lss 3 (Operand.tmp 13) (Operand.tmp 15) 3, none⟩, []⟩]) (.cond (Operand.tmp 16) .skip (.exit 0))) (.seq (.block 1 (.seq (.reg [⟨⟨some 19, Op.move (Operand.tmp 8), none⟩, []⟩,
  ⟨⟨some 20, Op.binOp BinOp.add 3 (Operand.tmp 19) (Operand.const (Value.int IntKind.i64 1)) 3, none⟩, []⟩,
  ⟨⟨some 9, Op.assign (Operand.tmp 20), none⟩, []⟩]) (.block 2 (.loop (.seq (.seq (.reg [⟨⟨some 21, Op.move (Operand.tmp 9), none⟩, []⟩,
  ⟨⟨some 22, Op.move (Operand.tmp 2), none⟩, []⟩,
  ⟨⟨some 23, Op.call { callee := (Callee.builtin Builtin.len), args := #[(Operand.tmp 22)], argTypes := #[26] }, none⟩, []⟩,
  ⟨⟨some 24, Op.binOp BinOp.lss 3 (Operand.tmp 21) (Operand.tmp 23) 3, none⟩, []⟩]) (.cond (Operand.tmp 24) .skip (.exit 2))) (.seq (.block 3 (.seq (.reg [⟨⟨some 27, Op.load 31 (Operand.tmp 3), none⟩, []⟩,
  ⟨⟨some 28, Op.move (Operand.tmp 1), none⟩, []⟩,
  ⟨⟨some 29, Op.move (Operand.tmp 2), none⟩, []⟩,
  ⟨⟨some 30, Op.move (Operand.tmp 8), none⟩, []⟩,
  ⟨⟨some 31, Op.indexAddr 26 (Operand.tmp 29) (Operand.tmp 30), none⟩, []⟩,
  ⟨⟨some 32, Op.load 38 (Operand.tmp 31), none⟩, []⟩,
  ⟨⟨some 33, Op.move (Operand.tmp 2), none⟩, []⟩,
  ⟨⟨some 34, Op.move (Operand.tmp 9), none⟩, []⟩,
  ⟨⟨some 35, Op.indexAddr 26 (Operand.tmp 33) (Operand.tmp 34), none⟩, []⟩,
  ⟨⟨some 36, Op.load 38 (Operand.tmp 35), none⟩, []⟩,
  ⟨⟨some 37, Op.call { callee := (Callee.value (Operand.func 67)), args := #[(Operand.tmp 27), (Operand.tmp 28), (Operand.tmp 32), (Operand.tmp 36)], argTypes := #[31, 3, 38, 38] }, none⟩, []⟩]) (.cond (Operand.tmp 37) (.reg [⟨⟨some 38, Op.fieldAddr 28 (Operand.tmp 7) 1, none⟩, []⟩,
  ⟨⟨some 39, Op.load 22 (Operand.tmp 38), none⟩, []⟩,
  ⟨⟨some 40, Op.move (Operand.tmp 8), none⟩, []⟩,
  ⟨⟨some 41, Op.move (Operand.tmp 9), none⟩, []⟩,
  ⟨⟨some 42, Op.build 66 #[(0, (Operand.tmp 40)), (1, (Operand.tmp 41))], none⟩, []⟩,
  ⟨⟨some 43, Op.buildSlice 22 1 #[(0, (Operand.tmp 42))], none⟩, []⟩,
  ⟨⟨some 44, Op.call { callee := (Callee.builtin Builtin.append), args := #[(Operand.tmp 39), (Operand.tmp 43)], argTypes := #[22, 22] }, none⟩, []⟩,
  ⟨⟨some 45, Op.fieldAddr 28 (Operand.tmp 7) 1, none⟩, []⟩,
  ⟨⟨none, Op.store 22 (Operand.tmp 45) (Operand.tmp 44), none⟩, []⟩]) .skip))) (.reg [⟨⟨some 25, Op.move (Operand.tmp 9), none⟩, []⟩,
  ⟨⟨some 26, Op.binOp BinOp.add 3 (Operand.tmp 25) (Operand.const (Value.int IntKind.i64 1)) 3, none⟩, []⟩,
  ⟨⟨some 9, Op.assign (Operand.tmp 26), none⟩, []⟩]))))))) (.reg [⟨⟨some 17, Op.move (Operand.tmp 8), none⟩, []⟩,
  ⟨⟨some 18, Op.binOp BinOp.add 3 (Operand.tmp 17) (Operand.const (Value.int IntKind.i64 1)) 3, none⟩, []⟩,
  ⟨⟨some 8, Op.assign (Operand.tmp 18), none⟩, []⟩])))))) (.seq (.reg [⟨⟨some 46, Op.load 28 (Operand.tmp 7), none⟩, []⟩,
  ⟨⟨none, Op.store 28 (Operand.tmp 6) (Operand.tmp 46), none⟩, []⟩]) .ret))))
theorem sl44 : slim Try.f44.ntmps ords44 (Try.f44.body.getD .skip) = some cd44 := by kernel_rfl
set_option maxRecDepth 20000 in
theorem in44 {args : List Value} {H : AH} {R : Value → AH → Prop} (hl : args.length = 3) (h : ∀ (Q : Exit → Sl → AH → Prop), (∀ e s H, endA Try.prog [ResultVar.cell 6 28] R e s H → Q e s H) → wpC Try.prog cd44 Q (enterA args) H) : ACalls Try.prog 44 args H R :=
  ACalls.intro (by kernel_rfl) Try.func44 rfl (by kernel_rfl) sl44 hl (of_decide_eq_true (by kernel_rfl)) (by kernel_rfl) h
end Go.Proofs.Ytjnefjchconebab.Ai
namespace Go.Proofs.Ytjnefjchconebab.Ai
open Go Go.RowKit
set_option linter.unusedVariables false
set_option linter.unusedSimpArgs false
/-- is there a step of a kind between two sets -/
def stB (es : List (Int × Int)) (kd : Int) (x y : List Int) : Bool :=
  if kd = 2 then decide (((without x y).length : Int) + ((without y x).length : Int) = 1)
  else decide (((without x y).length : Int) = 1) && (decide (((without y x).length : Int) = 1) && (decide (kd = 1) || nearB es ((without x y).getD 0 0) ((without y x).getD 0 0)))
theorem wo_le (x y : List Int) : (without x y).length ≤ x.length := by unfold without; exact List.length_filter_le _ _
set_option maxRecDepth 20000 in
set_option maxHeartbeats 4000000 in
theorem l3Step_c (n kd : Int) (v w u : Value) (es : List (Int × Int)) (xs ys : List Int) (H : AH) (hr : RowP 66 H v es) (hes : es.length ≤ 1099511627776) (hx : Row 3 H w xs) (hy : Row 3 H u ys) (hlx : xs.length ≤ 1000) (hly : ys.length ≤ 1000) :
    ACalls Try.prog 67 [.agg (List.toArray [.int .i64 n, v]), .int .i64 kd, w, u] H fun r H' => r = .bool (stB es kd xs ys) ∧ H <+: H' := by
  refine in67 rfl ?_
  intro Q hQ
  simp (maxSteps := 1000000) (disch := omega) only [cd67, hr.boxG, S, S1, S2, S3, S4, S5, ST, eq_self, reduceIte, reduceCtorEq, Nat.reduceEqDiff, Nat.reduceAdd]
  generalize hA : H ++ [AObj.cells [.int .i64 n, v] 31 false] = A
  have pA : H <+: A := by rw [← hA]; exact List.prefix_append _ _
  have cA : A[H.length]? = some (.cells [.int .i64 n, v] 31 false) := by rw [← hA]; exact at_new ..
  have rA := hr.pre pA
  refine CallH.by (l3Only_c w u xs ys A (hx.pre pA) (hy.pre pA) (by omega) (by omega)) ?_
  rintro p B ⟨hp, pB⟩
  simp (maxSteps := 1000000) (disch := omega) only [S, S1, S2, S3, S4, S5, ST, eq_self, reduceIte, reduceCtorEq, Nat.reduceEqDiff, Nat.reduceAdd]
  refine CallH.by (l3Only_c u w ys xs B ((hy.pre pA).pre pB) ((hx.pre pA).pre pB) (by omega) (by omega)) ?_
  rintro q C ⟨hq, pC⟩
  have hpC := hp.row.pre pC
  have hqC := hq.row
  have cC := pre_at (pB.trans pC) cA
  have pHC := pA.trans (pB.trans pC)
  have l1 := wo_le xs ys
  have l2 := wo_le ys xs
  simp (maxSteps := 1000000) (disch := omega) only [S, S1, S2, S3, S4, S5, ST, eq_self, reduceIte, reduceCtorEq, Nat.reduceEqDiff, Nat.reduceAdd]
  refine brD.intro (fun e => ?_) (fun e => ?_)
  · simp (maxSteps := 1000000) (disch := omega) only [hpC.len Try.underlying38, hqC.len Try.underlying38, wrap64, S, S1, S2, S3, S4, S5, ST, eq_self, reduceIte, reduceCtorEq, Nat.reduceEqDiff, Nat.reduceAdd]
    refine hQ _ _ _ ?_
    simp (maxSteps := 1000000) (disch := omega) only [S, S1, S2, S3, S4, S5, ST, eq_self, reduceIte, reduceCtorEq, Nat.reduceEqDiff, Nat.reduceAdd]
    exact ⟨by unfold stB; rw [if_pos e], pHC⟩
  by_cases e1 : ((without xs ys).length : Int) = 1
  rotate_left
  · simp (maxSteps := 1000000) (disch := omega) only [hpC.len Try.underlying38, decide_eq_false e1, S, S1, S2, S3, S4, S5, ST, eq_self, reduceIte, reduceCtorEq, Nat.reduceEqDiff, Nat.reduceAdd]
    refine hQ _ _ _ ?_
    simp (maxSteps := 1000000) (disch := omega) only [S, S1, S2, S3, S4, S5, ST, eq_self, reduceIte, reduceCtorEq, Nat.reduceEqDiff, Nat.reduceAdd]
    exact ⟨by unfold stB; rw [if_neg e, decide_eq_false e1]; rfl, pHC⟩
  by_cases e2 : ((without ys xs).length : Int) = 1
  rotate_left
  · simp (maxSteps := 1000000) (disch := omega) only [hpC.len Try.underlying38, decide_eq_true e1, hqC.len Try.underlying38, decide_eq_false e2, S, S1, S2, S3, S4, S5, ST, eq_self, reduceIte, reduceCtorEq, Nat.reduceEqDiff, Nat.reduceAdd]
    refine hQ _ _ _ ?_
    simp (maxSteps := 1000000) (disch := omega) only [S, S1, S2, S3, S4, S5, ST, eq_self, reduceIte, reduceCtorEq, Nat.reduceEqDiff, Nat.reduceAdd]
    exact ⟨by unfold stB; rw [if_neg e, decide_eq_true e1, decide_eq_false e2]; rfl, pHC⟩
  by_cases e3 : kd = 1
  · simp (maxSteps := 1000000) (disch := omega) only [hpC.len Try.underlying38, decide_eq_true e1, hqC.len Try.underlying38, decide_eq_true e2, decide_eq_true e3, S, S1, S2, S3, S4, S5, ST, eq_self, reduceIte, reduceCtorEq, Nat.reduceEqDiff, Nat.reduceAdd]
    refine hQ _ _ _ ?_
    simp (maxSteps := 1000000) (disch := omega) only [S, S1, S2, S3, S4, S5, ST, eq_self, reduceIte, reduceCtorEq, Nat.reduceEqDiff, Nat.reduceAdd]
    exact ⟨by unfold stB; rw [if_neg e, decide_eq_true e1, decide_eq_true e2, decide_eq_true e3]; rfl, pHC⟩
  have c1 := hpC.cell (show 0 < (without xs ys).length by omega)
  have c2 := hqC.cell (show 0 < (without ys xs).length by omega)
  rw [Nat.add_zero] at c1 c2
  simp (maxSteps := 1000000) (disch := omega) only [hpC.len Try.underlying38, decide_eq_true e1, hqC.len Try.underlying38, decide_eq_true e2, decide_eq_false e3, ld_agg ag31 cs31 cC, hpC.ix Try.underlying38 cs3, hqC.ix Try.underlying38 cs3, Int.toNat_zero, Nat.add_zero, c1, c2, S, S1, S2, S3, S4, S5, ST, eq_self, reduceIte, reduceCtorEq, Nat.reduceEqDiff, Nat.reduceAdd]
  refine CallH.by (l2Near_c n v es _ _ C (hr.pre pHC) hes) ?_
  rintro _ D ⟨rfl, pD⟩
  simp (maxSteps := 1000000) (disch := omega) only [S, S1, S2, S3, S4, S5, ST, eq_self, reduceIte, reduceCtorEq, Nat.reduceEqDiff, Nat.reduceAdd]
  refine hQ _ _ _ ?_
  simp (maxSteps := 1000000) (disch := omega) only [S, S1, S2, S3, S4, S5, ST, eq_self, reduceIte, reduceCtorEq, Nat.reduceEqDiff, Nat.reduceAdd]
  exact ⟨by unfold stB; rw [if_neg e, decide_eq_true e1, decide_eq_true e2, decide_eq_false e3]; rfl, pHC.trans pD⟩
set_option maxRecDepth 20000 in
set_option maxHeartbeats 8000000 in
theorem l3Space_c {H0 : AH} (n kd : Int) (v : Value) (es : List (Int × Int)) (hg : RowP 66 H0 v es) (hes : es.length ≤ 1099511627776) {a : Value} {ls : List (List Int)} {lo : Nat} (hL : InL lo H0.length 38 3 H0 a ls) (h9 : ls.length ≤ 1000) (hlen : ∀ l ∈ ls, l.length ≤ 1000) :
    ACalls Try.prog 44 [.agg (List.toArray [.int .i64 n, v]), .int .i64 kd, a] H0 fun r H' => ∃ b, r = .agg (List.toArray [a, b]) ∧ InP H0.length H'.length 66 H' b (steps (stB es kd) ls) ∧ H0 <+: H' := by
  refine in44 rfl ?_
  intro Q hQ
  obtain ⟨us, r1', r2, r3'⟩ := hL.parts
  obtain ⟨pa, hpa⟩ := r1'.shape
  simp (maxSteps := 1000000) (disch := omega) only [cd44, hg.boxG, alloc_sp, S, S1, S2, S3, S4, S5, ST, eq_self, reduceIte, reduceCtorEq, Nat.reduceEqDiff, Nat.reduceAdd]
  generalize hH : H0 ++ [AObj.cells [.int .i64 n, v] 31 false] = H
  have pH : H0 <+: H := by rw [← hH]; exact List.prefix_append _ _
  have cH : H[H0.length]? = some (.cells [.int .i64 n, v] 31 false) := by rw [← hH]; exact at_new ..
  have rH := hg.pre pH
  have r1 := r1'.pre pH
  have r3 : ∀ i, i < ls.length → Row 3 H (us.getD i undef) (ls.getD i []) := fun i hi => (r3' i hi).row.1.pre pH
  have lH : H.length = H0.length + 1 := by rw [← hH]; simp
  generalize hA : H ++ [AObj.cells [.slice none 0 0, .slice none 0 0] 28 false] = A
  have pA : H <+: A := by rw [← hA]; exact List.prefix_append _ _
  have cA : A[H.length]? = some (.cells [.slice none 0 0, .slice none 0 0] 28 false) := by rw [← hA]; exact at_new ..
  have lA : A.length = H.length + 1 := by rw [← hA]; simp
  generalize hE : A ++ [AObj.cells [] 66 false] = E
  have pE : A <+: E := by rw [← hE]; exact List.prefix_append _ _
  have lE : E.length = A.length + 1 := by rw [← hE]; simp
  have m0 : MineP 66 A E (.slice (some ⟨A.length, 0, none⟩) 0 0) [] := by rw [← hE]; exact MineP.nil0 (P := Try.prog) A A (Nat.le_refl _)
  have hb2 := bld_sp2 pa (some ⟨A.length, 0, none⟩) us.length us.length 0 0
  rw [← hpa] at hb2
  have st1 := st_ss (at_new E (.cells [.slice none 0 0, .slice none 0 0] 28 false)) rfl pa (some ⟨A.length, 0, none⟩) us.length us.length 0 0
  rw [set_new, ← hpa] at st1
  simp (maxSteps := 1000000) (disch := omega) only [hb2, alloc_sp, st1, S, S1, S2, S3, S4, S5, ST, eq_self, reduceIte, reduceCtorEq, Nat.reduceEqDiff, Nat.reduceAdd]
  generalize hG : E ++ [AObj.cells [a, .slice (some ⟨A.length, 0, none⟩) 0 0] 28 false] = G
  have pG : E <+: G := by rw [← hG]; exact List.prefix_append _ _
  have cG : G[E.length]? = some (.cells [a, .slice (some ⟨A.length, 0, none⟩) 0 0] 28 false) := by rw [← hG]; exact at_new ..
  have lG : G.length = E.length + 1 := by rw [← hG]; simp
  have pAG := pE.trans pG
  have rowA : ∀ {H'}, A <+: H' → RowV 38 H' a us := fun hp => r1.pre (pA.trans hp)
  have rowI : ∀ {H'} (i : Nat), i < ls.length → A <+: H' → Row 3 H' (us.getD i undef) (ls.getD i []) := fun i hi hp => (r3 i hi).pre (pA.trans hp)
  have sm : ∀ i, i < ls.length → (ls.getD i []).length ≤ 1000 := fun i hi => hlen _ (by simp [hi])
  have gG : ∀ {H'}, A <+: H' → H'[H0.length]? = some (.cells [.int .i64 n, v] 31 false) := fun hp => pre_at (pA.trans hp) cH
  refine LoopH.by (fun m s H' => ∃ i st, m + i = ls.length ∧ s 1 = .int .i64 kd ∧ s 2 = a ∧ s 3 = .pointer (some ⟨H0.length, 0, none⟩) ∧ s 6 = .pointer (some ⟨H.length, 0, none⟩) ∧ s 7 = .pointer (some ⟨E.length, 0, none⟩) ∧ s 8 = .int .i64 ((i : Nat) : Int) ∧ H'[E.length]? = some (.cells [a, st] 28 false) ∧ (rowO st = A.length ∨ G.length ≤ rowO st) ∧ st ≠ .slice none 0 0 ∧ MineP 66 A H' st (stpO (stB es kd) ls i) ∧ A <+: H') ls.length ?_ ?_
  · exact ⟨0, .slice (some ⟨A.length, 0, none⟩) 0 0, by simp, rfl, rfl, rfl, rfl, rfl, rfl, cG, .inl rfl, (by intro e; cases e), m0.pre pG, pAG⟩
  rintro m s H' ⟨i, st, hm, s1, s2, s3, s6, s7, s8, hc5, hst, hsn, hmn, hpp⟩
  simp (maxSteps := 1000000) (disch := omega) only [s1, s2, s3, s6, s7, s8, (rowA hpp).len Try.underlying26, r2, S, S1, S2, S3, S4, S5, ST, eq_self, reduceIte, reduceCtorEq, Nat.reduceEqDiff, Nat.reduceAdd]
  refine brD.intro (fun g => ?_) (fun g => ?_)
  rotate_left
  · have hi : i = ls.length := by omega
    subst hi
    have hrow : SpRow H' a st ls (stpO (stB es kd) ls ls.length) := ⟨⟨_, (hL.row.pre pH).pre (pA.trans hpp)⟩, hmn.row⟩
    have cAH := pre_at hpp cA
    have hstore := hrow.store cAH rfl
    simp (maxSteps := 1000000) (disch := omega) only [s1, s2, s3, s6, s7, s8, ld_agg ag28 cs28 hc5, hstore, S, S1, S2, S3, S4, S5, ST, eq_self, reduceIte, reduceCtorEq, Nat.reduceEqDiff, Nat.reduceAdd]
    have d4 := at_set (d := .cells [a, st] 28 false) cAH
    have lH' := hpp.length_le
    refine hQ _ _ _ (end_cell _ _ _ _ _ _ (.agg (List.toArray [a, st])) ?_ rfl ⟨st, rfl, ?_, ?_⟩)
    · simp (maxSteps := 1000000) (disch := omega) only [s6, ld_agg ag28 cs28 d4, S, S1, S2, S3, S4, S5, ST, eq_self, reduceIte, reduceCtorEq, Nat.reduceEqDiff, Nat.reduceAdd]
    · rcases InP.of hmn with q | ⟨o, zs, q1, q2, q3, q4, q5⟩
      · exact .inl q
      · exact .inr ⟨o, zs, q1, by omega, by simpa using q3, by rw [List.getElem?_set_ne (by omega)]; exact q4, q5⟩
    · exact pre_set (pH.trans (pA.trans hpp)) (by omega) _
  have hi : i < ls.length := by omega
  simp (maxSteps := 1000000) (disch := omega) only [s1, s2, s3, s6, s7, s8, wrap64, S, S1, S2, S3, S4, S5, ST, eq_self, reduceIte, reduceCtorEq, Nat.reduceEqDiff, Nat.reduceAdd]
  refine LoopH.by (fun m' s' H'' => ∃ j st', m' + j = ls.length - (i + 1) ∧ s' 1 = .int .i64 kd ∧ s' 2 = a ∧ s' 3 = .pointer (some ⟨H0.length, 0, none⟩) ∧ s' 6 = .pointer (some ⟨H.length, 0, none⟩) ∧ s' 7 = .pointer (some ⟨E.length, 0, none⟩) ∧ s' 8 = .int .i64 ((i : Nat) : Int) ∧ s' 9 = .int .i64 ((i + 1 + j : Nat) : Int) ∧ H''[E.length]? = some (.cells [a, st'] 28 false) ∧ (rowO st' = A.length ∨ G.length ≤ rowO st') ∧ st' ≠ .slice none 0 0 ∧ MineP 66 A H'' st' (stpO (stB es kd) ls i ++ stpI (stB es kd) ls i j) ∧ A <+: H'') (ls.length - (i + 1)) ?_ ?_
  · refine ⟨0, st, by simp, ?_⟩
    simp only [S, S1, S2, S3, S4, S5, ST, eq_self, reduceIte, reduceCtorEq, Nat.reduceEqDiff, Nat.reduceAdd, s1, s2, s3, s6, s7, s8]
    have f0 : MineP 66 A H' st (stpO (stB es kd) ls i ++ stpI (stB es kd) ls i 0) := by rw [stpI, List.append_nil]; exact hmn
    (repeat' first | exact hc5 | exact hst | exact hsn | exact f0 | exact hpp | apply And.intro) <;> first | (simp only [Value.int.injEq, true_and]; omega) | omega | rfl | assumption | (simp; done) | (simp; omega)
  · rintro m' s' H'' ⟨j, st', hm', g1, g2, g3, g6, g7, g8, g9, hc5', hst', hsn', hmn', hpp'⟩
    simp (maxSteps := 1000000) (disch := omega) only [g1, g2, g3, g6, g7, g8, g9, (rowA hpp').len Try.underlying26, r2, S, S1, S2, S3, S4, S5, ST, eq_self, reduceIte, reduceCtorEq, Nat.reduceEqDiff, Nat.reduceAdd]
    refine brD.intro (fun q => ?_) (fun q => ?_)
    · have hj : i + 1 + j < ls.length := by omega
      have hci := (rowA hpp').cell (show i < us.length by omega)
      have hcj := (rowA hpp').cell (show i + 1 + j < us.length by omega)
      have hgi := sm i hi
      have hgj := sm _ hj
      have cgH := gG hpp'
      simp (maxSteps := 1000000) (disch := omega) only [g1, g2, g3, g6, g7, g8, g9, ld_agg ag31 cs31 cgH, (rowA hpp').ix Try.underlying26 cs38, Int.toNat_natCast, hci, hcj, S, S1, S2, S3, S4, S5, ST, eq_self, reduceIte, reduceCtorEq, Nat.reduceEqDiff, Nat.reduceAdd]
      refine CallH.by (l3Step_c n kd v _ _ es _ _ H'' (hg.pre (pH.trans (pA.trans hpp'))) hes (rowI i hi hpp') (rowI (i + 1 + j) hj hpp') (by omega) (by omega)) ?_
      rintro _ K ⟨rfl, pK⟩
      have hcK := pre_at pK hc5'
      have hpK := hpp'.trans pK
      have hmK := hmn'.pre pK
      have hsl1 := stpO_len (stB es kd) ls i
      have hsl2 := stpI_len (stB es kd) ls i j
      have hmul : i * ls.length ≤ 1000 * 1000 := Nat.mul_le_mul (by omega) (by omega)
      have lK := hpK.length_le
      have l5 := at_lt hc5'
      have hne : ∀ o, o = E.length → o ≠ rowO st' := fun o ho => by omega
      simp (maxSteps := 1000000) (disch := omega) only [g1, g2, g3, g6, g7, g8, g9, S, S1, S2, S3, S4, S5, ST, eq_self, reduceIte, reduceCtorEq, Nat.reduceEqDiff, Nat.reduceAdd]
      refine brH.intro (fun ht => ?_) (fun ht => ?_)
      · have hstep : stpI (stB es kd) ls i (j + 1) = stpI (stB es kd) ls i j ++ [((i : Int), ((i + 1 + j : Nat) : Int))] := by rw [stpI, if_pos ht]
        obtain ⟨st2, H3, k1, k2, k3, k4, k5, k6⟩ := own1_22 hmK hpK (by rw [List.length_append]; omega) (i : Int) ((i + 1 + j : Nat) : Int)
        have d5 : H3[E.length]? = some (.cells [a, st'] 28 false) := k4 _ _ (.inr (hne _ rfl)) hcK
        obtain ⟨q2, hq2⟩ := k2.row.shape
        have t2 : st2.cells.toList = [st2] := by rw [hq2]; rfl
        have hst3 := st_at (P := Try.prog) (t := 22) (i := 1) (y := st2) cs22 d5 (by show 1 < 2; decide) k6 t2
        have lGK : G.length ≤ K.length := by have := pK.length_le; omega
        simp (maxSteps := 1000000) (disch := omega) only [ht, g1, g2, g3, g6, g7, g8, g9, cell_of hcK, build_a2, wrap64, k1, hst3, S, S1, S2, S3, S4, S5, ST, eq_self, reduceIte, reduceCtorEq, Nat.reduceEqDiff, Nat.reduceAdd]
        have f5 : (H3.set E.length (.cells ([a, st'].set 1 st2) 28 false))[E.length]? = some (.cells [a, st2] 28 false) := by
          rw [List.getElem?_set_self (at_lt d5)]; rfl
        have fs1 : rowO st2 = A.length ∨ G.length ≤ rowO st2 := .inr (by omega)
        have fs2 : st2 ≠ .slice none 0 0 := by
          intro hh
          rw [hh] at k5
          have : rowO (Value.slice none 0 0) = 0 := rfl
          omega
        have fm : MineP 66 A (H3.set E.length (.cells ([a, st'].set 1 st2) 28 false)) st2 (stpO (stB es kd) ls i ++ stpI (stB es kd) ls i (j + 1)) := by
          rw [hstep, ← List.append_assoc]
          exact k2.keepL fun hl y hy => by rw [List.getElem?_set_ne (by omega)]; exact hy
        have fp : A <+: H3.set E.length (.cells ([a, st'].set 1 st2) 28 false) := pre_set k3 (by omega) _
        refine ⟨m' - 1, by omega, j + 1, st2, ?_⟩
        (repeat' first | exact f5 | exact fs1 | exact fs2 | exact fm | exact fp | apply And.intro) <;> first | (simp only [Value.int.injEq, true_and]; omega) | omega | rfl | assumption | (simp; done) | (simp; omega)
      · have hstep : stpI (stB es kd) ls i (j + 1) = stpI (stB es kd) ls i j := by rw [stpI, if_neg (by rw [ht]; decide), List.append_nil]
        rw [← hstep] at hmK
        simp (maxSteps := 1000000) (disch := omega) only [ht, g1, g2, g3, g6, g7, g8, g9, wrap64, S, S1, S2, S3, S4, S5, ST, eq_self, reduceIte, reduceCtorEq, Nat.reduceEqDiff, Nat.reduceAdd]
        refine ⟨m' - 1, by omega, j + 1, st', ?_⟩
        (repeat' first | exact hcK | exact hst' | exact hsn' | exact hmK | exact hpK | apply And.intro) <;> first | (simp only [Value.int.injEq, true_and]; omega) | omega | rfl | assumption | (simp; done) | (simp; omega)
    · have hjj : j = ls.length - (i + 1) := by omega
      subst hjj
      have hstO : stpO (stB es kd) ls (i + 1) = stpO (stB es kd) ls i ++ stpI (stB es kd) ls i (ls.length - (i + 1)) := rfl
      rw [← hstO] at hmn'
      simp (maxSteps := 1000000) (disch := omega) only [g1, g2, g3, g6, g7, g8, g9, wrap64, S, S1, S2, S3, S4, S5, ST, eq_self, reduceIte, reduceCtorEq, Nat.reduceEqDiff, Nat.reduceAdd]
      refine ⟨m - 1, by omega, i + 1, st', ?_⟩
      (repeat' first | exact hc5' | exact hst' | exact hsn' | exact hmn' | exact hpp' | apply And.intro) <;> first | (simp only [Value.int.injEq, true_and]; omega) | omega | rfl | assumption | (simp; done) | (simp; omega)
end Go.Proofs.Ytjnefjchconebab.Ai
namespace Go.Proofs.Ytjnefjchconebab.Ai
open Go
def ords25 : List (Nat × List (Nat × Bool)) := []
def cd25 : Cd := (.seq (.reg [⟨⟨some 1, Op.box 28 (Operand.tmp 0), none⟩, []⟩,
  ⟨⟨some 2, Op.alloc 28, none⟩, []⟩,
  ⟨⟨some 3, Op.assign (Operand.const (Value.bool false)), none⟩, []⟩]) (.seq (.seq (.reg [⟨⟨some 4, Op.fieldAddr 28 (Operand.tmp 1) 0, none⟩, []⟩,
  ⟨⟨some 5, Op.load 26 (Operand.tmp 4), none⟩, []⟩,
  ⟨⟨some 6, Op.call { callee := (Callee.builtin Builtin.len), args := #[(Operand.tmp 5)], argTypes := #[26] }, none⟩, []⟩,
  ⟨⟨some 7, Op.binOp BinOp.gtr 3 (Operand.tmp 6) (Operand.const (Value.int IntKind.i64 300)) 3, none⟩, []⟩,
  ⟨⟨some 8, Op.move (Operand.tmp 7), none⟩, []⟩,
  ⟨⟨some 9, Op.fieldAddr 28 (Operand.tmp 1) 1, some (8, false)⟩, []⟩,
  ⟨⟨some 10, Op.load 22 (Operand.tmp 9), some (8, false)⟩, []⟩,
  ⟨⟨some 11, Op.call { callee := (Callee.builtin Builtin.len), args := #[(Operand.tmp 10)], argTypes := #[22] }, some (8, false)⟩, []⟩,
  ⟨⟨some 12, Op.binOp BinOp.gtr 3 (Operand.tmp 11) (Operand.const (Value.int IntKind.i64 6000)) 3, some (8, false)⟩, []⟩,
  ⟨⟨some 13, Op.pick (Operand.tmp 8) (Operand.const (Value.bool true)) (Operand.tmp 12), none⟩, []⟩]) (.cond (Operand.tmp 13) (.seq (.reg [⟨⟨some 14, Op.build 28 #[], none⟩, []⟩,
  ⟨⟨none, Op.store 28 (Operand.tmp 2) (Operand.tmp 14), none⟩, []⟩,
  ⟨⟨some 3, Op.assign (Operand.const (Value.bool false)), none⟩, []⟩]) .ret) .skip)) (.seq (.reg [⟨⟨some 15, Op.load 28 (Operand.tmp 1), none⟩, []⟩,
  ⟨⟨none, Op.store 28 (Operand.tmp 2) (Operand.tmp 15), none⟩, []⟩,
  ⟨⟨some 3, Op.assign (Operand.const (Value.bool true)), none⟩, []⟩]) .ret)))
theorem sl25 : slim Try.f25.ntmps ords25 (Try.f25.body.getD .skip) = some cd25 := by kernel_rfl
set_option maxRecDepth 20000 in
theorem in25 {args : List Value} {H : AH} {R : Value → AH → Prop} (hl : args.length = 1) (h : ∀ (Q : Exit → Sl → AH → Prop), (∀ e s H, endA Try.prog [ResultVar.cell 2 28, ResultVar.tmp 3] R e s H → Q e s H) → wpC Try.prog cd25 Q (enterA args) H) : ACalls Try.prog 25 args H R :=
  ACalls.intro (by kernel_rfl) Try.func25 rfl (by kernel_rfl) sl25 hl (of_decide_eq_true (by kernel_rfl)) (by kernel_rfl) h
end Go.Proofs.Ytjnefjchconebab.Ai
namespace Go.Proofs.Ytjnefjchconebab.Ai
open Go Go.RowKit
set_option linter.unusedVariables false
set_option linter.unusedSimpArgs false
set_option maxRecDepth 20000 in
set_option maxHeartbeats 2000000 in
theorem orNone_c (a b : Value) (ls : List (List Int)) (ps : List (Int × Int)) (H : AH) (hr : SpRow H a b ls ps) (hl : ls.length ≤ 300) (hp : ps.length ≤ 6000) :
    ACalls Try.prog 25 [.agg (List.toArray [a, b])] H fun r H' => r = .tuple (List.toArray [.agg (List.toArray [a, b]), .bool true]) ∧ H <+: H' := by
  refine in25 rfl ?_
  intro Q hQ
  simp (maxSteps := 1000000) (disch := omega) only [cd25, hr.box, S, S1, S2, S3, S4, S5, ST, eq_self, reduceIte, reduceCtorEq, Nat.reduceEqDiff, Nat.reduceAdd]
  generalize hA0 : H ++ [AObj.cells [a, b] 28 false] = A0
  have pA0 : H <+: A0 := by rw [← hA0]; exact List.prefix_append _ _
  have cA0 : A0[H.length]? = some (.cells [a, b] 28 false) := by rw [← hA0]; exact at_new ..
  simp (maxSteps := 1000000) (disch := omega) only [alloc_sp, S, S1, S2, S3, S4, S5, ST, eq_self, reduceIte, reduceCtorEq, Nat.reduceEqDiff, Nat.reduceAdd]
  generalize hA : A0 ++ [AObj.cells [.slice none 0 0, .slice none 0 0] 28 false] = A
  have pA : A0 <+: A := by rw [← hA]; exact List.prefix_append _ _
  have cA : A[A0.length]? = some (.cells [.slice none 0 0, .slice none 0 0] 28 false) := by rw [← hA]; exact at_new ..
  have cB := pre_at pA cA0
  have rA := hr.pre (pA0.trans pA)
  obtain ⟨bd, us, r1, r2, r3⟩ := rA.1
  have g1 : ¬ (300 < (us.length : Int)) := by omega
  have g2 : ¬ (6000 < (ps.length : Int)) := by omega
  have hst := rA.store cA rfl
  simp (maxSteps := 1000000) (disch := omega) only [cell_of cB, r1.len Try.underlying26, rA.2.len Try.underlying22, decide_eq_false g1, decide_eq_false g2, ld_agg ag28 cs28 cB, hst, S, S1, S2, S3, S4, S5, ST, eq_self, reduceIte, reduceCtorEq, Nat.reduceEqDiff, Nat.reduceAdd]
  have d4 := at_set (d := .cells [a, b] 28 false) cA
  refine hQ _ _ _ (end_cell2 _ _ _ _ _ _ _ (.agg (List.toArray [a, b])) (.bool true) ?_ rfl ?_ rfl ⟨rfl, ?_⟩)
  · simp (maxSteps := 1000000) (disch := omega) only [ld_agg ag28 cs28 d4, S, S1, S2, S3, S4, S5, ST, eq_self, reduceIte, reduceCtorEq, Nat.reduceEqDiff, Nat.reduceAdd]
  · simp (maxSteps := 1000000) (disch := omega) only [S, S1, S2, S3, S4, S5, ST, eq_self, reduceIte, reduceCtorEq, Nat.reduceEqDiff, Nat.reduceAdd]
  · exact pre_set (pA0.trans pA) (by have := pA0.length_le; omega) _
end Go.Proofs.Ytjnefjchconebab.Ai
namespace Go.Proofs.Ytjnefjchconebab.Ai
open Go
end Go.Proofs.Ytjnefjchconebab.Ai
namespace Go.Proofs.Ytjnefjchconebab.Ai
open Go Go.RowKit
set_option linter.unusedVariables false
set_option linter.unusedSimpArgs false
theorem I64.tdiv {x : Int} (h : I64 x) : IntKind.i64.wrap (x.tdiv 10) = x.tdiv 10 := by
  obtain ⟨h1, h2⟩ := h
  have hle : (x.tdiv 10).natAbs ≤ x.natAbs := by rw [Int.natAbs_tdiv]; exact Nat.div_le_self _ _
  by_cases h0 : 0 ≤ x
  · have := Int.tdiv_nonneg h0 (by decide : (0 : Int) ≤ 10)
    exact wrap64 (by omega) (by omega)
  · rw [IntKind.wrap_i64]
    have : (x.tdiv 10).natAbs ≤ 922337203685477580 := by
      rw [Int.natAbs_tdiv]
      show x.natAbs / 10 ≤ _
      omega
    omega
/-- two diagonals cross -/
def Crs (x y : Int) : Prop := x.tdiv 10 < y.tdiv 10 ∧ y.tdiv 10 < x.tmod 10 ∧ x.tmod 10 < y.tmod 10 ∨ y.tdiv 10 < x.tdiv 10 ∧ x.tdiv 10 < y.tmod 10 ∧ y.tmod 10 < x.tmod 10
instance (x y : Int) : Decidable (Crs x y) := inferInstanceAs (Decidable (_ ∨ _))
/-- a diagonal of a polygon -/
def Diag (n d : Int) : Prop := 0 ≤ d ∧ d.tmod 10 < n ∧ 1 < d.tmod 10 - d.tdiv 10 ∧ ¬ (d.tdiv 10 = 0 ∧ d.tmod 10 = n - 1)
instance (n d : Int) : Decidable (Diag n d) := inferInstanceAs (Decidable (_ ∧ _))
end Go.Proofs.Ytjnefjchconebab.Ai
namespace Go.Proofs.Ytjnefjchconebab.Ai
open Go Go.RowKit
set_option linter.unusedVariables false
set_option linter.unusedSimpArgs false
noncomputable instance (n : Nat) (es : List (Int × Int)) (T : List Int) : Decidable (TreL n es T) := Classical.propDecidable _
end Go.Proofs.Ytjnefjchconebab.Ai
namespace Go.Proofs.Ytjnefjchconebab.Ai
open Go
def ords75 : List (Nat × List (Nat × Bool)) := [(5, [(0, false), (1, false), (2, false), (3, false), (4, false), (5, false), (6, false), (7, false), (8, false), (9, false), (10, false), (11, true), (12, false), (13, true)])]
def cd75 : Cd := (.seq (.reg [⟨⟨some 2, Op.box 31 (Operand.tmp 0), none⟩, []⟩,
  ⟨⟨some 4, Op.alloc 31, none⟩, []⟩]) (.seq (.reg [⟨⟨some 7, Op.fieldAddr 31 (Operand.tmp 2) 0, none⟩, []⟩,
  ⟨⟨some 8, Op.load 3 (Operand.tmp 7), none⟩, []⟩,
  ⟨⟨some 9, Op.buildSlice 22 0 #[], none⟩, []⟩,
  ⟨⟨some 10, Op.build 31 #[(0, (Operand.tmp 8)), (1, (Operand.tmp 9))], none⟩, []⟩,
  ⟨⟨some 5, Op.alloc 31, none⟩, []⟩,
  ⟨⟨none, Op.store 31 (Operand.tmp 5) (Operand.tmp 10), none⟩, []⟩]) (.seq (.seq (.reg [⟨⟨some 6, Op.assign (Operand.const (Value.int IntKind.i64 0)), none⟩, []⟩]) (.block 0 (.loop (.seq (.seq (.reg [⟨⟨some 11, Op.move (Operand.tmp 6), none⟩, []⟩,
  ⟨⟨some 12, Op.move (Operand.tmp 1), none⟩, []⟩,
  ⟨⟨some 13, Op.call { callee := (Callee.builtin Builtin.len), args := #[(Operand.tmp 12)], argTypes := #[38] }, none⟩, []⟩,
  ⟨⟨some 14, Op.binOp BinOp.lss 3 (Operand.tmp 11) (Operand.tmp 13) 3, none⟩, []⟩]) (.cond (Operand.tmp 14) .skip (.exit 0))) (.seq (.block 1 (.reg [⟨⟨some 17, Op.fieldAddr 31 (Operand.tmp 5) 1, none⟩, []⟩,
  ⟨⟨some 18, Op.load 22 (Operand.tmp 17), none⟩, []⟩,
  ⟨⟨some 19, Op.fieldAddr 31 (Operand.tmp 2) 1, none⟩, []⟩,
  ⟨⟨some 20, Op.load 22 (Operand.tmp 19), none⟩, []⟩,
  ⟨⟨some 21, Op.move (Operand.tmp 1), none⟩, []⟩,
  ⟨⟨some 22, Op.move (Operand.tmp 6), none⟩, []⟩,
  ⟨⟨some 23, Op.indexAddr 38 (Operand.tmp 21) (Operand.tmp 22), none⟩, []⟩,
  ⟨⟨some 24, Op.load 3 (Operand.tmp 23), none⟩, []⟩,
  ⟨⟨some 25, Op.indexAddr 22 (Operand.tmp 20) (Operand.tmp 24), none⟩, []⟩,
  ⟨⟨some 26, Op.load 66 (Operand.tmp 25), none⟩, []⟩,
  ⟨⟨some 27, Op.buildSlice 22 1 #[(0, (Operand.tmp 26))], none⟩, []⟩,
  ⟨⟨some 28, Op.call { callee := (Callee.builtin Builtin.append), args := #[(Operand.tmp 18), (Operand.tmp 27)], argTypes := #[22, 22] }, none⟩, []⟩,
  ⟨⟨some 29, Op.fieldAddr 31 (Operand.tmp 5) 1, none⟩, []⟩,
  ⟨⟨none, Op.store 22 (Operand.tmp 29) (Operand.tmp 28), none⟩, []⟩])) (.reg [⟨⟨some 15, Op.move (Operand.tmp 6), none⟩, []⟩,
  ⟨⟨some 16, Op.binOp BinOp.add 3 (Operand.tmp 15) (Operand.const (Value.int IntKind.i64 1)) 3, none⟩, []⟩,
  ⟨⟨some 6, Op.assign (Operand.tmp 16), none⟩, []⟩])))))) (.seq (.reg [⟨⟨some 30, Op.load 31 (Operand.tmp 5), none⟩, []⟩,
  ⟨⟨none, Op.store 31 (Operand.tmp 4) (Operand.tmp 30), none⟩, []⟩]) .ret))))
theorem sl75 : slim Try.f75.ntmps ords75 (Try.f75.body.getD .skip) = some cd75 := by kernel_rfl
set_option maxRecDepth 20000 in
theorem in75 {args : List Value} {H : AH} {R : Value → AH → Prop} (hl : args.length = 2) (h : ∀ (Q : Exit → Sl → AH → Prop), (∀ e s H, endA Try.prog [ResultVar.cell 4 31] R e s H → Q e s H) → wpC Try.prog cd75 Q (enterA args) H) : ACalls Try.prog 75 args H R :=
  ACalls.intro (by kernel_rfl) Try.func75 rfl (by kernel_rfl) sl75 hl (of_decide_eq_true (by kernel_rfl)) (by kernel_rfl) h
def ords20 : List (Nat × List (Nat × Bool)) := []
def cd20 : Cd := (.seq (.reg [⟨⟨some 1, Op.box 31 (Operand.tmp 0), none⟩, []⟩,
  ⟨⟨some 2, Op.assign (Operand.const (Value.bool false)), none⟩, []⟩]) (.seq (.reg [⟨⟨some 3, Op.load 31 (Operand.tmp 1), none⟩, []⟩,
  ⟨⟨some 4, Op.call { callee := (Callee.value (Operand.func 42)), args := #[(Operand.tmp 3)], argTypes := #[31] }, none⟩, []⟩,
  ⟨⟨some 5, Op.move (Operand.tmp 4), none⟩, []⟩,
  ⟨⟨some 6, Op.fieldAddr 31 (Operand.tmp 1) 0, some (5, true)⟩, []⟩,
  ⟨⟨some 7, Op.load 3 (Operand.tmp 6), some (5, true)⟩, []⟩,
  ⟨⟨some 8, Op.binOp BinOp.gtr 3 (Operand.tmp 7) (Operand.const (Value.int IntKind.i64 0)) 3, some (5, true)⟩, []⟩,
  ⟨⟨some 9, Op.pick (Operand.tmp 5) (Operand.tmp 8) (Operand.const (Value.bool false)), none⟩, []⟩,
  ⟨⟨some 2, Op.assign (Operand.tmp 9), none⟩, []⟩]) .ret))
theorem sl20 : slim Try.f20.ntmps ords20 (Try.f20.body.getD .skip) = some cd20 := by kernel_rfl
theorem in20 {args : List Value} {H : AH} {R : Value → AH → Prop} (hl : args.length = 1) (h : ∀ (Q : Exit → Sl → AH → Prop), (∀ e s H, endA Try.prog [ResultVar.tmp 2] R e s H → Q e s H) → wpC Try.prog cd20 Q (enterA args) H) : ACalls Try.prog 20 args H R :=
  ACalls.intro (by kernel_rfl) Try.func20 rfl (by kernel_rfl) sl20 hl (of_decide_eq_true (by kernel_rfl)) (by kernel_rfl) h
end Go.Proofs.Ytjnefjchconebab.Ai
namespace Go.Proofs.Ytjnefjchconebab.Ai
open Go Go.RowKit
set_option linter.unusedVariables false
set_option linter.unusedSimpArgs false
theorem bld_gr (n : Int) (p : Option Addr) (k c : Nat) : buildA Try.prog 31 [(0, .int .i64 n), (1, .slice p k c)] = some (.agg (List.toArray [.int .i64 n, .slice p k c])) := by kernel_rfl
theorem prt_len (es : List (Int × Int)) (T : List Int) : (prtG es T).length = T.length := by simp [prtG]
set_option maxRecDepth 20000 in
set_option maxHeartbeats 4000000 in
theorem l7Part_c (n : Int) (v w : Value) (es : List (Int × Int)) (T : List Int) (H : AH) (hr : RowP 66 H v es) (hw : Row 3 H w T) (hT : EdIn es T) (hlen : T.length ≤ 1000000) :
    ACalls Try.prog 75 [.agg (List.toArray [.int .i64 n, v]), w] H fun r H' => ∃ b, r = .agg (List.toArray [.int .i64 n, b]) ∧ MineP 66 H H' b (prtG es T) ∧ H <+: H' := by
  refine in75 rfl ?_
  intro Q hQ
  simp (maxSteps := 1000000) (disch := omega) only [cd75, hr.boxG, S, S1, S2, S3, S4, S5, ST, eq_self, reduceIte, reduceCtorEq, Nat.reduceEqDiff, Nat.reduceAdd]
  generalize hB : H ++ [AObj.cells [.int .i64 n, v] 31 false] = B
  have pB : H <+: B := by rw [← hB]; exact List.prefix_append _ _
  have cB : B[H.length]? = some (.cells [.int .i64 n, v] 31 false) := by rw [← hB]; exact at_new ..
  have rB := hr.pre pB
  simp (maxSteps := 1000000) (disch := omega) only [alloc_G, cell_of cB, S, S1, S2, S3, S4, S5, ST, eq_self, reduceIte, reduceCtorEq, Nat.reduceEqDiff, Nat.reduceAdd]
  generalize hA : B ++ [AObj.cells [.int .i64 0, .slice none 0 0] 31 false] = A
  have pBA : B <+: A := by rw [← hA]; exact List.prefix_append _ _
  have cA : A[B.length]? = some (.cells [.int .i64 0, .slice none 0 0] 31 false) := by rw [← hA]; exact at_new ..
  have lA : A.length = B.length + 1 := by rw [← hA]; simp
  have gA := pre_at pBA cB
  simp (maxSteps := 1000000) (disch := omega) only [cell_of gA, S, S1, S2, S3, S4, S5, ST, eq_self, reduceIte, reduceCtorEq, Nat.reduceEqDiff, Nat.reduceAdd]
  generalize hE : A ++ [AObj.cells [] 66 false] = E
  have pE : A <+: E := by rw [← hE]; exact List.prefix_append _ _
  have lE : E.length = A.length + 1 := by rw [← hE]; simp
  have m0 : MineP 66 A E (.slice (some ⟨A.length, 0, none⟩) 0 0) [] := by rw [← hE]; exact MineP.nil0 (P := Try.prog) A A (Nat.le_refl _)
  have hb2 := bld_gr n (some ⟨A.length, 0, none⟩) 0 0
  have st1 := st_G m0.row (at_new E (.cells [.int .i64 0, .slice none 0 0] 31 false)) rfl n
  rw [set_new] at st1
  simp (maxSteps := 1000000) (disch := omega) only [hb2, alloc_G, st1, S, S1, S2, S3, S4, S5, ST, eq_self, reduceIte, reduceCtorEq, Nat.reduceEqDiff, Nat.reduceAdd]
  generalize hG : E ++ [AObj.cells [.int .i64 n, .slice (some ⟨A.length, 0, none⟩) 0 0] 31 false] = G
  have pG : E <+: G := by rw [← hG]; exact List.prefix_append _ _
  have cG : G[E.length]? = some (.cells [.int .i64 n, .slice (some ⟨A.length, 0, none⟩) 0 0] 31 false) := by rw [← hG]; exact at_new ..
  have lG : G.length = E.length + 1 := by rw [← hG]; simp
  have pAG := pE.trans pG
  have pHA := pB.trans pBA
  refine LoopH.by (fun m s H' => ∃ i st, m + i = T.length ∧ s 1 = w ∧ s 2 = .pointer (some ⟨H.length, 0, none⟩) ∧ s 4 = .pointer (some ⟨B.length, 0, none⟩) ∧ s 5 = .pointer (some ⟨E.length, 0, none⟩) ∧ s 6 = .int .i64 ((i : Nat) : Int) ∧ H'[E.length]? = some (.cells [.int .i64 n, st] 31 false) ∧ (rowO st = A.length ∨ G.length ≤ rowO st) ∧ st ≠ .slice none 0 0 ∧ MineP 66 A H' st (prtG es (T.take i)) ∧ A <+: H') T.length ?_ ?_
  · exact ⟨0, .slice (some ⟨A.length, 0, none⟩) 0 0, by simp, rfl, rfl, rfl, rfl, rfl, cG, .inl rfl, (by intro e; cases e), m0.pre pG, pAG⟩
  rintro m s H' ⟨i, st, hm, s1, s2, s4, s5, s6, hc5, hst, hsn, hmn, hpp⟩
  have wH := hw.pre (pHA.trans hpp)
  have rH := rB.pre (pBA.trans hpp)
  have gH := pre_at hpp gA
  simp (maxSteps := 1000000) (disch := omega) only [s1, s2, s4, s5, s6, wH.len Try.underlying38, S, S1, S2, S3, S4, S5, ST, eq_self, reduceIte, reduceCtorEq, Nat.reduceEqDiff, Nat.reduceAdd]
  refine brD.intro (fun g => ?_) (fun g => ?_)
  · have hi : i < T.length := by omega
    have hcw := wH.cell hi
    have hmem : T.getD i 0 ∈ T := by simp [hi]
    have her := hT _ hmem
    have htk : T.take (i + 1) = T.take i ++ [T.getD i 0] := by rw [List.take_succ_eq_append_getElem hi]; simp [hi]
    have hi2 : (T.getD i 0).toNat < es.length := by omega
    obtain ⟨st2, H3, k1, k2, k3, k4, k5, k6⟩ := own1_22 hmn hpp (by rw [prt_len, List.length_take]; omega) (es.getD (T.getD i 0).toNat (0, 0)).1 (es.getD (T.getD i 0).toNat (0, 0)).2
    have l5 := at_lt hc5
    have lH := hpp.length_le
    have hne : E.length ≠ rowO st := by omega
    have d5 : H3[E.length]? = some (.cells [.int .i64 n, st] 31 false) := k4 _ _ (.inr hne) hc5
    obtain ⟨q2, hq2⟩ := k2.row.shape
    have t2 : st2.cells.toList = [st2] := by rw [hq2]; rfl
    have hst3 := st_at (P := Try.prog) (t := 22) (i := 1) (y := st2) cs22 d5 (by show 1 < 2; decide) k6 t2
    simp (maxSteps := 1000000) (disch := omega) only [s1, s2, s4, s5, s6, cell_of hc5, cell_of gH, wH.ix Try.underlying38 cs3, hcw, Int.toNat_natCast, rH.ix Try.underlying22 cs66, rH.ld ag66 cs66 hi2, k1, hst3, wrap64, S, S1, S2, S3, S4, S5, ST, eq_self, reduceIte, reduceCtorEq, Nat.reduceEqDiff, Nat.reduceAdd]
    have f5 : (H3.set E.length (.cells ([.int .i64 n, st].set 1 st2) 31 false))[E.length]? = some (.cells [.int .i64 n, st2] 31 false) := by
      rw [List.getElem?_set_self (at_lt d5)]; rfl
    have fs1 : rowO st2 = A.length ∨ G.length ≤ rowO st2 := .inr (by omega)
    have fs2 : st2 ≠ .slice none 0 0 := by
      intro hh
      rw [hh] at k5
      have : rowO (Value.slice none 0 0) = 0 := rfl
      omega
    have fm : MineP 66 A (H3.set E.length (.cells ([.int .i64 n, st].set 1 st2) 31 false)) st2 (prtG es (T.take (i + 1))) := by
      have e1 : prtG es (T.take (i + 1)) = prtG es (T.take i) ++ [((es.getD (T.getD i 0).toNat (0, 0)).1, (es.getD (T.getD i 0).toNat (0, 0)).2)] := by rw [htk]; simp [prtG]
      rw [e1]
      exact k2.keepL fun hl y hy => by rw [List.getElem?_set_ne (by omega)]; exact hy
    have fp : A <+: H3.set E.length (.cells ([.int .i64 n, st].set 1 st2) 31 false) := pre_set k3 (by omega) _
    refine ⟨m - 1, by omega, i + 1, st2, ?_⟩
    (repeat' first | exact f5 | exact fs1 | exact fs2 | exact fm | exact fp | apply And.intro) <;> first | (simp only [Value.int.injEq, true_and]; omega) | omega | rfl | assumption | (simp; done) | (simp; omega)
  · have hi : i = T.length := by omega
    subst hi
    rw [List.take_length] at hmn
    have cAH := pre_at hpp cA
    have hstore := st_G hmn.row cAH rfl n
    simp (maxSteps := 1000000) (disch := omega) only [s1, s2, s4, s5, s6, ld_agg ag31 cs31 hc5, hstore, S, S1, S2, S3, S4, S5, ST, eq_self, reduceIte, reduceCtorEq, Nat.reduceEqDiff, Nat.reduceAdd]
    have d4 := at_set (d := .cells [.int .i64 n, st] 31 false) cAH
    have lH' := hpp.length_le
    refine hQ _ _ _ (end_cell _ _ _ _ _ _ (.agg (List.toArray [.int .i64 n, st])) ?_ rfl ⟨st, rfl, ?_, ?_⟩)
    · simp (maxSteps := 1000000) (disch := omega) only [s4, ld_agg ag31 cs31 d4, S, S1, S2, S3, S4, S5, ST, eq_self, reduceIte, reduceCtorEq, Nat.reduceEqDiff, Nat.reduceAdd]
    · refine (hmn.base pHA).keep fun y hy => ?_
      rw [List.getElem?_set_ne (by omega)]; exact hy
    · exact pre_set (pHA.trans hpp) (by have := pB.length_le; omega) _
theorem l7Some_c (n : Int) (v : Value) (es : List (Int × Int)) (H : AH) (hr : RowP 66 H v es) (hl : es.length ≤ 1099511627776) :
    ACalls Try.prog 20 [.agg (List.toArray [.int .i64 n, v])] H fun r H' => r = .bool (decide (Grd n es ∧ 0 < n)) ∧ H <+: H' := by
  refine in20 rfl ?_
  intro Q hQ
  simp (maxSteps := 1000000) (disch := omega) only [cd20, hr.boxG, S, S1, S2, S3, S4, S5, ST, eq_self, reduceIte, reduceCtorEq, Nat.reduceEqDiff, Nat.reduceAdd]
  generalize hA : H ++ [AObj.cells [.int .i64 n, v] 31 false] = A
  have pA : H <+: A := by rw [← hA]; exact List.prefix_append _ _
  have cA : A[H.length]? = some (.cells [.int .i64 n, v] 31 false) := by rw [← hA]; exact at_new ..
  have rA := hr.pre pA
  simp (maxSteps := 1000000) (disch := omega) only [ld_agg ag31 cs31 cA, S, S1, S2, S3, S4, S5, ST, eq_self, reduceIte, reduceCtorEq, Nat.reduceEqDiff, Nat.reduceAdd]
  refine CallH.by (l2Good_c n v es A rA hl) ?_
  rintro _ B ⟨rfl, pB⟩
  have cB := pre_at pB cA
  by_cases e : Grd n es
  rotate_left
  · simp (maxSteps := 1000000) (disch := omega) only [decide_eq_false e, S, S1, S2, S3, S4, S5, ST, eq_self, reduceIte, reduceCtorEq, Nat.reduceEqDiff, Nat.reduceAdd]
    refine hQ _ _ _ ?_
    simp (maxSteps := 1000000) (disch := omega) only [S, S1, S2, S3, S4, S5, ST, eq_self, reduceIte, reduceCtorEq, Nat.reduceEqDiff, Nat.reduceAdd]
    refine ⟨?_, pA.trans pB⟩
    rw [decide_eq_false fun h : Grd n es ∧ 0 < n => e h.1]
  simp (maxSteps := 1000000) (disch := omega) only [decide_eq_true e, cell_of cB, S, S1, S2, S3, S4, S5, ST, eq_self, reduceIte, reduceCtorEq, Nat.reduceEqDiff, Nat.reduceAdd]
  refine hQ _ _ _ ?_
  simp (maxSteps := 1000000) (disch := omega) only [S, S1, S2, S3, S4, S5, ST, eq_self, reduceIte, reduceCtorEq, Nat.reduceEqDiff, Nat.reduceAdd]
  refine ⟨?_, pA.trans pB⟩
  rw [Value.bool.injEq, decide_eq_decide]
  exact ⟨fun h => ⟨e, h⟩, fun h => h.2⟩
end Go.Proofs.Ytjnefjchconebab.Ai
namespace Go.Proofs.Ytjnefjchconebab.Ai
open Go
def ords54 : List (Nat × List (Nat × Bool)) := [(2, [(0, false), (1, false), (2, false), (3, false), (4, false), (5, false), (6, false), (7, false), (8, false), (9, true)]), (3, [(0, false), (1, false), (2, false), (3, false), (5, false), (6, false), (8, false), (9, false), (4, true), (7, true), (10, false), (11, false), (12, false), (13, false)])]
def cd54 : Cd := (.seq (.reg [⟨⟨some 2, Op.box 31 (Operand.tmp 0), none⟩, []⟩,
  ⟨⟨some 4, Op.assign (Operand.const (Value.bool false)), none⟩, []⟩]) (.seq (.reg [⟨⟨some 7, Op.move (Operand.tmp 1), none⟩, []⟩,
  ⟨⟨some 8, Op.call { callee := (Callee.builtin Builtin.len), args := #[(Operand.tmp 7)], argTypes := #[38] }, none⟩, []⟩,
  ⟨⟨some 9, Op.binOp BinOp.sub 3 (Operand.tmp 8) (Operand.const (Value.int IntKind.i64 1)) 3, none⟩, []⟩,
  ⟨⟨some 5, Op.assign (Operand.tmp 9), none⟩, []⟩]) (.seq (.reg [⟨⟨some 10, Op.fieldAddr 31 (Operand.tmp 2) 1, none⟩, []⟩,
  ⟨⟨some 11, Op.load 22 (Operand.tmp 10), none⟩, []⟩,
  ⟨⟨some 12, Op.move (Operand.tmp 1), none⟩, []⟩,
  ⟨⟨some 13, Op.move (Operand.tmp 5), none⟩, []⟩,
  ⟨⟨some 14, Op.indexAddr 38 (Operand.tmp 12) (Operand.tmp 13), none⟩, []⟩,
  ⟨⟨some 15, Op.load 3 (Operand.tmp 14), none⟩, []⟩,
  ⟨⟨some 16, Op.indexAddr 22 (Operand.tmp 11) (Operand.tmp 15), none⟩, []⟩,
  ⟨⟨some 17, Op.load 66 (Operand.tmp 16), none⟩, []⟩,
  ⟨⟨some 6, Op.alloc 66, none⟩, []⟩,
  ⟨⟨none, Op.store 66 (Operand.tmp 6) (Operand.tmp 17), none⟩, []⟩]) (.seq (.reg [⟨⟨some 18, Op.load 31 (Operand.tmp 2), none⟩, []⟩,
  ⟨⟨some 19, Op.move (Operand.tmp 1), none⟩, []⟩,
  ⟨⟨some 20, Op.move (Operand.tmp 5), none⟩, []⟩,
  ⟨⟨some 21, Op.slice 38 (Operand.tmp 19) none (some (Operand.tmp 20)) none, none⟩, []⟩,
  ⟨⟨some 23, Op.indexAddr 66 (Operand.tmp 6) (Operand.const (Value.int IntKind.i64 0)), none⟩, []⟩,
  ⟨⟨some 24, Op.load 3 (Operand.tmp 23), none⟩, []⟩,
  ⟨⟨some 26, Op.indexAddr 66 (Operand.tmp 6) (Operand.const (Value.int IntKind.i64 1)), none⟩, []⟩,
  ⟨⟨some 27, Op.load 3 (Operand.tmp 26), none⟩, []⟩,
  ⟨⟨some 22, Op.call { callee := (Callee.value (Operand.func 75)), args := #[(Operand.tmp 18), (Operand.tmp 21)], argTypes := #[31, 38] }, none⟩, [⟨some 27, Op.load 3 (Operand.tmp 26), none⟩, ⟨some 24, Op.load 3 (Operand.tmp 23), none⟩]⟩,
  ⟨⟨some 25, Op.call { callee := (Callee.value (Operand.func 74)), args := #[(Operand.tmp 22), (Operand.tmp 24)], argTypes := #[31, 3] }, none⟩, [⟨some 27, Op.load 3 (Operand.tmp 26), none⟩]⟩,
  ⟨⟨some 28, Op.indexAddr 38 (Operand.tmp 25) (Operand.tmp 27), none⟩, []⟩,
  ⟨⟨some 29, Op.load 3 (Operand.tmp 28), none⟩, []⟩,
  ⟨⟨some 30, Op.binOp BinOp.geq 3 (Operand.tmp 29) (Operand.const (Value.int IntKind.i64 0)) 3, none⟩, []⟩,
  ⟨⟨some 4, Op.assign (Operand.tmp 30), none⟩, []⟩]) .ret))))
theorem sl54 : slim Try.f54.ntmps ords54 (Try.f54.body.getD .skip) = some cd54 := by kernel_rfl
theorem in54 {args : List Value} {H : AH} {R : Value → AH → Prop} (hl : args.length = 2) (h : ∀ (Q : Exit → Sl → AH → Prop), (∀ e s H, endA Try.prog [ResultVar.tmp 4] R e s H → Q e s H) → wpC Try.prog cd54 Q (enterA args) H) : ACalls Try.prog 54 args H R :=
  ACalls.intro (by kernel_rfl) Try.func54 rfl (by kernel_rfl) sl54 hl (of_decide_eq_true (by kernel_rfl)) (by kernel_rfl) h
def ords43 : List (Nat × List (Nat × Bool)) := []
def cd43 : Cd := (.seq (.reg [⟨⟨some 4, Op.box 31 (Operand.tmp 0), none⟩, []⟩,
  ⟨⟨some 8, Op.assign (Operand.const (Value.slice none 0 0)), none⟩, []⟩]) (.seq (.seq (.reg [⟨⟨some 11, Op.move (Operand.tmp 1), none⟩, []⟩,
  ⟨⟨some 12, Op.call { callee := (Callee.builtin Builtin.len), args := #[(Operand.tmp 11)], argTypes := #[38] }, none⟩, []⟩,
  ⟨⟨some 13, Op.fieldAddr 31 (Operand.tmp 4) 0, none⟩, []⟩,
  ⟨⟨some 14, Op.load 3 (Operand.tmp 13), none⟩, []⟩,
  ⟨⟨some 15, Op.binOp BinOp.sub 3 (Operand.tmp 14) (Operand.const (Value.int IntKind.i64 1)) 3, none⟩, []⟩,
  ⟨⟨some 16, Op.binOp BinOp.eql 3 (Operand.tmp 12) (Operand.tmp 15) 3, none⟩, []⟩]) (.cond (Operand.tmp 16) (.seq (.reg [⟨⟨some 17, Op.move (Operand.tmp 3), none⟩, []⟩,
  ⟨⟨some 18, Op.move (Operand.tmp 1), none⟩, []⟩,
  ⟨⟨some 19, Op.call { callee := (Callee.value (Operand.func 55)), args := #[(Operand.tmp 18)], argTypes := #[38] }, none⟩, []⟩,
  ⟨⟨some 20, Op.buildSlice 26 1 #[(0, (Operand.tmp 19))], none⟩, []⟩,
  ⟨⟨some 21, Op.call { callee := (Callee.builtin Builtin.append), args := #[(Operand.tmp 17), (Operand.tmp 20)], argTypes := #[26, 26] }, none⟩, []⟩,
  ⟨⟨some 8, Op.assign (Operand.tmp 21), none⟩, []⟩]) .ret) .skip)) (.seq (.seq (.reg [⟨⟨some 22, Op.move (Operand.tmp 2), none⟩, []⟩,
  ⟨⟨some 9, Op.assign (Operand.tmp 22), none⟩, []⟩]) (.block 0 (.loop (.seq (.seq (.reg [⟨⟨some 23, Op.move (Operand.tmp 9), none⟩, []⟩,
  ⟨⟨some 24, Op.fieldAddr 31 (Operand.tmp 4) 1, none⟩, []⟩,
  ⟨⟨some 25, Op.load 22 (Operand.tmp 24), none⟩, []⟩,
  ⟨⟨some 26, Op.call { callee := (Callee.builtin Builtin.len), args := #[(Operand.tmp 25)], argTypes := #[22] }, none⟩, []⟩,
  ⟨⟨some 27, Op.binOp BinOp.lss 3 (Operand.tmp 23) (Operand.tmp 26) 3, none⟩, []⟩,
  ⟨⟨some 28, Op.move (Operand.tmp 27), none⟩, []⟩,
  ⟨⟨some 29, Op.move (Operand.tmp 3), some (28, true)⟩, []⟩,
  ⟨⟨some 30, Op.call { callee := (Callee.builtin Builtin.len), args := #[(Operand.tmp 29)], argTypes := #[26] }, some (28, true)⟩, []⟩,
  ⟨⟨some 31, Op.binOp BinOp.leq 3 (Operand.tmp 30) (Operand.const (Value.int IntKind.i64 300)) 3, some (28, true)⟩, []⟩,
  ⟨⟨some 32, Op.pick (Operand.tmp 28) (Operand.tmp 31) (Operand.const (Value.bool false)), none⟩, []⟩]) (.cond (Operand.tmp 32) .skip (.exit 0))) (.seq (.block 1 (.seq (.reg [⟨⟨some 35, Op.move (Operand.tmp 1), none⟩, []⟩,
  ⟨⟨some 36, Op.call { callee := (Callee.value (Operand.func 55)), args := #[(Operand.tmp 35)], argTypes := #[38] }, none⟩, []⟩,
  ⟨⟨some 37, Op.move (Operand.tmp 9), none⟩, []⟩,
  ⟨⟨some 38, Op.buildSlice 38 1 #[(0, (Operand.tmp 37))], none⟩, []⟩,
  ⟨⟨some 39, Op.call { callee := (Callee.builtin Builtin.append), args := #[(Operand.tmp 36), (Operand.tmp 38)], argTypes := #[38, 38] }, none⟩, []⟩,
  ⟨⟨some 10, Op.assign (Operand.tmp 39), none⟩, []⟩]) (.seq (.reg [⟨⟨some 40, Op.load 31 (Operand.tmp 4), none⟩, []⟩,
  ⟨⟨some 41, Op.move (Operand.tmp 10), none⟩, []⟩,
  ⟨⟨some 42, Op.call { callee := (Callee.value (Operand.func 54)), args := #[(Operand.tmp 40), (Operand.tmp 41)], argTypes := #[31, 38] }, none⟩, []⟩,
  ⟨⟨some 43, Op.unOp UnOp.not 4 (Operand.tmp 42), none⟩, []⟩]) (.cond (Operand.tmp 43) (.reg [⟨⟨some 44, Op.load 31 (Operand.tmp 4), none⟩, []⟩,
  ⟨⟨some 45, Op.move (Operand.tmp 10), none⟩, []⟩,
  ⟨⟨some 46, Op.move (Operand.tmp 9), none⟩, []⟩,
  ⟨⟨some 47, Op.binOp BinOp.add 3 (Operand.tmp 46) (Operand.const (Value.int IntKind.i64 1)) 3, none⟩, []⟩,
  ⟨⟨some 48, Op.move (Operand.tmp 3), none⟩, []⟩,
  ⟨⟨some 49, Op.call { callee := (Callee.value (Operand.func 43)), args := #[(Operand.tmp 44), (Operand.tmp 45), (Operand.tmp 47), (Operand.tmp 48)], argTypes := #[31, 38, 3, 26] }, none⟩, []⟩,
  ⟨⟨some 3, Op.assign (Operand.tmp 49), none⟩, []⟩]) .skip)))) (.reg [⟨⟨some 33, Op.move (Operand.tmp 9), none⟩, []⟩,
  ⟨⟨some 34, Op.binOp BinOp.add 3 (Operand.tmp 33) (Operand.const (Value.int IntKind.i64 1)) 3, none⟩, []⟩,
  ⟨⟨some 9, Op.assign (Operand.tmp 34), none⟩, []⟩])))))) (.seq (.reg [⟨⟨some 50, Op.move (Operand.tmp 3), none⟩, []⟩,
  ⟨⟨some 8, Op.assign (Operand.tmp 50), none⟩, []⟩]) .ret))))
theorem sl43 : slim Try.f43.ntmps ords43 (Try.f43.body.getD .skip) = some cd43 := by kernel_rfl
theorem in43 {args : List Value} {H : AH} {R : Value → AH → Prop} (hl : args.length = 4) (h : ∀ (Q : Exit → Sl → AH → Prop), (∀ e s H, endA Try.prog [ResultVar.tmp 8] R e s H → Q e s H) → wpC Try.prog cd43 Q (enterA args) H) : ACalls Try.prog 43 args H R :=
  ACalls.intro (by kernel_rfl) Try.func43 rfl (by kernel_rfl) sl43 hl (of_decide_eq_true (by kernel_rfl)) (by kernel_rfl) h
end Go.Proofs.Ytjnefjchconebab.Ai
namespace Go.Proofs.Ytjnefjchconebab.Ai
open Go Go.RowKit
set_option linter.unusedVariables false
set_option linter.unusedSimpArgs false
theorem take_app (N : Nat) (a b c : List (List Int)) : ((a ++ b).take N ++ c).take N = (a ++ (b ++ c)).take N := by
  rw [← List.append_assoc]
  generalize a ++ b = d
  rw [List.take_append, List.take_append, List.take_take, Nat.min_self, List.length_take]
  by_cases h : N ≤ d.length
  · rw [Nat.min_eq_left h, Nat.sub_self, Nat.sub_eq_zero_of_le h]
  · rw [Nat.min_eq_right (by omega)]
set_option maxRecDepth 20000 in
set_option maxHeartbeats 4000000 in
theorem l7Closes_c (n : Nat) (v w : Value) (es : List (Int × Int)) (T : List Int) (e : Int) (H : AH) (hr : RowP 66 H v es) (hg : Grd (n : Int) es) (hw : Row 3 H w (T ++ [e])) (hT : EdIn es T) (he : 0 ≤ e ∧ e < es.length) (hlen : T.length ≤ 100) :
    ACalls Try.prog 54 [.agg (List.toArray [.int .i64 (n : Int), v]), w] H fun r H' => r = .bool (jnB es n T (enA es e) (enB es e)) ∧ H <+: H' := by
  have h28 : es.length ≤ 28 := grd_len hg
  have hn8 : n ≤ 8 := by have := hg.1; omega
  have hee := en_eq hg he
  have he2 : e.toNat < es.length := by omega
  have hl1 : (T ++ [e]).length = T.length + 1 := by simp
  have hw1 : IntKind.i64.wrap (((T ++ [e]).length : Int) - 1) = (T.length : Int) := by rw [wrap64 (by omega) (by omega)]; omega
  have hlast : (T ++ [e]).getD T.length 0 = e := by rw [List.getD_eq_getElem?_getD, List.getElem?_append_right (Nat.le_refl _)]; simp
  refine in54 rfl ?_
  intro Q hQ
  simp (maxSteps := 1000000) (disch := omega) only [cd54, hr.boxG, S, S1, S2, S3, S4, S5, ST, eq_self, reduceIte, reduceCtorEq, Nat.reduceEqDiff, Nat.reduceAdd]
  generalize hA : H ++ [AObj.cells [.int .i64 n, v] 31 false] = A
  have pA : H <+: A := by rw [← hA]; exact List.prefix_append _ _
  have cA : A[H.length]? = some (.cells [.int .i64 n, v] 31 false) := by rw [← hA]; exact at_new ..
  have rA := hr.pre pA
  have wA := hw.pre pA
  have cw := wA.cell (show T.length < (T ++ [e]).length by omega)
  rw [hlast] at cw
  simp (maxSteps := 1000000) (disch := omega) only [wA.len Try.underlying38, hw1, cell_of cA, wA.ix Try.underlying38 cs3, Int.toNat_natCast, cw, rA.ix Try.underlying22 cs66, rA.ld ag66 cs66 he2, S, S1, S2, S3, S4, S5, ST, eq_self, reduceIte, reduceCtorEq, Nat.reduceEqDiff, Nat.reduceAdd]
  rw [hee.1]
  have st := store_a2 A [.int .i64 0, .int .i64 0] rfl
  simp (maxSteps := 1000000) (disch := omega) only [alloc_a2, st, S, S1, S2, S3, S4, S5, ST, eq_self, reduceIte, reduceCtorEq, Nat.reduceEqDiff, Nat.reduceAdd]
  generalize hB : A ++ [AObj.cells [.int .i64 (enA es e : Int), .int .i64 (enB es e : Int)] 66 false] = B
  have pB : A <+: B := by rw [← hB]; exact List.prefix_append _ _
  have cB : B[A.length]? = some (.cells [.int .i64 (enA es e : Int), .int .i64 (enB es e : Int)] 66 false) := by rw [← hB]; exact at_new ..
  have gB := pre_at pB cA
  have wB := wA.pre pB
  have rB := rA.pre pB
  obtain ⟨a1, a2, a3⟩ := wB.slice (P := Try.prog) (t := 38) Try.underlying38 cs3 lo_none (bound_some (k := .i64) (i := (T.length : Int)) (by omega) (T ++ [e]).length) (Nat.zero_le _) (by rw [Int.toNat_natCast]; omega)
  rw [Int.toNat_natCast] at a1 a2 a3
  rw [List.drop_zero, Nat.sub_zero, List.take_append_of_le_length (Nat.le_refl _), List.take_length] at a2
  simp (maxSteps := 1000000) (disch := omega) only [ld_agg ag31 cs31 gB, a1, cell_of cB, S, S1, S2, S3, S4, S5, ST, eq_self, reduceIte, reduceCtorEq, Nat.reduceEqDiff, Nat.reduceAdd]
  refine CallH.by (l7Part_c n v _ es T B rB a2 hT (by omega)) ?_
  rintro _ C ⟨b, rfl, hb, pC⟩
  have cC := pre_at pC cB
  simp (maxSteps := 1000000) (disch := omega) only [cell_of cC, S, S1, S2, S3, S4, S5, ST, eq_self, reduceIte, reduceCtorEq, Nat.reduceEqDiff, Nat.reduceAdd]
  refine CallH.by (l3Far_c n b (prtG es T) (enA es e) C hb.row (by rw [prt_len]; omega) (by omega) (by omega)) ?_
  rintro u D ⟨hD, pD⟩
  rw [Int.toNat_natCast] at hD
  have bl := (bfs_rng (roadsL n (prtG es T)) (roadsL_ok _ _) (enA es e) (by rw [roadsL_len]; omega)).1
  rw [roadsL_len] at bl
  have cD := pre_at pD cC
  have k0 := hD.row.cell (show enB es e < (bfs (roadsL n (prtG es T)) (enA es e)).length by rw [bl]; omega)
  have hix := hD.row.ix (P := Try.prog) (t := 38) Try.underlying38 cs3 .i64 (i := (enB es e : Int)) (by omega) (by rw [bl]; omega)
  simp (maxSteps := 1000000) (disch := omega) only [cell_of cD, hix, Int.toNat_natCast, k0, S, S1, S2, S3, S4, S5, ST, eq_self, reduceIte, reduceCtorEq, Nat.reduceEqDiff, Nat.reduceAdd]
  refine hQ _ _ _ ?_
  simp (maxSteps := 1000000) (disch := omega) only [S, S1, S2, S3, S4, S5, ST, eq_self, reduceIte, reduceCtorEq, Nat.reduceEqDiff, Nat.reduceAdd]
  exact ⟨rfl, pA.trans (pB.trans (pC.trans pD))⟩
set_option maxRecDepth 20000 in
set_option maxHeartbeats 8000000 in
theorem l7Grow_c (n : Nat) (hn : 1 ≤ n) (v : Value) (es : List (Int × Int)) (hg : Grd (n : Int) es) (lo : Nat) : ∀ (k : Nat) (w : Value) (T : List Int) (o : Nat) (us : List Value) (ls : List (List Int)) (H : AH), k ≤ es.length → Beg n es k T → RowP 66 H v es → Row 3 H w T →
    Apart w (.slice (some ⟨o, 0, none⟩) 0 0) → Apart v (.slice (some ⟨o, 0, none⟩) 0 0) → InU lo H.length 38 3 H o us ls → ls.length ≤ 300 →
    ACalls Try.prog 43 [.agg (List.toArray [.int .i64 (n : Int), v]), w, .int .i64 ((es.length - k : Nat) : Int), .slice (some ⟨o, 0, none⟩) ls.length ls.length] H fun r H' => ∃ o' us', r = .slice (some ⟨o', 0, none⟩) ((ls ++ grA es n k T).take 301).length ((ls ++ grA es n k T).take 301).length ∧ InU lo H'.length 38 3 H' o' us' ((ls ++ grA es n k T).take 301) ∧
      (∀ (j : Nat) (y : AObj), j ≠ o → H[j]? = some y → H'[j]? = some y) ∧ H.length ≤ H'.length ∧ (o' = o ∨ H.length ≤ o') := by
  have h28 : es.length ≤ 28 := grd_len hg
  have hn8 : n ≤ 8 := by have := hg.1; omega
  intro k
  induction k using Nat.strongRecOn with
  | ind k ih =>
  intro w T o us ls H hk hT hr hw haw hav hin hls
  have hlo := hin.1
  have hlo2 := hin.2.1
  have hTl := hT.len
  have hw1 : IntKind.i64.wrap ((n : Int) - 1) = (n : Int) - 1 := wrap64 (by omega) (by omega)
  refine in43 rfl ?_
  intro Q hQ
  simp (maxSteps := 1000000) (disch := omega) only [cd43, hr.boxG, S, S1, S2, S3, S4, S5, ST, eq_self, reduceIte, reduceCtorEq, Nat.reduceEqDiff, Nat.reduceAdd]
  generalize hA : H ++ [AObj.cells [.int .i64 ↑n, v] 31 false] = A
  have pA : H <+: A := by rw [← hA]; exact List.prefix_append _ _
  have cA : A[H.length]? = some (.cells [.int .i64 ↑n, v] 31 false) := by rw [← hA]; exact at_new ..
  have rA := hr.pre pA
  have lA : A.length = H.length + 1 := by rw [← hA]; simp
  simp (maxSteps := 1000000) (disch := omega) only [cell_of cA, (hw.pre pA).len Try.underlying38, hw1, S, S1, S2, S3, S4, S5, ST, eq_self, reduceIte, reduceCtorEq, Nat.reduceEqDiff, Nat.reduceAdd]
  refine brD.intro (fun g => ?_) (fun g => ?_)
  · have hfull : T.length + 1 = n := by omega
    simp (maxSteps := 1000000) (disch := omega) only [S, S1, S2, S3, S4, S5, ST, eq_self, reduceIte, reduceCtorEq, Nat.reduceEqDiff, Nat.reduceAdd]
    refine CallH.by (l1Own_c w T A (hw.pre pA) (by omega)) ?_
    rintro c C ⟨hc, pC⟩
    have hinw := InI.of hc.mine
    have hinC := (hin.pre (pA.trans pC)).wide (Nat.le_refl _) pA.length_le
    obtain ⟨H3, k1, k2, k3, k4⟩ := hinC.app1 (P := Try.prog) (t2 := 26) Try.underlying26 cs38 (by rw [by38]; decide) zk38 hinw (by have := pA.length_le; omega) pC.length_le (Nat.le_refl _) (by omega)
    simp (maxSteps := 1000000) (disch := omega) only [bsRow hc.row C, k1, S, S1, S2, S3, S4, S5, ST, eq_self, reduceIte, reduceCtorEq, Nat.reduceEqDiff, Nat.reduceAdd]
    refine hQ _ _ _ ?_
    simp (maxSteps := 1000000) (disch := omega) only [S, S1, S2, S3, S4, S5, ST, eq_self, reduceIte, reduceCtorEq, Nat.reduceEqDiff, Nat.reduceAdd]
    have e : (ls ++ grA es n k T).take 301 = ls ++ [T] := by rw [grA_full hfull, List.take_of_length_le (by simp; omega)]
    have hl1 := pA.length_le
    have hl2 := pC.length_le
    rw [e]
    refine ⟨C.length + 1, us.take ls.length ++ [c], by simp, by rw [k3]; exact k2, fun j y hj hy => k4 j y hj (pre_at (pA.trans pC) hy), by omega, by omega⟩
  have hnf : T.length + 1 ≠ n := fun q => g (by omega)
  simp (maxSteps := 1000000) (disch := omega) only [S, S1, S2, S3, S4, S5, ST, eq_self, reduceIte, reduceCtorEq, Nat.reduceEqDiff, Nat.reduceAdd]
  refine LoopH.by (fun m s H' => ∃ (o' : Nat) (us' : List Value) (ls' : List (List Int)), m ≤ k ∧ s 1 = w ∧ s 3 = .slice (some ⟨o', 0, none⟩) ls'.length ls'.length ∧ s 4 = .pointer (some ⟨H.length, 0, none⟩) ∧ s 9 = .int .i64 ((es.length - m : Nat) : Int) ∧
      (ls' ++ grA es n m T).take 301 = (ls ++ grA es n k T).take 301 ∧ ls'.length ≤ 301 ∧ Beg n es m T ∧ InU lo H'.length 38 3 H' o' us' ls' ∧ (o' = o ∨ A.length ≤ o') ∧ (∀ (j : Nat) (y : AObj), j ≠ o → A[j]? = some y → H'[j]? = some y) ∧ A.length ≤ H'.length) k ?_ ?_
  · exact ⟨o, us, ls, Nat.le_refl _, rfl, rfl, rfl, rfl, rfl, by omega, hT, (hin.pre pA).wide (Nat.le_refl _) pA.length_le, .inl rfl, fun j y _ hy => hy, Nat.le_refl _⟩
  rintro m s H' ⟨o', us', ls', hm, h1, h3, h4, h9, hE, hl', hB, hin', ho', hk', hAl⟩
  have hkA : Kept (.slice (some ⟨o, 0, none⟩) 0 0) A H' := fun j y hj hy => by
    rcases hj with hj | hj
    · cases hj
    · exact hk' j y hj hy
  have hw' : Row 3 H' w T := (hw.pre pA).kept haw hkA
  have hr' : RowP 66 H' v es := (hr.pre pA).kept hav hkA
  have cH' : H'[H.length]? = some (.cells [.int .i64 (n : Int), v] 31 false) := hk' _ _ (by omega) cA
  have done : (ls' ++ grA es n m T).take 301 = ls' → ∃ o2 us', Value.slice (some ⟨o', 0, none⟩) ls'.length ls'.length = .slice (some ⟨o2, 0, none⟩) ((ls ++ grA es n k T).take 301).length ((ls ++ grA es n k T).take 301).length ∧ InU lo H'.length 38 3 H' o2 us' ((ls ++ grA es n k T).take 301) ∧
      (∀ (j : Nat) (y : AObj), j ≠ o → H[j]? = some y → H'[j]? = some y) ∧ H.length ≤ H'.length ∧ (o2 = o ∨ H.length ≤ o2) := by
    intro e
    rw [e] at hE
    rw [← hE]
    exact ⟨o', us', rfl, hin', fun j y hj hy => hk' j y hj (pre_at pA hy), by omega, by omega⟩
  simp (maxSteps := 1000000) (disch := omega) only [h1, h3, h4, h9, cell_of cH', hr'.len Try.underlying22, S, S1, S2, S3, S4, S5, ST, eq_self, reduceIte, reduceCtorEq, Nat.reduceEqDiff, Nat.reduceAdd]
  refine brD.intro (fun g1 => ?_) (fun g1 => ?_)
  rotate_left
  · have hm0 : m = 0 := by omega
    subst hm0
    simp (maxSteps := 1000000) (disch := omega) only [g1, h3, S, S1, S2, S3, S4, S5, ST, eq_self, reduceIte, reduceCtorEq, Nat.reduceEqDiff, Nat.reduceAdd]
    refine hQ _ _ _ ?_
    simp (maxSteps := 1000000) (disch := omega) only [h3, S, S1, S2, S3, S4, S5, ST, eq_self, reduceIte, reduceCtorEq, Nat.reduceEqDiff, Nat.reduceAdd]
    refine done ?_
    rw [grA, if_neg hnf, List.append_nil, List.take_of_length_le hl']
  simp (maxSteps := 1000000) (disch := omega) only [g1, h1, h3, h4, h9, S, S1, S2, S3, S4, S5, ST, eq_self, reduceIte, reduceCtorEq, Nat.reduceEqDiff, Nat.reduceAdd]
  refine brD.intro (fun g2 => ?_) (fun g2 => ?_)
  rotate_left
  · simp (maxSteps := 1000000) (disch := omega) only [g1, g2, h3, S, S1, S2, S3, S4, S5, ST, eq_self, reduceIte, reduceCtorEq, Nat.reduceEqDiff, Nat.reduceAdd]
    refine hQ _ _ _ ?_
    simp (maxSteps := 1000000) (disch := omega) only [h3, S, S1, S2, S3, S4, S5, ST, eq_self, reduceIte, reduceCtorEq, Nat.reduceEqDiff, Nat.reduceAdd]
    refine done ?_
    have : ls'.length = 301 := by omega
    rw [← this, List.take_append_of_le_length (Nat.le_refl _), List.take_length]
  obtain ⟨d, rfl⟩ : ∃ d, m = d + 1 := ⟨m - 1, by omega⟩
  have hee : (0 : Int) ≤ ((es.length - (d + 1) : Nat) : Int) ∧ ((es.length - (d + 1) : Nat) : Int) < es.length := by omega
  have hed : ((es.length - (d + 1) : Nat) : Int) + 1 = ((es.length - d : Nat) : Int) := by omega
  rw [grA, if_neg hnf] at hE
  have hsnoc := fun hj => hB.snoc hg (by omega) hnf hj
  generalize hX : ((es.length - (d + 1) : Nat) : Int) = x at *
  have hw2 : IntKind.i64.wrap (x + 1) = ((es.length - d : Nat) : Int) := by rw [wrap64 (by omega) (by omega)]; exact hed
  simp (maxSteps := 1000000) (disch := omega) only [g1, g2, h1, h3, h4, h9, S, S1, S2, S3, S4, S5, ST, eq_self, reduceIte, reduceCtorEq, Nat.reduceEqDiff, Nat.reduceAdd]
  refine CallH.by (l1Own_c w T H' hw' (by omega)) ?_
  rintro c C ⟨hc, pC⟩
  obtain ⟨c2, D, a1, a2, a3, a4, a5, a6⟩ := own1_38 hc pC (by omega) x
  have cD := pre_at a3 cH'
  have rD := hr'.pre a3
  have hpD := a3.length_le
  simp (maxSteps := 1000000) (disch := omega) only [a1, h1, h3, h4, h9, ld_agg ag31 cs31 cD, S, S1, S2, S3, S4, S5, ST, eq_self, reduceIte, reduceCtorEq, Nat.reduceEqDiff, Nat.reduceAdd]
  refine CallH.by (l7Closes_c n v c2 es T x D rD hg a2.row hB.ed hee (by omega)) ?_
  rintro _ E ⟨rfl, pE⟩
  have pHE := a3.trans pE
  have lHE := pHE.length_le
  have lDE := pE.length_le
  have keepE : ∀ (j : Nat) (y : AObj), j ≠ o → A[j]? = some y → E[j]? = some y := fun j y hj hy => pre_at pHE (hk' j y hj hy)
  have inE : InU lo E.length 38 3 E o' us' ls' := (hin'.pre pHE).wide (Nat.le_refl _) lHE
  have hoo := hin'.2.1
  by_cases hj : jnB es n T (enA es x) (enB es x) = true
  · rw [if_pos hj, List.nil_append] at hE
    rw [hj]
    simp (maxSteps := 1000000) (disch := omega) only [h1, h3, h4, h9, hw2, S, S1, S2, S3, S4, S5, ST, eq_self, reduceIte, reduceCtorEq, Nat.reduceEqDiff, Nat.reduceAdd]
    have f1 := hB.skip
    refine ⟨d, by omega, o', us', ls', ?_⟩
    (repeat' first | exact hE | exact f1 | exact inE | exact ho' | exact keepE | apply And.intro) <;> first | (simp only [Value.int.injEq, true_and]; omega) | omega | rfl | assumption | (simp; done) | (simp; omega)
  · rw [if_neg hj] at hE
    have hj' : jnB es n T (enA es x) (enB es x) = false := by simpa using hj
    rw [hj']
    have cE := pre_at pE cD
    have a2E := a2.row.pre pE
    have ap1 : Apart c2 (.slice (some ⟨o', 0, none⟩) 0 0) := by
      rcases a2 with ⟨q, _⟩ | ⟨oc, q1, q2, q3⟩
      · exact .inr (.inl q)
      · refine .inr (.inr ?_)
        rw [q1]
        show oc ≠ o'
        omega
    have ap2 : Apart v (.slice (some ⟨o', 0, none⟩) 0 0) := by
      rcases ho' with q | q
      · rw [q]; exact hav
      · rcases (hr.pre pA).nil with z | z
        · exact .inr (.inl z.1)
        · refine .inr (.inr ?_)
          show rowO v ≠ o'
          omega
    have ap3 : Apart w (.slice (some ⟨o', 0, none⟩) 0 0) := by
      rcases ho' with q | q
      · rw [q]; exact haw
      · rcases (hw.pre pA).nil with z | z
        · exact .inr (.inl z.1)
        · refine .inr (.inr ?_)
          show rowO w ≠ o'
          omega
    simp (maxSteps := 1000000) (disch := omega) only [h1, h3, h4, h9, ld_agg ag31 cs31 cE, hw2, S, S1, S2, S3, S4, S5, ST, eq_self, reduceIte, reduceCtorEq, Nat.reduceEqDiff, Nat.reduceAdd]
    refine CallH.by (ih d (by omega) c2 (T ++ [x]) o' us' ls' E (by omega) (hsnoc hj) (rD.pre pE) a2E ap1 ap2 inE (by omega)) ?_
    rintro _ F ⟨o2, us2, rfl, f1, f2, f3, f4⟩
    simp (maxSteps := 1000000) (disch := omega) only [h1, h3, h4, h9, hw2, S, S1, S2, S3, S4, S5, ST, eq_self, reduceIte, reduceCtorEq, Nat.reduceEqDiff, Nat.reduceAdd]
    have e1 : ((ls' ++ grA es n d (T ++ [x])).take 301 ++ grA es n d T).take 301 = (ls ++ grA es n k T).take 301 := by rw [take_app]; exact hE
    have e2 : ((ls' ++ grA es n d (T ++ [x])).take 301).length ≤ 301 := by rw [List.length_take]; omega
    have e3 := hB.skip
    have e4 : o2 = o ∨ A.length ≤ o2 := by
      rcases f4 with q | q
      · rw [q]; exact ho'
      · exact .inr (by omega)
    have e5 : ∀ (j : Nat) (y : AObj), j ≠ o → A[j]? = some y → F[j]? = some y := fun j y hj hy => by
      refine f2 j y (fun e => ?_) (keepE j y hj hy)
      rcases ho' with q | q
      · exact hj (by omega)
      · have := at_lt hy; omega
    refine ⟨d, by omega, o2, us2, (ls' ++ grA es n d (T ++ [x])).take 301, ?_⟩
    (repeat' first | exact e1 | exact e2 | exact e3 | exact f1 | exact e4 | exact e5 | apply And.intro) <;> first | (simp only [Value.int.injEq, true_and]; omega) | omega | rfl | assumption | (simp; done) | (simp; omega)
end Go.Proofs.Ytjnefjchconebab.Ai
namespace Go.Proofs.Ytjnefjchconebab.Ai
open Go
def ords21 : List (Nat × List (Nat × Bool)) := []
def cd21 : Cd := (.seq (.reg [⟨⟨some 1, Op.box 31 (Operand.tmp 0), none⟩, []⟩,
  ⟨⟨some 2, Op.assign (Operand.const (Value.slice none 0 0)), none⟩, []⟩]) (.seq (.reg [⟨⟨some 4, Op.load 31 (Operand.tmp 1), none⟩, []⟩,
  ⟨⟨some 5, Op.buildSlice 38 0 #[], none⟩, []⟩,
  ⟨⟨some 6, Op.buildSlice 26 0 #[], none⟩, []⟩,
  ⟨⟨some 7, Op.call { callee := (Callee.value (Operand.func 43)), args := #[(Operand.tmp 4), (Operand.tmp 5), (Operand.const (Value.int IntKind.i64 0)), (Operand.tmp 6)], argTypes := #[31, 38, 3, 26] }, none⟩, []⟩,
  ⟨⟨some 3, Op.assign (Operand.tmp 7), none⟩, []⟩]) (.seq (.seq (.reg [⟨⟨some 8, Op.move (Operand.tmp 3), none⟩, []⟩,
  ⟨⟨some 9, Op.call { callee := (Callee.builtin Builtin.len), args := #[(Operand.tmp 8)], argTypes := #[26] }, none⟩, []⟩,
  ⟨⟨some 10, Op.binOp BinOp.gtr 3 (Operand.tmp 9) (Operand.const (Value.int IntKind.i64 300)) 3, none⟩, []⟩]) (.cond (Operand.tmp 10) (.seq (.reg [⟨⟨some 11, Op.buildSlice 26 0 #[], none⟩, []⟩,
  ⟨⟨some 2, Op.assign (Operand.tmp 11), none⟩, []⟩]) .ret) .skip)) (.seq (.reg [⟨⟨some 12, Op.move (Operand.tmp 3), none⟩, []⟩,
  ⟨⟨some 2, Op.assign (Operand.tmp 12), none⟩, []⟩]) .ret))))
theorem sl21 : slim Try.f21.ntmps ords21 (Try.f21.body.getD .skip) = some cd21 := by kernel_rfl
theorem in21 {args : List Value} {H : AH} {R : Value → AH → Prop} (hl : args.length = 1) (h : ∀ (Q : Exit → Sl → AH → Prop), (∀ e s H, endA Try.prog [ResultVar.tmp 2] R e s H → Q e s H) → wpC Try.prog cd21 Q (enterA args) H) : ACalls Try.prog 21 args H R :=
  ACalls.intro (by kernel_rfl) Try.func21 rfl (by kernel_rfl) sl21 hl (of_decide_eq_true (by kernel_rfl)) (by kernel_rfl) h
end Go.Proofs.Ytjnefjchconebab.Ai
namespace Go.Proofs.Ytjnefjchconebab.Ai
open Go Go.RowKit
set_option linter.unusedVariables false
set_option linter.unusedSimpArgs false
/-- all trees, none if there are too many -/
def trsR (n : Nat) (es : List (Int × Int)) : List (List Int) := if 300 < (treA n es).length then [] else treA n es
set_option maxRecDepth 20000 in
set_option maxHeartbeats 4000000 in
theorem l7Trees_c (n : Nat) (hn : 1 ≤ n) (v : Value) (es : List (Int × Int)) (H : AH) (hr : RowP 66 H v es) (hg : Grd (n : Int) es) :
    ACalls Try.prog 21 [.agg (List.toArray [.int .i64 (n : Int), v])] H fun r H' => ∃ o us, r = .slice (some ⟨o, 0, none⟩) (trsR n es).length (trsR n es).length ∧ InU H.length H'.length 38 3 H' o us (trsR n es) ∧ H <+: H' := by
  have h28 : es.length ≤ 28 := grd_len hg
  refine in21 rfl ?_
  intro Q hQ
  simp (maxSteps := 1000000) (disch := omega) only [cd21, hr.boxG, S, S1, S2, S3, S4, S5, ST, eq_self, reduceIte, reduceCtorEq, Nat.reduceEqDiff, Nat.reduceAdd]
  generalize hA : H ++ [AObj.cells [.int .i64 ↑n, v] 31 false] = A
  have pA : H <+: A := by rw [← hA]; exact List.prefix_append _ _
  have cA : A[H.length]? = some (.cells [.int .i64 ↑n, v] 31 false) := by rw [← hA]; exact at_new ..
  have rA := hr.pre pA
  have lA : A.length = H.length + 1 := by rw [← hA]; simp
  generalize hB : A ++ [AObj.cells [] 3 false] = B
  have pB : A <+: B := by rw [← hB]; exact List.prefix_append _ _
  have lB : B.length = A.length + 1 := by rw [← hB]; simp
  have cB := pre_at pB cA
  have wB : Row 3 B (.slice (some ⟨A.length, 0, none⟩) 0 0) [] := .inr ⟨A.length, 0, [], false, rfl, by rw [← hB]; exact at_new .., by simp, rfl⟩
  generalize hC : B ++ [AObj.cells [] 38 false] = C
  have pC : B <+: C := by rw [← hC]; exact List.prefix_append _ _
  have lC : C.length = B.length + 1 := by rw [← hC]; simp
  have u0 : InU H.length C.length 38 3 C B.length [] [] := by
    have := InU.new H.length 38 3 B (by omega)
    rw [hC] at this
    exact this.wide (Nat.le_refl _) (by omega)
  have cC := pre_at pC cB
  have rC := rA.pre (pB.trans pC)
  have z0 : ((es.length - es.length : Nat) : Int) = 0 := by rw [Nat.sub_self]; rfl
  have hcall := l7Grow_c n hn v es hg H.length es.length (.slice (some ⟨A.length, 0, none⟩) 0 0) [] B.length [] [] C (Nat.le_refl _) (Beg.nil hn es) rC (wB.pre pC) (.inr (.inr (by show A.length ≠ B.length; omega))) (by
    rcases rA.nil with q | q
    · exact .inr (.inl q.1)
    · refine .inr (.inr ?_)
      show rowO v ≠ B.length
      omega) u0 (by simp)
  rw [z0] at hcall
  simp (maxSteps := 1000000) (disch := omega) only [ld_agg ag31 cs31 cA, hB, hC, ld_agg ag31 cs31 cB, ld_agg ag31 cs31 cC, S, S1, S2, S3, S4, S5, ST, eq_self, reduceIte, reduceCtorEq, Nat.reduceEqDiff, Nat.reduceAdd]
  refine CallH.by hcall ?_
  rintro _ D ⟨o, us, rfl, d1, d2, d3, d4⟩
  rw [List.nil_append] at d1 ⊢
  have hp : H <+: D := prefix_of fun j y hy => d2 j y (by have := at_lt hy; omega) (pre_at (pA.trans (pB.trans pC)) hy)
  have hlen : ((grA es n es.length []).take 301).length = min 301 (treA n es).length := List.length_take
  have hlen2 : (((grA es n es.length []).take 301).length : Int) > 300 ↔ 300 < (treA n es).length := by omega
  simp (maxSteps := 1000000) (disch := omega) only [S, S1, S2, S3, S4, S5, ST, eq_self, reduceIte, reduceCtorEq, Nat.reduceEqDiff, Nat.reduceAdd]
  refine brD.intro (fun g => ?_) (fun g => ?_)
  · have hR : trsR n es = [] := by unfold trsR; rw [if_pos (by omega)]
    have := InU.new H.length 38 3 D hp.length_le
    simp (maxSteps := 1000000) (disch := omega) only [S, S1, S2, S3, S4, S5, ST, eq_self, reduceIte, reduceCtorEq, Nat.reduceEqDiff, Nat.reduceAdd]
    refine hQ _ _ _ ?_
    simp (maxSteps := 1000000) (disch := omega) only [S, S1, S2, S3, S4, S5, ST, eq_self, reduceIte, reduceCtorEq, Nat.reduceEqDiff, Nat.reduceAdd]
    rw [hR]
    exact ⟨D.length, [], rfl, this.wide (Nat.le_refl _) (by simp), pre_app hp _⟩
  · have hR : trsR n es = (grA es n es.length []).take 301 := by
      unfold trsR
      rw [if_neg (by omega), List.take_of_length_le (show (grA es n es.length []).length ≤ 301 by have : treA n es = grA es n es.length [] := rfl; rw [← this]; omega)]
      rfl
    rw [← hR] at d1
    simp (maxSteps := 1000000) (disch := omega) only [S, S1, S2, S3, S4, S5, ST, eq_self, reduceIte, reduceCtorEq, Nat.reduceEqDiff, Nat.reduceAdd]
    refine hQ _ _ _ ?_
    simp (maxSteps := 1000000) (disch := omega) only [S, S1, S2, S3, S4, S5, ST, eq_self, reduceIte, reduceCtorEq, Nat.reduceEqDiff, Nat.reduceAdd]
    rw [hR]
    rw [hR] at d1
    exact ⟨o, us, rfl, d1, hp⟩
end Go.Proofs.Ytjnefjchconebab.Ai
namespace Go.Proofs.Ytjnefjchconebab.Ai
open Go
def ords24 : List (Nat × List (Nat × Bool)) := []
def cd24 : Cd := (.seq (.reg [⟨⟨some 1, Op.box 31 (Operand.tmp 0), none⟩, []⟩,
  ⟨⟨some 2, Op.assign (Operand.const (Value.slice none 0 0)), none⟩, []⟩,
  ⟨⟨some 3, Op.assign (Operand.const (Value.bool false)), none⟩, []⟩]) (.seq (.seq (.reg [⟨⟨some 6, Op.load 31 (Operand.tmp 1), none⟩, []⟩,
  ⟨⟨some 7, Op.call { callee := (Callee.value (Operand.func 46)), args := #[(Operand.tmp 6)], argTypes := #[31] }, none⟩, []⟩,
  ⟨⟨some 8, Op.unOp UnOp.not 4 (Operand.tmp 7), none⟩, []⟩,
  ⟨⟨some 9, Op.move (Operand.tmp 8), none⟩, []⟩,
  ⟨⟨some 10, Op.fieldAddr 31 (Operand.tmp 1) 0, some (9, false)⟩, []⟩,
  ⟨⟨some 11, Op.load 3 (Operand.tmp 10), some (9, false)⟩, []⟩,
  ⟨⟨some 12, Op.binOp BinOp.eql 3 (Operand.tmp 11) (Operand.const (Value.int IntKind.i64 0)) 3, some (9, false)⟩, []⟩,
  ⟨⟨some 13, Op.pick (Operand.tmp 9) (Operand.const (Value.bool true)) (Operand.tmp 12), none⟩, []⟩]) (.cond (Operand.tmp 13) (.seq (.reg [⟨⟨some 2, Op.assign (Operand.const (Value.slice none 0 0)), none⟩, []⟩,
  ⟨⟨some 3, Op.assign (Operand.const (Value.bool false)), none⟩, []⟩]) .ret) .skip)) (.seq (.reg [⟨⟨some 15, Op.load 31 (Operand.tmp 1), none⟩, []⟩,
  ⟨⟨some 16, Op.call { callee := (Callee.value (Operand.func 38)), args := #[(Operand.tmp 15)], argTypes := #[31] }, none⟩, []⟩,
  ⟨⟨some 14, Op.move (Operand.tmp 16), none⟩, []⟩,
  ⟨⟨some 17, Op.extract (Operand.tmp 14) 0, none⟩, []⟩,
  ⟨⟨some 18, Op.extract (Operand.tmp 14) 1, none⟩, []⟩,
  ⟨⟨some 4, Op.assign (Operand.tmp 17), none⟩, []⟩,
  ⟨⟨some 5, Op.assign (Operand.tmp 18), none⟩, []⟩]) (.seq (.seq (.reg [⟨⟨some 19, Op.move (Operand.tmp 5), none⟩, []⟩,
  ⟨⟨some 20, Op.unOp UnOp.not 4 (Operand.tmp 19), none⟩, []⟩]) (.cond (Operand.tmp 20) (.seq (.reg [⟨⟨some 2, Op.assign (Operand.const (Value.slice none 0 0)), none⟩, []⟩,
  ⟨⟨some 3, Op.assign (Operand.const (Value.bool false)), none⟩, []⟩]) .ret) .skip)) (.seq (.reg [⟨⟨some 21, Op.move (Operand.tmp 4), none⟩, []⟩,
  ⟨⟨some 2, Op.assign (Operand.tmp 21), none⟩, []⟩,
  ⟨⟨some 3, Op.assign (Operand.const (Value.bool true)), none⟩, []⟩]) .ret)))))
theorem sl24 : slim Try.f24.ntmps ords24 (Try.f24.body.getD .skip) = some cd24 := by kernel_rfl
theorem in24 {args : List Value} {H : AH} {R : Value → AH → Prop} (hl : args.length = 1) (h : ∀ (Q : Exit → Sl → AH → Prop), (∀ e s H, endA Try.prog [ResultVar.tmp 2, ResultVar.tmp 3] R e s H → Q e s H) → wpC Try.prog cd24 Q (enterA args) H) : ACalls Try.prog 24 args H R :=
  ACalls.intro (by kernel_rfl) Try.func24 rfl (by kernel_rfl) sl24 hl (of_decide_eq_true (by kernel_rfl)) (by kernel_rfl) h
end Go.Proofs.Ytjnefjchconebab.Ai
namespace Go.Proofs.Ytjnefjchconebab.Ai
open Go Go.RowKit
set_option linter.unusedVariables false
set_option linter.unusedSimpArgs false
theorem isJumpG_c (v w : Value) (xs ys : List Int) (H : AH) (hr : Row 3 H v xs) (hs : Row 3 H w ys) (hlx : xs.length ≤ 28) (hly : ys.length ≤ 28) (hx : ∀ x ∈ xs, 0 ≤ x ∧ x < 28) (hy : ∀ x ∈ ys, 0 ≤ x ∧ x < 28) (hpx : xs.Pairwise (· < ·)) (hpy : ys.Pairwise (· < ·)) :
    ACalls Try.prog 27 [v, w] H fun r H' => r = .bool (jmpB xs ys) ∧ H = H' := by
  refine in27 rfl ?_
  intro Q hQ
  simp (maxSteps := 1000000) (disch := omega) only [cd27, S, S1, S2, S3, S4, S5, ST, eq_self, reduceIte, reduceCtorEq, Nat.reduceEqDiff, Nat.reduceAdd]
  refine CallH.by (moves_c v w xs ys H hr hs (by omega) (by omega) (fun x h => by have := hx x h; omega) (fun x h => by have := hy x h; omega)) ?_
  rintro _ _ ⟨a, b, rfl, ha, hb, rfl⟩
  have la := List.length_filter_le (fun e => !decide (e ∈ ys)) xs
  have lb := List.length_filter_le (fun e => !decide (e ∈ xs)) ys
  have ea := popc_len2 ⟨Nat.lt_of_lt_of_le ha.1 (by decide), ha.2⟩ (hpx.filter _) (fun x h => hx x (List.mem_filter.1 h).1)
  have eb := popc_len2 ⟨Nat.lt_of_lt_of_le hb.1 (by decide), hb.2⟩ (hpy.filter _) (fun x h => hy x (List.mem_filter.1 h).1)
  simp (maxSteps := 1000000) (disch := omega) only [S, S1, S2, S3, S4, S5, ST, eq_self, reduceIte, reduceCtorEq, Nat.reduceEqDiff, Nat.reduceAdd]
  refine CallH.by (size_c a H (Nat.lt_of_lt_of_le ha.1 (by decide))) ?_
  rintro _ _ ⟨rfl, rfl⟩
  rw [ea]
  by_cases h1 : (xs.filter fun e => !decide (e ∈ ys)).length = 1
  · have h1' : (((xs.filter fun e => !decide (e ∈ ys)).length : Nat) : Int) = 1 := by omega
    simp (maxSteps := 1000000) (disch := omega) only [decide_eq_true h1', S, S1, S2, S3, S4, S5, ST, eq_self, reduceIte, reduceCtorEq, Nat.reduceEqDiff, Nat.reduceAdd]
    refine CallH.by (size_c b H (Nat.lt_of_lt_of_le hb.1 (by decide))) ?_
    rintro _ _ ⟨rfl, rfl⟩
    rw [eb]
    simp (maxSteps := 1000000) (disch := omega) only [S, S1, S2, S3, S4, S5, ST, eq_self, reduceIte, reduceCtorEq, Nat.reduceEqDiff, Nat.reduceAdd]
    refine hQ _ _ _ ?_
    simp (maxSteps := 1000000) (disch := omega) only [S, S1, S2, S3, S4, S5, ST, eq_self, reduceIte, reduceCtorEq, Nat.reduceEqDiff, Nat.reduceAdd]
    unfold jmpB
    rw [decide_eq_true h1, Bool.true_and]
    by_cases h2 : (ys.filter fun e => !decide (e ∈ xs)).length = 1
    · rw [decide_eq_true h2, decide_eq_true (show (((ys.filter fun e => !decide (e ∈ xs)).length : Nat) : Int) = 1 by omega)]
    · rw [decide_eq_false h2, decide_eq_false (show ¬ (((ys.filter fun e => !decide (e ∈ xs)).length : Nat) : Int) = 1 by omega)]
  · have h1' : ¬ (((xs.filter fun e => !decide (e ∈ ys)).length : Nat) : Int) = 1 := by omega
    simp (maxSteps := 1000000) (disch := omega) only [decide_eq_false h1', S, S1, S2, S3, S4, S5, ST, eq_self, reduceIte, reduceCtorEq, Nat.reduceEqDiff, Nat.reduceAdd]
    refine hQ _ _ _ ?_
    simp (maxSteps := 1000000) (disch := omega) only [S, S1, S2, S3, S4, S5, ST, eq_self, reduceIte, reduceCtorEq, Nat.reduceEqDiff, Nat.reduceAdd]
    unfold jmpB
    rw [decide_eq_false h1, Bool.false_and]
/-- there are some trees, and not too many -/
def TsOk (n : Int) (es : List (Int × Int)) : Prop := (Grd n es ∧ 0 < n) ∧ 0 < (treA n.toNat es).length ∧ (treA n.toNat es).length ≤ 300
instance (n : Int) (es : List (Int × Int)) : Decidable (TsOk n es) := by unfold TsOk; infer_instance
def tsL (n : Int) (es : List (Int × Int)) : List (List Int) := if TsOk n es then treA n.toNat es else []
def tsS (n : Int) (es : List (Int × Int)) : List (Int × Int) := if TsOk n es then steps jmpB (treA n.toNat es) else []
set_option maxRecDepth 20000 in
set_option maxHeartbeats 4000000 in
theorem SpanI_c (n : Int) (v : Value) (es : List (Int × Int)) (H : AH) (hr : RowP 66 H v es) (hlen : es.length ≤ 1099511627776) (hn : I64 n) :
    ACalls Try.prog 24 [.agg (List.toArray [.int .i64 n, v])] H fun r H' => ∃ a, r = .tuple (List.toArray [a, .bool (decide (TsOk n es))]) ∧ InL H.length H'.length 38 3 H' a (tsL n es) ∧ H <+: H' := by
  refine in24 rfl ?_
  intro Q hQ
  simp (maxSteps := 1000000) (disch := omega) only [cd24, hr.boxG, S, S1, S2, S3, S4, S5, ST, eq_self, reduceIte, reduceCtorEq, Nat.reduceEqDiff, Nat.reduceAdd]
  generalize hA : H ++ [AObj.cells [.int .i64 n, v] 31 false] = A
  have pA : H <+: A := by rw [← hA]; exact List.prefix_append _ _
  have cA : A[H.length]? = some (.cells [.int .i64 n, v] 31 false) := by rw [← hA]; exact at_new ..
  have rA := hr.pre pA
  simp (maxSteps := 1000000) (disch := omega) only [ld_agg ag31 cs31 cA, S, S1, S2, S3, S4, S5, ST, eq_self, reduceIte, reduceCtorEq, Nat.reduceEqDiff, Nat.reduceAdd]
  refine CallH.by (IsGraph_c n v es A rA (by omega)) ?_
  rintro _ B ⟨rfl, pB⟩
  have cB := pre_at pB cA
  have pHB := pA.trans pB
  have no : ∀ {G : AH}, H <+: G → ¬ TsOk n es → ∃ a, Value.tuple (List.toArray [.slice none 0 0, .bool false]) = .tuple (List.toArray [a, .bool (decide (TsOk n es))]) ∧ InL H.length G.length 38 3 G a (tsL n es) ∧ H <+: G := by
    intro G pG h
    refine ⟨_, by rw [decide_eq_false h], ?_, pG⟩
    have : tsL n es = [] := if_neg h
    rw [this]; exact .inl ⟨rfl, rfl⟩
  by_cases e : Grd n es
  rotate_left
  · simp (maxSteps := 1000000) (disch := omega) only [decide_eq_false e, S, S1, S2, S3, S4, S5, ST, eq_self, reduceIte, reduceCtorEq, Nat.reduceEqDiff, Nat.reduceAdd]
    refine hQ _ _ _ ?_
    simp (maxSteps := 1000000) (disch := omega) only [S, S1, S2, S3, S4, S5, ST, eq_self, reduceIte, reduceCtorEq, Nat.reduceEqDiff, Nat.reduceAdd]
    exact no pHB fun h => e h.1.1
  by_cases e0 : n = 0
  · simp (maxSteps := 1000000) (disch := omega) only [decide_eq_true e, cell_of cB, decide_eq_true e0, S, S1, S2, S3, S4, S5, ST, eq_self, reduceIte, reduceCtorEq, Nat.reduceEqDiff, Nat.reduceAdd]
    refine hQ _ _ _ ?_
    simp (maxSteps := 1000000) (disch := omega) only [S, S1, S2, S3, S4, S5, ST, eq_self, reduceIte, reduceCtorEq, Nat.reduceEqDiff, Nat.reduceAdd]
    exact no pHB fun h => by have := h.1.2; omega
  have h8 := e.1
  obtain ⟨N, rfl⟩ : ∃ N : Nat, n = N := ⟨n.toNat, by omega⟩
  simp (maxSteps := 1000000) (disch := omega) only [decide_eq_true e, cell_of cB, decide_eq_false e0, ld_agg ag31 cs31 cB, S, S1, S2, S3, S4, S5, ST, eq_self, reduceIte, reduceCtorEq, Nat.reduceEqDiff, Nat.reduceAdd]
  refine CallH.by (trees_c N (by omega) v es B (rA.pre pB) e) ?_
  rintro _ C ⟨a, rfl, hL, pC⟩
  have hiff : (decide ((treA N es).length ≤ 300) && decide (0 < (treA N es).length)) = decide (TsOk (N : Int) es) := by
    rw [Bool.eq_iff_iff, Bool.and_eq_true, decide_eq_true_eq, decide_eq_true_eq, decide_eq_true_eq]
    unfold TsOk
    rw [Int.toNat_natCast]
    exact ⟨fun h => ⟨⟨e, by omega⟩, h.2, h.1⟩, fun h => ⟨h.2.2, h.2.1⟩⟩
  rw [hiff]
  by_cases ok : TsOk (N : Int) es
  · have hl := ok.2.2
    rw [Int.toNat_natCast] at hl
    have e301 : (treA N es).take 301 = treA N es := List.take_of_length_le (by omega)
    rw [e301] at hL
    have hat := hL.row
    obtain ⟨us, r1, _, _, _⟩ := hat
    have htp := r1.tup
    simp (maxSteps := 1000000) (disch := omega) only [decide_eq_true ok, htp, S, S1, S2, S3, S4, S5, ST, eq_self, reduceIte, reduceCtorEq, Nat.reduceEqDiff, Nat.reduceAdd]
    refine hQ _ _ _ ?_
    simp (maxSteps := 1000000) (disch := omega) only [htp, S, S1, S2, S3, S4, S5, ST, eq_self, reduceIte, reduceCtorEq, Nat.reduceEqDiff, Nat.reduceAdd]
    refine ⟨a, by rw [decide_eq_true ok], ?_, pHB.trans pC⟩
    have : tsL (N : Int) es = treA N es := by unfold tsL; rw [if_pos ok, Int.toNat_natCast]
    rw [this]
    exact hL.wide pHB.length_le (Nat.le_refl _)
  · simp (maxSteps := 1000000) (disch := omega) only [decide_eq_false ok, S, S1, S2, S3, S4, S5, ST, eq_self, reduceIte, reduceCtorEq, Nat.reduceEqDiff, Nat.reduceAdd]
    refine hQ _ _ _ ?_
    simp (maxSteps := 1000000) (disch := omega) only [S, S1, S2, S3, S4, S5, ST, eq_self, reduceIte, reduceCtorEq, Nat.reduceEqDiff, Nat.reduceAdd]
    exact no (pHB.trans pC) ok
end Go.Proofs.Ytjnefjchconebab.Ai
namespace Go.Proofs.Ytjnefjchconebab.Ai
open Go
def ords8 : List (Nat × List (Nat × Bool)) := []
def cd8 : Cd := (.seq (.reg [⟨⟨some 1, Op.box 31 (Operand.tmp 0), none⟩, []⟩,
  ⟨⟨some 2, Op.alloc 28, none⟩, []⟩,
  ⟨⟨some 3, Op.assign (Operand.const (Value.bool false)), none⟩, []⟩]) (.seq (.reg [⟨⟨some 7, Op.load 31 (Operand.tmp 1), none⟩, []⟩,
  ⟨⟨some 8, Op.call { callee := (Callee.value (Operand.func 24)), args := #[(Operand.tmp 7)], argTypes := #[31] }, none⟩, []⟩,
  ⟨⟨some 6, Op.move (Operand.tmp 8), none⟩, []⟩,
  ⟨⟨some 9, Op.extract (Operand.tmp 6) 0, none⟩, []⟩,
  ⟨⟨some 10, Op.extract (Operand.tmp 6) 1, none⟩, []⟩,
  ⟨⟨some 4, Op.assign (Operand.tmp 9), none⟩, []⟩,
  ⟨⟨some 5, Op.assign (Operand.tmp 10), none⟩, []⟩]) (.seq (.seq (.reg [⟨⟨some 11, Op.move (Operand.tmp 5), none⟩, []⟩,
  ⟨⟨some 12, Op.unOp UnOp.not 4 (Operand.tmp 11), none⟩, []⟩]) (.cond (Operand.tmp 12) (.seq (.reg [⟨⟨some 13, Op.build 28 #[], none⟩, []⟩,
  ⟨⟨none, Op.store 28 (Operand.tmp 2) (Operand.tmp 13), none⟩, []⟩,
  ⟨⟨some 3, Op.assign (Operand.const (Value.bool false)), none⟩, []⟩]) .ret) .skip)) (.seq (.reg [⟨⟨some 14, Op.move (Operand.tmp 4), none⟩, []⟩,
  ⟨⟨some 15, Op.call { callee := (Callee.value (Operand.func 26)), args := #[(Operand.tmp 14), (Operand.func 27)], argTypes := #[26, 41] }, none⟩, []⟩,
  ⟨⟨some 16, Op.call { callee := (Callee.value (Operand.func 25)), args := #[(Operand.tmp 15)], argTypes := #[28] }, none⟩, []⟩,
  ⟨⟨some 17, Op.extract (Operand.tmp 16) 0, none⟩, []⟩,
  ⟨⟨some 18, Op.extract (Operand.tmp 16) 1, none⟩, []⟩,
  ⟨⟨none, Op.store 28 (Operand.tmp 2) (Operand.tmp 17), none⟩, []⟩,
  ⟨⟨some 3, Op.assign (Operand.tmp 18), none⟩, []⟩]) .ret))))
theorem sl8 : slim Try.f8.ntmps ords8 (Try.f8.body.getD .skip) = some cd8 := by kernel_rfl
set_option maxRecDepth 20000 in
theorem in8 {args : List Value} {H : AH} {R : Value → AH → Prop} (hl : args.length = 1) (h : ∀ (Q : Exit → Sl → AH → Prop), (∀ e s H, endA Try.prog [ResultVar.cell 2 28, ResultVar.tmp 3] R e s H → Q e s H) → wpC Try.prog cd8 Q (enterA args) H) : ACalls Try.prog 8 args H R :=
  ACalls.intro (by kernel_rfl) Try.func8 rfl (by kernel_rfl) sl8 hl (of_decide_eq_true (by kernel_rfl)) (by kernel_rfl) h
def ords22 : List (Nat × List (Nat × Bool)) := []
def cd22 : Cd := (.seq (.reg [⟨⟨some 2, Op.box 31 (Operand.tmp 0), none⟩, []⟩,
  ⟨⟨some 4, Op.alloc 28, none⟩, []⟩]) (.seq (.reg [⟨⟨some 5, Op.load 31 (Operand.tmp 2), none⟩, []⟩,
  ⟨⟨some 6, Op.move (Operand.tmp 1), none⟩, []⟩,
  ⟨⟨some 7, Op.call { callee := (Callee.value (Operand.func 44)), args := #[(Operand.tmp 5), (Operand.const (Value.int IntKind.i64 1)), (Operand.tmp 6)], argTypes := #[31, 3, 26] }, none⟩, []⟩,
  ⟨⟨none, Op.store 28 (Operand.tmp 4) (Operand.tmp 7), none⟩, []⟩]) .ret))
theorem sl22 : slim Try.f22.ntmps ords22 (Try.f22.body.getD .skip) = some cd22 := by kernel_rfl
set_option maxRecDepth 20000 in
theorem in22 {args : List Value} {H : AH} {R : Value → AH → Prop} (hl : args.length = 2) (h : ∀ (Q : Exit → Sl → AH → Prop), (∀ e s H, endA Try.prog [ResultVar.cell 4 28] R e s H → Q e s H) → wpC Try.prog cd22 Q (enterA args) H) : ACalls Try.prog 22 args H R :=
  ACalls.intro (by kernel_rfl) Try.func22 rfl (by kernel_rfl) sl22 hl (of_decide_eq_true (by kernel_rfl)) (by kernel_rfl) h
def ords6 : List (Nat × List (Nat × Bool)) := []
def cd6 : Cd := (.seq (.reg [⟨⟨some 1, Op.box 31 (Operand.tmp 0), none⟩, []⟩,
  ⟨⟨some 2, Op.alloc 28, none⟩, []⟩,
  ⟨⟨some 3, Op.assign (Operand.const (Value.bool false)), none⟩, []⟩]) (.seq (.seq (.reg [⟨⟨some 5, Op.load 31 (Operand.tmp 1), none⟩, []⟩,
  ⟨⟨some 6, Op.call { callee := (Callee.value (Operand.func 20)), args := #[(Operand.tmp 5)], argTypes := #[31] }, none⟩, []⟩,
  ⟨⟨some 7, Op.unOp UnOp.not 4 (Operand.tmp 6), none⟩, []⟩]) (.cond (Operand.tmp 7) (.seq (.reg [⟨⟨some 8, Op.build 28 #[], none⟩, []⟩,
  ⟨⟨none, Op.store 28 (Operand.tmp 2) (Operand.tmp 8), none⟩, []⟩,
  ⟨⟨some 3, Op.assign (Operand.const (Value.bool false)), none⟩, []⟩]) .ret) .skip)) (.seq (.reg [⟨⟨some 9, Op.load 31 (Operand.tmp 1), none⟩, []⟩,
  ⟨⟨some 10, Op.call { callee := (Callee.value (Operand.func 21)), args := #[(Operand.tmp 9)], argTypes := #[31] }, none⟩, []⟩,
  ⟨⟨some 4, Op.assign (Operand.tmp 10), none⟩, []⟩]) (.seq (.seq (.reg [⟨⟨some 11, Op.move (Operand.tmp 4), none⟩, []⟩,
  ⟨⟨some 12, Op.call { callee := (Callee.builtin Builtin.len), args := #[(Operand.tmp 11)], argTypes := #[26] }, none⟩, []⟩,
  ⟨⟨some 13, Op.binOp BinOp.eql 3 (Operand.tmp 12) (Operand.const (Value.int IntKind.i64 0)) 3, none⟩, []⟩]) (.cond (Operand.tmp 13) (.seq (.reg [⟨⟨some 14, Op.build 28 #[], none⟩, []⟩,
  ⟨⟨none, Op.store 28 (Operand.tmp 2) (Operand.tmp 14), none⟩, []⟩,
  ⟨⟨some 3, Op.assign (Operand.const (Value.bool false)), none⟩, []⟩]) .ret) .skip)) (.seq (.reg [⟨⟨some 15, Op.load 31 (Operand.tmp 1), none⟩, []⟩,
  ⟨⟨some 16, Op.move (Operand.tmp 4), none⟩, []⟩,
  ⟨⟨some 17, Op.call { callee := (Callee.value (Operand.func 22)), args := #[(Operand.tmp 15), (Operand.tmp 16)], argTypes := #[31, 26] }, none⟩, []⟩,
  ⟨⟨none, Op.store 28 (Operand.tmp 2) (Operand.tmp 17), none⟩, []⟩,
  ⟨⟨some 3, Op.assign (Operand.const (Value.bool true)), none⟩, []⟩]) .ret)))))
theorem sl6 : slim Try.f6.ntmps ords6 (Try.f6.body.getD .skip) = some cd6 := by kernel_rfl
set_option maxRecDepth 20000 in
theorem in6 {args : List Value} {H : AH} {R : Value → AH → Prop} (hl : args.length = 1) (h : ∀ (Q : Exit → Sl → AH → Prop), (∀ e s H, endA Try.prog [ResultVar.cell 2 28, ResultVar.tmp 3] R e s H → Q e s H) → wpC Try.prog cd6 Q (enterA args) H) : ACalls Try.prog 6 args H R :=
  ACalls.intro (by kernel_rfl) Try.func6 rfl (by kernel_rfl) sl6 hl (of_decide_eq_true (by kernel_rfl)) (by kernel_rfl) h
end Go.Proofs.Ytjnefjchconebab.Ai
namespace Go.Proofs.Ytjnefjchconebab.Ai
open Go Go.RowKit
set_option linter.unusedVariables false
set_option linter.unusedSimpArgs false
theorem stB_jmp (es : List (Int × Int)) : stB es 1 = jmpB := by
  funext x y
  have e : ∀ x y : List Int, (without x y).length = (x.filter fun e => !decide (e ∈ y)).length := by
    intro x y
    unfold without; congr 1
    exact List.filter_congr fun e _ => by simp
  unfold stB jmpB
  rw [if_neg (by decide), e x y, e y x, decide_eq_true (show (1 : Int) = 1 from rfl), Bool.true_or, Bool.and_true]
  rw [Bool.eq_iff_iff, Bool.and_eq_true, Bool.and_eq_true, decide_eq_true_eq, decide_eq_true_eq, decide_eq_true_eq, decide_eq_true_eq]
  omega
theorem tsL_in {n : Int} {es : List (Int × Int)} : ∀ x ∈ tsL n es, x.length ≤ 28 ∧ (∀ y ∈ x, 0 ≤ y ∧ y < 28) ∧ x.Pairwise (· < ·) := by
  intro x hx
  unfold tsL at hx
  split at hx
  · rename_i h
    have hg := h.1.1
    have h8 := hg.1
    obtain ⟨N, rfl⟩ : ∃ N : Nat, n = N := ⟨n.toNat, by omega⟩
    rw [Int.toNat_natCast] at hx
    have t := (treA_iff (by have := h.1.2; omega) hg x).1 hx
    have h28 := grd_len hg
    refine ⟨by have := t.1; omega, fun y hy => ?_, t.2.1⟩
    have := t.2.2.1 y hy
    omega
  · simp at hx
theorem tsL_len (n : Int) (es : List (Int × Int)) : (tsL n es).length ≤ 300 := by
  unfold tsL; split
  · rename_i h; exact h.2.2
  · exact Nat.zero_le _
theorem tsS_eq (n : Int) (es : List (Int × Int)) : tsS n es = steps jmpB (tsL n es) := by
  unfold tsS tsL; split <;> rfl
theorem tsS_len (n : Int) (es : List (Int × Int)) : (tsS n es).length ≤ 6000 := by
  unfold tsS; split
  · rename_i h
    have h8 := h.1.1.1
    have hg := h.1.1
    obtain ⟨N, rfl⟩ : ∃ N : Nat, n = N := ⟨n.toNat, by omega⟩
    rw [Int.toNat_natCast]
    exact tre_steps (by have := h.1.2; omega) hg (grd_len hg) h.2.2
  · exact Nat.zero_le _
theorem tsL_srt (n : Int) (es : List (Int × Int)) : SrtL (tsL n es) := by
  unfold tsL; split
  · rename_i h
    have h8 := h.1.1.1
    have hg := h.1.1
    obtain ⟨N, rfl⟩ : ∃ N : Nat, n = N := ⟨n.toNat, by omega⟩
    rw [Int.toNat_natCast]
    exact srtL_of (treA_pw (by have := h.1.2; omega) hg)
  · exact srtL_of .nil
theorem ts_ok (n : Int) (es : List (Int × Int)) : (tsL n es).length ≤ 1099511627776 ∧ sizeL (tsL n es) ≤ 549755813888 ∧ (tsS n es).length ≤ 1099511627776 := by
  have h1 := tsL_len n es
  have h2 := tsS_len n es
  have h6 : ∀ (ls : List (List Int)), (∀ l ∈ ls, l.length ≤ 28) → sizeL ls ≤ ls.length * 29 := by
    intro ls
    induction ls with
    | nil => intro _; simp [sizeL]
    | cons l ls ih =>
      intro hl
      have := ih (fun x hx => hl x (by simp [hx]))
      have := hl l (by simp)
      simp only [sizeL, List.map_cons, List.sum_cons, List.length_cons, Nat.add_mul, Nat.one_mul] at *
      omega
  have h7 := h6 (tsL n es) fun l hl => (tsL_in l hl).1
  exact ⟨by omega, by omega, by omega⟩
set_option maxRecDepth 20000 in
set_option maxHeartbeats 8000000 in
theorem TreI_c (n : Int) (v : Value) (es : List (Int × Int)) (H : AH) (hr : RowP 66 H v es) (hlen : es.length ≤ 1099511627776) (hes : ∀ y ∈ es, I64 y.1 ∧ I64 y.2) (hn : I64 n) :
    ACalls Try.prog 8 [.agg (List.toArray [.int .i64 n, v])] H fun r H' => ∃ a b, r = .tuple (List.toArray [.agg (List.toArray [a, b]), .bool (decide (TsOk n es))]) ∧ SpIn H.length H'.length H' a b (tsL n es) (tsS n es) ∧ H <+: H' := by
  refine in8 rfl ?_
  intro Q hQ
  simp (maxSteps := 1000000) (disch := omega) only [cd8, hr.boxG, S, S1, S2, S3, S4, S5, ST, eq_self, reduceIte, reduceCtorEq, Nat.reduceEqDiff, Nat.reduceAdd]
  generalize hA0 : H ++ [AObj.cells [.int .i64 n, v] 31 false] = A0
  have pA0 : H <+: A0 := by rw [← hA0]; exact List.prefix_append _ _
  have cA0 : A0[H.length]? = some (.cells [.int .i64 n, v] 31 false) := by rw [← hA0]; exact at_new ..
  have rA0 := hr.pre pA0
  simp (maxSteps := 1000000) (disch := omega) only [alloc_sp, S, S1, S2, S3, S4, S5, ST, eq_self, reduceIte, reduceCtorEq, Nat.reduceEqDiff, Nat.reduceAdd]
  generalize hA : A0 ++ [AObj.cells [.slice none 0 0, .slice none 0 0] 28 false] = A
  have pA1 : A0 <+: A := by rw [← hA]; exact List.prefix_append _ _
  have lA0 : A0.length = H.length + 1 := by rw [← hA0]; simp
  have cS : A[A0.length]? = some (.cells [.slice none 0 0, .slice none 0 0] 28 false) := by rw [← hA]; exact at_new ..
  have lA : A.length = A0.length + 1 := by rw [← hA]; simp
  have pA := pA0.trans pA1
  have cA := pre_at pA1 cA0
  have rA := rA0.pre pA1
  simp (maxSteps := 1000000) (disch := omega) only [ld_agg ag31 cs31 cA, S, S1, S2, S3, S4, S5, ST, eq_self, reduceIte, reduceCtorEq, Nat.reduceEqDiff, Nat.reduceAdd]
  refine CallH.by (SpanI_c n v es A rA hlen hn) ?_
  rintro _ C ⟨a, rfl, hL, pC⟩
  obtain ⟨us, r1, r2, r3⟩ := hL.parts
  have htp := r1.tup
  have cSC := pre_at pC cS
  have lC := pC.length_le
  by_cases ok : TsOk n es
  rotate_left
  · have hstore0 := st_ss cSC rfl none none 0 0 0 0
    simp (maxSteps := 1000000) (disch := omega) only [htp, decide_eq_false ok, bld_sp0, hstore0, S, S1, S2, S3, S4, S5, ST, eq_self, reduceIte, reduceCtorEq, Nat.reduceEqDiff, Nat.reduceAdd]
    have d4 := at_set (d := .cells [.slice none 0 0, .slice none 0 0] 28 false) cSC
    refine hQ _ _ _ (end_cell2 _ _ _ _ _ _ _ (.agg (List.toArray [.slice none 0 0, .slice none 0 0])) (.bool false) ?_ rfl ?_ rfl ⟨_, _, by rw [decide_eq_false ok], ⟨H.length, Nat.le_refl _, by simp; omega, ?_, ?_⟩, ?_⟩)
    · simp (maxSteps := 1000000) (disch := omega) only [ld_agg ag28 cs28 d4, S, S1, S2, S3, S4, S5, ST, eq_self, reduceIte, reduceCtorEq, Nat.reduceEqDiff, Nat.reduceAdd]
    · simp (maxSteps := 1000000) (disch := omega) only [S, S1, S2, S3, S4, S5, ST, eq_self, reduceIte, reduceCtorEq, Nat.reduceEqDiff, Nat.reduceAdd]
    · have : tsL n es = [] := if_neg ok
      rw [this]; exact .inl ⟨rfl, rfl⟩
    · have : tsS n es = [] := if_neg ok
      rw [this]; exact .inl ⟨rfl, rfl⟩
    · exact pre_set (pA.trans pC) (by omega) _
  have hin : ∀ x ∈ tsL n es, x.length ≤ 28 ∧ (∀ y ∈ x, 0 ≤ y ∧ y < 28) ∧ x.Pairwise (· < ·) := tsL_in
  have hsrt := tsL_srt n es
  have h300 := tsL_len n es
  have hjmp := tsS_len n es
  have hpP := tsS_eq n es
  rw [hpP] at hjmp hQ
  generalize hls : tsL n es = ls at *
  have hsts : Sts C a us ls := ⟨r1, r2, fun i hi => (r3 i hi).row.1, fun i hi => by
    have : ls.getD i [] ∈ ls := by simp [hi]
    have := (hin _ this).1; omega, by omega, hsrt⟩
  have hS : StepFn C 27 [] ls jmpB := fun va vb x y H2 hp2 hv hw hx hy => (isJumpG_c va vb x y H2 hv hw (hin x hx).1 (hin y hy).1 (hin x hx).2.1 (hin y hy).2.1 (hin x hx).2.2 (hin y hy).2.2).mono fun r H' hh => ⟨hh.1, hh.2 ▸ List.prefix_refl _⟩
  simp (maxSteps := 1000000) (disch := omega) only [htp, decide_eq_true ok, S, S1, S2, S3, S4, S5, ST, eq_self, reduceIte, reduceCtorEq, Nat.reduceEqDiff, Nat.reduceAdd]
  refine CallH.by (spaceOf_c hsts (by omega) 27 [] jmpB hS (List.prefix_refl _)) ?_
  rintro _ D ⟨st, rfl, hst, pD⟩
  have hrowD : SpRow D a st ls (steps jmpB ls) := ⟨⟨_, (hL.row).pre pD⟩, hst.row⟩
  simp (maxSteps := 1000000) (disch := omega) only [S, S1, S2, S3, S4, S5, ST, eq_self, reduceIte, reduceCtorEq, Nat.reduceEqDiff, Nat.reduceAdd]
  refine CallH.by (orNone_c a st _ _ D hrowD (by omega) hjmp) ?_
  rintro _ E ⟨rfl, pE⟩
  have hrowE := hrowD.pre pE
  have cSE := pre_at (pD.trans pE) cSC
  have hstore := hrowE.store cSE rfl
  simp (maxSteps := 1000000) (disch := omega) only [hstore, S, S1, S2, S3, S4, S5, ST, eq_self, reduceIte, reduceCtorEq, Nat.reduceEqDiff, Nat.reduceAdd]
  have d4 := at_set (d := .cells [a, st] 28 false) cSE
  have lD := pD.length_le
  have lE := pE.length_le
  refine hQ _ _ _ (end_cell2 _ _ _ _ _ _ _ (.agg (List.toArray [a, st])) (.bool true) ?_ rfl ?_ rfl ⟨a, st, by rw [decide_eq_true ok], ⟨C.length, by omega, by simp; omega, ?_, ?_⟩, ?_⟩)
  · simp (maxSteps := 1000000) (disch := omega) only [ld_agg ag28 cs28 d4, S, S1, S2, S3, S4, S5, ST, eq_self, reduceIte, reduceCtorEq, Nat.reduceEqDiff, Nat.reduceAdd]
  · simp (maxSteps := 1000000) (disch := omega) only [S, S1, S2, S3, S4, S5, ST, eq_self, reduceIte, reduceCtorEq, Nat.reduceEqDiff, Nat.reduceAdd]
  · rcases hL.pre (pD.trans pE) with q | ⟨o, us', q1, q2⟩
    · exact .inl q
    · refine .inr ⟨o, us', q1, (q2.move fun j y hj1 hj2 hy => ?_).wide (by omega) (Nat.le_refl _)⟩
      rw [List.getElem?_set_ne (by omega)]; exact hy
  · have hI := InP.of (hst.pre pE)
    rcases hI with q | ⟨o, zs, q1, q2, q3, q4, q5⟩
    · exact .inl q
    · exact .inr ⟨o, zs, q1, q2, by simpa using q3, by rw [List.getElem?_set_ne (by omega)]; exact q4, q5⟩
  · exact pre_set (pA.trans (pC.trans (pD.trans pE))) (by omega) _
set_option maxRecDepth 20000 in
set_option maxHeartbeats 4000000 in
theorem l7Exchanges_c {H0 : AH} (n : Int) (v : Value) (es : List (Int × Int)) (hg : RowP 66 H0 v es) (hes : es.length ≤ 1099511627776) {a : Value} {ls : List (List Int)} {lo : Nat} (hL : InL lo H0.length 38 3 H0 a ls) (h9 : ls.length ≤ 1000) (hlen : ∀ l ∈ ls, l.length ≤ 1000) :
    ACalls Try.prog 22 [.agg (List.toArray [.int .i64 n, v]), a] H0 fun r H' => ∃ b, r = .agg (List.toArray [a, b]) ∧ InP H0.length H'.length 66 H' b (steps jmpB ls) ∧ H0 <+: H' := by
  refine in22 rfl ?_
  intro Q hQ
  simp (maxSteps := 1000000) (disch := omega) only [cd22, hg.boxG, S, S1, S2, S3, S4, S5, ST, eq_self, reduceIte, reduceCtorEq, Nat.reduceEqDiff, Nat.reduceAdd]
  generalize hA0 : H0 ++ [AObj.cells [.int .i64 n, v] 31 false] = A0
  have pA0 : H0 <+: A0 := by rw [← hA0]; exact List.prefix_append _ _
  have cA0 : A0[H0.length]? = some (.cells [.int .i64 n, v] 31 false) := by rw [← hA0]; exact at_new ..
  have rA0 := hg.pre pA0
  simp (maxSteps := 1000000) (disch := omega) only [alloc_sp, S, S1, S2, S3, S4, S5, ST, eq_self, reduceIte, reduceCtorEq, Nat.reduceEqDiff, Nat.reduceAdd]
  generalize hA : A0 ++ [AObj.cells [.slice none 0 0, .slice none 0 0] 28 false] = A
  have pA1 : A0 <+: A := by rw [← hA]; exact List.prefix_append _ _
  have lA0 : A0.length = H0.length + 1 := by rw [← hA0]; simp
  have cS : A[A0.length]? = some (.cells [.slice none 0 0, .slice none 0 0] 28 false) := by rw [← hA]; exact at_new ..
  have lA : A.length = A0.length + 1 := by rw [← hA]; simp
  have pA := pA0.trans pA1
  have cA := pre_at pA1 cA0
  have rA := rA0.pre pA1
  have hLA : InL lo A.length 38 3 A a ls := (hL.pre pA).wide (Nat.le_refl _) (by omega)
  simp (maxSteps := 1000000) (disch := omega) only [ld_agg ag31 cs31 cA, S, S1, S2, S3, S4, S5, ST, eq_self, reduceIte, reduceCtorEq, Nat.reduceEqDiff, Nat.reduceAdd]
  refine CallH.by (l3Space_c n 1 v es rA hes hLA h9 hlen) ?_
  rintro _ D ⟨b, rfl, hp, pD⟩
  rw [stB_jmp] at hp
  have lD := pD.length_le
  have cSD := pre_at pD cS
  have hrow : SpRow D a b ls (steps jmpB ls) := ⟨⟨_, (hLA.row).pre pD⟩, by
    rcases hp with ⟨q1, q2⟩ | ⟨o, zs, q1, q2, q3, q4, q5⟩
    · exact (show MineP 66 D D b (steps jmpB ls) from .inl ⟨q1, q2⟩).row
    · exact (show MineP 66 A D b (steps jmpB ls) from .inr ⟨o, zs, q1, q2, q4, q5⟩).row⟩
  have hstore := hrow.store cSD rfl
  simp (maxSteps := 1000000) (disch := omega) only [hstore, S, S1, S2, S3, S4, S5, ST, eq_self, reduceIte, reduceCtorEq, Nat.reduceEqDiff, Nat.reduceAdd]
  have d4 := at_set (d := .cells [a, b] 28 false) cSD
  refine hQ _ _ _ (end_cell _ _ _ _ _ _ (.agg (List.toArray [a, b])) ?_ rfl ⟨b, rfl, ?_, ?_⟩)
  · simp (maxSteps := 1000000) (disch := omega) only [ld_agg ag28 cs28 d4, S, S1, S2, S3, S4, S5, ST, eq_self, reduceIte, reduceCtorEq, Nat.reduceEqDiff, Nat.reduceAdd]
  · rcases hp with q | ⟨o, zs, q1, q2, q3, q4, q5⟩
    · exact .inl q
    · exact .inr ⟨o, zs, q1, by omega, by simpa using q3, by rw [List.getElem?_set_ne (by omega)]; exact q4, q5⟩
  · exact pre_set (pA.trans pD) (by omega) _
set_option maxRecDepth 20000 in
set_option maxHeartbeats 8000000 in
theorem TreS_c (n : Int) (v : Value) (es : List (Int × Int)) (H : AH) (hr : RowP 66 H v es) (hlen : es.length ≤ 1099511627776) (hes : ∀ y ∈ es, I64 y.1 ∧ I64 y.2) (hn : I64 n) :
    ACalls Try.prog 6 [.agg (List.toArray [.int .i64 n, v])] H fun r H' => ∃ a b, r = .tuple (List.toArray [.agg (List.toArray [a, b]), .bool (decide (TsOk n es))]) ∧ SpIn H.length H'.length H' a b (tsL n es) (tsS n es) ∧ H <+: H' := by
  refine in6 rfl ?_
  intro Q hQ
  simp (maxSteps := 1000000) (disch := omega) only [cd6, hr.boxG, S, S1, S2, S3, S4, S5, ST, eq_self, reduceIte, reduceCtorEq, Nat.reduceEqDiff, Nat.reduceAdd]
  generalize hA0 : H ++ [AObj.cells [.int .i64 n, v] 31 false] = A0
  have pA0 : H <+: A0 := by rw [← hA0]; exact List.prefix_append _ _
  have cA0 : A0[H.length]? = some (.cells [.int .i64 n, v] 31 false) := by rw [← hA0]; exact at_new ..
  have rA0 := hr.pre pA0
  simp (maxSteps := 1000000) (disch := omega) only [alloc_sp, S, S1, S2, S3, S4, S5, ST, eq_self, reduceIte, reduceCtorEq, Nat.reduceEqDiff, Nat.reduceAdd]
  generalize hA : A0 ++ [AObj.cells [.slice none 0 0, .slice none 0 0] 28 false] = A
  have pA1 : A0 <+: A := by rw [← hA]; exact List.prefix_append _ _
  have lA0 : A0.length = H.length + 1 := by rw [← hA0]; simp
  have cS : A[A0.length]? = some (.cells [.slice none 0 0, .slice none 0 0] 28 false) := by rw [← hA]; exact at_new ..
  have lA : A.length = A0.length + 1 := by rw [← hA]; simp
  have pA := pA0.trans pA1
  have cA := pre_at pA1 cA0
  have rA := rA0.pre pA1
  simp (maxSteps := 1000000) (disch := omega) only [ld_agg ag31 cs31 cA, S, S1, S2, S3, S4, S5, ST, eq_self, reduceIte, reduceCtorEq, Nat.reduceEqDiff, Nat.reduceAdd]
  refine CallH.by (l7Some_c n v es A rA hlen) ?_
  rintro _ B ⟨rfl, pB⟩
  have cB := pre_at pB cA
  have lB := pB.length_le
  have no : ∀ {G : AH}, A <+: G → ¬ TsOk n es → ∀ sl : Sl, sl 2 = .pointer (some ⟨A0.length, 0, none⟩) → sl 3 = .bool false → endA Try.prog [.cell 2 28, .tmp 3] (fun r H' => ∃ a b, r = .tuple (List.toArray [.agg (List.toArray [a, b]), .bool (decide (TsOk n es))]) ∧ SpIn H.length H'.length H' a b (tsL n es) (tsS n es) ∧ H <+: H') .ret sl (G.set A0.length (.cells [.slice none 0 0, .slice none 0 0] 28 false)) := by
    intro G pG h sl s2 s3
    have cSG := pre_at pG cS
    have lG := pG.length_le
    have d4 := at_set (d := .cells [.slice none 0 0, .slice none 0 0] 28 false) cSG
    refine end_cell2 _ _ _ _ _ _ _ (.agg (List.toArray [.slice none 0 0, .slice none 0 0])) (.bool false) ?_ rfl s3 rfl ⟨_, _, by rw [decide_eq_false h], ⟨H.length, Nat.le_refl _, by simp; omega, ?_, ?_⟩, ?_⟩
    · simp (maxSteps := 1000000) (disch := omega) only [s2, ld_agg ag28 cs28 d4, S, S1, S2, S3, S4, S5, ST, eq_self, reduceIte, reduceCtorEq, Nat.reduceEqDiff, Nat.reduceAdd]
    · have : tsL n es = [] := if_neg h
      rw [this]; exact .inl ⟨rfl, rfl⟩
    · have : tsS n es = [] := if_neg h
      rw [this]; exact .inl ⟨rfl, rfl⟩
    · exact pre_set (pA.trans pG) (by omega) _
  by_cases e : Grd n es ∧ 0 < n
  rotate_left
  · have hstore0 := st_ss (pre_at pB cS) rfl none none 0 0 0 0
    simp (maxSteps := 1000000) (disch := omega) only [decide_eq_false e, bld_sp0, hstore0, S, S1, S2, S3, S4, S5, ST, eq_self, reduceIte, reduceCtorEq, Nat.reduceEqDiff, Nat.reduceAdd]
    refine hQ _ _ _ (no pB (fun q => e q.1) _ ?_ ?_) <;> simp (maxSteps := 1000000) (disch := omega) only [S, S1, S2, S3, S4, S5, ST, eq_self, reduceIte, reduceCtorEq, Nat.reduceEqDiff, Nat.reduceAdd]
  have h8 := e.1.1
  obtain ⟨N, rfl⟩ : ∃ N : Nat, n = N := ⟨n.toNat, by omega⟩
  simp (maxSteps := 1000000) (disch := omega) only [decide_eq_true e, ld_agg ag31 cs31 cB, S, S1, S2, S3, S4, S5, ST, eq_self, reduceIte, reduceCtorEq, Nat.reduceEqDiff, Nat.reduceAdd]
  refine CallH.by (l7Trees_c N (by omega) v es B (rA.pre pB) e.1) ?_
  rintro _ C ⟨o, us, rfl, hU, pC⟩
  have pBC := pB.trans pC
  have cSC := pre_at pBC cS
  have cC := pre_at pBC cA
  have lC := pC.length_le
  by_cases e2 : (trsR N es).length = 0
  · have hno : ¬ TsOk (N : Int) es := by
      intro h
      have h1 := h.2.1
      have h2 := h.2.2
      rw [Int.toNat_natCast] at h1 h2
      unfold trsR at e2
      rw [if_neg (by omega)] at e2
      omega
    have e3 : (((trsR N es).length : Nat) : Int) = 0 := by omega
    have hstore0 := st_ss cSC rfl none none 0 0 0 0
    simp (maxSteps := 1000000) (disch := omega) only [decide_eq_true e3, bld_sp0, hstore0, S, S1, S2, S3, S4, S5, ST, eq_self, reduceIte, reduceCtorEq, Nat.reduceEqDiff, Nat.reduceAdd]
    refine hQ _ _ _ (no pBC hno _ ?_ ?_) <;> simp (maxSteps := 1000000) (disch := omega) only [S, S1, S2, S3, S4, S5, ST, eq_self, reduceIte, reduceCtorEq, Nat.reduceEqDiff, Nat.reduceAdd]
  clear no
  have ok : TsOk (N : Int) es := by
    refine ⟨e, ?_⟩
    rw [Int.toNat_natCast]
    unfold trsR at e2
    split at e2
    · exact absurd rfl e2
    · omega
  have hR : trsR N es = tsL (N : Int) es := by
    unfold trsR tsL
    have h2 := ok.2.2
    rw [if_pos ok, if_neg (by rw [Int.toNat_natCast] at h2; omega), Int.toNat_natCast]
  have hin : ∀ x ∈ tsL (N : Int) es, x.length ≤ 28 ∧ (∀ y ∈ x, 0 ≤ y ∧ y < 28) ∧ x.Pairwise (· < ·) := tsL_in
  have h300 := tsL_len (N : Int) es
  have hpP := tsS_eq (N : Int) es
  have e3 : ¬ (((trsR N es).length : Nat) : Int) = 0 := by omega
  rw [hpP] at hQ
  rw [hR] at hU e3 ⊢
  generalize hls : tsL (N : Int) es = ls at *
  have hL : InL B.length C.length 38 3 C (.slice (some ⟨o, 0, none⟩) ls.length ls.length) ls := .inr ⟨o, us, rfl, hU⟩
  generalize hav : Value.slice (some ⟨o, 0, none⟩) ls.length ls.length = a at *
  have hrl := hL.row
  obtain ⟨us2, r1, r2, r3⟩ := hL.parts
  have e4 : ¬ ((us2.length : Nat) : Int) = 0 := by omega
  simp (maxSteps := 1000000) (disch := omega) only [r1.len Try.underlying26, decide_eq_false e4, ld_agg ag31 cs31 cC, S, S1, S2, S3, S4, S5, ST, eq_self, reduceIte, reduceCtorEq, Nat.reduceEqDiff, Nat.reduceAdd]
  refine CallH.by (l7Exchanges_c (N : Int) v es (rA.pre pBC) hlen hL (by omega) (fun l hl => by have := (hin l hl).1; omega)) ?_
  rintro _ D ⟨b, rfl, hp, pD⟩
  have lD := pD.length_le
  have cSD := pre_at pD cSC
  have hrow : SpRow D a b ls (steps jmpB ls) := ⟨⟨_, (hL.row).pre pD⟩, by
    rcases hp with ⟨q1, q2⟩ | ⟨o, zs, q1, q2, q3, q4, q5⟩
    · exact (show MineP 66 D D b (steps jmpB ls) from .inl ⟨q1, q2⟩).row
    · exact (show MineP 66 C D b (steps jmpB ls) from .inr ⟨o, zs, q1, q2, q4, q5⟩).row⟩
  have hstore := hrow.store cSD rfl
  simp (maxSteps := 1000000) (disch := omega) only [hstore, S, S1, S2, S3, S4, S5, ST, eq_self, reduceIte, reduceCtorEq, Nat.reduceEqDiff, Nat.reduceAdd]
  have d4 := at_set (d := .cells [a, b] 28 false) cSD
  refine hQ _ _ _ (end_cell2 _ _ _ _ _ _ _ (.agg (List.toArray [a, b])) (.bool true) ?_ rfl ?_ rfl ⟨a, b, by rw [decide_eq_true ok], ⟨C.length, by omega, by simp; omega, ?_, ?_⟩, ?_⟩)
  · simp (maxSteps := 1000000) (disch := omega) only [ld_agg ag28 cs28 d4, S, S1, S2, S3, S4, S5, ST, eq_self, reduceIte, reduceCtorEq, Nat.reduceEqDiff, Nat.reduceAdd]
  · simp (maxSteps := 1000000) (disch := omega) only [S, S1, S2, S3, S4, S5, ST, eq_self, reduceIte, reduceCtorEq, Nat.reduceEqDiff, Nat.reduceAdd]
  · rcases hL.pre pD with q | ⟨o, us', q1, q2⟩
    · exact .inl q
    · refine .inr ⟨o, us', q1, (q2.move fun j y hj1 hj2 hy => ?_).wide (by omega) (Nat.le_refl _)⟩
      rw [List.getElem?_set_ne (by omega)]; exact hy
  · rcases hp with q | ⟨o, zs, q1, q2, q3, q4, q5⟩
    · exact .inl q
    · exact .inr ⟨o, zs, q1, q2, by simpa using q3, by rw [List.getElem?_set_ne (by omega)]; exact q4, q5⟩
  · exact pre_set (pA.trans (pBC.trans pD)) (by omega) _
end Go.Proofs.Ytjnefjchconebab.Ai
namespace Go.Proofs.Ytjnefjchconebab.Ai
open Go
def ords3 : List (Nat × List (Nat × Bool)) := [(10, [(0, false), (1, false), (2, true), (3, true), (4, false)])]
def cd3 : Cd := (.seq (.reg [⟨⟨some 1, Op.box 24 (Operand.tmp 0), none⟩, []⟩,
  ⟨⟨some 2, Op.assign (Operand.const (Value.bool false)), none⟩, []⟩]) (.seq (.reg [⟨⟨some 3, Op.assign (Operand.const (Value.int IntKind.i64 1048576)), none⟩, []⟩]) (.seq (.reg [⟨⟨some 14, Op.load 24 (Operand.tmp 1), none⟩, []⟩,
  ⟨⟨some 15, Op.move (Operand.tmp 3), none⟩, []⟩,
  ⟨⟨some 16, Op.call { callee := (Callee.value (Operand.func 5)), args := #[(Operand.tmp 14), (Operand.tmp 15)], argTypes := #[24, 3] }, none⟩, []⟩,
  ⟨⟨some 3, Op.assign (Operand.tmp 16), none⟩, []⟩]) (.seq (.seq (.reg [⟨⟨some 17, Op.move (Operand.tmp 3), none⟩, []⟩,
  ⟨⟨some 18, Op.binOp BinOp.lss 3 (Operand.tmp 17) (Operand.const (Value.int IntKind.i64 0)) 3, none⟩, []⟩]) (.cond (Operand.tmp 18) (.seq (.reg [⟨⟨some 2, Op.assign (Operand.const (Value.bool true)), none⟩, []⟩]) .ret) .skip)) (.seq (.reg [⟨⟨some 20, Op.load 24 (Operand.tmp 1), none⟩, []⟩,
  ⟨⟨some 21, Op.call { callee := (Callee.value (Operand.func 7)), args := #[(Operand.tmp 20)], argTypes := #[24] }, none⟩, []⟩,
  ⟨⟨some 22, Op.call { callee := (Callee.value (Operand.func 6)), args := #[(Operand.tmp 21)], argTypes := #[31] }, none⟩, []⟩,
  ⟨⟨some 19, Op.move (Operand.tmp 22), none⟩, []⟩,
  ⟨⟨some 23, Op.extract (Operand.tmp 19) 0, none⟩, []⟩,
  ⟨⟨some 24, Op.extract (Operand.tmp 19) 1, none⟩, []⟩,
  ⟨⟨some 4, Op.alloc 28, none⟩, []⟩,
  ⟨⟨none, Op.store 28 (Operand.tmp 4) (Operand.tmp 23), none⟩, []⟩,
  ⟨⟨some 5, Op.assign (Operand.tmp 24), none⟩, []⟩]) (.seq (.reg [⟨⟨some 25, Op.load 24 (Operand.tmp 1), none⟩, []⟩,
  ⟨⟨some 26, Op.call { callee := (Callee.value (Operand.func 7)), args := #[(Operand.tmp 25)], argTypes := #[24] }, none⟩, []⟩,
  ⟨⟨some 6, Op.alloc 31, none⟩, []⟩,
  ⟨⟨none, Op.store 31 (Operand.tmp 6) (Operand.tmp 26), none⟩, []⟩]) (.seq (.reg [⟨⟨some 28, Op.load 31 (Operand.tmp 6), none⟩, []⟩,
  ⟨⟨some 29, Op.call { callee := (Callee.value (Operand.func 8)), args := #[(Operand.tmp 28)], argTypes := #[31] }, none⟩, []⟩,
  ⟨⟨some 27, Op.move (Operand.tmp 29), none⟩, []⟩,
  ⟨⟨some 30, Op.extract (Operand.tmp 27) 0, none⟩, []⟩,
  ⟨⟨some 31, Op.extract (Operand.tmp 27) 1, none⟩, []⟩,
  ⟨⟨some 7, Op.alloc 28, none⟩, []⟩,
  ⟨⟨none, Op.store 28 (Operand.tmp 7) (Operand.tmp 30), none⟩, []⟩,
  ⟨⟨some 8, Op.assign (Operand.tmp 31), none⟩, []⟩]) (.seq (.seq (.reg [⟨⟨some 32, Op.load 28 (Operand.tmp 7), none⟩, []⟩,
  ⟨⟨some 33, Op.load 28 (Operand.tmp 4), none⟩, []⟩,
  ⟨⟨some 34, Op.call { callee := (Callee.value (Operand.func 9)), args := #[(Operand.tmp 32), (Operand.tmp 33)], argTypes := #[28, 28] }, none⟩, []⟩,
  ⟨⟨some 35, Op.unOp UnOp.not 4 (Operand.tmp 34), none⟩, []⟩,
  ⟨⟨some 36, Op.move (Operand.tmp 35), none⟩, []⟩,
  ⟨⟨some 37, Op.move (Operand.tmp 8), some (36, false)⟩, []⟩,
  ⟨⟨some 38, Op.move (Operand.tmp 5), some (36, false)⟩, []⟩,
  ⟨⟨some 39, Op.binOp BinOp.neq 4 (Operand.tmp 37) (Operand.tmp 38) 4, some (36, false)⟩, []⟩,
  ⟨⟨some 40, Op.pick (Operand.tmp 36) (Operand.const (Value.bool true)) (Operand.tmp 39), none⟩, []⟩]) (.cond (Operand.tmp 40) (.seq (.reg [⟨⟨some 2, Op.assign (Operand.const (Value.bool false)), none⟩, []⟩]) .ret) .skip)) (.seq (.seq (.reg [⟨⟨some 41, Op.load 31 (Operand.tmp 6), none⟩, []⟩,
  ⟨⟨some 42, Op.load 24 (Operand.tmp 1), none⟩, []⟩,
  ⟨⟨some 43, Op.call { callee := (Callee.value (Operand.func 7)), args := #[(Operand.tmp 42)], argTypes := #[24] }, none⟩, [⟨some 41, Op.load 31 (Operand.tmp 6), none⟩]⟩,
  ⟨⟨some 44, Op.call { callee := (Callee.value (Operand.func 10)), args := #[(Operand.tmp 41), (Operand.tmp 43)], argTypes := #[31, 31] }, none⟩, []⟩,
  ⟨⟨some 45, Op.unOp UnOp.not 4 (Operand.tmp 44), none⟩, []⟩]) (.cond (Operand.tmp 45) (.seq (.reg [⟨⟨some 2, Op.assign (Operand.const (Value.bool false)), none⟩, []⟩]) .ret) .skip)) (.seq (.reg [⟨⟨some 9, Op.assign (Operand.const (Value.int IntKind.i64 1)), none⟩, []⟩]) (.seq (.reg [⟨⟨some 46, Op.load 31 (Operand.tmp 6), none⟩, []⟩,
  ⟨⟨some 47, Op.move (Operand.tmp 9), none⟩, []⟩,
  ⟨⟨some 48, Op.call { callee := (Callee.value (Operand.func 11)), args := #[(Operand.tmp 46), (Operand.tmp 47)], argTypes := #[31, 3] }, none⟩, []⟩,
  ⟨⟨some 9, Op.assign (Operand.tmp 48), none⟩, []⟩]) (.seq (.seq (.reg [⟨⟨some 49, Op.move (Operand.tmp 9), none⟩, []⟩,
  ⟨⟨some 50, Op.binOp BinOp.lss 3 (Operand.tmp 49) (Operand.const (Value.int IntKind.i64 0)) 3, none⟩, []⟩,
  ⟨⟨some 51, Op.move (Operand.tmp 50), none⟩, []⟩,
  ⟨⟨some 52, Op.load 28 (Operand.tmp 7), some (51, false)⟩, []⟩,
  ⟨⟨some 53, Op.load 28 (Operand.tmp 4), some (51, false)⟩, []⟩,
  ⟨⟨some 54, Op.call { callee := (Callee.value (Operand.func 9)), args := #[(Operand.tmp 52), (Operand.tmp 53)], argTypes := #[28, 28] }, some (51, false)⟩, []⟩,
  ⟨⟨some 55, Op.unOp UnOp.not 4 (Operand.tmp 54), some (51, false)⟩, []⟩,
  ⟨⟨some 56, Op.pick (Operand.tmp 51) (Operand.const (Value.bool true)) (Operand.tmp 55), none⟩, []⟩,
  ⟨⟨some 57, Op.move (Operand.tmp 56), none⟩, []⟩,
  ⟨⟨some 58, Op.move (Operand.tmp 8), some (57, false)⟩, []⟩,
  ⟨⟨some 59, Op.move (Operand.tmp 5), some (57, false)⟩, []⟩,
  ⟨⟨some 60, Op.binOp BinOp.neq 4 (Operand.tmp 58) (Operand.tmp 59) 4, some (57, false)⟩, []⟩,
  ⟨⟨some 61, Op.pick (Operand.tmp 57) (Operand.const (Value.bool true)) (Operand.tmp 60), none⟩, []⟩]) (.cond (Operand.tmp 61) (.seq (.reg [⟨⟨some 2, Op.assign (Operand.const (Value.bool false)), none⟩, []⟩]) .ret) .skip)) (.seq (.reg [⟨⟨some 10, Op.assign (Operand.const (Value.int IntKind.i64 1)), none⟩, []⟩]) (.seq (.reg [⟨⟨some 62, Op.load 28 (Operand.tmp 7), none⟩, []⟩,
  ⟨⟨some 63, Op.move (Operand.tmp 10), none⟩, []⟩,
  ⟨⟨some 64, Op.call { callee := (Callee.value (Operand.func 12)), args := #[(Operand.tmp 62), (Operand.tmp 63)], argTypes := #[28, 3] }, none⟩, []⟩,
  ⟨⟨some 10, Op.assign (Operand.tmp 64), none⟩, []⟩]) (.seq (.reg [⟨⟨some 11, Op.assign (Operand.const (Value.int IntKind.i64 1)), none⟩, []⟩]) (.seq (.reg [⟨⟨some 65, Op.load 28 (Operand.tmp 7), none⟩, []⟩,
  ⟨⟨some 66, Op.move (Operand.tmp 11), none⟩, []⟩,
  ⟨⟨some 67, Op.call { callee := (Callee.value (Operand.func 13)), args := #[(Operand.tmp 65), (Operand.tmp 66)], argTypes := #[28, 3] }, none⟩, []⟩,
  ⟨⟨some 11, Op.assign (Operand.tmp 67), none⟩, []⟩]) (.seq (.seq (.reg [⟨⟨some 68, Op.move (Operand.tmp 11), none⟩, []⟩,
  ⟨⟨some 69, Op.binOp BinOp.lss 3 (Operand.tmp 68) (Operand.const (Value.int IntKind.i64 0)) 3, none⟩, []⟩]) (.cond (Operand.tmp 69) (.seq (.reg [⟨⟨some 2, Op.assign (Operand.const (Value.bool false)), none⟩, []⟩]) .ret) .skip)) (.seq (.seq (.reg [⟨⟨some 70, Op.move (Operand.tmp 11), none⟩, []⟩,
  ⟨⟨some 71, Op.move (Operand.tmp 10), none⟩, []⟩,
  ⟨⟨some 72, Op.binOp BinOp.neq 3 (Operand.tmp 70) (Operand.tmp 71) 3, none⟩, []⟩]) (.cond (Operand.tmp 72) (.seq (.reg [⟨⟨some 2, Op.assign (Operand.const (Value.bool false)), none⟩, []⟩]) .ret) .skip)) (.seq (.reg [⟨⟨some 74, Op.load 24 (Operand.tmp 1), none⟩, []⟩,
  ⟨⟨some 75, Op.call { callee := (Callee.value (Operand.func 7)), args := #[(Operand.tmp 74)], argTypes := #[24] }, none⟩, []⟩,
  ⟨⟨some 76, Op.call { callee := (Callee.value (Operand.func 8)), args := #[(Operand.tmp 75)], argTypes := #[31] }, none⟩, []⟩,
  ⟨⟨some 73, Op.move (Operand.tmp 76), none⟩, []⟩,
  ⟨⟨some 77, Op.extract (Operand.tmp 73) 0, none⟩, []⟩,
  ⟨⟨some 78, Op.extract (Operand.tmp 73) 1, none⟩, []⟩,
  ⟨⟨some 12, Op.alloc 28, none⟩, []⟩,
  ⟨⟨none, Op.store 28 (Operand.tmp 12) (Operand.tmp 77), none⟩, []⟩,
  ⟨⟨some 13, Op.assign (Operand.tmp 78), none⟩, []⟩]) (.seq (.seq (.reg [⟨⟨some 79, Op.load 28 (Operand.tmp 12), none⟩, []⟩,
  ⟨⟨some 80, Op.load 28 (Operand.tmp 4), none⟩, []⟩,
  ⟨⟨some 81, Op.call { callee := (Callee.value (Operand.func 9)), args := #[(Operand.tmp 79), (Operand.tmp 80)], argTypes := #[28, 28] }, none⟩, []⟩,
  ⟨⟨some 82, Op.unOp UnOp.not 4 (Operand.tmp 81), none⟩, []⟩,
  ⟨⟨some 83, Op.move (Operand.tmp 82), none⟩, []⟩,
  ⟨⟨some 84, Op.move (Operand.tmp 13), some (83, false)⟩, []⟩,
  ⟨⟨some 85, Op.move (Operand.tmp 5), some (83, false)⟩, []⟩,
  ⟨⟨some 86, Op.binOp BinOp.neq 4 (Operand.tmp 84) (Operand.tmp 85) 4, some (83, false)⟩, []⟩,
  ⟨⟨some 87, Op.pick (Operand.tmp 83) (Operand.const (Value.bool true)) (Operand.tmp 86), none⟩, []⟩]) (.cond (Operand.tmp 87) (.seq (.reg [⟨⟨some 2, Op.assign (Operand.const (Value.bool false)), none⟩, []⟩]) .ret) .skip)) (.seq (.reg [⟨⟨some 11, Op.assign (Operand.const (Value.int IntKind.i64 1)), none⟩, []⟩]) (.seq (.reg [⟨⟨some 88, Op.load 28 (Operand.tmp 7), none⟩, []⟩,
  ⟨⟨some 89, Op.move (Operand.tmp 11), none⟩, []⟩,
  ⟨⟨some 90, Op.call { callee := (Callee.value (Operand.func 13)), args := #[(Operand.tmp 88), (Operand.tmp 89)], argTypes := #[28, 3] }, none⟩, []⟩,
  ⟨⟨some 11, Op.assign (Operand.tmp 90), none⟩, []⟩]) (.seq (.seq (.reg [⟨⟨some 91, Op.move (Operand.tmp 11), none⟩, []⟩,
  ⟨⟨some 92, Op.binOp BinOp.lss 3 (Operand.tmp 91) (Operand.const (Value.int IntKind.i64 0)) 3, none⟩, []⟩]) (.cond (Operand.tmp 92) (.seq (.reg [⟨⟨some 2, Op.assign (Operand.const (Value.bool false)), none⟩, []⟩]) .ret) .skip)) (.seq (.seq (.reg [⟨⟨some 93, Op.move (Operand.tmp 11), none⟩, []⟩,
  ⟨⟨some 94, Op.move (Operand.tmp 10), none⟩, []⟩,
  ⟨⟨some 95, Op.binOp BinOp.neq 3 (Operand.tmp 93) (Operand.tmp 94) 3, none⟩, []⟩]) (.cond (Operand.tmp 95) (.seq (.reg [⟨⟨some 2, Op.assign (Operand.const (Value.bool false)), none⟩, []⟩]) .ret) .skip)) (.seq (.reg [⟨⟨some 2, Op.assign (Operand.const (Value.bool true)), none⟩, []⟩]) .ret)))))))))))))))))))))))))
theorem sl3 : slim Try.f3.ntmps ords3 (Try.f3.body.getD .skip) = some cd3 := by kernel_rfl
theorem in3 {args : List Value} {H : AH} {R : Value → AH → Prop} (hl : args.length = 1) (h : ∀ (Q : Exit → Sl → AH → Prop), (∀ e s H, endA Try.prog [ResultVar.tmp 2] R e s H → Q e s H) → wpC Try.prog cd3 Q (enterA args) H) : ACalls Try.prog 3 args H R :=
  ACalls.intro (by kernel_rfl) Try.func3 rfl (by kernel_rfl) sl3 hl (of_decide_eq_true (by kernel_rfl)) (by kernel_rfl) h
end Go.Proofs.Ytjnefjchconebab.Ai
namespace Go.Proofs.Ytjnefjchconebab.Ai
open Go Go.RowKit
set_option linter.unusedVariables false
set_option linter.unusedSimpArgs false
set_option maxRecDepth 20000 in
set_option maxHeartbeats 8000000 in
theorem tstLaw_c  (n0 : Int) (v0 : Value) (xs0 : List (Int × Int)) (H0 : AH) (r0 : RowP 66 H0 v0 xs0) (b0 : (∀ y ∈ xs0, I64 y.1 ∧ I64 y.2) ∧ (xs0.length : Int) ≤ 9223372036854775807) (bn0 : I64 n0) :
    ACalls Try.prog 3 [.agg (List.toArray [.int .i64 n0, v0])] H0 fun r H' => r = .bool true := by
  refine in3 rfl ?_
  intro Q hQ
  simp (maxSteps := 4000000) (disch := omega) only [cd3, r0.boxL, S, S1, S2, S3, S4, S5, ST, eq_self, reduceIte, reduceCtorEq, Nat.reduceEqDiff, Nat.reduceAdd]
  generalize hG0 : H0 ++ [AObj.cells [.int .i64 n0, v0] 24 false] = H1
  have p1 : H0 <+: H1 := by rw [← hG0]; exact List.prefix_append _ _
  have CB0_1 : H1[H0.length]? = some (.cells [.int .i64 n0, v0] 24 false) := by rw [← hG0]; exact at_new ..
  have L1 := p1.length_le
  have Lb := at_lt CB0_1
  try simp (maxSteps := 4000000) (disch := omega) only [ld_agg ag24 cs24 CB0_1, S, S1, S2, S3, S4, S5, ST, eq_self, reduceIte, reduceCtorEq, Nat.reduceEqDiff, Nat.reduceAdd]
  have Ra0_0 := r0.b
  have Ra0_1 := Ra0_0.pre p1
  refine CallH.by (szGraph_c n0 v0 xs0 (1048576) H1 Ra0_1.1 (by omega) b0.2) ?_
  rintro _ H2 ⟨rfl, p2⟩
  have Ra0_2 := Ra0_1.pre p2
  have CB0_2 := pre_at p2 CB0_1
  have L2 := p2.length_le
  simp (maxSteps := 4000000) (disch := omega) only [ld_agg ag24 cs24 CB0_2, S, S1, S2, S3, S4, S5, ST, eq_self, reduceIte, reduceCtorEq, Nat.reduceEqDiff, Nat.reduceAdd]
  by_cases g0 : 1048576 - (xs0.length : Int) < 0
  · rw [if_pos g0]
    try simp (maxSteps := 4000000) (disch := omega) only [ld_agg ag24 cs24 CB0_2, S, S1, S2, S3, S4, S5, ST, eq_self, reduceIte, reduceCtorEq, Nat.reduceEqDiff, Nat.reduceAdd]
    try (refine brD.intro (fun _ => ?_) (fun h => absurd h (by omega)))
    try simp (maxSteps := 4000000) (disch := omega) only [ld_agg ag24 cs24 CB0_2, S, S1, S2, S3, S4, S5, ST, eq_self, reduceIte, reduceCtorEq, Nat.reduceEqDiff, Nat.reduceAdd]
    refine hQ _ _ _ ?_
    simp (maxSteps := 4000000) (disch := omega) only [ld_agg ag24 cs24 CB0_2, S, S1, S2, S3, S4, S5, ST, eq_self, reduceIte, reduceCtorEq, Nat.reduceEqDiff, Nat.reduceAdd]
  rw [if_neg g0]
  try simp (maxSteps := 4000000) (disch := omega) only [g0, ld_agg ag24 cs24 CB0_2, S, S1, S2, S3, S4, S5, ST, eq_self, reduceIte, reduceCtorEq, Nat.reduceEqDiff, Nat.reduceAdd]
  try refine brD.intro (fun h => absurd h (by omega)) (fun _ => ?_)
  try simp (maxSteps := 4000000) (disch := omega) only [g0, ld_agg ag24 cs24 CB0_2, S, S1, S2, S3, S4, S5, ST, eq_self, reduceIte, reduceCtorEq, Nat.reduceEqDiff, Nat.reduceAdd]
  have l0 : xs0.length ≤ 1048576 := by omega
  have L0_big : xs0.length ≤ 1099511627776 := by omega
  refine CallH.by (toGraph_c n0 v0 xs0 H2 Ra0_2.1 L0_big) ?_
  rintro _ H3 ⟨c0, rfl, qc0, p3⟩
  have Ra0_3 := Ra0_2.pre p3
  have CB0_3 := pre_at p3 CB0_2
  have L3 := p3.length_le
  have Mc0_3 := InP.of qc0
  have Rc0_3 := Mc0_3.row
  simp (maxSteps := 4000000) (disch := omega) only [ld_agg ag24 cs24 CB0_3, S, S1, S2, S3, S4, S5, ST, eq_self, reduceIte, reduceCtorEq, Nat.reduceEqDiff, Nat.reduceAdd]
  refine CallH.by (TreS_c  n0 c0 xs0 H3 Rc0_3.1 L0_big b0.1 bn0) ?_
  rintro _ H4 ⟨w0a, w0b, rfl, qw0, p4⟩
  have Ra0_4 := Ra0_3.pre p4
  have Rc0_4 := Rc0_3.pre p4
  have Mc0_4 := Mc0_3.pre p4
  have CB0_4 := pre_at p4 CB0_3
  have L4 := p4.length_le
  have Mw0_4 := qw0
  have Rw0_4 := Mw0_4.row
  have hstw0 := Rw0_4.store (at_new H4 (.cells [.slice none 0 0, .slice none 0 0] 28 false)) rfl
  simp (maxSteps := 4000000) (disch := omega) only [alloc_sp, hstw0, set_new, ld_agg ag24 cs24 CB0_4, S, S1, S2, S3, S4, S5, ST, eq_self, reduceIte, reduceCtorEq, Nat.reduceEqDiff, Nat.reduceAdd]
  generalize hXw0 : H4 ++ [AObj.cells [w0a, w0b] 28 false] = H5
  have p5 : H4 <+: H5 := by rw [← hXw0]; exact List.prefix_append _ _
  have Cw0_5 : H5[H4.length]? = some (.cells [w0a, w0b] 28 false) := by rw [← hXw0]; exact at_new ..
  have Lxw0 := at_lt Cw0_5
  have Ra0_5 := Ra0_4.pre p5
  have Rc0_5 := Rc0_4.pre p5
  have Rw0_5 := Rw0_4.pre p5
  have Mc0_5 := Mc0_4.pre p5
  have Mw0_5 := Mw0_4.pre p5
  have CB0_5 := pre_at p5 CB0_4
  have L5 := p5.length_le
  try simp (maxSteps := 4000000) (disch := omega) only [ld_agg ag24 cs24 CB0_5, ld_agg ag28 cs28 Cw0_5, S, S1, S2, S3, S4, S5, ST, eq_self, reduceIte, reduceCtorEq, Nat.reduceEqDiff, Nat.reduceAdd]
  refine CallH.by (toGraph_c n0 v0 xs0 H5 Ra0_5.1 L0_big) ?_
  rintro _ H6 ⟨d0, rfl, qd0, p6⟩
  have Ra0_6 := Ra0_5.pre p6
  have Rw0_6 := Rw0_5.pre p6
  have Mw0_6 := Mw0_5.pre p6
  have CB0_6 := pre_at p6 CB0_5
  have Cw0_6 := pre_at p6 Cw0_5
  have L6 := p6.length_le
  have Md0_6 := InP.of qd0
  have Rd0_6 := Md0_6.row
  simp (maxSteps := 4000000) (disch := omega) only [ld_agg ag24 cs24 CB0_6, ld_agg ag28 cs28 Cw0_6, S, S1, S2, S3, S4, S5, ST, eq_self, reduceIte, reduceCtorEq, Nat.reduceEqDiff, Nat.reduceAdd]
  have hst0 := st_G Rd0_6.1 (at_new H6 (.cells [.int .i64 0, .slice none 0 0] 31 false)) rfl n0
  simp (maxSteps := 4000000) (disch := omega) only [alloc_G, hst0, set_new, ld_agg ag24 cs24 CB0_6, ld_agg ag28 cs28 Cw0_6, S, S1, S2, S3, S4, S5, ST, eq_self, reduceIte, reduceCtorEq, Nat.reduceEqDiff, Nat.reduceAdd]
  generalize hX0 : H6 ++ [AObj.cells [.int .i64 n0, d0] 31 false] = H7
  have p7 : H6 <+: H7 := by rw [← hX0]; exact List.prefix_append _ _
  have CX0_7 : H7[H6.length]? = some (.cells [.int .i64 n0, d0] 31 false) := by rw [← hX0]; exact at_new ..
  have Lx := at_lt CX0_7
  have Ra0_7 := Ra0_6.pre p7
  have Rw0_7 := Rw0_6.pre p7
  have Rd0_7 := Rd0_6.pre p7
  have Mw0_7 := Mw0_6.pre p7
  have Md0_7 := Md0_6.pre p7
  have CB0_7 := pre_at p7 CB0_6
  have Cw0_7 := pre_at p7 Cw0_6
  have L7 := p7.length_le
  try simp (maxSteps := 4000000) (disch := omega) only [ld_agg ag24 cs24 CB0_7, ld_agg ag28 cs28 Cw0_7, ld_agg ag31 cs31 CX0_7, S, S1, S2, S3, S4, S5, ST, eq_self, reduceIte, reduceCtorEq, Nat.reduceEqDiff, Nat.reduceAdd]
  refine CallH.by (TreI_c  n0 d0 xs0 H7 Rd0_7.1 L0_big b0.1 bn0) ?_
  rintro _ H8 ⟨g0a, g0b, rfl, qg0, p8⟩
  have Ra0_8 := Ra0_7.pre p8
  have Rw0_8 := Rw0_7.pre p8
  have Rd0_8 := Rd0_7.pre p8
  have Mw0_8 := Mw0_7.pre p8
  have Md0_8 := Md0_7.pre p8
  have CB0_8 := pre_at p8 CB0_7
  have Cw0_8 := pre_at p8 Cw0_7
  have CX0_8 := pre_at p8 CX0_7
  have L8 := p8.length_le
  have Mg0_8 := qg0
  have Rg0_8 := Mg0_8.row
  have hstg0 := Rg0_8.store (at_new H8 (.cells [.slice none 0 0, .slice none 0 0] 28 false)) rfl
  simp (maxSteps := 4000000) (disch := omega) only [alloc_sp, hstg0, set_new, ld_agg ag24 cs24 CB0_8, ld_agg ag28 cs28 Cw0_8, ld_agg ag31 cs31 CX0_8, S, S1, S2, S3, S4, S5, ST, eq_self, reduceIte, reduceCtorEq, Nat.reduceEqDiff, Nat.reduceAdd]
  generalize hXg0 : H8 ++ [AObj.cells [g0a, g0b] 28 false] = H9
  have p9 : H8 <+: H9 := by rw [← hXg0]; exact List.prefix_append _ _
  have Cg0_9 : H9[H8.length]? = some (.cells [g0a, g0b] 28 false) := by rw [← hXg0]; exact at_new ..
  have Lxg0 := at_lt Cg0_9
  have Ra0_9 := Ra0_8.pre p9
  have Rw0_9 := Rw0_8.pre p9
  have Rd0_9 := Rd0_8.pre p9
  have Rg0_9 := Rg0_8.pre p9
  have Mw0_9 := Mw0_8.pre p9
  have Md0_9 := Md0_8.pre p9
  have Mg0_9 := Mg0_8.pre p9
  have CB0_9 := pre_at p9 CB0_8
  have Cw0_9 := pre_at p9 Cw0_8
  have CX0_9 := pre_at p9 CX0_8
  have L9 := p9.length_le
  try simp (maxSteps := 4000000) (disch := omega) only [ld_agg ag24 cs24 CB0_9, ld_agg ag28 cs28 Cw0_9, ld_agg ag31 cs31 CX0_9, ld_agg ag28 cs28 Cg0_9, S, S1, S2, S3, S4, S5, ST, eq_self, reduceIte, reduceCtorEq, Nat.reduceEqDiff, Nat.reduceAdd]
  have hR := ts_ok n0 xs0
  refine CallH.by (eqSpace_c g0a g0b w0a w0b _ _ _ _ H9 Rg0_9 Rw0_9 hR.1 (Nat.le_trans hR.2.1 (by decide)) hR.2.2) ?_
  rintro _ H10 ⟨rfl, p10⟩
  have Ra0_10 := Ra0_9.pre p10
  have Rw0_10 := Rw0_9.pre p10
  have Rd0_10 := Rd0_9.pre p10
  have Rg0_10 := Rg0_9.pre p10
  have Mw0_10 := Mw0_9.pre p10
  have Md0_10 := Md0_9.pre p10
  have Mg0_10 := Mg0_9.pre p10
  have CB0_10 := pre_at p10 CB0_9
  have Cw0_10 := pre_at p10 Cw0_9
  have CX0_10 := pre_at p10 CX0_9
  have Cg0_10 := pre_at p10 Cg0_9
  have L10 := p10.length_le
  simp (maxSteps := 4000000) (disch := omega) only [ld_agg ag24 cs24 CB0_10, ld_agg ag28 cs28 Cw0_10, ld_agg ag31 cs31 CX0_10, ld_agg ag28 cs28 Cg0_10, S, S1, S2, S3, S4, S5, ST, eq_self, reduceIte, reduceCtorEq, Nat.reduceEqDiff, Nat.reduceAdd]
  refine CallH.by (toGraph_c n0 v0 xs0 H10 Ra0_10.1 L0_big) ?_
  rintro _ H11 ⟨f0, rfl, qf0, p11⟩
  have Ra0_11 := Ra0_10.pre p11
  have Rw0_11 := Rw0_10.pre p11
  have Rd0_11 := Rd0_10.pre p11
  have Rg0_11 := Rg0_10.pre p11
  have Mw0_11 := Mw0_10.pre p11
  have Md0_11 := Md0_10.pre p11
  have Mg0_11 := Mg0_10.pre p11
  have CB0_11 := pre_at p11 CB0_10
  have Cw0_11 := pre_at p11 Cw0_10
  have CX0_11 := pre_at p11 CX0_10
  have Cg0_11 := pre_at p11 Cg0_10
  have L11 := p11.length_le
  have Mf0_11 := InP.of qf0
  have Rf0_11 := Mf0_11.row
  simp (maxSteps := 4000000) (disch := omega) only [ld_agg ag24 cs24 CB0_11, ld_agg ag28 cs28 Cw0_11, ld_agg ag31 cs31 CX0_11, ld_agg ag28 cs28 Cg0_11, S, S1, S2, S3, S4, S5, ST, eq_self, reduceIte, reduceCtorEq, Nat.reduceEqDiff, Nat.reduceAdd]
  refine CallH.by (eqGraph_c n0 n0 d0 f0 _ _ H11 Rd0_11.1 Rf0_11.1 L0_big) ?_
  rintro _ H12 ⟨rfl, p12⟩
  have Ra0_12 := Ra0_11.pre p12
  have Rw0_12 := Rw0_11.pre p12
  have Rd0_12 := Rd0_11.pre p12
  have Rg0_12 := Rg0_11.pre p12
  have Rf0_12 := Rf0_11.pre p12
  have Mw0_12 := Mw0_11.pre p12
  have Md0_12 := Md0_11.pre p12
  have Mg0_12 := Mg0_11.pre p12
  have Mf0_12 := Mf0_11.pre p12
  have CB0_12 := pre_at p12 CB0_11
  have Cw0_12 := pre_at p12 Cw0_11
  have CX0_12 := pre_at p12 CX0_11
  have Cg0_12 := pre_at p12 Cg0_11
  have L12 := p12.length_le
  simp (maxSteps := 4000000) (disch := omega) only [ld_agg ag24 cs24 CB0_12, ld_agg ag28 cs28 Cw0_12, ld_agg ag31 cs31 CX0_12, ld_agg ag28 cs28 Cg0_12, S, S1, S2, S3, S4, S5, ST, eq_self, reduceIte, reduceCtorEq, Nat.reduceEqDiff, Nat.reduceAdd]
  refine CallH.by (markGraph_B n0 d0 _ _ _ _ H12 Md0_12 L0_big (by omega) (by omega)) ?_
  rintro _ H14 ⟨rfl, H13, n_13, e13, p14⟩
  have L13 := Nat.le_of_eq e13.1.symm
  have Ra0_13 := Ra0_12.keep e13 (by omega)
  have Mw0_13 := Mw0_12.keep e13 (by omega)
  have Rw0_13 := Mw0_13.row
  have Mg0_13 := Mg0_12.keep e13 (by omega)
  have Rg0_13 := Mg0_13.row
  have CB0_13 := e13.2 _ _ (by omega) CB0_12
  have Cw0_13 := e13.2 _ _ (by omega) Cw0_12
  have CX0_13 := e13.2 _ _ (by omega) CX0_12
  have Cg0_13 := e13.2 _ _ (by omega) Cg0_12
  have Ra0_14 := Ra0_13.pre p14
  have Rw0_14 := Rw0_13.pre p14
  have Rg0_14 := Rg0_13.pre p14
  have Mw0_14 := Mw0_13.pre p14
  have Mg0_14 := Mg0_13.pre p14
  have CB0_14 := pre_at p14 CB0_13
  have Cw0_14 := pre_at p14 Cw0_13
  have CX0_14 := pre_at p14 CX0_13
  have Cg0_14 := pre_at p14 Cg0_13
  have L14 := p14.length_le
  simp (maxSteps := 4000000) (disch := omega) only [ld_agg ag24 cs24 CB0_14, ld_agg ag28 cs28 Cw0_14, ld_agg ag31 cs31 CX0_14, ld_agg ag28 cs28 Cg0_14, S, S1, S2, S3, S4, S5, ST, eq_self, reduceIte, reduceCtorEq, Nat.reduceEqDiff, Nat.reduceAdd]
  refine brD.intro (fun g => absurd g (by omega)) (fun gk => ?_)
  simp (maxSteps := 4000000) (disch := omega) only [gk, ld_agg ag24 cs24 CB0_14, ld_agg ag28 cs28 Cw0_14, ld_agg ag31 cs31 CX0_14, ld_agg ag28 cs28 Cg0_14, S, S1, S2, S3, S4, S5, ST, eq_self, reduceIte, reduceCtorEq, Nat.reduceEqDiff, Nat.reduceAdd]
  refine CallH.by (eqSpace_c g0a g0b w0a w0b _ _ _ _ H14 Rg0_14 Rw0_14 hR.1 (Nat.le_trans hR.2.1 (by decide)) hR.2.2) ?_
  rintro _ H15 ⟨rfl, p15⟩
  have Ra0_15 := Ra0_14.pre p15
  have Rw0_15 := Rw0_14.pre p15
  have Rg0_15 := Rg0_14.pre p15
  have Mw0_15 := Mw0_14.pre p15
  have Mg0_15 := Mg0_14.pre p15
  have CB0_15 := pre_at p15 CB0_14
  have Cw0_15 := pre_at p15 Cw0_14
  have CX0_15 := pre_at p15 CX0_14
  have Cg0_15 := pre_at p15 Cg0_14
  have L15 := p15.length_le
  simp (maxSteps := 4000000) (disch := omega) only [ld_agg ag24 cs24 CB0_15, ld_agg ag28 cs28 Cw0_15, ld_agg ag31 cs31 CX0_15, ld_agg ag28 cs28 Cg0_15, S, S1, S2, S3, S4, S5, ST, eq_self, reduceIte, reduceCtorEq, Nat.reduceEqDiff, Nat.reduceAdd]
  try simp (maxSteps := 4000000) (disch := omega) only [gk, ld_agg ag24 cs24 CB0_15, ld_agg ag28 cs28 Cw0_15, ld_agg ag31 cs31 CX0_15, ld_agg ag28 cs28 Cg0_15, S, S1, S2, S3, S4, S5, ST, eq_self, reduceIte, reduceCtorEq, Nat.reduceEqDiff, Nat.reduceAdd]
  refine CallH.by (markSpace_B g0a g0b _ _ 1 _ _ H15 Mg0_15 hR.1 hR.2.1 hR.2.2 (by omega) (by omega)) ?_
  rintro _ H17 ⟨rfl, H16, n_16, e16, p17⟩
  have L16 := Nat.le_of_eq e16.1.symm
  have Ra0_16 := Ra0_15.keep e16 (by omega)
  have Mw0_16 := Mw0_15.keep e16 (by omega)
  have Rw0_16 := Mw0_16.row
  have CB0_16 := e16.2 _ _ (by omega) CB0_15
  have Cw0_16 := e16.2 _ _ (by omega) Cw0_15
  have CX0_16 := e16.2 _ _ (by omega) CX0_15
  have Cg0_16 := e16.2 _ _ (by omega) Cg0_15
  have Mg0_16 := n_16
  have Rg0_16 := n_16.row
  have Ra0_17 := Ra0_16.pre p17
  have Rw0_17 := Rw0_16.pre p17
  have Rg0_17 := Rg0_16.pre p17
  have Mw0_17 := Mw0_16.pre p17
  have Mg0_17 := Mg0_16.pre p17
  have CB0_17 := pre_at p17 CB0_16
  have Cw0_17 := pre_at p17 Cw0_16
  have CX0_17 := pre_at p17 CX0_16
  have Cg0_17 := pre_at p17 Cg0_16
  have L17 := p17.length_le
  simp (maxSteps := 4000000) (disch := omega) only [ld_agg ag24 cs24 CB0_17, ld_agg ag28 cs28 Cw0_17, ld_agg ag31 cs31 CX0_17, ld_agg ag28 cs28 Cg0_17, S, S1, S2, S3, S4, S5, ST, eq_self, reduceIte, reduceCtorEq, Nat.reduceEqDiff, Nat.reduceAdd]
  refine CallH.by (heldSpace_c g0a g0b _ _ 1 H17 Rg0_17 hR.1 hR.2.1 hR.2.2 (by omega)) ?_
  rintro _ H18 ⟨rfl, p18⟩
  have Ra0_18 := Ra0_17.pre p18
  have Rw0_18 := Rw0_17.pre p18
  have Rg0_18 := Rg0_17.pre p18
  have Mw0_18 := Mw0_17.pre p18
  have Mg0_18 := Mg0_17.pre p18
  have CB0_18 := pre_at p18 CB0_17
  have Cw0_18 := pre_at p18 Cw0_17
  have CX0_18 := pre_at p18 CX0_17
  have Cg0_18 := pre_at p18 Cg0_17
  have L18 := p18.length_le
  simp (maxSteps := 4000000) (disch := omega) only [ld_agg ag24 cs24 CB0_18, ld_agg ag28 cs28 Cw0_18, ld_agg ag31 cs31 CX0_18, ld_agg ag28 cs28 Cg0_18, S, S1, S2, S3, S4, S5, ST, eq_self, reduceIte, reduceCtorEq, Nat.reduceEqDiff, Nat.reduceAdd]
  refine brD.intro (fun g => absurd g (by omega)) (fun _ => ?_)
  simp (maxSteps := 4000000) (disch := omega) only [ld_agg ag24 cs24 CB0_18, ld_agg ag28 cs28 Cw0_18, ld_agg ag31 cs31 CX0_18, ld_agg ag28 cs28 Cg0_18, S, S1, S2, S3, S4, S5, ST, eq_self, reduceIte, reduceCtorEq, Nat.reduceEqDiff, Nat.reduceAdd]
  refine CallH.by (toGraph_c n0 v0 xs0 H18 Ra0_18.1 L0_big) ?_
  rintro _ H19 ⟨e0, rfl, qe0, p19⟩
  have Ra0_19 := Ra0_18.pre p19
  have Rw0_19 := Rw0_18.pre p19
  have Rg0_19 := Rg0_18.pre p19
  have Mw0_19 := Mw0_18.pre p19
  have Mg0_19 := Mg0_18.pre p19
  have CB0_19 := pre_at p19 CB0_18
  have Cw0_19 := pre_at p19 Cw0_18
  have CX0_19 := pre_at p19 CX0_18
  have Cg0_19 := pre_at p19 Cg0_18
  have L19 := p19.length_le
  have Me0_19 := InP.of qe0
  have Re0_19 := Me0_19.row
  simp (maxSteps := 4000000) (disch := omega) only [ld_agg ag24 cs24 CB0_19, ld_agg ag28 cs28 Cw0_19, ld_agg ag31 cs31 CX0_19, ld_agg ag28 cs28 Cg0_19, S, S1, S2, S3, S4, S5, ST, eq_self, reduceIte, reduceCtorEq, Nat.reduceEqDiff, Nat.reduceAdd]
  refine CallH.by (TreI_c  n0 e0 xs0 H19 Re0_19.1 L0_big b0.1 bn0) ?_
  rintro _ H20 ⟨h0a, h0b, rfl, qh0, p20⟩
  have Ra0_20 := Ra0_19.pre p20
  have Rw0_20 := Rw0_19.pre p20
  have Rg0_20 := Rg0_19.pre p20
  have Re0_20 := Re0_19.pre p20
  have Mw0_20 := Mw0_19.pre p20
  have Mg0_20 := Mg0_19.pre p20
  have Me0_20 := Me0_19.pre p20
  have CB0_20 := pre_at p20 CB0_19
  have Cw0_20 := pre_at p20 Cw0_19
  have CX0_20 := pre_at p20 CX0_19
  have Cg0_20 := pre_at p20 Cg0_19
  have L20 := p20.length_le
  have Mh0_20 := qh0
  have Rh0_20 := Mh0_20.row
  have hsth0 := Rh0_20.store (at_new H20 (.cells [.slice none 0 0, .slice none 0 0] 28 false)) rfl
  simp (maxSteps := 4000000) (disch := omega) only [alloc_sp, hsth0, set_new, ld_agg ag24 cs24 CB0_20, ld_agg ag28 cs28 Cw0_20, ld_agg ag31 cs31 CX0_20, ld_agg ag28 cs28 Cg0_20, S, S1, S2, S3, S4, S5, ST, eq_self, reduceIte, reduceCtorEq, Nat.reduceEqDiff, Nat.reduceAdd]
  generalize hXh0 : H20 ++ [AObj.cells [h0a, h0b] 28 false] = H21
  have p21 : H20 <+: H21 := by rw [← hXh0]; exact List.prefix_append _ _
  have Ch0_21 : H21[H20.length]? = some (.cells [h0a, h0b] 28 false) := by rw [← hXh0]; exact at_new ..
  have Lxh0 := at_lt Ch0_21
  have Ra0_21 := Ra0_20.pre p21
  have Rw0_21 := Rw0_20.pre p21
  have Rg0_21 := Rg0_20.pre p21
  have Re0_21 := Re0_20.pre p21
  have Rh0_21 := Rh0_20.pre p21
  have Mw0_21 := Mw0_20.pre p21
  have Mg0_21 := Mg0_20.pre p21
  have Me0_21 := Me0_20.pre p21
  have Mh0_21 := Mh0_20.pre p21
  have CB0_21 := pre_at p21 CB0_20
  have Cw0_21 := pre_at p21 Cw0_20
  have CX0_21 := pre_at p21 CX0_20
  have Cg0_21 := pre_at p21 Cg0_20
  have L21 := p21.length_le
  try simp (maxSteps := 4000000) (disch := omega) only [ld_agg ag24 cs24 CB0_21, ld_agg ag28 cs28 Cw0_21, ld_agg ag31 cs31 CX0_21, ld_agg ag28 cs28 Cg0_21, ld_agg ag28 cs28 Ch0_21, S, S1, S2, S3, S4, S5, ST, eq_self, reduceIte, reduceCtorEq, Nat.reduceEqDiff, Nat.reduceAdd]
  refine CallH.by (eqSpace_c h0a h0b w0a w0b _ _ _ _ H21 Rh0_21 Rw0_21 hR.1 (Nat.le_trans hR.2.1 (by decide)) hR.2.2) ?_
  rintro _ H22 ⟨rfl, p22⟩
  have Ra0_22 := Ra0_21.pre p22
  have Rw0_22 := Rw0_21.pre p22
  have Rg0_22 := Rg0_21.pre p22
  have Re0_22 := Re0_21.pre p22
  have Rh0_22 := Rh0_21.pre p22
  have Mw0_22 := Mw0_21.pre p22
  have Mg0_22 := Mg0_21.pre p22
  have Me0_22 := Me0_21.pre p22
  have Mh0_22 := Mh0_21.pre p22
  have CB0_22 := pre_at p22 CB0_21
  have Cw0_22 := pre_at p22 Cw0_21
  have CX0_22 := pre_at p22 CX0_21
  have Cg0_22 := pre_at p22 Cg0_21
  have Ch0_22 := pre_at p22 Ch0_21
  have L22 := p22.length_le
  simp (maxSteps := 4000000) (disch := omega) only [ld_agg ag24 cs24 CB0_22, ld_agg ag28 cs28 Cw0_22, ld_agg ag31 cs31 CX0_22, ld_agg ag28 cs28 Cg0_22, ld_agg ag28 cs28 Ch0_22, S, S1, S2, S3, S4, S5, ST, eq_self, reduceIte, reduceCtorEq, Nat.reduceEqDiff, Nat.reduceAdd]
  refine CallH.by (heldSpace_c g0a g0b _ _ 1 H22 Rg0_22 hR.1 hR.2.1 hR.2.2 (by omega)) ?_
  rintro _ H23 ⟨rfl, p23⟩
  have Ra0_23 := Ra0_22.pre p23
  have Rw0_23 := Rw0_22.pre p23
  have Rg0_23 := Rg0_22.pre p23
  have Re0_23 := Re0_22.pre p23
  have Rh0_23 := Rh0_22.pre p23
  have Mw0_23 := Mw0_22.pre p23
  have Mg0_23 := Mg0_22.pre p23
  have Me0_23 := Me0_22.pre p23
  have Mh0_23 := Mh0_22.pre p23
  have CB0_23 := pre_at p23 CB0_22
  have Cw0_23 := pre_at p23 Cw0_22
  have CX0_23 := pre_at p23 CX0_22
  have Cg0_23 := pre_at p23 Cg0_22
  have Ch0_23 := pre_at p23 Ch0_22
  have L23 := p23.length_le
  simp (maxSteps := 4000000) (disch := omega) only [ld_agg ag24 cs24 CB0_23, ld_agg ag28 cs28 Cw0_23, ld_agg ag31 cs31 CX0_23, ld_agg ag28 cs28 Cg0_23, ld_agg ag28 cs28 Ch0_23, S, S1, S2, S3, S4, S5, ST, eq_self, reduceIte, reduceCtorEq, Nat.reduceEqDiff, Nat.reduceAdd]
  refine brD.intro (fun g => absurd g (by omega)) (fun _ => ?_)
  simp (maxSteps := 4000000) (disch := omega) only [ld_agg ag24 cs24 CB0_23, ld_agg ag28 cs28 Cw0_23, ld_agg ag31 cs31 CX0_23, ld_agg ag28 cs28 Cg0_23, ld_agg ag28 cs28 Ch0_23, S, S1, S2, S3, S4, S5, ST, eq_self, reduceIte, reduceCtorEq, Nat.reduceEqDiff, Nat.reduceAdd]
  refine hQ _ _ _ ?_
  simp (maxSteps := 4000000) (disch := omega) only [ld_agg ag24 cs24 CB0_23, ld_agg ag28 cs28 Cw0_23, ld_agg ag31 cs31 CX0_23, ld_agg ag28 cs28 Cg0_23, ld_agg ag28 cs28 Ch0_23, S, S1, S2, S3, S4, S5, ST, eq_self, reduceIte, reduceCtorEq, Nat.reduceEqDiff, Nat.reduceAdd]
end Go.Proofs.Ytjnefjchconebab.Ai
