/- Texts of this claim, joined: Trw, Put, Swp, Reach, Wout, Two, L3s, OrN, Tri, TrI, TrS, Grw, Trl, Tss, LitS, LitI, LitJ, Tst, LigP, IdxL. -/
import Derived.Test.YtlcipphiflcaiaaProg
import Derived.KernelRfl
import Derived.Test.YtlcipphiflcaiaaMgLawLgs5
namespace Go.Proofs.Ytlcipphiflcaiaa.Ai
open Go
def ords51 : List (Nat × List (Nat × Bool)) := []
def cd51 : Cd := (.seq (.reg [⟨⟨some 2, Op.assign (Operand.const (Value.slice none 0 0)), none⟩, []⟩]) (.seq (.seq (.reg [⟨⟨some 3, Op.move (Operand.tmp 0), none⟩, []⟩,
  ⟨⟨some 4, Op.binOp BinOp.eql 70 (Operand.tmp 3) (Operand.const (Value.slice none 0 0)) 70, none⟩, []⟩]) (.cond (Operand.tmp 4) (.seq (.reg [⟨⟨some 2, Op.assign (Operand.const (Value.slice none 0 0)), none⟩, []⟩]) .ret) .skip)) (.seq (.reg [⟨⟨some 5, Op.buildSlice 70 0 #[], none⟩, []⟩,
  ⟨⟨some 6, Op.move (Operand.tmp 0), none⟩, []⟩,
  ⟨⟨some 7, Op.call { callee := (Callee.builtin Builtin.append), args := #[(Operand.tmp 5), (Operand.tmp 6)], argTypes := #[70, 70] }, none⟩, []⟩,
  ⟨⟨some 2, Op.assign (Operand.tmp 7), none⟩, []⟩]) .ret)))
theorem sl51 : slim Try.f51.ntmps ords51 (Try.f51.body.getD .skip) = some cd51 := by kernel_rfl
theorem in51 {args : List Value} {H : AH} {R : Value → AH → Prop} (hl : args.length = 1) (h : ∀ (Q : Exit → Sl → AH → Prop), (∀ e s H, endA Try.prog [ResultVar.tmp 2] R e s H → Q e s H) → wpC Try.prog cd51 Q (enterA args) H) : ACalls Try.prog 51 args H R :=
  ACalls.intro (by kernel_rfl) Try.func51 rfl (by kernel_rfl) sl51 hl (of_decide_eq_true (by kernel_rfl)) (by kernel_rfl) h
def ords49 : List (Nat × List (Nat × Bool)) := [(2, [(0, false), (1, false), (2, true), (3, false), (4, true), (5, true)])]
def cd49 : Cd := (.seq (.reg [⟨⟨some 8, Op.assign (Operand.const (Value.bool false)), none⟩, []⟩]) (.seq (.seq (.reg [⟨⟨some 10, Op.load 25 (Operand.tmp 2), none⟩, []⟩,
  ⟨⟨some 11, Op.call { callee := (Callee.builtin Builtin.len), args := #[(Operand.tmp 10)], argTypes := #[25] }, none⟩, []⟩,
  ⟨⟨some 12, Op.fieldAddr 32 (Operand.tmp 3) 0, none⟩, []⟩,
  ⟨⟨some 13, Op.load 3 (Operand.tmp 12), none⟩, []⟩,
  ⟨⟨some 14, Op.binOp BinOp.sub 3 (Operand.tmp 13) (Operand.const (Value.int IntKind.i64 1)) 3, none⟩, []⟩,
  ⟨⟨some 15, Op.binOp BinOp.eql 3 (Operand.tmp 11) (Operand.tmp 14) 3, none⟩, []⟩]) (.cond (Operand.tmp 15) (.seq (.reg [⟨⟨some 16, Op.load 27 (Operand.tmp 4), none⟩, []⟩,
  ⟨⟨some 17, Op.load 25 (Operand.tmp 2), none⟩, []⟩,
  ⟨⟨some 18, Op.call { callee := (Callee.value (Operand.func 50)), args := #[(Operand.tmp 17)], argTypes := #[25] }, none⟩, [⟨some 16, Op.load 27 (Operand.tmp 4), none⟩]⟩,
  ⟨⟨some 19, Op.buildSlice 27 1 #[(0, (Operand.tmp 18))], none⟩, []⟩,
  ⟨⟨some 20, Op.call { callee := (Callee.builtin Builtin.append), args := #[(Operand.tmp 16), (Operand.tmp 19)], argTypes := #[27, 27] }, none⟩, []⟩,
  ⟨⟨none, Op.store 27 (Operand.tmp 4) (Operand.tmp 20), none⟩, []⟩]) (.seq (.reg [⟨⟨some 21, Op.load 27 (Operand.tmp 4), none⟩, []⟩,
  ⟨⟨some 22, Op.call { callee := (Callee.builtin Builtin.len), args := #[(Operand.tmp 21)], argTypes := #[27] }, none⟩, []⟩,
  ⟨⟨some 23, Op.binOp BinOp.leq 3 (Operand.tmp 22) (Operand.const (Value.int IntKind.i64 300)) 3, none⟩, []⟩,
  ⟨⟨some 8, Op.assign (Operand.tmp 23), none⟩, []⟩]) .ret)) .skip)) (.seq (.seq (.reg [⟨⟨some 24, Op.fieldAddr 32 (Operand.tmp 3) 1, none⟩, []⟩,
  ⟨⟨some 25, Op.load 22 (Operand.tmp 24), none⟩, []⟩,
  ⟨⟨some 26, Op.call { callee := (Callee.builtin Builtin.len), args := #[(Operand.tmp 25)], argTypes := #[22] }, none⟩, []⟩,
  ⟨⟨some 27, Op.move (Operand.tmp 0), none⟩, []⟩,
  ⟨⟨some 28, Op.binOp BinOp.sub 3 (Operand.tmp 26) (Operand.tmp 27) 3, none⟩, []⟩,
  ⟨⟨some 29, Op.fieldAddr 32 (Operand.tmp 3) 0, none⟩, []⟩,
  ⟨⟨some 30, Op.load 3 (Operand.tmp 29), none⟩, []⟩,
  ⟨⟨some 31, Op.binOp BinOp.sub 3 (Operand.tmp 30) (Operand.const (Value.int IntKind.i64 1)) 3, none⟩, []⟩,
  ⟨⟨some 32, Op.load 25 (Operand.tmp 2), none⟩, []⟩,
  ⟨⟨some 33, Op.call { callee := (Callee.builtin Builtin.len), args := #[(Operand.tmp 32)], argTypes := #[25] }, none⟩, []⟩,
  ⟨⟨some 34, Op.binOp BinOp.sub 3 (Operand.tmp 31) (Operand.tmp 33) 3, none⟩, []⟩,
  ⟨⟨some 35, Op.binOp BinOp.lss 3 (Operand.tmp 28) (Operand.tmp 34) 3, none⟩, []⟩]) (.cond (Operand.tmp 35) (.seq (.reg [⟨⟨some 8, Op.assign (Operand.const (Value.bool true)), none⟩, []⟩]) .ret) .skip)) (.seq (.seq (.reg [⟨⟨some 36, Op.move (Operand.tmp 1), none⟩, []⟩,
  ⟨⟨some 37, Op.call { callee := (Callee.value (Operand.func 51)), args := #[(Operand.tmp 36)], argTypes := #[70] }, none⟩, []⟩,
  ⟨⟨some 9, Op.assign (Operand.tmp 37), none⟩, []⟩]) (.seq (.reg [⟨⟨some 38, Op.move (Operand.tmp 9), none⟩, []⟩,
  ⟨⟨some 39, Op.fieldAddr 32 (Operand.tmp 3) 1, none⟩, []⟩,
  ⟨⟨some 40, Op.load 22 (Operand.tmp 39), none⟩, []⟩,
  ⟨⟨some 41, Op.move (Operand.tmp 0), none⟩, []⟩,
  ⟨⟨some 42, Op.indexAddr 22 (Operand.tmp 40) (Operand.tmp 41), none⟩, []⟩,
  ⟨⟨some 43, Op.load 65 (Operand.tmp 42), none⟩, []⟩,
  ⟨⟨some 44, Op.call { callee := (Callee.value (Operand.func 52)), args := #[(Operand.tmp 38), (Operand.tmp 43)], argTypes := #[70, 65] }, none⟩, []⟩]) (.cond (Operand.tmp 44) (.seq (.reg [⟨⟨some 45, Op.load 25 (Operand.tmp 2), none⟩, []⟩,
  ⟨⟨some 46, Op.move (Operand.tmp 0), none⟩, []⟩,
  ⟨⟨some 47, Op.buildSlice 25 1 #[(0, (Operand.tmp 46))], none⟩, []⟩,
  ⟨⟨some 48, Op.call { callee := (Callee.builtin Builtin.append), args := #[(Operand.tmp 45), (Operand.tmp 47)], argTypes := #[25, 25] }, none⟩, []⟩,
  ⟨⟨none, Op.store 25 (Operand.tmp 2) (Operand.tmp 48), none⟩, []⟩]) (.seq (.seq (.reg [⟨⟨some 49, Op.load 69 (Operand.tmp 5), none⟩, []⟩,
  ⟨⟨some 50, Op.move (Operand.tmp 0), none⟩, []⟩,
  ⟨⟨some 51, Op.binOp BinOp.add 3 (Operand.tmp 50) (Operand.const (Value.int IntKind.i64 1)) 3, none⟩, []⟩,
  ⟨⟨some 52, Op.move (Operand.tmp 9), none⟩, []⟩,
  ⟨⟨some 53, Op.call { callee := (Callee.value (Operand.tmp 49)), args := #[(Operand.tmp 51), (Operand.tmp 52)], argTypes := #[3, 70] }, none⟩, []⟩,
  ⟨⟨some 54, Op.unOp UnOp.not 4 (Operand.tmp 53), none⟩, []⟩]) (.cond (Operand.tmp 54) (.seq (.reg [⟨⟨some 8, Op.assign (Operand.const (Value.bool false)), none⟩, []⟩]) .ret) .skip)) (.reg [⟨⟨some 55, Op.load 25 (Operand.tmp 2), none⟩, []⟩,
  ⟨⟨some 56, Op.load 25 (Operand.tmp 2), none⟩, []⟩,
  ⟨⟨some 57, Op.call { callee := (Callee.builtin Builtin.len), args := #[(Operand.tmp 56)], argTypes := #[25] }, none⟩, []⟩,
  ⟨⟨some 58, Op.binOp BinOp.sub 3 (Operand.tmp 57) (Operand.const (Value.int IntKind.i64 1)) 3, none⟩, []⟩,
  ⟨⟨some 59, Op.slice 25 (Operand.tmp 55) none (some (Operand.tmp 58)) none, none⟩, []⟩,
  ⟨⟨none, Op.store 25 (Operand.tmp 2) (Operand.tmp 59), none⟩, []⟩]))) .skip))) (.seq (.reg [⟨⟨some 60, Op.load 69 (Operand.tmp 5), none⟩, []⟩,
  ⟨⟨some 61, Op.move (Operand.tmp 0), none⟩, []⟩,
  ⟨⟨some 62, Op.binOp BinOp.add 3 (Operand.tmp 61) (Operand.const (Value.int IntKind.i64 1)) 3, none⟩, []⟩,
  ⟨⟨some 63, Op.move (Operand.tmp 1), none⟩, []⟩,
  ⟨⟨some 64, Op.call { callee := (Callee.value (Operand.tmp 60)), args := #[(Operand.tmp 62), (Operand.tmp 63)], argTypes := #[3, 70] }, none⟩, []⟩,
  ⟨⟨some 8, Op.assign (Operand.tmp 64), none⟩, []⟩]) .ret)))))
theorem sl49 : slim Try.f49.ntmps ords49 (Try.f49.body.getD .skip) = some cd49 := by kernel_rfl
theorem in49 {args : List Value} {H : AH} {R : Value → AH → Prop} (hl : args.length = 6) (h : ∀ (Q : Exit → Sl → AH → Prop), (∀ e s H, endA Try.prog [ResultVar.tmp 8] R e s H → Q e s H) → wpC Try.prog cd49 Q (enterA args) H) : ACalls Try.prog 49 args H R :=
  ACalls.intro (by kernel_rfl) Try.func49 rfl (by kernel_rfl) sl49 hl (of_decide_eq_true (by kernel_rfl)) (by kernel_rfl) h
def ords24 : List (Nat × List (Nat × Bool)) := [(4, [(0, false), (1, false), (2, false), (3, true), (4, true), (5, false)]), (5, [(0, false), (1, false), (2, false), (3, false), (4, false), (5, false), (6, false), (7, false), (8, false)])]
def cd24 : Cd := (.seq (.reg [⟨⟨some 1, Op.box 32 (Operand.tmp 0), none⟩, []⟩,
  ⟨⟨some 2, Op.assign (Operand.const (Value.slice none 0 0)), none⟩, []⟩,
  ⟨⟨some 3, Op.assign (Operand.const (Value.bool false)), none⟩, []⟩]) (.seq (.reg [⟨⟨some 8, Op.buildSlice 27 0 #[], none⟩, []⟩,
  ⟨⟨some 9, Op.buildSlice 25 0 #[], none⟩, []⟩,
  ⟨⟨some 4, Op.alloc 27, none⟩, []⟩,
  ⟨⟨some 5, Op.alloc 25, none⟩, []⟩,
  ⟨⟨none, Op.store 27 (Operand.tmp 4) (Operand.tmp 8), none⟩, []⟩,
  ⟨⟨none, Op.store 25 (Operand.tmp 5) (Operand.tmp 9), none⟩, []⟩]) (.seq (.reg [⟨⟨some 6, Op.alloc 69, none⟩, []⟩]) (.seq (.reg [⟨⟨some 10, Op.makeFunc (Fn.func 49) #[] #[(Operand.tmp 5), (Operand.tmp 1), (Operand.tmp 4), (Operand.tmp 6)], none⟩, []⟩,
  ⟨⟨none, Op.store 69 (Operand.tmp 6) (Operand.tmp 10), none⟩, []⟩]) (.seq (.reg [⟨⟨some 11, Op.load 69 (Operand.tmp 6), none⟩, []⟩,
  ⟨⟨some 12, Op.fieldAddr 32 (Operand.tmp 1) 0, none⟩, []⟩,
  ⟨⟨some 13, Op.load 3 (Operand.tmp 12), none⟩, []⟩,
  ⟨⟨some 14, Op.call { callee := (Callee.value (Operand.func 53)), args := #[(Operand.tmp 13)], argTypes := #[3] }, none⟩, [⟨some 11, Op.load 69 (Operand.tmp 6), none⟩]⟩,
  ⟨⟨some 15, Op.call { callee := (Callee.value (Operand.tmp 11)), args := #[(Operand.const (Value.int IntKind.i64 0)), (Operand.tmp 14)], argTypes := #[3, 70] }, none⟩, []⟩,
  ⟨⟨some 7, Op.assign (Operand.tmp 15), none⟩, []⟩]) (.seq (.reg [⟨⟨some 16, Op.load 27 (Operand.tmp 4), none⟩, []⟩,
  ⟨⟨some 17, Op.move (Operand.tmp 7), none⟩, []⟩,
  ⟨⟨some 18, Op.move (Operand.tmp 17), none⟩, []⟩,
  ⟨⟨some 19, Op.load 27 (Operand.tmp 4), some (18, true)⟩, []⟩,
  ⟨⟨some 20, Op.call { callee := (Callee.builtin Builtin.len), args := #[(Operand.tmp 19)], argTypes := #[27] }, some (18, true)⟩, []⟩,
  ⟨⟨some 21, Op.binOp BinOp.gtr 3 (Operand.tmp 20) (Operand.const (Value.int IntKind.i64 0)) 3, some (18, true)⟩, []⟩,
  ⟨⟨some 22, Op.pick (Operand.tmp 18) (Operand.tmp 21) (Operand.const (Value.bool false)), none⟩, []⟩,
  ⟨⟨some 2, Op.assign (Operand.tmp 16), none⟩, []⟩,
  ⟨⟨some 3, Op.assign (Operand.tmp 22), none⟩, []⟩]) .ret))))))
theorem sl24 : slim Try.f24.ntmps ords24 (Try.f24.body.getD .skip) = some cd24 := by kernel_rfl
theorem in24 {args : List Value} {H : AH} {R : Value → AH → Prop} (hl : args.length = 1) (h : ∀ (Q : Exit → Sl → AH → Prop), (∀ e s H, endA Try.prog [ResultVar.tmp 2, ResultVar.tmp 3] R e s H → Q e s H) → wpC Try.prog cd24 Q (enterA args) H) : ACalls Try.prog 24 args H R :=
  ACalls.intro (by kernel_rfl) Try.func24 rfl (by kernel_rfl) sl24 hl (of_decide_eq_true (by kernel_rfl)) (by kernel_rfl) h
end Go.Proofs.Ytlcipphiflcaiaa.Ai
namespace Go.Proofs.Ytlcipphiflcaiaa.Ai
open Go Go.RowKit
set_option linter.unusedVariables false
set_option linter.unusedSimpArgs false
set_option maxRecDepth 20000 in
theorem CloneJ_c (v : Value) (xs : List Int) (H : AH) (hr : Row 3 H v xs) (hlen : xs.length ≤ 1099511627776) : ACalls Try.prog 51 [v] H fun r H' => Own 3 H H' r xs ∧ H <+: H' := by
  refine in51 rfl ?_
  intro Q hQ
  obtain ⟨p, e⟩ := hr.shape
  subst e
  simp (maxSteps := 1000000) (disch := omega) only [cd51, S, S1, S2, S3, S4, S5, ST, eq_self, reduceIte, reduceCtorEq, Nat.reduceEqDiff, Nat.reduceAdd]
  refine brH.intro (fun g => ?_) (fun g => ?_) <;> simp (maxSteps := 1000000) (disch := omega) only [S, S1, S2, S3, S4, S5, ST, eq_self, reduceIte, reduceCtorEq, Nat.reduceEqDiff, Nat.reduceAdd]
  · refine hQ _ _ _ ?_
    simp (maxSteps := 1000000) (disch := omega) only [S, S1, S2, S3, S4, S5, ST, eq_self, reduceIte, reduceCtorEq, Nat.reduceEqDiff, Nat.reduceAdd]
    have : xs = [] := by
      rcases hr with h | ⟨o, k, vs, ro, h1, _⟩
      · exact h.2
      · cases p with
        | none => cases h1
        | some p => cases g
    exact ⟨.inl ⟨rfl, this⟩, List.prefix_refl _⟩
  · have hp := List.prefix_append H [AObj.cells [] 3 false]
    have ho : Own 3 H (H ++ [AObj.cells [] 3 false]) (.slice (some ⟨H.length, 0, none⟩) 0 0) [] := .inr ⟨H.length, rfl, Nat.le_refl _, at_new ..⟩
    obtain ⟨v', H2, k1, k2, k3, _⟩ := ho.app (P := Try.prog) (t := 70) Try.underlying70 cs3 (by rw [by3]; decide) zk3 (hr.pre hp) hp (by simp; omega)
    simp (maxSteps := 1000000) (disch := omega) only [k1, S, S1, S2, S3, S4, S5, ST, eq_self, reduceIte, reduceCtorEq, Nat.reduceEqDiff, Nat.reduceAdd]
    refine hQ _ _ _ ?_
    simp (maxSteps := 1000000) (disch := omega) only [k2.row.tup, S, S1, S2, S3, S4, S5, ST, eq_self, reduceIte, reduceCtorEq, Nat.reduceEqDiff, Nat.reduceAdd]
    exact ⟨k2, k3⟩
theorem agT : isAggA Try.prog 69 = some false := by kernel_rfl
theorem csT : Try.prog.cellsOf 69 = 1 := by kernel_rfl
abbrev treClo (pe pg po pf : Nat) : Value := .func (.func 49) #[] (List.toArray [.pointer (some ⟨pe, 0, none⟩), .pointer (some ⟨pg, 0, none⟩), .pointer (some ⟨po, 0, none⟩), .pointer (some ⟨pf, 0, none⟩)])
/-- what the walk reads -/
structure TreR (H : AH) (n : Nat) (v : Value) (es : List (Int × Int)) (pe pg po pf : Nat) : Prop where
  g : H[pg]? = some (.cells [.int .i64 (n : Int), v] 32 false)
  c : H[pf]? = some (.cells [treClo pe pg po pf] 69 false)
  es : RowP 65 H v es
theorem LSt.less {HB : AH} {fx : List (Nat × AObj)} {x : Nat × AObj} {pe : Nat} {F : Nat → Prop} {H : AH} {ed : List Int} (h : LSt HB (x :: fx) pe F H ed) : LSt HB fx pe F H ed := by
  obtain ⟨oe, zs, e1, e2, e3, e4, e5, e6, e7⟩ := h.e
  exact ⟨fun q hq => h.fix q (by simp [hq]), ⟨oe, zs, e1, e2, e3, e4, e5, fun q hq => e6 q (by simp [hq]), e7⟩, h.out, h.lo, h.pre⟩
theorem LSt.more {HB : AH} {fx : List (Nat × AObj)} {pe : Nat} {F : Nat → Prop} {H : AH} {ed : List Int} (h : LSt HB fx pe F H ed) {o : Nat} {y : AObj} (ho : H[o]? = some y) (hF : ¬ F o) (hpe : o ≠ pe) (hw : ∀ w, cellA H pe 0 = some w → o ≠ rowO w) : LSt HB ((o, y) :: fx) pe F H ed := by
  obtain ⟨oe, zs, e1, e2, e3, e4, e5, e6, e7⟩ := h.e
  have hoe : o ≠ oe := hw _ (cell_of e1 0)
  refine ⟨fun q hq => ?_, ⟨oe, zs, e1, e2, e3, e4, e5, fun q hq => ?_, e7⟩, h.out, h.lo, h.pre⟩
  · rcases List.mem_cons.1 hq with rfl | hq
    · exact ⟨ho, hF, hpe⟩
    · exact h.fix q hq
  · rcases List.mem_cons.1 hq with rfl | hq
    · exact hoe
    · exact e6 q hq
/-- what was stored at the beginning of an object is there -/
theorem stored0 {t : TypeId} {o : Nat} {p : Option Addr} {n c : Nat} {H H' : AH} (h : storeA Try.prog t (.pointer (some ⟨o, 0, none⟩)) (.slice p n c) H = some H') : cellA H' o 0 = some (.slice p n c) := by
  simp only [storeA] at h
  split at h
  · rename_i vs e hv
    split at h
    · rename_i hc
      have h' := Option.some.inj h
      subst h'
      simp only [cellA]
      rw [List.getElem?_set_self (at_lt hv)]
      show (putAt vs 0 [Value.slice p n c])[0]? = _
      unfold putAt
      rfl
    · cases h
  · cases h
set_option maxRecDepth 20000 in
set_option maxHeartbeats 8000000 in
theorem treRec_c {HB : AH} {n : Nat} {es : List (Int × Int)} (hn : 1 ≤ n) (hg : Grd (n : Int) es) (pe pg po pf : Nat) (v : Value) :
    ∀ (k : Nat) (T : List Int) (fx : List (Nat × AObj)) (oj : Nat) (J : List Int) (out : List (List Int)) (F : Nat → Prop) (H : AH),
      k ≤ es.length → Beg n es k T → JR es T n J → (oj, AObj.cells (ints J) 3 false) ∈ fx → (∀ {F : Nat → Prop} {H : AH} {ed : List Int}, LSt HB fx pe F H ed → TreR H n v es pe pg po pf) → out.length ≤ 300 → IOut HB po out F H → LSt HB fx pe F H T →
      ACalls Try.prog 49 [.int .i64 ((es.length - k : Nat) : Int), .slice (some ⟨oj, 0, none⟩) n n, .pointer (some ⟨pe, 0, none⟩), .pointer (some ⟨pg, 0, none⟩), .pointer (some ⟨po, 0, none⟩), .pointer (some ⟨pf, 0, none⟩)] H fun r H' =>
        r = .bool (decide ((out ++ grA es n k T).length ≤ 300)) ∧ ∃ (F' : Nat → Prop) (ed' : List Int), IOut HB po ((out ++ grA es n k T).take 301) F' H' ∧ LSt HB fx pe F' H' ed' ∧ ((out ++ grA es n k T).length ≤ 300 → ed' = T) := by
  have h28 : es.length ≤ 28 := grd_len hg
  have hn8 : n ≤ 8 := by have := hg.1; omega
  intro k
  induction k using Nat.strongRecOn with
  | ind k ih =>
    intro T fx oj J out F H hk hB hJ hfx hR hol hO hL
    have hTn := hB.len
    obtain ⟨E, hE⟩ : ∃ E, E = es.length - k := ⟨_, rfl⟩
    rw [← hE]
    refine in49 rfl ?_
    intro Q hQ
    rw [cd49]
    let SL : Sl → Prop := fun s => s 0 = .int .i64 (E : Int) ∧ s 1 = .slice (some ⟨oj, 0, none⟩) n n ∧ s 2 = .pointer (some ⟨pe, 0, none⟩) ∧ s 3 = .pointer (some ⟨pg, 0, none⟩) ∧ s 4 = .pointer (some ⟨po, 0, none⟩) ∧ s 5 = .pointer (some ⟨pf, 0, none⟩)
    have q := hR hL
    obtain ⟨w, hw1, hw2, hw3, hw4⟩ := hL.row
    have qg := cell_of q.g
    have ql := q.es.len (P := Try.prog) Try.underlying22
    refine cutC (fun s H' => SL s ∧ H = H') (fun c hc => ?_) ?_
    · simp (maxSteps := 1000000) (disch := omega) only [S, S1, S2, S3, S4, S5, ST, eq_self, reduceIte, reduceCtorEq, Nat.reduceEqDiff, Nat.reduceAdd]
      exact hc _ _ ⟨⟨rfl, rfl, rfl, rfl, rfl, rfl⟩, rfl⟩
    rintro s _ ⟨⟨s0, s1, s2, s3, s4, s5⟩, rfl⟩
    refine cutC (fun s H' => SL s ∧ H = H' ∧ T.length + 1 ≠ n) (fun c hc => ?_) ?_
    · simp (maxSteps := 1000000) (disch := omega) only [s2, s3, hw1, hw2.len Try.underlying25, qg, wrap64, S, S1, S2, S3, S4, S5, ST, eq_self, reduceIte, reduceCtorEq, Nat.reduceEqDiff, Nat.reduceAdd]
      refine brD.intro (fun e => ?_) (fun e => ?_)
      rotate_left
      · simp (maxSteps := 1000000) (disch := omega) only [S, S1, S2, S3, S4, S5, ST, eq_self, reduceIte, reduceCtorEq, Nat.reduceEqDiff, Nat.reduceAdd]
        exact hc _ _ ⟨⟨s0, s1, s2, s3, s4, s5⟩, rfl, by omega⟩
      have hfull : grA es n k T = [T] := grA_full (by omega) k
      rw [hfull] at hQ
      have hO1 := hO
      obtain ⟨o, us1, hpo, _⟩ := hO1
      simp (maxSteps := 1000000) (disch := omega) only [s2, s4, cell_of hpo, hw1, S, S1, S2, S3, S4, S5, ST, eq_self, reduceIte, reduceCtorEq, Nat.reduceEqDiff, Nat.reduceAdd]
      refine CallH.by (Clone_c w T H hw2 (by omega)) ?_
      rintro c2 C ⟨hc2, pC⟩
      obtain ⟨w2, H3, H4, p0, p1, p2, p3, p4, F', hO4, hF4, hk4⟩ := hO.push hL.pre pC hc2 (by omega)
      have hww := p0.symm.trans (cell_of hpo 0)
      simp only [List.getElem?_cons_zero, Option.some.injEq, Value.slice.injEq] at hww
      obtain ⟨hww, _, _⟩ := hww
      subst hww
      have hO5 := hO4
      obtain ⟨o4, us4, hpo4, _⟩ := hO5
      simp (maxSteps := 1000000) (disch := omega) only [s4, p1, p2, p3, p4, cell_of hpo4, S, S1, S2, S3, S4, S5, ST, eq_self, reduceIte, reduceCtorEq, Nat.reduceEqDiff, Nat.reduceAdd]
      refine hQ _ _ _ ?_
      simp (maxSteps := 1000000) (disch := omega) only [S, S1, S2, S3, S4, S5, ST, eq_self, reduceIte, reduceCtorEq, Nat.reduceEqDiff, Nat.reduceAdd]
      have e301 : (out ++ [T]).take 301 = out ++ [T] := List.take_of_length_le (by simp; omega)
      refine ⟨?_, F', T, by rw [e301]; exact hO4, hL.cb (fun o ho => (hO.live ho).2) hF4 hk4, fun _ => rfl⟩
      congr 1
      exact decide_eq_decide.2 ⟨fun h => by omega, fun h => by omega⟩
    rintro s _ ⟨⟨s0, s1, s2, s3, s4, s5⟩, rfl, hne⟩
    refine cutC (fun s H' => SL s ∧ H = H' ∧ n ≤ T.length + 1 + k) (fun c hc => ?_) ?_
    · simp (maxSteps := 1000000) (disch := omega) only [s0, s2, s3, hw1, hw2.len Try.underlying25, qg, ql, wrap64, S, S1, S2, S3, S4, S5, ST, eq_self, reduceIte, reduceCtorEq, Nat.reduceEqDiff, Nat.reduceAdd]
      refine brD.intro (fun e => ?_) (fun e => ?_)
      rotate_left
      · simp (maxSteps := 1000000) (disch := omega) only [S, S1, S2, S3, S4, S5, ST, eq_self, reduceIte, reduceCtorEq, Nat.reduceEqDiff, Nat.reduceAdd]
        exact hc _ _ ⟨⟨s0, s1, s2, s3, s4, s5⟩, rfl, by omega⟩
      have hfew : grA es n k T = [] := grA_few k T (by omega)
      rw [hfew, List.append_nil] at hQ
      simp (maxSteps := 1000000) (disch := omega) only [S, S1, S2, S3, S4, S5, ST, eq_self, reduceIte, reduceCtorEq, Nat.reduceEqDiff, Nat.reduceAdd]
      refine hQ _ _ _ ?_
      simp (maxSteps := 1000000) (disch := omega) only [S, S1, S2, S3, S4, S5, ST, eq_self, reduceIte, reduceCtorEq, Nat.reduceEqDiff, Nat.reduceAdd]
      have e301 : out.take 301 = out := List.take_of_length_le (by omega)
      exact ⟨by rw [decide_eq_true hol], F, T, by rw [e301]; exact hO, hL, fun _ => rfl⟩
    rintro s _ ⟨⟨s0, s1, s2, s3, s4, s5⟩, rfl, hge⟩
    obtain ⟨k', rfl⟩ : ∃ k', k = k' + 1 := ⟨k - 1, by omega⟩
    have heN : ((es.length - (k' + 1) : Nat) : Int) + 1 = ((es.length - k' : Nat) : Int) := by omega
    have heb : (0 : Int) ≤ ((es.length - (k' + 1) : Nat) : Int) ∧ ((es.length - (k' + 1) : Nat) : Int) < es.length := by omega
    have hen := en_eq hg heb
    have hgr : grA es n (k' + 1) T = (if jnB es n T (enA es ((es.length - (k' + 1) : Nat) : Int)) (enB es ((es.length - (k' + 1) : Nat) : Int)) = true then [] else grA es n k' (T ++ [((es.length - (k' + 1) : Nat) : Int)])) ++ grA es n k' T := by
      rw [grA, if_neg hne]
    have hsnoc := hB.snoc hg hk hne
    have hjB := jnB_iff hg hB.ed (i := enA es ((es.length - (k' + 1) : Nat) : Int)) (j := enB es ((es.length - (k' + 1) : Nat) : Int)) (by omega) (by omega)
    rw [Int.toNat_natCast] at hen
    rw [← hE] at heN heb hen hgr hsnoc hjB
    refine cutC (fun s H' => SL s ∧ ∃ (out' : List (List Int)) (F' : Nat → Prop), out'.length ≤ 300 ∧ out' ++ grA es n k' T = out ++ grA es n (k' + 1) T ∧ IOut HB po out' F' H' ∧ LSt HB fx pe F' H' T) (fun c hc => ?_) ?_
    · have hJl : J.length = n := by obtain ⟨rt, d, h1, _⟩ := hJ; exact h1.len
      have hojH := (hL.fix _ hfx).1
      have hrJ : Row 3 H (.slice (some ⟨oj, 0, none⟩) n n) J := .inr ⟨oj, 0, ints J, false, by rw [hJl], hojH, by rw [ints_len]; omega, by rw [List.drop_zero, List.take_of_length_le (by rw [ints_len]; exact Nat.le_refl _)]⟩
      simp (maxSteps := 1000000) (disch := omega) only [s1, S, S1, S2, S3, S4, S5, ST, eq_self, reduceIte, reduceCtorEq, Nat.reduceEqDiff, Nat.reduceAdd]
      refine CallH.by (CloneJ_c _ J H hrJ (by omega)) ?_
      rintro c2 C ⟨hc2, pC⟩
      obtain ⟨ow, rfl, how, hCow⟩ : ∃ ow, c2 = .slice (some ⟨ow, 0, none⟩) n n ∧ H.length ≤ ow ∧ C[ow]? = some (.cells (ints J) 3 false) := by
        rcases hc2 with ⟨_, q2⟩ | ⟨ow, q1, q2, q3⟩
        · rw [q2] at hJl; simp at hJl; omega
        · exact ⟨ow, by rw [q1, hJl], q2, q3⟩
      have qC := pre_at pC q.g
      have rC := q.es.pre pC
      simp (maxSteps := 1000000) (disch := omega) only [s0, s3, cell_of qC, rC.ix Try.underlying22 cs65, Int.toNat_natCast, rC.ld ag65 cs65 (show E < es.length by omega), S, S1, S2, S3, S4, S5, ST, eq_self, reduceIte, reduceCtorEq, Nat.reduceEqDiff, Nat.reduceAdd]
      have hj := join_c hJ ow C hCow (E : Int) (by omega) (by omega) (by rw [Int.toNat_natCast, hen.1]) (by rw [Int.toNat_natCast, hen.1])
      rw [Int.toNat_natCast] at hj
      refine CallH.by hj ?_
      rintro _ D ⟨b, J', rfl, hb, hDow, hJ', kD⟩
      have keep : ∀ (o : Nat) (y : AObj), H[o]? = some y → D[o]? = some y := fun o y hy => kD.2 o y (by have := at_lt hy; omega) (pre_at pC hy)
      have lD : H.length ≤ D.length := Nat.le_trans pC.length_le kD.1
      have hLD : LSt HB fx pe F D T := hL.cb (fun o ho => (hO.live ho).2) (fun o ho => .inl ho) fun o y _ hy => keep o y hy
      have hOD := hO.keep fun o y _ hy => keep o y hy
      simp (maxSteps := 1000000) (disch := omega) only [S, S1, S2, S3, S4, S5, ST, eq_self, reduceIte, reduceCtorEq, Nat.reduceEqDiff, Nat.reduceAdd]
      cases b with
      | false =>
        have hjn : jnB es n T (enA es (E : Int)) (enB es (E : Int)) = true := hjB.2 (Classical.byContradiction fun w => by have := hb.2 w; cases this)
        rw [if_pos hjn, List.nil_append] at hgr
        refine brH.intro (fun w => by cases w) (fun _ => ?_)
        simp (maxSteps := 1000000) (disch := omega) only [S, S1, S2, S3, S4, S5, ST, eq_self, reduceIte, reduceCtorEq, Nat.reduceEqDiff, Nat.reduceAdd]
        exact hc _ _ ⟨⟨s0, s1, s2, s3, s4, s5⟩, out, F, hol, by rw [hgr], hOD, hLD⟩
      | true =>
        have hnj := hb.1 rfl
        have hjn : ¬ jnB es n T (enA es (E : Int)) (enB es (E : Int)) = true := fun w => hnj (hjB.1 w)
        rw [if_neg hjn] at hgr
        refine brH.intro (fun _ => ?_) (fun w => by cases w)
        obtain ⟨w3, H2, H3, p0, p1, p2, hL3, hk3, hl3, hk3'⟩ := hLD.push (fun o ho => (hOD.live ho).1) (by omega) (E : Int)
        have hO3 := hOD.keep hk3
        have hwD := hLD.row
        obtain ⟨wD, hwD1, hwD2, _, _⟩ := hwD
        have how3 : H3[ow]? = some (.cells (ints J') 3 false) := by
          obtain ⟨oe, zs, e1, e2, _⟩ := hL.e
          have hpe := at_lt e1
          have hoe := at_lt e2
          refine hk3' ow _ (by omega) (fun w' hw' => ?_) hDow
          have e1D := keep _ _ e1
          rw [cell_of e1D 0] at hw'
          simp only [List.getElem?_cons_zero, Option.some.injEq] at hw'
          rw [← hw']
          show ow ≠ oe
          omega
        have hF3 : ¬ F ow := fun w => by have := (hO.live w).1; omega
        have hpe3 : ow ≠ pe := by
          obtain ⟨oe, zs, e1, e2, _⟩ := hL.e
          have := at_lt e1; omega
        have hL4 := hL3.more how3 hF3 hpe3 fun w hw => by
          rw [stored0 p2] at hw
          have hw' := Option.some.inj hw
          rw [← hw']
          show ow ≠ D.length + 1
          have := at_lt hDow
          omega
        have q3 := hR hL3
        simp (maxSteps := 1000000) (disch := omega) only [s0, s2, s5, p0, p1, p2, ld_one agT, cell_of q3.c, wrap64, heN, S, S1, S2, S3, S4, S5, ST, eq_self, reduceIte, reduceCtorEq, Nat.reduceEqDiff, Nat.reduceAdd]
        refine CallH.by (ih k' (by omega) (T ++ [(E : Int)]) _ ow J' out F H3 (by omega) (hsnoc hjn) hJ' (by simp) (fun h => hR h.less) hol hO3 hL4) ?_
        rintro _ H4 ⟨rfl, F4, ed4, hO4, hL4', hed⟩
        have hL5 := hL4'.less
        by_cases hlen : (out ++ grA es n k' (T ++ [(E : Int)])).length ≤ 300
        · have hed := hed hlen
          subst hed
          obtain ⟨w4, c4, r1, r2, H5, r3, hL6, hk6, hl6⟩ := hL5.pop
          have hO6 := hO4.keep hk6
          have e301 : (out ++ grA es n k' (T ++ [(E : Int)])).take 301 = out ++ grA es n k' (T ++ [(E : Int)]) := List.take_of_length_le (by omega)
          rw [e301] at hO6
          have hcl : ((T.length + 1 : Nat) : Int) - 1 = (T.length : Int) := by omega
          simp (maxSteps := 1000000) (disch := omega) only [decide_eq_true hlen, s2, r1, hcl, r2, r3, wrap64, S, S1, S2, S3, S4, S5, ST, eq_self, reduceIte, reduceCtorEq, Nat.reduceEqDiff, Nat.reduceAdd]
          exact hc _ _ ⟨⟨s0, s1, s2, s3, s4, s5⟩, out ++ grA es n k' (T ++ [(E : Int)]), F4, hlen, by rw [hgr, List.append_assoc], hO6, hL6⟩
        · simp (maxSteps := 1000000) (disch := omega) only [decide_eq_false hlen, S, S1, S2, S3, S4, S5, ST, eq_self, reduceIte, reduceCtorEq, Nat.reduceEqDiff, Nat.reduceAdd]
          refine hQ _ _ _ ?_
          simp (maxSteps := 1000000) (disch := omega) only [S, S1, S2, S3, S4, S5, ST, eq_self, reduceIte, reduceCtorEq, Nat.reduceEqDiff, Nat.reduceAdd]
          have hbig : ¬ (out ++ grA es n (k' + 1) T).length ≤ 300 := by
            rw [hgr, ← List.append_assoc, List.length_append]; omega
          have htk : (out ++ grA es n (k' + 1) T).take 301 = (out ++ grA es n k' (T ++ [(E : Int)])).take 301 := by
            rw [hgr, ← List.append_assoc, List.take_append_of_le_length (by omega)]
          refine ⟨by rw [decide_eq_false hbig], F4, ed4, by rw [htk]; exact hO4, hL5, fun w => absurd w hbig⟩
    rintro s H' ⟨⟨s0, s1, s2, s3, s4, s5⟩, out', F', hol', heq, hO', hL'⟩
    have q' := hR hL'
    simp (maxSteps := 1000000) (disch := omega) only [s0, s1, s2, s3, s4, s5, ld_one agT, cell_of q'.c, wrap64, heN, S, S1, S2, S3, S4, S5, ST, eq_self, reduceIte, reduceCtorEq, Nat.reduceEqDiff, Nat.reduceAdd]
    refine CallH.by (ih k' (by omega) T fx oj J out' F' H' (by omega) hB.skip hJ hfx hR hol' hO' hL') ?_
    rintro _ H4 ⟨rfl, F4, ed4, hO4, hL4, hed⟩
    rw [heq] at hO4 hed ⊢
    simp (maxSteps := 1000000) (disch := omega) only [S, S1, S2, S3, S4, S5, ST, eq_self, reduceIte, reduceCtorEq, Nat.reduceEqDiff, Nat.reduceAdd]
    refine hQ _ _ _ ?_
    simp (maxSteps := 1000000) (disch := omega) only [S, S1, S2, S3, S4, S5, ST, eq_self, reduceIte, reduceCtorEq, Nat.reduceEqDiff, Nat.reduceAdd]
    exact ⟨F4, ed4, hO4, hL4, hed⟩
theorem alloc_slT (H : AH) : allocA Try.prog 25 H = some (.pointer (some ⟨H.length, 0, none⟩), H ++ [.cells [.slice none 0 0] 25 false]) := by kernel_rfl
theorem alloc_llT (H : AH) : allocA Try.prog 27 H = some (.pointer (some ⟨H.length, 0, none⟩), H ++ [.cells [.slice none 0 0] 27 false]) := by kernel_rfl
theorem alloc_fT (H : AH) : allocA Try.prog 69 H = some (.pointer (some ⟨H.length, 0, none⟩), H ++ [.cells [.nilFunc] 69 false]) := by kernel_rfl
theorem mkf_4T (f : Fn) (p q r t : Option Addr) : makeFuncA f [] [.pointer p, .pointer q, .pointer r, .pointer t] = some (.func f #[] (List.toArray [.pointer p, .pointer q, .pointer r, .pointer t])) := rfl
/-- all objects but some -/
def objsT (G : AH) (p : Nat → Bool) : List (Nat × AObj) := (List.range G.length).filterMap fun i => if p i = true then G[i]?.map fun y => (i, y) else none
theorem objsT_mem {G : AH} {p : Nat → Bool} {q : Nat × AObj} : q ∈ objsT G p ↔ p q.1 = true ∧ G[q.1]? = some q.2 := by
  unfold objsT
  rw [List.mem_filterMap]
  constructor
  · rintro ⟨i, hi, h⟩
    split at h
    · rename_i hp
      rw [Option.map_eq_some_iff] at h
      obtain ⟨y, h1, rfl⟩ := h
      exact ⟨hp, h1⟩
    · cases h
  · rintro ⟨h1, h2⟩
    refine ⟨q.1, List.mem_range.2 (at_lt h2), ?_⟩
    rw [if_pos h1, h2]; rfl
set_option maxRecDepth 20000 in
set_option maxHeartbeats 8000000 in
theorem trees_c (n : Nat) (hn : 1 ≤ n) (v : Value) (es : List (Int × Int)) (H : AH) (hr : RowP 65 H v es) (hg : Grd (n : Int) es) :
    ACalls Try.prog 24 [.agg (List.toArray [.int .i64 (n : Int), v])] H fun r H' => ∃ a, r = .tuple (List.toArray [a, .bool (decide ((treA n es).length ≤ 300) && decide (0 < (treA n es).length))]) ∧ InL H.length H'.length 25 3 H' a ((treA n es).take 301) ∧ H <+: H' := by
  have h28 : es.length ≤ 28 := grd_len hg
  have hn8 : n ≤ 8 := by have := hg.1; omega
  refine in24 rfl ?_
  intro Q hQ
  simp (maxSteps := 1000000) (disch := omega) only [cd24, hr.boxG, S, S1, S2, S3, S4, S5, ST, eq_self, reduceIte, reduceCtorEq, Nat.reduceEqDiff, Nat.reduceAdd]
  generalize hA : H ++ [AObj.cells [.int .i64 n, v] 32 false] = A
  have pA : H <+: A := by rw [← hA]; exact List.prefix_append _ _
  have cA : A[H.length]? = some (.cells [.int .i64 n, v] 32 false) := by rw [← hA]; exact at_new ..
  have rA := hr.pre pA
  have lA : A.length = H.length + 1 := by rw [← hA]; simp
  generalize hB : A ++ [AObj.cells [] 25 false] = B
  have pB : A <+: B := by rw [← hB]; exact List.prefix_append _ _
  have cB : B[A.length]? = some (.cells [] 25 false) := by rw [← hB]; exact at_new ..
  have lB : B.length = A.length + 1 := by rw [← hB]; simp
  generalize hC : B ++ [AObj.cells [] 3 false] = C
  have pC : B <+: C := by rw [← hC]; exact List.prefix_append _ _
  have cC : C[B.length]? = some (.cells (ints []) 3 false) := by rw [← hC]; exact at_new ..
  have lC : C.length = B.length + 1 := by rw [← hC]; simp
  simp (maxSteps := 1000000) (disch := omega) only [alloc_llT, alloc_slT, S, S1, S2, S3, S4, S5, ST, eq_self, reduceIte, reduceCtorEq, Nat.reduceEqDiff, Nat.reduceAdd]
  generalize hD : C ++ [AObj.cells [.slice none 0 0] 27 false] = D
  have pD : C <+: D := by rw [← hD]; exact List.prefix_append _ _
  have cD : D[C.length]? = some (.cells [.slice none 0 0] 27 false) := by rw [← hD]; exact at_new ..
  have lD : D.length = C.length + 1 := by rw [← hD]; simp
  generalize hE : D ++ [AObj.cells [.slice none 0 0] 25 false] = E
  have pE : D <+: E := by rw [← hE]; exact List.prefix_append _ _
  have cE : E[D.length]? = some (.cells [.slice none 0 0] 25 false) := by rw [← hE]; exact at_new ..
  have lE : E.length = D.length + 1 := by rw [← hE]; simp
  have s1 := st_at (P := Try.prog) (t := 27) (i := 0) (y := .slice (some ⟨A.length, 0, none⟩) 0 0) cs27 (pre_at pE cD) (by show 0 < 1; decide) rfl rfl
  rw [List.set_cons_zero] at s1
  generalize hE3 : E.set C.length (.cells [.slice (some ⟨A.length, 0, none⟩) 0 0] 27 false) = E3 at *
  have at3 : ∀ {o y}, o ≠ C.length → E[o]? = some y → E3[o]? = some y := fun ho hy => by rw [← hE3, List.getElem?_set_ne (fun e => ho e.symm)]; exact hy
  have l3 : E3.length = E.length := by rw [← hE3]; simp
  have c3 : E3[C.length]? = some (.cells [.slice (some ⟨A.length, 0, none⟩) 0 0] 27 false) := by rw [← hE3, List.getElem?_set_self (by omega)]
  have s2 := st_at (P := Try.prog) (t := 25) (i := 0) (y := .slice (some ⟨B.length, 0, none⟩) 0 0) cs25 (at3 (by omega) cE) (by show 0 < 1; decide) rfl rfl
  rw [List.set_cons_zero] at s2
  generalize hE4 : E3.set D.length (.cells [.slice (some ⟨B.length, 0, none⟩) 0 0] 25 false) = E4 at *
  have at4 : ∀ {o y}, o ≠ D.length → E3[o]? = some y → E4[o]? = some y := fun ho hy => by rw [← hE4, List.getElem?_set_ne (fun e => ho e.symm)]; exact hy
  have l4 : E4.length = E3.length := by rw [← hE4]; simp
  have c4 : E4[D.length]? = some (.cells [.slice (some ⟨B.length, 0, none⟩) 0 0] 25 false) := by rw [← hE4, List.getElem?_set_self (by omega)]
  have old4 : ∀ {o y}, o < C.length → C[o]? = some y → E4[o]? = some y := fun ho hy => at4 (by omega) (at3 (by omega) (pre_at (pD.trans pE) hy))
  have pC4 : C <+: E4 := prefix_of fun o y hy => old4 (at_lt hy) hy
  have d4 := at4 (by omega) c3
  have st11 := st_at (P := Try.prog) (t := 69) (i := 0) (y := treClo D.length H.length C.length E4.length) csT (at_new E4 (.cells [.nilFunc] 69 false)) (by show 0 < 1; decide) rfl rfl
  rw [set_new, List.set_cons_zero] at st11
  simp (maxSteps := 1000000) (disch := omega) only [s1, s2, alloc_fT, mkf_4T, st11, ld_one agT, cell_new, S, S1, S2, S3, S4, S5, ST, eq_self, reduceIte, reduceCtorEq, Nat.reduceEqDiff, Nat.reduceAdd]
  generalize hF : E4 ++ [AObj.cells [treClo D.length H.length C.length E4.length] 69 false] = F
  have pF : E4 <+: F := by rw [← hF]; exact List.prefix_append _ _
  have cF : F[E4.length]? = some (.cells [treClo D.length H.length C.length E4.length] 69 false) := by rw [← hF]; exact at_new ..
  have lF : F.length = E4.length + 1 := by rw [← hF]; simp
  have pBC := pB.trans pC
  have pHF := pA.trans (pBC.trans (pC4.trans pF))
  simp (maxSteps := 1000000) (disch := omega) only [cell_of (pre_at (pBC.trans (pC4.trans pF)) cA), S, S1, S2, S3, S4, S5, ST, eq_self, reduceIte, reduceCtorEq, Nat.reduceEqDiff, Nat.reduceAdd]
  refine CallH.by (newJoiner_c n F (by omega)) ?_
  rintro jv K ⟨hj, pK⟩
  have lK := pK.length_le
  obtain ⟨oj, rfl, hoj, hKj⟩ : ∃ oj, jv = .slice (some ⟨oj, 0, none⟩) n n ∧ F.length ≤ oj ∧ K[oj]? = some (.cells (ints (alls n)) 3 false) := by
    rcases hj with ⟨_, q2⟩ | ⟨oj, q1, q2, q3⟩
    · have := congrArg List.length q2
      simp [alls] at this
      omega
    · refine ⟨oj, ?_, q2, q3⟩
      rw [q1]
      simp [alls]
  have pHK := pHF.trans pK
  have pFK := pF.trans pK
  have gpo := pre_at pFK d4
  have goo := pre_at pFK (pre_at pC4 (pre_at pC cB))
  have gpe := pre_at pFK c4
  have goe := pre_at pFK (pre_at pC4 cC)
  have gg := pre_at pFK (pre_at pC4 (pre_at pBC cA))
  have gf := pre_at pK cF
  have nob : ∀ j, j ≠ A.length → ¬ Obs A.length [] [] j := by
    rintro j hj (e | ⟨i, hi, _⟩)
    · exact hj e
    · simp at hi
  have hO : IOut H C.length [] (fun j => j = C.length ∨ Obs A.length [] [] j) K :=
    ⟨A.length, [], gpo, ⟨by omega, by omega, goo, Nat.le_refl _, fun i hi => absurd hi (by simp), fun i j _ hi _ => absurd hi (by simp)⟩, by omega, nob _ (by omega), rfl⟩
  have nF : ∀ {j}, j ≠ C.length → j ≠ A.length → ¬ ((fun j => j = C.length ∨ Obs A.length [] [] j) j) := fun h1 h2 h => h.elim h1 (nob _ h2)
  have hLS : LSt H (objsT K fun i => decide (i ≠ C.length ∧ i ≠ A.length ∧ i ≠ D.length ∧ i ≠ B.length)) D.length (fun j => j = C.length ∨ Obs A.length [] [] j) K [] := by
    refine ⟨fun q hq => ?_, ⟨B.length, [], gpe, goe, rfl, nF (by omega) (by omega), by omega, fun q hq => ?_, by omega⟩, nF (by omega) (by omega), by omega, pHK⟩
    · obtain ⟨q1, q2⟩ := objsT_mem.1 hq
      have q1 := of_decide_eq_true q1
      exact ⟨q2, nF q1.1 q1.2.1, q1.2.2.1⟩
    · obtain ⟨q1, _⟩ := objsT_mem.1 hq
      exact (of_decide_eq_true q1).2.2.2
  have hR : ∀ {F' : Nat → Prop} {H' : AH} {ed : List Int}, LSt H (objsT K fun i => decide (i ≠ C.length ∧ i ≠ A.length ∧ i ≠ D.length ∧ i ≠ B.length)) D.length F' H' ed → TreR H' n v es D.length H.length C.length E4.length := by
    intro F' H' ed h
    have keep : ∀ {j : Nat} {y : AObj}, j ≠ C.length → j ≠ A.length → j ≠ D.length → j ≠ B.length → K[j]? = some y → H'[j]? = some y := fun h1 h2 h3 h4 hy => (h.fix (_, _) (objsT_mem.2 ⟨decide_eq_true ⟨h1, h2, h3, h4⟩, hy⟩)).1
    exact ⟨keep (by omega) (by omega) (by omega) (by omega) gg, keep (by omega) (by omega) (by omega) (by omega) gf, hr.pre h.pre⟩
  have hcall := treRec_c hn hg D.length H.length C.length E4.length v es.length [] _ oj (alls n) [] _ K (Nat.le_refl _) (Beg.nil hn es) (JR.zero es n) (objsT_mem.2 ⟨decide_eq_true ⟨by omega, by omega, by omega, by omega⟩, hKj⟩) hR (by simp) hO hLS
  have e0 : ((es.length - es.length : Nat) : Int) = 0 := by rw [Nat.sub_self]; rfl
  rw [e0] at hcall
  simp (maxSteps := 1000000) (disch := omega) only [ld_one agT, cell_of gf, S, S1, S2, S3, S4, S5, ST, eq_self, reduceIte, reduceCtorEq, Nat.reduceEqDiff, Nat.reduceAdd]
  refine CallH.by hcall ?_
  rintro _ M ⟨rfl, F2, ed2, hO2, hL2, _⟩
  have etr : treA n es = grA es n es.length [] := rfl
  rw [← etr, List.nil_append] at hO2 ⊢
  obtain ⟨o2, us2, hpo2, hU2, _⟩ := hO2
  generalize treA n es = tr at *
  have pHM := hL2.pre
  by_cases hl : tr.length ≤ 300
  · have e301 : tr.take 301 = tr := List.take_of_length_le (by omega)
    simp (maxSteps := 1000000) (disch := omega) only [cell_of hpo2, decide_eq_true hl, S, S1, S2, S3, S4, S5, ST, eq_self, reduceIte, reduceCtorEq, Nat.reduceEqDiff, Nat.reduceAdd]
    refine hQ _ _ _ ?_
    simp (maxSteps := 1000000) (disch := omega) only [S, S1, S2, S3, S4, S5, ST, eq_self, reduceIte, reduceCtorEq, Nat.reduceEqDiff, Nat.reduceAdd]
    refine ⟨_, ?_, hU2.inl, pHM⟩
    have e2 : decide ((0 : Int) < (tr.length : Int)) = decide (0 < tr.length) := decide_eq_decide.2 ⟨fun h => by omega, fun h => by omega⟩
    rw [e301, decide_eq_true hl, Bool.true_and, e2]
  · simp (maxSteps := 1000000) (disch := omega) only [cell_of hpo2, decide_eq_false hl, S, S1, S2, S3, S4, S5, ST, eq_self, reduceIte, reduceCtorEq, Nat.reduceEqDiff, Nat.reduceAdd]
    refine hQ _ _ _ ?_
    simp (maxSteps := 1000000) (disch := omega) only [S, S1, S2, S3, S4, S5, ST, eq_self, reduceIte, reduceCtorEq, Nat.reduceEqDiff, Nat.reduceAdd]
    exact ⟨_, by rw [decide_eq_false hl]; rfl, hU2.inl, pHM⟩
end Go.Proofs.Ytlcipphiflcaiaa.Ai
namespace Go.Proofs.Ytlcipphiflcaiaa.Ai
open Go
def ords42 : List (Nat × List (Nat × Bool)) := [(6, [(0, false), (1, false), (2, false), (3, false), (5, false), (6, false), (8, false), (9, false), (10, false), (4, true), (7, true), (11, true), (12, false)])]
def cd42 : Cd := (.seq (.reg [⟨⟨some 4, Op.assign (Operand.const (Value.slice none 0 0)), none⟩, []⟩]) (.seq (.reg [⟨⟨some 5, Op.assign (Operand.const (Value.int IntKind.i64 0)), none⟩, []⟩]) (.seq (.block 0 (.loop (.seq (.seq (.reg [⟨⟨some 6, Op.move (Operand.tmp 5), none⟩, []⟩,
  ⟨⟨some 7, Op.move (Operand.tmp 0), none⟩, []⟩,
  ⟨⟨some 8, Op.call { callee := (Callee.builtin Builtin.len), args := #[(Operand.tmp 7)], argTypes := #[25] }, none⟩, []⟩,
  ⟨⟨some 9, Op.binOp BinOp.lss 3 (Operand.tmp 6) (Operand.tmp 8) 3, none⟩, []⟩,
  ⟨⟨some 10, Op.move (Operand.tmp 9), none⟩, []⟩,
  ⟨⟨some 11, Op.move (Operand.tmp 0), some (10, true)⟩, []⟩,
  ⟨⟨some 12, Op.move (Operand.tmp 5), some (10, true)⟩, []⟩,
  ⟨⟨some 13, Op.indexAddr 25 (Operand.tmp 11) (Operand.tmp 12), some (10, true)⟩, []⟩,
  ⟨⟨some 14, Op.load 3 (Operand.tmp 13), some (10, true)⟩, []⟩,
  ⟨⟨some 15, Op.move (Operand.tmp 1), some (10, true)⟩, []⟩,
  ⟨⟨some 16, Op.binOp BinOp.lss 3 (Operand.tmp 14) (Operand.tmp 15) 3, some (10, true)⟩, []⟩,
  ⟨⟨some 17, Op.pick (Operand.tmp 10) (Operand.tmp 16) (Operand.const (Value.bool false)), none⟩, []⟩]) (.cond (Operand.tmp 17) .skip (.exit 0))) (.block 1 (.reg [⟨⟨some 18, Op.move (Operand.tmp 5), none⟩, []⟩,
  ⟨⟨some 19, Op.binOp BinOp.add 3 (Operand.tmp 18) (Operand.const (Value.int IntKind.i64 1)) 3, none⟩, []⟩,
  ⟨⟨some 5, Op.assign (Operand.tmp 19), none⟩, []⟩]))))) (.seq (.seq (.reg [⟨⟨some 20, Op.move (Operand.tmp 5), none⟩, []⟩,
  ⟨⟨some 21, Op.move (Operand.tmp 0), none⟩, []⟩,
  ⟨⟨some 22, Op.call { callee := (Callee.builtin Builtin.len), args := #[(Operand.tmp 21)], argTypes := #[25] }, none⟩, []⟩,
  ⟨⟨some 23, Op.binOp BinOp.lss 3 (Operand.tmp 20) (Operand.tmp 22) 3, none⟩, []⟩,
  ⟨⟨some 24, Op.move (Operand.tmp 23), none⟩, []⟩,
  ⟨⟨some 25, Op.move (Operand.tmp 0), some (24, true)⟩, []⟩,
  ⟨⟨some 26, Op.move (Operand.tmp 5), some (24, true)⟩, []⟩,
  ⟨⟨some 27, Op.indexAddr 25 (Operand.tmp 25) (Operand.tmp 26), some (24, true)⟩, []⟩,
  ⟨⟨some 28, Op.load 3 (Operand.tmp 27), some (24, true)⟩, []⟩,
  ⟨⟨some 29, Op.move (Operand.tmp 1), some (24, true)⟩, []⟩,
  ⟨⟨some 30, Op.binOp BinOp.eql 3 (Operand.tmp 28) (Operand.tmp 29) 3, some (24, true)⟩, []⟩,
  ⟨⟨some 31, Op.pick (Operand.tmp 24) (Operand.tmp 30) (Operand.const (Value.bool false)), none⟩, []⟩]) (.cond (Operand.tmp 31) (.seq (.reg [⟨⟨some 32, Op.move (Operand.tmp 0), none⟩, []⟩,
  ⟨⟨some 4, Op.assign (Operand.tmp 32), none⟩, []⟩]) .ret) .skip)) (.seq (.reg [⟨⟨some 33, Op.buildSlice 25 0 #[], none⟩, []⟩,
  ⟨⟨some 34, Op.move (Operand.tmp 0), none⟩, []⟩,
  ⟨⟨some 35, Op.move (Operand.tmp 5), none⟩, []⟩,
  ⟨⟨some 36, Op.slice 25 (Operand.tmp 34) none (some (Operand.tmp 35)) none, none⟩, []⟩,
  ⟨⟨some 38, Op.move (Operand.tmp 1), none⟩, []⟩,
  ⟨⟨some 39, Op.buildSlice 25 1 #[(0, (Operand.tmp 38))], none⟩, []⟩,
  ⟨⟨some 41, Op.move (Operand.tmp 0), none⟩, []⟩,
  ⟨⟨some 42, Op.move (Operand.tmp 5), none⟩, []⟩,
  ⟨⟨some 43, Op.slice 25 (Operand.tmp 41) (some (Operand.tmp 42)) none none, none⟩, []⟩,
  ⟨⟨some 37, Op.call { callee := (Callee.builtin Builtin.append), args := #[(Operand.tmp 33), (Operand.tmp 36)], argTypes := #[25, 25] }, none⟩, [⟨some 43, Op.slice 25 (Operand.tmp 41) (some (Operand.tmp 42)) none none, none⟩, ⟨some 39, Op.buildSlice 25 1 #[(0, (Operand.tmp 38))], none⟩]⟩,
  ⟨⟨some 40, Op.call { callee := (Callee.builtin Builtin.append), args := #[(Operand.tmp 37), (Operand.tmp 39)], argTypes := #[25, 25] }, none⟩, [⟨some 43, Op.slice 25 (Operand.tmp 41) (some (Operand.tmp 42)) none none, none⟩]⟩,
  ⟨⟨some 44, Op.call { callee := (Callee.builtin Builtin.append), args := #[(Operand.tmp 40), (Operand.tmp 43)], argTypes := #[25, 25] }, none⟩, []⟩,
  ⟨⟨some 4, Op.assign (Operand.tmp 44), none⟩, []⟩]) .ret)))))
theorem sl42 : slim Try.f42.ntmps ords42 (Try.f42.body.getD .skip) = some cd42 := by kernel_rfl
theorem in42 {args : List Value} {H : AH} {R : Value → AH → Prop} (hl : args.length = 2) (h : ∀ (Q : Exit → Sl → AH → Prop), (∀ e s H, endA Try.prog [ResultVar.tmp 4] R e s H → Q e s H) → wpC Try.prog cd42 Q (enterA args) H) : ACalls Try.prog 42 args H R :=
  ACalls.intro (by kernel_rfl) Try.func42 rfl (by kernel_rfl) sl42 hl (of_decide_eq_true (by kernel_rfl)) (by kernel_rfl) h
end Go.Proofs.Ytlcipphiflcaiaa.Ai
namespace Go.Proofs.Ytlcipphiflcaiaa.Ai
open Go Go.RowKit
set_option linter.unusedVariables false
set_option linter.unusedSimpArgs false
set_option maxHeartbeats 2000000 in
theorem l1Put_c (v : Value) (l : List Int) (x : Int) (H : AH) (hr : Row 3 H v l) (hlen : l.length ≤ 1000000) (hx : x ∉ l) :
    ACalls Try.prog 42 [v, .int .i64 x] H fun r H' => Own 3 H H' r (put l x) ∧ H <+: H' := by
  refine in42 rfl ?_
  intro Q hQ
  simp (maxSteps := 1000000) (disch := omega) only [cd42, S, S1, S2, S3, S4, S5, ST, eq_self, reduceIte, reduceCtorEq, Nat.reduceEqDiff, Nat.reduceAdd]
  refine LoopH.by (fun m s H' => ∃ i, m + i = l.length ∧ s 0 = v ∧ s 1 = .int .i64 x ∧ s 5 = .int .i64 ((i : Nat) : Int) ∧ H = H' ∧ ∀ j, j < i → l.getD j 0 < x) l.length ?_ ?_
  · exact ⟨0, by simp, rfl, rfl, rfl, rfl, by omega⟩
  · rintro m s H' ⟨i, hm, h0, h1, h5, rfl, hlt⟩
    have fin : (i < l.length → x ≤ l.getD i 0) → put l x = l.take i ++ x :: l.drop i := by
      intro h
      rw [putAt_eq0 l x i (by omega) hlt h, if_neg]
      rintro ⟨hi, e⟩
      apply hx
      have : l.getD i 0 = l[i] := by simp [hi]
      rw [← e, this]; exact List.getElem_mem hi
    have last : (i < l.length → x ≤ l.getD i 0) → ∀ s' : Sl, s' 0 = v → s' 1 = .int .i64 x → s' 5 = .int .i64 ((i : Nat) : Int) → True := fun _ _ _ _ _ => trivial
    -- the list made anew
    have hp1 := List.prefix_append H [AObj.cells [] 3 false]
    have hp2 : H <+: H ++ [AObj.cells [] 3 false] ++ [AObj.cells [.int .i64 x] 3 false] := pre_app hp1 _
    have sl1 : ∀ H1, H <+: H1 → sliceA Try.prog 25 v none (some (.int .i64 ((i : Nat) : Int))) none H1 = some (subV v 0 i) ∧ Row 3 H1 (subV v 0 i) (l.take i) := by
      intro H1 hp
      have h := (hr.pre hp).slice Try.underlying25 cs3 (lo := none) (hi := some (.int .i64 ((i : Nat) : Int))) lo_none (bound_some (by omega) _) (by omega) (by simp; omega)
      simp only [Int.toNat_natCast, List.drop_zero, Nat.sub_zero] at h
      exact ⟨h.1, h.2.1⟩
    have sl2 : ∀ H1, H <+: H1 → sliceA Try.prog 25 v (some (.int .i64 ((i : Nat) : Int))) none none H1 = some (subV v i l.length) ∧ Row 3 H1 (subV v i l.length) (l.drop i) := by
      intro H1 hp
      have h := (hr.pre hp).slice Try.underlying25 cs3 (lo := some (.int .i64 ((i : Nat) : Int))) (hi := none) (bound_some (by omega) _) (hi_none _) (by simp; omega) (Nat.le_refl _)
      simp only [Int.toNat_natCast] at h
      refine ⟨h.1, ?_⟩
      have e : (l.drop i).take (l.length - i) = l.drop i := List.take_of_length_le (by simp)
      rw [← e]; exact h.2.1
    have ho0 : Own 3 H (H ++ [AObj.cells [] 3 false] ++ [AObj.cells [.int .i64 x] 3 false]) (.slice (some ⟨H.length, 0, none⟩) 0 0) [] := .inr ⟨H.length, rfl, Nat.le_refl _, at_app (at_new ..) _⟩
    obtain ⟨w1, H3, k1, o1, p1, e1, _⟩ := ho0.app (P := Try.prog) (t := 25) Try.underlying25 cs3 (by rw [by3]; decide) zk3 (sl1 _ hp2).2 hp2 (by simp; omega)
    simp only [List.nil_append] at o1
    have c3 : H3[(H ++ [AObj.cells [] 3 false]).length]? = some (.cells [.int .i64 x] 3 false) := e1 _ _ (.inr (by simp [rowO])) (at_new ..)
    have c2 : (H ++ [AObj.cells [] 3 false] ++ [AObj.cells [.int .i64 x] 3 false])[(H ++ [AObj.cells [] 3 false]).length]? = some (.cells [.int .i64 x] 3 false) := at_new ..
    have r39 : Row 3 H3 (.slice (some ⟨(H ++ [AObj.cells [] 3 false]).length, 0, none⟩) 1 1) [x] := .inr ⟨_, 0, [.int .i64 x], false, rfl, c3, by simp, rfl⟩
    obtain ⟨w2, H4, k2, o2, p2, e2, _⟩ := o1.app (P := Try.prog) (t := 25) Try.underlying25 cs3 (by rw [by3]; decide) zk3 r39 p1 (by simp; omega)
    obtain ⟨w3, H5, k3, o3, p3, e3, _⟩ := o2.app (P := Try.prog) (t := 25) Try.underlying25 cs3 (by rw [by3]; decide) zk3 (sl2 _ p2).2 p2 (by simp; omega)
    have hcat : l.take i ++ [x] ++ l.drop i = l.take i ++ x :: l.drop i := by simp
    simp (maxSteps := 1000000) (disch := omega) only [h0, h1, h5, hr.len Try.underlying25, S, S1, S2, S3, S4, S5, ST, eq_self, reduceIte, reduceCtorEq, Nat.reduceEqDiff, Nat.reduceAdd]
    refine brD.intro (fun g => ?_) (fun g => ?_)
    · have hi : i < l.length := by omega
      simp (maxSteps := 1000000) (disch := omega) only [g, h0, h1, h5, hr.ix Try.underlying25 cs3, hr.cell, Int.toNat_natCast, S, S1, S2, S3, S4, S5, ST, eq_self, reduceIte, reduceCtorEq, Nat.reduceEqDiff, Nat.reduceAdd]
      refine brD.intro (fun e => ?_) (fun e => ?_)
      · simp (maxSteps := 1000000) (disch := omega) only [h0, h1, h5, wrap64, S, S1, S2, S3, S4, S5, ST, eq_self, reduceIte, reduceCtorEq, Nat.reduceEqDiff, Nat.reduceAdd]
        have fx : ∀ j, j < i + 1 → l.getD j 0 < x := by
          intro j hj
          by_cases ej : j = i
          · subst ej; exact e
          · exact hlt j (by omega)
        refine ⟨m - 1, by omega, i + 1, ?_⟩
        (repeat' apply And.intro) <;> first | exact fx | (simp only [Value.int.injEq, true_and]; omega) | omega | rfl | assumption | (simp; done) | (simp; omega)
      · have hne : ¬ l.getD i 0 = x := fun h => hx (by
          have : l.getD i 0 = l[i] := by simp [hi]
          rw [← h, this]; exact List.getElem_mem hi)
        simp (maxSteps := 1000000) (disch := omega) only [g, h0, h1, h5, hr.len Try.underlying25, hr.ix Try.underlying25 cs3, hr.cell, Int.toNat_natCast, S, S1, S2, S3, S4, S5, ST, eq_self, reduceIte, reduceCtorEq, Nat.reduceEqDiff, Nat.reduceAdd]
        refine brD.intro (fun h => absurd h hne) (fun hne => ?_)
        simp (maxSteps := 1000000) (disch := omega) only [hne, g, h0, h1, h5, (sl1 _ hp1).1, (sl2 _ hp2).1, k1, k2, k3, (sl2 _ p1).1, (sl2 _ p2).1, c2, c3, S, S1, S2, S3, S4, S5, ST, eq_self, reduceIte, reduceCtorEq, Nat.reduceEqDiff, Nat.reduceAdd]
        refine hQ _ _ _ ?_
        simp (maxSteps := 1000000) (disch := omega) only [o3.row.tup, S, S1, S2, S3, S4, S5, ST, eq_self, reduceIte, reduceCtorEq, Nat.reduceEqDiff, Nat.reduceAdd]
        rw [fin (fun _ => by omega), ← hcat]
        exact ⟨o3, p3⟩
    · simp (maxSteps := 1000000) (disch := omega) only [g, h0, h1, h5, hr.len Try.underlying25, S, S1, S2, S3, S4, S5, ST, eq_self, reduceIte, reduceCtorEq, Nat.reduceEqDiff, Nat.reduceAdd]
      simp (maxSteps := 1000000) (disch := omega) only [h0, h1, h5, (sl1 _ hp1).1, (sl2 _ hp2).1, k1, k2, k3, (sl2 _ p1).1, (sl2 _ p2).1, c2, c3, g, S, S1, S2, S3, S4, S5, ST, eq_self, reduceIte, reduceCtorEq, Nat.reduceEqDiff, Nat.reduceAdd]
      refine hQ _ _ _ ?_
      simp (maxSteps := 1000000) (disch := omega) only [o3.row.tup, S, S1, S2, S3, S4, S5, ST, eq_self, reduceIte, reduceCtorEq, Nat.reduceEqDiff, Nat.reduceAdd]
      rw [fin (fun _ => by omega), ← hcat]
      exact ⟨o3, p3⟩
end Go.Proofs.Ytlcipphiflcaiaa.Ai
namespace Go.Proofs.Ytlcipphiflcaiaa.Ai
open Go
def ords41 : List (Nat × List (Nat × Bool)) := []
def cd41 : Cd := (.seq (.reg [⟨⟨some 2, Op.assign (Operand.const (Value.slice none 0 0)), none⟩, []⟩]) (.seq (.reg [⟨⟨some 3, Op.buildSlice 25 0 #[], none⟩, []⟩,
  ⟨⟨some 4, Op.move (Operand.tmp 0), none⟩, []⟩,
  ⟨⟨some 5, Op.call { callee := (Callee.builtin Builtin.append), args := #[(Operand.tmp 3), (Operand.tmp 4)], argTypes := #[25, 25] }, none⟩, []⟩,
  ⟨⟨some 2, Op.assign (Operand.tmp 5), none⟩, []⟩]) .ret))
theorem sl41 : slim Try.f41.ntmps ords41 (Try.f41.body.getD .skip) = some cd41 := by kernel_rfl
theorem in41 {args : List Value} {H : AH} {R : Value → AH → Prop} (hl : args.length = 1) (h : ∀ (Q : Exit → Sl → AH → Prop), (∀ e s H, endA Try.prog [ResultVar.tmp 2] R e s H → Q e s H) → wpC Try.prog cd41 Q (enterA args) H) : ACalls Try.prog 41 args H R :=
  ACalls.intro (by kernel_rfl) Try.func41 rfl (by kernel_rfl) sl41 hl (of_decide_eq_true (by kernel_rfl)) (by kernel_rfl) h
end Go.Proofs.Ytlcipphiflcaiaa.Ai
namespace Go.Proofs.Ytlcipphiflcaiaa.Ai
open Go Go.RowKit
set_option linter.unusedVariables false
set_option linter.unusedSimpArgs false
set_option maxRecDepth 20000 in
theorem l1Own_c (v : Value) (xs : List Int) (H : AH) (hr : Row 3 H v xs) (hlen : xs.length ≤ 1099511627776) : ACalls Try.prog 41 [v] H fun r H' => Own 3 H H' r xs ∧ H <+: H' := by
  refine in41 rfl ?_
  intro Q hQ
  simp (maxSteps := 1000000) (disch := omega) only [cd41, S, S1, S2, S3, S4, S5, ST, eq_self, reduceIte, reduceCtorEq, Nat.reduceEqDiff, Nat.reduceAdd]
  have hp := List.prefix_append H [AObj.cells [] 3 false]
  have ho : Own 3 H (H ++ [AObj.cells [] 3 false]) (.slice (some ⟨H.length, 0, none⟩) 0 0) [] := .inr ⟨H.length, rfl, Nat.le_refl _, at_new ..⟩
  obtain ⟨v', H2, k1, k2, k3, _⟩ := ho.app (P := Try.prog) (t := 25) Try.underlying25 cs3 (by rw [by3]; decide) zk3 (hr.pre hp) hp (by simp; omega)
  simp (maxSteps := 1000000) (disch := omega) only [k1, S, S1, S2, S3, S4, S5, ST, eq_self, reduceIte, reduceCtorEq, Nat.reduceEqDiff, Nat.reduceAdd]
  refine hQ _ _ _ ?_
  simp (maxSteps := 1000000) (disch := omega) only [k2.row.tup, S, S1, S2, S3, S4, S5, ST, eq_self, reduceIte, reduceCtorEq, Nat.reduceEqDiff, Nat.reduceAdd]
  exact ⟨k2, k3⟩
end Go.Proofs.Ytlcipphiflcaiaa.Ai
namespace Go.Proofs.Ytlcipphiflcaiaa.Ai
open Go Go.RowKit
set_option linter.unusedVariables false
set_option linter.unusedSimpArgs false
theorem bsRow {H0 : AH} {v : Value} {xs : List Int} (h : Row 3 H0 v xs) (K : AH) : buildSliceA Try.prog 27 1 [(0, v)] K = some (.slice (some ⟨K.length, 0, none⟩) 1 1, K ++ [.cells [v] 25 false]) := by
  obtain ⟨q, eq⟩ := h.shape
  rw [eq]
  exact bs1 Try.underlying27 cs25 ze25 ⟨by kernel_rfl, by kernel_rfl⟩ K rfl
/-- a set of few nodes -/
def Sm (o : List Int) : Prop := o.Pairwise (· < ·) ∧ ∀ z ∈ o, 0 ≤ z ∧ z < 8
theorem Sm.len {o : List Int} (h : Sm o) : o.length ≤ 8 := by
  have := nodup_le (a := o) (b := (List.range 8).map fun z : Nat => (z : Int)) (lt_nodup h.1) fun x hx => by
    have := h.2 x hx
    exact List.mem_map.2 ⟨x.toNat, List.mem_range.2 (by omega), by omega⟩
  simpa using this
theorem Sm.put {o : List Int} (h : Sm o) {x : Int} (hx : 0 ≤ x ∧ x < 8) : Sm (put o x) := by
  refine ⟨put_sorted _ _ h.1, fun z hz => ?_⟩
  rcases (put_mem _ _ _).1 hz with rfl | hz
  · exact hx
  · exact h.2 z hz
theorem Sm.nil : Sm [] := ⟨List.Pairwise.nil, fun z hz => by simp at hz⟩
theorem Sm.one {x : Int} (hx : 0 ≤ x ∧ x < 8) : Sm [x] := ⟨List.pairwise_singleton _ _, fun z hz => by simp at hz; subst hz; exact hx⟩
theorem Sm.puts : ∀ (l : List Int) {s : List Int}, Sm s → (∀ y ∈ l, 0 ≤ y ∧ y < 8) → Sm (l.foldl Ai.put s)
  | [], s, h, _ => h
  | y :: ys, s, h, hl => Sm.puts ys (h.put (hl y (by simp))) fun z hz => hl z (by simp [hz])
end Go.Proofs.Ytlcipphiflcaiaa.Ai
namespace Go.Proofs.Ytlcipphiflcaiaa.Ai
open Go Go.RowKit
set_option linter.unusedVariables false
set_option linter.unusedSimpArgs false
/-- what of a list another one does not have -/
def without (xs ys : List Int) : List Int := xs.filter fun x => decide (¬ x ∈ ys)
theorem without_step (xs ys : List Int) (i : Nat) (hi : i < xs.length) : without (xs.take (i + 1)) ys = without (xs.take i) ys ++ if xs.getD i 0 ∈ ys then [] else [xs.getD i 0] := by
  unfold without
  rw [List.take_add_one, List.getElem?_eq_getElem hi, List.filter_append]
  have hx : xs.getD i 0 = xs[i] := by simp [hi]
  rw [hx]
  by_cases h : xs[i] ∈ ys <;> simp [h]
end Go.Proofs.Ytlcipphiflcaiaa.Ai
namespace Go.Proofs.Ytlcipphiflcaiaa.Ai
open Go
def ords76 : List (Nat × List (Nat × Bool)) := []
def cd76 : Cd := (.seq (.reg [⟨⟨some 4, Op.assign (Operand.const (Value.slice none 0 0)), none⟩, []⟩]) (.seq (.reg [⟨⟨some 7, Op.buildSlice 25 0 #[], none⟩, []⟩,
  ⟨⟨some 5, Op.assign (Operand.tmp 7), none⟩, []⟩]) (.seq (.seq (.reg [⟨⟨some 6, Op.assign (Operand.const (Value.int IntKind.i64 0)), none⟩, []⟩]) (.block 0 (.loop (.seq (.seq (.reg [⟨⟨some 8, Op.move (Operand.tmp 6), none⟩, []⟩,
  ⟨⟨some 9, Op.move (Operand.tmp 0), none⟩, []⟩,
  ⟨⟨some 10, Op.call { callee := (Callee.builtin Builtin.len), args := #[(Operand.tmp 9)], argTypes := #[25] }, none⟩, []⟩,
  ⟨⟨some 11, Op.binOp BinOp.lss 3 (Operand.tmp 8) (Operand.tmp 10) 3, none⟩, []⟩]) (.cond (Operand.tmp 11) .skip (.exit 0))) (.seq (.block 1 (.seq (.reg [⟨⟨some 14, Op.move (Operand.tmp 1), none⟩, []⟩,
  ⟨⟨some 15, Op.move (Operand.tmp 0), none⟩, []⟩,
  ⟨⟨some 16, Op.move (Operand.tmp 6), none⟩, []⟩,
  ⟨⟨some 17, Op.indexAddr 25 (Operand.tmp 15) (Operand.tmp 16), none⟩, []⟩,
  ⟨⟨some 18, Op.load 3 (Operand.tmp 17), none⟩, []⟩,
  ⟨⟨some 19, Op.call { callee := (Callee.value (Operand.func 93)), args := #[(Operand.tmp 14), (Operand.tmp 18)], argTypes := #[25, 3] }, none⟩, []⟩,
  ⟨⟨some 20, Op.unOp UnOp.not 4 (Operand.tmp 19), none⟩, []⟩]) (.cond (Operand.tmp 20) (.reg [⟨⟨some 21, Op.move (Operand.tmp 5), none⟩, []⟩,
  ⟨⟨some 22, Op.move (Operand.tmp 0), none⟩, []⟩,
  ⟨⟨some 23, Op.move (Operand.tmp 6), none⟩, []⟩,
  ⟨⟨some 24, Op.indexAddr 25 (Operand.tmp 22) (Operand.tmp 23), none⟩, []⟩,
  ⟨⟨some 25, Op.load 3 (Operand.tmp 24), none⟩, []⟩,
  ⟨⟨some 26, Op.buildSlice 25 1 #[(0, (Operand.tmp 25))], none⟩, []⟩,
  ⟨⟨some 27, Op.call { callee := (Callee.builtin Builtin.append), args := #[(Operand.tmp 21), (Operand.tmp 26)], argTypes := #[25, 25] }, none⟩, []⟩,
  ⟨⟨some 5, Op.assign (Operand.tmp 27), none⟩, []⟩]) .skip))) (.reg [⟨⟨some 12, Op.move (Operand.tmp 6), none⟩, []⟩,
  ⟨⟨some 13, Op.binOp BinOp.add 3 (Operand.tmp 12) (Operand.const (Value.int IntKind.i64 1)) 3, none⟩, []⟩,
  ⟨⟨some 6, Op.assign (Operand.tmp 13), none⟩, []⟩])))))) (.seq (.reg [⟨⟨some 28, Op.move (Operand.tmp 5), none⟩, []⟩,
  ⟨⟨some 4, Op.assign (Operand.tmp 28), none⟩, []⟩]) .ret))))
theorem sl76 : slim Try.f76.ntmps ords76 (Try.f76.body.getD .skip) = some cd76 := by kernel_rfl
theorem in76 {args : List Value} {H : AH} {R : Value → AH → Prop} (hl : args.length = 2) (h : ∀ (Q : Exit → Sl → AH → Prop), (∀ e s H, endA Try.prog [ResultVar.tmp 4] R e s H → Q e s H) → wpC Try.prog cd76 Q (enterA args) H) : ACalls Try.prog 76 args H R :=
  ACalls.intro (by kernel_rfl) Try.func76 rfl (by kernel_rfl) sl76 hl (of_decide_eq_true (by kernel_rfl)) (by kernel_rfl) h
end Go.Proofs.Ytlcipphiflcaiaa.Ai
namespace Go.Proofs.Ytlcipphiflcaiaa.Ai
open Go Go.RowKit
set_option linter.unusedVariables false
set_option linter.unusedSimpArgs false
set_option maxRecDepth 20000 in
set_option maxHeartbeats 1000000 in
theorem l3Only_c (v w : Value) (xs ys : List Int) (H : AH) (hr : Row 3 H v xs) (hy : Row 3 H w ys) (hlen : xs.length ≤ 1000000) (hlen2 : ys.length ≤ 1000000) :
    ACalls Try.prog 76 [v, w] H fun r H' => Own 3 H H' r (without xs ys) ∧ H <+: H' := by
  refine in76 rfl ?_
  intro Q hQ
  simp (maxSteps := 1000000) (disch := omega) only [cd76, S, S1, S2, S3, S4, S5, ST, eq_self, reduceIte, reduceCtorEq, Nat.reduceEqDiff, Nat.reduceAdd]
  refine LoopH.by (fun m s H' => ∃ i, m + i = xs.length ∧ s 0 = v ∧ s 1 = w ∧ s 6 = .int .i64 ((i : Nat) : Int) ∧ Own 3 H H' (s 5) (without (xs.take i) ys) ∧ H <+: H') xs.length ?_ ?_
  · exact ⟨0, by simp, rfl, rfl, rfl, .inr ⟨H.length, rfl, Nat.le_refl _, at_new ..⟩, List.prefix_append _ _⟩
  · rintro m s H' ⟨i, hm, h0, h1, h6, ho, hp⟩
    have hr' := hr.pre hp
    have hy' := hy.pre hp
    generalize hu : s 5 = u at *
    simp (maxSteps := 1000000) (disch := omega) only [h0, h1, h6, hu, hr'.len Try.underlying25, S, S1, S2, S3, S4, S5, ST, eq_self, reduceIte, reduceCtorEq, Nat.reduceEqDiff, Nat.reduceAdd]
    refine brD.intro (fun g => ?_) (fun g => ?_)
    · have hi : i < xs.length := by omega
      have st := without_step xs ys i hi
      have le : (without (xs.take i) ys).length ≤ i := by
        unfold without
        refine Nat.le_trans (List.length_filter_le _ _) ?_
        simp; omega
      simp (maxSteps := 1000000) (disch := omega) only [h0, h1, h6, hu, hr'.ix Try.underlying25 cs3, hr'.cell, Int.toNat_natCast, S, S1, S2, S3, S4, S5, ST, eq_self, reduceIte, reduceCtorEq, Nat.reduceEqDiff, Nat.reduceAdd]
      refine CallH.by (l1Has_c w ys _ H' hy' (by omega)) ?_
      rintro _ _ ⟨rfl, rfl⟩
      simp (maxSteps := 1000000) (disch := omega) only [S, S1, S2, S3, S4, S5, ST, eq_self, reduceIte, reduceCtorEq, Nat.reduceEqDiff, Nat.reduceAdd]
      refine brD.intro (fun e => ?_) (fun e => ?_)
      · rw [if_pos e, List.append_nil] at st
        simp (maxSteps := 1000000) (disch := omega) only [h0, h1, h6, hu, wrap64, S, S1, S2, S3, S4, S5, ST, eq_self, reduceIte, reduceCtorEq, Nat.reduceEqDiff, Nat.reduceAdd]
        refine ⟨m - 1, by omega, i + 1, ?_⟩
        rw [st]
        (repeat' apply And.intro) <;> first | exact ho | exact hp | (simp only [Value.int.injEq, true_and]; omega) | omega | rfl | assumption | (simp; done) | (simp; omega)
      · rw [if_neg e] at st
        obtain ⟨v', H2, k1, k2, k3, k4, k5, k6⟩ := own1_25 ho hp (by omega) (xs.getD i 0)
        simp (maxSteps := 1000000) (disch := omega) only [h0, h1, h6, hu, hr'.ix Try.underlying25 cs3, hr'.cell, Int.toNat_natCast, k1, wrap64, S, S1, S2, S3, S4, S5, ST, eq_self, reduceIte, reduceCtorEq, Nat.reduceEqDiff, Nat.reduceAdd]
        refine ⟨m - 1, by omega, i + 1, ?_⟩
        rw [st]
        (repeat' apply And.intro) <;> first | exact k2 | exact k3 | (simp only [Value.int.injEq, true_and]; omega) | omega | rfl | assumption | (simp; done) | (simp; omega)
    · simp (maxSteps := 1000000) (disch := omega) only [hu, S, S1, S2, S3, S4, S5, ST, eq_self, reduceIte, reduceCtorEq, Nat.reduceEqDiff, Nat.reduceAdd]
      refine hQ _ _ _ ?_
      simp (maxSteps := 1000000) (disch := omega) only [hu, ho.row.tup, S, S1, S2, S3, S4, S5, ST, eq_self, reduceIte, reduceCtorEq, Nat.reduceEqDiff, Nat.reduceAdd]
      rw [List.take_of_length_le (by omega)] at ho
      exact ⟨ho, hp⟩
end Go.Proofs.Ytlcipphiflcaiaa.Ai
namespace Go.Proofs.Ytlcipphiflcaiaa.Ai
open Go
def ords64 : List (Nat × List (Nat × Bool)) := [(4, [(0, false), (1, false), (2, false), (3, false), (4, false), (5, false), (6, false), (7, false), (8, false), (9, false), (10, false), (11, false), (12, false), (13, false), (14, false), (15, false), (16, false), (17, false), (18, false), (19, true), (20, false), (21, false), (22, false)])]
def cd64 : Cd := (.seq (.reg [⟨⟨some 4, Op.box 32 (Operand.tmp 0), none⟩, []⟩,
  ⟨⟨some 8, Op.assign (Operand.const (Value.bool false)), none⟩, []⟩]) (.seq (.reg [⟨⟨some 11, Op.move (Operand.tmp 2), none⟩, []⟩,
  ⟨⟨some 12, Op.move (Operand.tmp 3), none⟩, []⟩,
  ⟨⟨some 13, Op.call { callee := (Callee.value (Operand.func 76)), args := #[(Operand.tmp 11), (Operand.tmp 12)], argTypes := #[25, 25] }, none⟩, []⟩,
  ⟨⟨some 14, Op.move (Operand.tmp 3), none⟩, []⟩,
  ⟨⟨some 15, Op.move (Operand.tmp 2), none⟩, []⟩,
  ⟨⟨some 16, Op.call { callee := (Callee.value (Operand.func 76)), args := #[(Operand.tmp 14), (Operand.tmp 15)], argTypes := #[25, 25] }, none⟩, []⟩,
  ⟨⟨some 9, Op.assign (Operand.tmp 13), none⟩, []⟩,
  ⟨⟨some 10, Op.assign (Operand.tmp 16), none⟩, []⟩]) (.seq (.seq (.reg [⟨⟨some 17, Op.move (Operand.tmp 1), none⟩, []⟩,
  ⟨⟨some 18, Op.binOp BinOp.eql 3 (Operand.tmp 17) (Operand.const (Value.int IntKind.i64 2)) 3, none⟩, []⟩]) (.cond (Operand.tmp 18) (.seq (.reg [⟨⟨some 19, Op.move (Operand.tmp 9), none⟩, []⟩,
  ⟨⟨some 20, Op.call { callee := (Callee.builtin Builtin.len), args := #[(Operand.tmp 19)], argTypes := #[25] }, none⟩, []⟩,
  ⟨⟨some 21, Op.move (Operand.tmp 10), none⟩, []⟩,
  ⟨⟨some 22, Op.call { callee := (Callee.builtin Builtin.len), args := #[(Operand.tmp 21)], argTypes := #[25] }, none⟩, []⟩,
  ⟨⟨some 23, Op.binOp BinOp.add 3 (Operand.tmp 20) (Operand.tmp 22) 3, none⟩, []⟩,
  ⟨⟨some 24, Op.binOp BinOp.eql 3 (Operand.tmp 23) (Operand.const (Value.int IntKind.i64 1)) 3, none⟩, []⟩,
  ⟨⟨some 8, Op.assign (Operand.tmp 24), none⟩, []⟩]) .ret) .skip)) (.seq (.reg [⟨⟨some 25, Op.move (Operand.tmp 9), none⟩, []⟩,
  ⟨⟨some 26, Op.call { callee := (Callee.builtin Builtin.len), args := #[(Operand.tmp 25)], argTypes := #[25] }, none⟩, []⟩,
  ⟨⟨some 27, Op.binOp BinOp.eql 3 (Operand.tmp 26) (Operand.const (Value.int IntKind.i64 1)) 3, none⟩, []⟩,
  ⟨⟨some 28, Op.move (Operand.tmp 27), none⟩, []⟩,
  ⟨⟨some 29, Op.move (Operand.tmp 10), some (28, true)⟩, []⟩,
  ⟨⟨some 30, Op.call { callee := (Callee.builtin Builtin.len), args := #[(Operand.tmp 29)], argTypes := #[25] }, some (28, true)⟩, []⟩,
  ⟨⟨some 31, Op.binOp BinOp.eql 3 (Operand.tmp 30) (Operand.const (Value.int IntKind.i64 1)) 3, some (28, true)⟩, []⟩,
  ⟨⟨some 32, Op.pick (Operand.tmp 28) (Operand.tmp 31) (Operand.const (Value.bool false)), none⟩, []⟩,
  ⟨⟨some 33, Op.move (Operand.tmp 32), none⟩, []⟩,
  ⟨⟨some 34, Op.move (Operand.tmp 1), some (33, true)⟩, []⟩,
  ⟨⟨some 35, Op.binOp BinOp.eql 3 (Operand.tmp 34) (Operand.const (Value.int IntKind.i64 1)) 3, some (33, true)⟩, []⟩,
  ⟨⟨some 36, Op.move (Operand.tmp 35), some (33, true)⟩, []⟩,
  ⟨⟨some 37, Op.load 32 (Operand.tmp 4), some (36, false)⟩, []⟩,
  ⟨⟨some 38, Op.move (Operand.tmp 9), some (36, false)⟩, []⟩,
  ⟨⟨some 39, Op.indexAddr 25 (Operand.tmp 38) (Operand.const (Value.int IntKind.i64 0)), some (36, false)⟩, []⟩,
  ⟨⟨some 40, Op.load 3 (Operand.tmp 39), some (36, false)⟩, []⟩,
  ⟨⟨some 41, Op.move (Operand.tmp 10), some (36, false)⟩, []⟩,
  ⟨⟨some 42, Op.indexAddr 25 (Operand.tmp 41) (Operand.const (Value.int IntKind.i64 0)), some (36, false)⟩, []⟩,
  ⟨⟨some 43, Op.load 3 (Operand.tmp 42), some (36, false)⟩, []⟩,
  ⟨⟨some 44, Op.call { callee := (Callee.value (Operand.func 77)), args := #[(Operand.tmp 37), (Operand.tmp 40), (Operand.tmp 43)], argTypes := #[32, 3, 3] }, some (36, false)⟩, []⟩,
  ⟨⟨some 45, Op.pick (Operand.tmp 36) (Operand.const (Value.bool true)) (Operand.tmp 44), some (33, true)⟩, []⟩,
  ⟨⟨some 46, Op.pick (Operand.tmp 33) (Operand.tmp 45) (Operand.const (Value.bool false)), none⟩, []⟩,
  ⟨⟨some 8, Op.assign (Operand.tmp 46), none⟩, []⟩]) .ret))))
theorem sl64 : slim Try.f64.ntmps ords64 (Try.f64.body.getD .skip) = some cd64 := by kernel_rfl
theorem in64 {args : List Value} {H : AH} {R : Value → AH → Prop} (hl : args.length = 4) (h : ∀ (Q : Exit → Sl → AH → Prop), (∀ e s H, endA Try.prog [ResultVar.tmp 8] R e s H → Q e s H) → wpC Try.prog cd64 Q (enterA args) H) : ACalls Try.prog 64 args H R :=
  ACalls.intro (by kernel_rfl) Try.func64 rfl (by kernel_rfl) sl64 hl (of_decide_eq_true (by kernel_rfl)) (by kernel_rfl) h
def ords43 : List (Nat × List (Nat × Bool)) := [(8, [(0, false), (1, false), (2, false), (3, false), (4, false), (5, false), (6, false), (7, false), (8, false), (9, false), (10, true)])]
def cd43 : Cd := (.seq (.reg [⟨⟨some 3, Op.box 32 (Operand.tmp 0), none⟩, []⟩,
  ⟨⟨some 6, Op.alloc 29, none⟩, []⟩]) (.seq (.reg [⟨⟨some 10, Op.move (Operand.tmp 2), none⟩, []⟩,
  ⟨⟨some 11, Op.buildSlice 22 0 #[], none⟩, []⟩,
  ⟨⟨some 12, Op.build 29 #[(0, (Operand.tmp 10)), (1, (Operand.tmp 11))], none⟩, []⟩,
  ⟨⟨some 7, Op.alloc 29, none⟩, []⟩,
  ⟨⟨none, Op.store 29 (Operand.tmp 7) (Operand.tmp 12), none⟩, []⟩]) (.seq (.seq (.reg [⟨⟨some 8, Op.assign (Operand.const (Value.int IntKind.i64 0)), none⟩, []⟩]) (.block 0 (.loop (.seq (.seq (.reg [⟨⟨some 13, Op.move (Operand.tmp 8), none⟩, []⟩,
  ⟨⟨some 14, Op.move (Operand.tmp 2), none⟩, []⟩,
  ⟨⟨some 15, Op.call { callee := (Callee.builtin Builtin.len), args := #[(Operand.tmp 14)], argTypes := #[27] }, none⟩, []⟩,
  ⟨⟨some 16, Op.binOp BinOp.lss 3 (Operand.tmp 13) (Operand.tmp 15) 3, none⟩, []⟩]) (.cond (Operand.tmp 16) .skip (.exit 0))) (.seq (.block 1 (.seq (.reg [⟨⟨some 19, Op.move (Operand.tmp 8), none⟩, []⟩,
  ⟨⟨some 20, Op.binOp BinOp.add 3 (Operand.tmp 19) (Operand.const (Value.int IntKind.i64 1)) 3, none⟩, []⟩,
  ⟨⟨some 9, Op.assign (Operand.tmp 20), none⟩, []⟩]) (.block 2 (.loop (.seq (.seq (.reg [⟨⟨some 21, Op.move (Operand.tmp 9), none⟩, []⟩,
  ⟨⟨some 22, Op.move (Operand.tmp 2), none⟩, []⟩,
  ⟨⟨some 23, Op.call { callee := (Callee.builtin Builtin.len), args := #[(Operand.tmp 22)], argTypes := #[27] }, none⟩, []⟩,
  ⟨⟨some 24, Op.binOp BinOp.lss 3 (Operand.tmp 21) (Operand.tmp 23) 3, none⟩, []⟩]) (.cond (Operand.tmp 24) .skip (.exit 2))) (.seq (.block 3 (.seq (.reg [⟨⟨some 27, Op.load 32 (Operand.tmp 3), none⟩, []⟩,
  ⟨⟨some 28, Op.move (Operand.tmp 1), none⟩, []⟩,
  ⟨⟨some 29, Op.move (Operand.tmp 2), none⟩, []⟩,
  ⟨⟨some 30, Op.move (Operand.tmp 8), none⟩, []⟩,
  ⟨⟨some 31, Op.indexAddr 27 (Operand.tmp 29) (Operand.tmp 30), none⟩, []⟩,
  ⟨⟨some 32, Op.load 25 (Operand.tmp 31), none⟩, []⟩,
  ⟨⟨some 33, Op.move (Operand.tmp 2), none⟩, []⟩,
  ⟨⟨some 34, Op.move (Operand.tmp 9), none⟩, []⟩,
  ⟨⟨some 35, Op.indexAddr 27 (Operand.tmp 33) (Operand.tmp 34), none⟩, []⟩,
  ⟨⟨some 36, Op.load 25 (Operand.tmp 35), none⟩, []⟩,
  ⟨⟨some 37, Op.call { callee := (Callee.value (Operand.func 64)), args := #[(Operand.tmp 27), (Operand.tmp 28), (Operand.tmp 32), (Operand.tmp 36)], argTypes := #[32, 3, 25, 25] }, none⟩, []⟩]) (.cond (Operand.tmp 37) (.reg [⟨⟨some 38, Op.fieldAddr 29 (Operand.tmp 7) 1, none⟩, []⟩,
  ⟨⟨some 39, Op.load 22 (Operand.tmp 38), none⟩, []⟩,
  ⟨⟨some 40, Op.move (Operand.tmp 8), none⟩, []⟩,
  ⟨⟨some 41, Op.move (Operand.tmp 9), none⟩, []⟩,
  ⟨⟨some 42, Op.build 65 #[(0, (Operand.tmp 40)), (1, (Operand.tmp 41))], none⟩, []⟩,
  ⟨⟨some 43, Op.buildSlice 22 1 #[(0, (Operand.tmp 42))], none⟩, []⟩,
  ⟨⟨some 44, Op.call { callee := (Callee.builtin Builtin.append), args := #[(Operand.tmp 39), (Operand.tmp 43)], argTypes := #[22, 22] }, none⟩, []⟩,
  ⟨⟨some 45, Op.fieldAddr 29 (Operand.tmp 7) 1, none⟩, []⟩,
  ⟨⟨none, Op.store 22 (Operand.tmp 45) (Operand.tmp 44), none⟩, []⟩]) .skip))) (.reg [⟨⟨some 25, Op.move (Operand.tmp 9), none⟩, []⟩,
  ⟨⟨some 26, Op.binOp BinOp.add 3 (Operand.tmp 25) (Operand.const (Value.int IntKind.i64 1)) 3, none⟩, []⟩,
  ⟨⟨some 9, Op.assign (Operand.tmp 26), none⟩, []⟩]))))))) (.reg [⟨⟨some 17, Op.move (Operand.tmp 8), none⟩, []⟩,
  ⟨⟨some 18, Op.binOp BinOp.add 3 (Operand.tmp 17) (Operand.const (Value.int IntKind.i64 1)) 3, none⟩, []⟩,
  ⟨⟨some 8, Op.assign (Operand.tmp 18), none⟩, []⟩])))))) (.seq (.reg [⟨⟨some 46, Op.load 29 (Operand.tmp 7), none⟩, []⟩,
  ⟨⟨none, Op.store 29 (Operand.tmp 6) (Operand.tmp 46), none⟩, []⟩]) .ret))))
theorem sl43 : slim Try.f43.ntmps ords43 (Try.f43.body.getD .skip) = some cd43 := by kernel_rfl
set_option maxRecDepth 20000 in
theorem in43 {args : List Value} {H : AH} {R : Value → AH → Prop} (hl : args.length = 3) (h : ∀ (Q : Exit → Sl → AH → Prop), (∀ e s H, endA Try.prog [ResultVar.cell 6 29] R e s H → Q e s H) → wpC Try.prog cd43 Q (enterA args) H) : ACalls Try.prog 43 args H R :=
  ACalls.intro (by kernel_rfl) Try.func43 rfl (by kernel_rfl) sl43 hl (of_decide_eq_true (by kernel_rfl)) (by kernel_rfl) h
end Go.Proofs.Ytlcipphiflcaiaa.Ai
namespace Go.Proofs.Ytlcipphiflcaiaa.Ai
open Go Go.RowKit
set_option linter.unusedVariables false
set_option linter.unusedSimpArgs false
/-- is there a step of a kind between two sets -/
def stB (es : List (Int × Int)) (kd : Int) (x y : List Int) : Bool :=
  if kd = 2 then decide (((without x y).length : Int) + ((without y x).length : Int) = 1)
  else decide (((without x y).length : Int) = 1) && (decide (((without y x).length : Int) = 1) && (decide (kd = 1) || nearB es ((without x y).getD 0 0) ((without y x).getD 0 0)))
theorem wo_le (x y : List Int) : (without x y).length ≤ x.length := by unfold without; exact List.length_filter_le _ _
set_option maxRecDepth 20000 in
set_option maxHeartbeats 4000000 in
theorem l3Step_c (n kd : Int) (v w u : Value) (es : List (Int × Int)) (xs ys : List Int) (H : AH) (hr : RowP 65 H v es) (hes : es.length ≤ 1099511627776) (hx : Row 3 H w xs) (hy : Row 3 H u ys) (hlx : xs.length ≤ 1000) (hly : ys.length ≤ 1000) :
    ACalls Try.prog 64 [.agg (List.toArray [.int .i64 n, v]), .int .i64 kd, w, u] H fun r H' => r = .bool (stB es kd xs ys) ∧ H <+: H' := by
  refine in64 rfl ?_
  intro Q hQ
  simp (maxSteps := 1000000) (disch := omega) only [cd64, hr.boxG, S, S1, S2, S3, S4, S5, ST, eq_self, reduceIte, reduceCtorEq, Nat.reduceEqDiff, Nat.reduceAdd]
  generalize hA : H ++ [AObj.cells [.int .i64 n, v] 32 false] = A
  have pA : H <+: A := by rw [← hA]; exact List.prefix_append _ _
  have cA : A[H.length]? = some (.cells [.int .i64 n, v] 32 false) := by rw [← hA]; exact at_new ..
  have rA := hr.pre pA
  refine CallH.by (l3Only_c w u xs ys A (hx.pre pA) (hy.pre pA) (by omega) (by omega)) ?_
  rintro p B ⟨hp, pB⟩
  simp (maxSteps := 1000000) (disch := omega) only [S, S1, S2, S3, S4, S5, ST, eq_self, reduceIte, reduceCtorEq, Nat.reduceEqDiff, Nat.reduceAdd]
  refine CallH.by (l3Only_c u w ys xs B ((hy.pre pA).pre pB) ((hx.pre pA).pre pB) (by omega) (by omega)) ?_
  rintro q C ⟨hq, pC⟩
  have hpC := hp.row.pre pC
  have hqC := hq.row
  have cC := pre_at (pB.trans pC) cA
  have pHC := pA.trans (pB.trans pC)
  have l1 := wo_le xs ys
  have l2 := wo_le ys xs
  simp (maxSteps := 1000000) (disch := omega) only [S, S1, S2, S3, S4, S5, ST, eq_self, reduceIte, reduceCtorEq, Nat.reduceEqDiff, Nat.reduceAdd]
  refine brD.intro (fun e => ?_) (fun e => ?_)
  · simp (maxSteps := 1000000) (disch := omega) only [hpC.len Try.underlying25, hqC.len Try.underlying25, wrap64, S, S1, S2, S3, S4, S5, ST, eq_self, reduceIte, reduceCtorEq, Nat.reduceEqDiff, Nat.reduceAdd]
    refine hQ _ _ _ ?_
    simp (maxSteps := 1000000) (disch := omega) only [S, S1, S2, S3, S4, S5, ST, eq_self, reduceIte, reduceCtorEq, Nat.reduceEqDiff, Nat.reduceAdd]
    exact ⟨by unfold stB; rw [if_pos e], pHC⟩
  by_cases e1 : ((without xs ys).length : Int) = 1
  rotate_left
  · simp (maxSteps := 1000000) (disch := omega) only [hpC.len Try.underlying25, decide_eq_false e1, S, S1, S2, S3, S4, S5, ST, eq_self, reduceIte, reduceCtorEq, Nat.reduceEqDiff, Nat.reduceAdd]
    refine hQ _ _ _ ?_
    simp (maxSteps := 1000000) (disch := omega) only [S, S1, S2, S3, S4, S5, ST, eq_self, reduceIte, reduceCtorEq, Nat.reduceEqDiff, Nat.reduceAdd]
    exact ⟨by unfold stB; rw [if_neg e, decide_eq_false e1]; rfl, pHC⟩
  by_cases e2 : ((without ys xs).length : Int) = 1
  rotate_left
  · simp (maxSteps := 1000000) (disch := omega) only [hpC.len Try.underlying25, decide_eq_true e1, hqC.len Try.underlying25, decide_eq_false e2, S, S1, S2, S3, S4, S5, ST, eq_self, reduceIte, reduceCtorEq, Nat.reduceEqDiff, Nat.reduceAdd]
    refine hQ _ _ _ ?_
    simp (maxSteps := 1000000) (disch := omega) only [S, S1, S2, S3, S4, S5, ST, eq_self, reduceIte, reduceCtorEq, Nat.reduceEqDiff, Nat.reduceAdd]
    exact ⟨by unfold stB; rw [if_neg e, decide_eq_true e1, decide_eq_false e2]; rfl, pHC⟩
  by_cases e3 : kd = 1
  · simp (maxSteps := 1000000) (disch := omega) only [hpC.len Try.underlying25, decide_eq_true e1, hqC.len Try.underlying25, decide_eq_true e2, decide_eq_true e3, S, S1, S2, S3, S4, S5, ST, eq_self, reduceIte, reduceCtorEq, Nat.reduceEqDiff, Nat.reduceAdd]
    refine hQ _ _ _ ?_
    simp (maxSteps := 1000000) (disch := omega) only [S, S1, S2, S3, S4, S5, ST, eq_self, reduceIte, reduceCtorEq, Nat.reduceEqDiff, Nat.reduceAdd]
    exact ⟨by unfold stB; rw [if_neg e, decide_eq_true e1, decide_eq_true e2, decide_eq_true e3]; rfl, pHC⟩
  have c1 := hpC.cell (show 0 < (without xs ys).length by omega)
  have c2 := hqC.cell (show 0 < (without ys xs).length by omega)
  rw [Nat.add_zero] at c1 c2
  simp (maxSteps := 1000000) (disch := omega) only [hpC.len Try.underlying25, decide_eq_true e1, hqC.len Try.underlying25, decide_eq_true e2, decide_eq_false e3, ld_agg ag32 cs32 cC, hpC.ix Try.underlying25 cs3, hqC.ix Try.underlying25 cs3, Int.toNat_zero, Nat.add_zero, c1, c2, S, S1, S2, S3, S4, S5, ST, eq_self, reduceIte, reduceCtorEq, Nat.reduceEqDiff, Nat.reduceAdd]
  refine CallH.by (l2Near_c n v es _ _ C (hr.pre pHC) hes) ?_
  rintro _ D ⟨rfl, pD⟩
  simp (maxSteps := 1000000) (disch := omega) only [S, S1, S2, S3, S4, S5, ST, eq_self, reduceIte, reduceCtorEq, Nat.reduceEqDiff, Nat.reduceAdd]
  refine hQ _ _ _ ?_
  simp (maxSteps := 1000000) (disch := omega) only [S, S1, S2, S3, S4, S5, ST, eq_self, reduceIte, reduceCtorEq, Nat.reduceEqDiff, Nat.reduceAdd]
  exact ⟨by unfold stB; rw [if_neg e, decide_eq_true e1, decide_eq_true e2, decide_eq_false e3]; rfl, pHC.trans pD⟩
set_option maxRecDepth 20000 in
set_option maxHeartbeats 8000000 in
theorem l3Space_c {H0 : AH} (n kd : Int) (v : Value) (es : List (Int × Int)) (hg : RowP 65 H0 v es) (hes : es.length ≤ 1099511627776) {a : Value} {ls : List (List Int)} {lo : Nat} (hL : InL lo H0.length 25 3 H0 a ls) (h9 : ls.length ≤ 1000) (hlen : ∀ l ∈ ls, l.length ≤ 1000) :
    ACalls Try.prog 43 [.agg (List.toArray [.int .i64 n, v]), .int .i64 kd, a] H0 fun r H' => ∃ b, r = .agg (List.toArray [a, b]) ∧ InP H0.length H'.length 65 H' b (steps (stB es kd) ls) ∧ H0 <+: H' := by
  refine in43 rfl ?_
  intro Q hQ
  obtain ⟨us, r1', r2, r3'⟩ := hL.parts
  obtain ⟨pa, hpa⟩ := r1'.shape
  simp (maxSteps := 1000000) (disch := omega) only [cd43, hg.boxG, alloc_sp, S, S1, S2, S3, S4, S5, ST, eq_self, reduceIte, reduceCtorEq, Nat.reduceEqDiff, Nat.reduceAdd]
  generalize hH : H0 ++ [AObj.cells [.int .i64 n, v] 32 false] = H
  have pH : H0 <+: H := by rw [← hH]; exact List.prefix_append _ _
  have cH : H[H0.length]? = some (.cells [.int .i64 n, v] 32 false) := by rw [← hH]; exact at_new ..
  have rH := hg.pre pH
  have r1 := r1'.pre pH
  have r3 : ∀ i, i < ls.length → Row 3 H (us.getD i undef) (ls.getD i []) := fun i hi => (r3' i hi).row.1.pre pH
  have lH : H.length = H0.length + 1 := by rw [← hH]; simp
  generalize hA : H ++ [AObj.cells [.slice none 0 0, .slice none 0 0] 29 false] = A
  have pA : H <+: A := by rw [← hA]; exact List.prefix_append _ _
  have cA : A[H.length]? = some (.cells [.slice none 0 0, .slice none 0 0] 29 false) := by rw [← hA]; exact at_new ..
  have lA : A.length = H.length + 1 := by rw [← hA]; simp
  generalize hE : A ++ [AObj.cells [] 65 false] = E
  have pE : A <+: E := by rw [← hE]; exact List.prefix_append _ _
  have lE : E.length = A.length + 1 := by rw [← hE]; simp
  have m0 : MineP 65 A E (.slice (some ⟨A.length, 0, none⟩) 0 0) [] := by rw [← hE]; exact MineP.nil0 (P := Try.prog) A A (Nat.le_refl _)
  have hb2 := bld_sp2 pa (some ⟨A.length, 0, none⟩) us.length us.length 0 0
  rw [← hpa] at hb2
  have st1 := st_ss (at_new E (.cells [.slice none 0 0, .slice none 0 0] 29 false)) rfl pa (some ⟨A.length, 0, none⟩) us.length us.length 0 0
  rw [set_new, ← hpa] at st1
  simp (maxSteps := 1000000) (disch := omega) only [hb2, alloc_sp, st1, S, S1, S2, S3, S4, S5, ST, eq_self, reduceIte, reduceCtorEq, Nat.reduceEqDiff, Nat.reduceAdd]
  generalize hG : E ++ [AObj.cells [a, .slice (some ⟨A.length, 0, none⟩) 0 0] 29 false] = G
  have pG : E <+: G := by rw [← hG]; exact List.prefix_append _ _
  have cG : G[E.length]? = some (.cells [a, .slice (some ⟨A.length, 0, none⟩) 0 0] 29 false) := by rw [← hG]; exact at_new ..
  have lG : G.length = E.length + 1 := by rw [← hG]; simp
  have pAG := pE.trans pG
  have rowA : ∀ {H'}, A <+: H' → RowV 25 H' a us := fun hp => r1.pre (pA.trans hp)
  have rowI : ∀ {H'} (i : Nat), i < ls.length → A <+: H' → Row 3 H' (us.getD i undef) (ls.getD i []) := fun i hi hp => (r3 i hi).pre (pA.trans hp)
  have sm : ∀ i, i < ls.length → (ls.getD i []).length ≤ 1000 := fun i hi => hlen _ (by simp [hi])
  have gG : ∀ {H'}, A <+: H' → H'[H0.length]? = some (.cells [.int .i64 n, v] 32 false) := fun hp => pre_at (pA.trans hp) cH
  refine LoopH.by (fun m s H' => ∃ i st, m + i = ls.length ∧ s 1 = .int .i64 kd ∧ s 2 = a ∧ s 3 = .pointer (some ⟨H0.length, 0, none⟩) ∧ s 6 = .pointer (some ⟨H.length, 0, none⟩) ∧ s 7 = .pointer (some ⟨E.length, 0, none⟩) ∧ s 8 = .int .i64 ((i : Nat) : Int) ∧ H'[E.length]? = some (.cells [a, st] 29 false) ∧ (rowO st = A.length ∨ G.length ≤ rowO st) ∧ st ≠ .slice none 0 0 ∧ MineP 65 A H' st (stpO (stB es kd) ls i) ∧ A <+: H') ls.length ?_ ?_
  · exact ⟨0, .slice (some ⟨A.length, 0, none⟩) 0 0, by simp, rfl, rfl, rfl, rfl, rfl, rfl, cG, .inl rfl, (by intro e; cases e), m0.pre pG, pAG⟩
  rintro m s H' ⟨i, st, hm, s1, s2, s3, s6, s7, s8, hc5, hst, hsn, hmn, hpp⟩
  simp (maxSteps := 1000000) (disch := omega) only [s1, s2, s3, s6, s7, s8, (rowA hpp).len Try.underlying27, r2, S, S1, S2, S3, S4, S5, ST, eq_self, reduceIte, reduceCtorEq, Nat.reduceEqDiff, Nat.reduceAdd]
  refine brD.intro (fun g => ?_) (fun g => ?_)
  rotate_left
  · have hi : i = ls.length := by omega
    subst hi
    have hrow : SpRow H' a st ls (stpO (stB es kd) ls ls.length) := ⟨⟨_, (hL.row.pre pH).pre (pA.trans hpp)⟩, hmn.row⟩
    have cAH := pre_at hpp cA
    have hstore := hrow.store cAH rfl
    simp (maxSteps := 1000000) (disch := omega) only [s1, s2, s3, s6, s7, s8, ld_agg ag29 cs29 hc5, hstore, S, S1, S2, S3, S4, S5, ST, eq_self, reduceIte, reduceCtorEq, Nat.reduceEqDiff, Nat.reduceAdd]
    have d4 := at_set (d := .cells [a, st] 29 false) cAH
    have lH' := hpp.length_le
    refine hQ _ _ _ (end_cell _ _ _ _ _ _ (.agg (List.toArray [a, st])) ?_ rfl ⟨st, rfl, ?_, ?_⟩)
    · simp (maxSteps := 1000000) (disch := omega) only [s6, ld_agg ag29 cs29 d4, S, S1, S2, S3, S4, S5, ST, eq_self, reduceIte, reduceCtorEq, Nat.reduceEqDiff, Nat.reduceAdd]
    · rcases InP.of hmn with q | ⟨o, zs, q1, q2, q3, q4, q5⟩
      · exact .inl q
      · exact .inr ⟨o, zs, q1, by omega, by simpa using q3, by rw [List.getElem?_set_ne (by omega)]; exact q4, q5⟩
    · exact pre_set (pH.trans (pA.trans hpp)) (by omega) _
  have hi : i < ls.length := by omega
  simp (maxSteps := 1000000) (disch := omega) only [s1, s2, s3, s6, s7, s8, wrap64, S, S1, S2, S3, S4, S5, ST, eq_self, reduceIte, reduceCtorEq, Nat.reduceEqDiff, Nat.reduceAdd]
  refine LoopH.by (fun m' s' H'' => ∃ j st', m' + j = ls.length - (i + 1) ∧ s' 1 = .int .i64 kd ∧ s' 2 = a ∧ s' 3 = .pointer (some ⟨H0.length, 0, none⟩) ∧ s' 6 = .pointer (some ⟨H.length, 0, none⟩) ∧ s' 7 = .pointer (some ⟨E.length, 0, none⟩) ∧ s' 8 = .int .i64 ((i : Nat) : Int) ∧ s' 9 = .int .i64 ((i + 1 + j : Nat) : Int) ∧ H''[E.length]? = some (.cells [a, st'] 29 false) ∧ (rowO st' = A.length ∨ G.length ≤ rowO st') ∧ st' ≠ .slice none 0 0 ∧ MineP 65 A H'' st' (stpO (stB es kd) ls i ++ stpI (stB es kd) ls i j) ∧ A <+: H'') (ls.length - (i + 1)) ?_ ?_
  · refine ⟨0, st, by simp, ?_⟩
    simp only [S, S1, S2, S3, S4, S5, ST, eq_self, reduceIte, reduceCtorEq, Nat.reduceEqDiff, Nat.reduceAdd, s1, s2, s3, s6, s7, s8]
    have f0 : MineP 65 A H' st (stpO (stB es kd) ls i ++ stpI (stB es kd) ls i 0) := by rw [stpI, List.append_nil]; exact hmn
    (repeat' first | exact hc5 | exact hst | exact hsn | exact f0 | exact hpp | apply And.intro) <;> first | (simp only [Value.int.injEq, true_and]; omega) | omega | rfl | assumption | (simp; done) | (simp; omega)
  · rintro m' s' H'' ⟨j, st', hm', g1, g2, g3, g6, g7, g8, g9, hc5', hst', hsn', hmn', hpp'⟩
    simp (maxSteps := 1000000) (disch := omega) only [g1, g2, g3, g6, g7, g8, g9, (rowA hpp').len Try.underlying27, r2, S, S1, S2, S3, S4, S5, ST, eq_self, reduceIte, reduceCtorEq, Nat.reduceEqDiff, Nat.reduceAdd]
    refine brD.intro (fun q => ?_) (fun q => ?_)
    · have hj : i + 1 + j < ls.length := by omega
      have hci := (rowA hpp').cell (show i < us.length by omega)
      have hcj := (rowA hpp').cell (show i + 1 + j < us.length by omega)
      have hgi := sm i hi
      have hgj := sm _ hj
      have cgH := gG hpp'
      simp (maxSteps := 1000000) (disch := omega) only [g1, g2, g3, g6, g7, g8, g9, ld_agg ag32 cs32 cgH, (rowA hpp').ix Try.underlying27 cs25, Int.toNat_natCast, hci, hcj, S, S1, S2, S3, S4, S5, ST, eq_self, reduceIte, reduceCtorEq, Nat.reduceEqDiff, Nat.reduceAdd]
      refine CallH.by (l3Step_c n kd v _ _ es _ _ H'' (hg.pre (pH.trans (pA.trans hpp'))) hes (rowI i hi hpp') (rowI (i + 1 + j) hj hpp') (by omega) (by omega)) ?_
      rintro _ K ⟨rfl, pK⟩
      have hcK := pre_at pK hc5'
      have hpK := hpp'.trans pK
      have hmK := hmn'.pre pK
      have hsl1 := stpO_len (stB es kd) ls i
      have hsl2 := stpI_len (stB es kd) ls i j
      have hmul : i * ls.length ≤ 1000 * 1000 := Nat.mul_le_mul (by omega) (by omega)
      have lK := hpK.length_le
      have l5 := at_lt hc5'
      have hne : ∀ o, o = E.length → o ≠ rowO st' := fun o ho => by omega
      simp (maxSteps := 1000000) (disch := omega) only [g1, g2, g3, g6, g7, g8, g9, S, S1, S2, S3, S4, S5, ST, eq_self, reduceIte, reduceCtorEq, Nat.reduceEqDiff, Nat.reduceAdd]
      refine brH.intro (fun ht => ?_) (fun ht => ?_)
      · have hstep : stpI (stB es kd) ls i (j + 1) = stpI (stB es kd) ls i j ++ [((i : Int), ((i + 1 + j : Nat) : Int))] := by rw [stpI, if_pos ht]
        obtain ⟨st2, H3, k1, k2, k3, k4, k5, k6⟩ := own1_22 hmK hpK (by rw [List.length_append]; omega) (i : Int) ((i + 1 + j : Nat) : Int)
        have d5 : H3[E.length]? = some (.cells [a, st'] 29 false) := k4 _ _ (.inr (hne _ rfl)) hcK
        obtain ⟨q2, hq2⟩ := k2.row.shape
        have t2 : st2.cells.toList = [st2] := by rw [hq2]; rfl
        have hst3 := st_at (P := Try.prog) (t := 22) (i := 1) (y := st2) cs22 d5 (by show 1 < 2; decide) k6 t2
        have lGK : G.length ≤ K.length := by have := pK.length_le; omega
        simp (maxSteps := 1000000) (disch := omega) only [ht, g1, g2, g3, g6, g7, g8, g9, cell_of hcK, build_a2, wrap64, k1, hst3, S, S1, S2, S3, S4, S5, ST, eq_self, reduceIte, reduceCtorEq, Nat.reduceEqDiff, Nat.reduceAdd]
        have f5 : (H3.set E.length (.cells ([a, st'].set 1 st2) 29 false))[E.length]? = some (.cells [a, st2] 29 false) := by
          rw [List.getElem?_set_self (at_lt d5)]; rfl
        have fs1 : rowO st2 = A.length ∨ G.length ≤ rowO st2 := .inr (by omega)
        have fs2 : st2 ≠ .slice none 0 0 := by
          intro hh
          rw [hh] at k5
          have : rowO (Value.slice none 0 0) = 0 := rfl
          omega
        have fm : MineP 65 A (H3.set E.length (.cells ([a, st'].set 1 st2) 29 false)) st2 (stpO (stB es kd) ls i ++ stpI (stB es kd) ls i (j + 1)) := by
          rw [hstep, ← List.append_assoc]
          exact k2.keepL fun hl y hy => by rw [List.getElem?_set_ne (by omega)]; exact hy
        have fp : A <+: H3.set E.length (.cells ([a, st'].set 1 st2) 29 false) := pre_set k3 (by omega) _
        refine ⟨m' - 1, by omega, j + 1, st2, ?_⟩
        (repeat' first | exact f5 | exact fs1 | exact fs2 | exact fm | exact fp | apply And.intro) <;> first | (simp only [Value.int.injEq, true_and]; omega) | omega | rfl | assumption | (simp; done) | (simp; omega)
      · have hstep : stpI (stB es kd) ls i (j + 1) = stpI (stB es kd) ls i j := by rw [stpI, if_neg (by rw [ht]; decide), List.append_nil]
        rw [← hstep] at hmK
        simp (maxSteps := 1000000) (disch := omega) only [ht, g1, g2, g3, g6, g7, g8, g9, wrap64, S, S1, S2, S3, S4, S5, ST, eq_self, reduceIte, reduceCtorEq, Nat.reduceEqDiff, Nat.reduceAdd]
        refine ⟨m' - 1, by omega, j + 1, st', ?_⟩
        (repeat' first | exact hcK | exact hst' | exact hsn' | exact hmK | exact hpK | apply And.intro) <;> first | (simp only [Value.int.injEq, true_and]; omega) | omega | rfl | assumption | (simp; done) | (simp; omega)
    · have hjj : j = ls.length - (i + 1) := by omega
      subst hjj
      have hstO : stpO (stB es kd) ls (i + 1) = stpO (stB es kd) ls i ++ stpI (stB es kd) ls i (ls.length - (i + 1)) := rfl
      rw [← hstO] at hmn'
      simp (maxSteps := 1000000) (disch := omega) only [g1, g2, g3, g6, g7, g8, g9, wrap64, S, S1, S2, S3, S4, S5, ST, eq_self, reduceIte, reduceCtorEq, Nat.reduceEqDiff, Nat.reduceAdd]
      refine ⟨m - 1, by omega, i + 1, st', ?_⟩
      (repeat' first | exact hc5' | exact hst' | exact hsn' | exact hmn' | exact hpp' | apply And.intro) <;> first | (simp only [Value.int.injEq, true_and]; omega) | omega | rfl | assumption | (simp; done) | (simp; omega)
end Go.Proofs.Ytlcipphiflcaiaa.Ai
namespace Go.Proofs.Ytlcipphiflcaiaa.Ai
open Go
def ords26 : List (Nat × List (Nat × Bool)) := []
def cd26 : Cd := (.seq (.reg [⟨⟨some 1, Op.box 29 (Operand.tmp 0), none⟩, []⟩,
  ⟨⟨some 2, Op.alloc 29, none⟩, []⟩,
  ⟨⟨some 3, Op.assign (Operand.const (Value.bool false)), none⟩, []⟩]) (.seq (.seq (.reg [⟨⟨some 4, Op.fieldAddr 29 (Operand.tmp 1) 0, none⟩, []⟩,
  ⟨⟨some 5, Op.load 27 (Operand.tmp 4), none⟩, []⟩,
  ⟨⟨some 6, Op.call { callee := (Callee.builtin Builtin.len), args := #[(Operand.tmp 5)], argTypes := #[27] }, none⟩, []⟩,
  ⟨⟨some 7, Op.binOp BinOp.gtr 3 (Operand.tmp 6) (Operand.const (Value.int IntKind.i64 300)) 3, none⟩, []⟩,
  ⟨⟨some 8, Op.move (Operand.tmp 7), none⟩, []⟩,
  ⟨⟨some 9, Op.fieldAddr 29 (Operand.tmp 1) 1, some (8, false)⟩, []⟩,
  ⟨⟨some 10, Op.load 22 (Operand.tmp 9), some (8, false)⟩, []⟩,
  ⟨⟨some 11, Op.call { callee := (Callee.builtin Builtin.len), args := #[(Operand.tmp 10)], argTypes := #[22] }, some (8, false)⟩, []⟩,
  ⟨⟨some 12, Op.binOp BinOp.gtr 3 (Operand.tmp 11) (Operand.const (Value.int IntKind.i64 6000)) 3, some (8, false)⟩, []⟩,
  ⟨⟨some 13, Op.pick (Operand.tmp 8) (Operand.const (Value.bool true)) (Operand.tmp 12), none⟩, []⟩]) (.cond (Operand.tmp 13) (.seq (.reg [⟨⟨some 14, Op.build 29 #[], none⟩, []⟩,
  ⟨⟨none, Op.store 29 (Operand.tmp 2) (Operand.tmp 14), none⟩, []⟩,
  ⟨⟨some 3, Op.assign (Operand.const (Value.bool false)), none⟩, []⟩]) .ret) .skip)) (.seq (.reg [⟨⟨some 15, Op.load 29 (Operand.tmp 1), none⟩, []⟩,
  ⟨⟨none, Op.store 29 (Operand.tmp 2) (Operand.tmp 15), none⟩, []⟩,
  ⟨⟨some 3, Op.assign (Operand.const (Value.bool true)), none⟩, []⟩]) .ret)))
theorem sl26 : slim Try.f26.ntmps ords26 (Try.f26.body.getD .skip) = some cd26 := by kernel_rfl
set_option maxRecDepth 20000 in
theorem in26 {args : List Value} {H : AH} {R : Value → AH → Prop} (hl : args.length = 1) (h : ∀ (Q : Exit → Sl → AH → Prop), (∀ e s H, endA Try.prog [ResultVar.cell 2 29, ResultVar.tmp 3] R e s H → Q e s H) → wpC Try.prog cd26 Q (enterA args) H) : ACalls Try.prog 26 args H R :=
  ACalls.intro (by kernel_rfl) Try.func26 rfl (by kernel_rfl) sl26 hl (of_decide_eq_true (by kernel_rfl)) (by kernel_rfl) h
end Go.Proofs.Ytlcipphiflcaiaa.Ai
namespace Go.Proofs.Ytlcipphiflcaiaa.Ai
open Go Go.RowKit
set_option linter.unusedVariables false
set_option linter.unusedSimpArgs false
set_option maxRecDepth 20000 in
set_option maxHeartbeats 2000000 in
theorem orNone_c (a b : Value) (ls : List (List Int)) (ps : List (Int × Int)) (H : AH) (hr : SpRow H a b ls ps) (hl : ls.length ≤ 300) (hp : ps.length ≤ 6000) :
    ACalls Try.prog 26 [.agg (List.toArray [a, b])] H fun r H' => r = .tuple (List.toArray [.agg (List.toArray [a, b]), .bool true]) ∧ H <+: H' := by
  refine in26 rfl ?_
  intro Q hQ
  simp (maxSteps := 1000000) (disch := omega) only [cd26, hr.box, S, S1, S2, S3, S4, S5, ST, eq_self, reduceIte, reduceCtorEq, Nat.reduceEqDiff, Nat.reduceAdd]
  generalize hA0 : H ++ [AObj.cells [a, b] 29 false] = A0
  have pA0 : H <+: A0 := by rw [← hA0]; exact List.prefix_append _ _
  have cA0 : A0[H.length]? = some (.cells [a, b] 29 false) := by rw [← hA0]; exact at_new ..
  simp (maxSteps := 1000000) (disch := omega) only [alloc_sp, S, S1, S2, S3, S4, S5, ST, eq_self, reduceIte, reduceCtorEq, Nat.reduceEqDiff, Nat.reduceAdd]
  generalize hA : A0 ++ [AObj.cells [.slice none 0 0, .slice none 0 0] 29 false] = A
  have pA : A0 <+: A := by rw [← hA]; exact List.prefix_append _ _
  have cA : A[A0.length]? = some (.cells [.slice none 0 0, .slice none 0 0] 29 false) := by rw [← hA]; exact at_new ..
  have cB := pre_at pA cA0
  have rA := hr.pre (pA0.trans pA)
  obtain ⟨bd, us, r1, r2, r3⟩ := rA.1
  have g1 : ¬ (300 < (us.length : Int)) := by omega
  have g2 : ¬ (6000 < (ps.length : Int)) := by omega
  have hst := rA.store cA rfl
  simp (maxSteps := 1000000) (disch := omega) only [cell_of cB, r1.len Try.underlying27, rA.2.len Try.underlying22, decide_eq_false g1, decide_eq_false g2, ld_agg ag29 cs29 cB, hst, S, S1, S2, S3, S4, S5, ST, eq_self, reduceIte, reduceCtorEq, Nat.reduceEqDiff, Nat.reduceAdd]
  have d4 := at_set (d := .cells [a, b] 29 false) cA
  refine hQ _ _ _ (end_cell2 _ _ _ _ _ _ _ (.agg (List.toArray [a, b])) (.bool true) ?_ rfl ?_ rfl ⟨rfl, ?_⟩)
  · simp (maxSteps := 1000000) (disch := omega) only [ld_agg ag29 cs29 d4, S, S1, S2, S3, S4, S5, ST, eq_self, reduceIte, reduceCtorEq, Nat.reduceEqDiff, Nat.reduceAdd]
  · simp (maxSteps := 1000000) (disch := omega) only [S, S1, S2, S3, S4, S5, ST, eq_self, reduceIte, reduceCtorEq, Nat.reduceEqDiff, Nat.reduceAdd]
  · exact pre_set (pA0.trans pA) (by have := pA0.length_le; omega) _
end Go.Proofs.Ytlcipphiflcaiaa.Ai
namespace Go.Proofs.Ytlcipphiflcaiaa.Ai
open Go
def ords66 : List (Nat × List (Nat × Bool)) := []
def cd66 : Cd := (.seq (.reg [⟨⟨some 4, Op.assign (Operand.const (Value.int IntKind.i64 0)), none⟩, []⟩]) (.seq (.seq (.reg [⟨⟨some 6, Op.move (Operand.tmp 0), none⟩, []⟩,
  ⟨⟨some 7, Op.call { callee := (Callee.builtin Builtin.len), args := #[(Operand.tmp 6)], argTypes := #[25] }, none⟩, []⟩,
  ⟨⟨some 8, Op.move (Operand.const (Value.int IntKind.i64 0)), none⟩, []⟩]) (.block 0 (.loop (.seq (.reg [⟨⟨some 9, Op.binOp BinOp.lss 3 (Operand.tmp 8) (Operand.tmp 7) 3, none⟩, []⟩]) (.seq (.cond (Operand.tmp 9) .skip (.exit 0)) (.seq (.block 1 (.seq (.reg [⟨⟨some 10, Op.move (Operand.tmp 8), none⟩, []⟩,
  ⟨⟨some 5, Op.assign (Operand.tmp 10), none⟩, []⟩]) (.seq (.reg [⟨⟨some 11, Op.move (Operand.tmp 1), none⟩, []⟩,
  ⟨⟨some 12, Op.move (Operand.tmp 0), none⟩, []⟩,
  ⟨⟨some 13, Op.move (Operand.tmp 5), none⟩, []⟩,
  ⟨⟨some 14, Op.indexAddr 25 (Operand.tmp 12) (Operand.tmp 13), none⟩, []⟩,
  ⟨⟨some 15, Op.load 3 (Operand.tmp 14), none⟩, []⟩,
  ⟨⟨some 16, Op.call { callee := (Callee.value (Operand.tmp 11)), args := #[(Operand.tmp 15)], argTypes := #[3] }, none⟩, []⟩]) (.cond (Operand.tmp 16) (.seq (.reg [⟨⟨some 17, Op.move (Operand.tmp 5), none⟩, []⟩,
  ⟨⟨some 4, Op.assign (Operand.tmp 17), none⟩, []⟩]) .ret) .skip)))) (.reg [⟨⟨some 18, Op.binOp BinOp.add 3 (Operand.tmp 8) (Operand.const (Value.int IntKind.i64 1)) 3, none⟩, []⟩,
  ⟨⟨some 8, Op.move (Operand.tmp 18), none⟩, []⟩]))))))) (.seq (.reg [⟨⟨some 4, Op.assign (Operand.const (Value.int IntKind.i64 (-1))), none⟩, []⟩]) .ret)))
theorem sl66 : slim Try.f66.ntmps ords66 (Try.f66.body.getD .skip) = some cd66 := by kernel_rfl
theorem in66 {args : List Value} {H : AH} {R : Value → AH → Prop} (hl : args.length = 2) (h : ∀ (Q : Exit → Sl → AH → Prop), (∀ e s H, endA Try.prog [ResultVar.tmp 4] R e s H → Q e s H) → wpC Try.prog cd66 Q (enterA args) H) : ACalls Try.prog 66 args H R :=
  ACalls.intro (by kernel_rfl) Try.func66 rfl (by kernel_rfl) sl66 hl (of_decide_eq_true (by kernel_rfl)) (by kernel_rfl) h
def ords46 : List (Nat × List (Nat × Bool)) := []
def cd46 : Cd := (.seq (.reg [⟨⟨some 4, Op.assign (Operand.const (Value.bool false)), none⟩, []⟩]) (.seq (.reg [⟨⟨some 5, Op.move (Operand.tmp 0), none⟩, []⟩,
  ⟨⟨some 6, Op.move (Operand.tmp 1), none⟩, []⟩,
  ⟨⟨some 7, Op.call { callee := (Callee.value (Operand.func 66)), args := #[(Operand.tmp 5), (Operand.tmp 6)], argTypes := #[25, 68] }, none⟩, []⟩,
  ⟨⟨some 8, Op.binOp BinOp.geq 3 (Operand.tmp 7) (Operand.const (Value.int IntKind.i64 0)) 3, none⟩, []⟩,
  ⟨⟨some 4, Op.assign (Operand.tmp 8), none⟩, []⟩]) .ret))
theorem sl46 : slim Try.f46.ntmps ords46 (Try.f46.body.getD .skip) = some cd46 := by kernel_rfl
theorem in46 {args : List Value} {H : AH} {R : Value → AH → Prop} (hl : args.length = 2) (h : ∀ (Q : Exit → Sl → AH → Prop), (∀ e s H, endA Try.prog [ResultVar.tmp 4] R e s H → Q e s H) → wpC Try.prog cd46 Q (enterA args) H) : ACalls Try.prog 46 args H R :=
  ACalls.intro (by kernel_rfl) Try.func46 rfl (by kernel_rfl) sl46 hl (of_decide_eq_true (by kernel_rfl)) (by kernel_rfl) h
end Go.Proofs.Ytlcipphiflcaiaa.Ai
namespace Go.Proofs.Ytlcipphiflcaiaa.Ai
open Go Go.RowKit
set_option linter.unusedVariables false
set_option linter.unusedSimpArgs false
theorem I64.tdiv {x : Int} (h : I64 x) : IntKind.i64.wrap (x.tdiv 10) = x.tdiv 10 := by
  obtain ⟨h1, h2⟩ := h
  have hle : (x.tdiv 10).natAbs ≤ x.natAbs := by rw [Int.natAbs_tdiv]; exact Nat.div_le_self _ _
  by_cases h0 : 0 ≤ x
  · have := Int.tdiv_nonneg h0 (by decide : (0 : Int) ≤ 10)
    exact wrap64 (by omega) (by omega)
  · rw [IntKind.wrap_i64]
    have : (x.tdiv 10).natAbs ≤ 922337203685477580 := by
      rw [Int.natAbs_tdiv]
      show x.natAbs / 10 ≤ _
      omega
    omega
/-- two diagonals cross -/
def Crs (x y : Int) : Prop := x.tdiv 10 < y.tdiv 10 ∧ y.tdiv 10 < x.tmod 10 ∧ x.tmod 10 < y.tmod 10 ∨ y.tdiv 10 < x.tdiv 10 ∧ x.tdiv 10 < y.tmod 10 ∧ y.tmod 10 < x.tmod 10
instance (x y : Int) : Decidable (Crs x y) := inferInstanceAs (Decidable (_ ∨ _))
theorem IndexFunc_c (v : Value) (xs : List Int) (p : Int → Bool) (g : FuncId) (caps : List Value) (H : AH) (hr : Row 3 H v xs) (hlen : xs.length ≤ 1099511627776)
    (hp : ∀ x ∈ xs, ACalls Try.prog g (.int .i64 x :: caps) H fun r H' => r = .bool (p x) ∧ H = H') :
    ACalls Try.prog 66 [v, .func (.func g) #[] (List.toArray caps)] H fun r H' => r = .int .i64 (idxP p xs 0) ∧ H = H' := by
  refine in66 rfl ?_
  intro Q hQ
  simp (maxSteps := 1000000) (disch := omega) only [cd66, hr.len Try.underlying25, S, S1, S2, S3, S4, S5, ST, eq_self, reduceIte, reduceCtorEq, Nat.reduceEqDiff, Nat.reduceAdd]
  refine LoopH.by (fun m s H' => ∃ i, m + i = xs.length ∧ s 0 = v ∧ s 1 = .func (.func g) #[] (List.toArray caps) ∧ s 8 = .int .i64 ((i : Nat) : Int) ∧ s 7 = .int .i64 (xs.length : Int) ∧ H = H' ∧ idxP p xs 0 = idxP p (xs.drop i) i) xs.length ?_ ?_
  · exact ⟨0, by simp, rfl, rfl, rfl, rfl, rfl, by simp⟩
  · rintro m s H' ⟨i, hm, h0, h1, h8, h7, rfl, hn⟩
    simp (maxSteps := 1000000) (disch := omega) only [h0, h1, h8, h7, S, S1, S2, S3, S4, S5, ST, eq_self, reduceIte, reduceCtorEq, Nat.reduceEqDiff, Nat.reduceAdd]
    refine brD.intro (fun g => ?_) (fun g => ?_) <;> simp (maxSteps := 1000000) (disch := omega) only [h0, h1, h8, h7, hr.ix Try.underlying25 cs3, hr.cell, Int.toNat_natCast, S, S1, S2, S3, S4, S5, ST, eq_self, reduceIte, reduceCtorEq, Nat.reduceEqDiff, Nat.reduceAdd]
    · have hi : i < xs.length := by omega
      have hg : xs.getD i 0 = xs[i] := by simp [hi]
      rw [idxP_step p xs i hi] at hn
      refine CallH.by (hp (xs.getD i 0) (by rw [hg]; exact List.getElem_mem hi)) ?_
      rintro _ _ ⟨rfl, rfl⟩
      simp (maxSteps := 1000000) (disch := omega) only [S, S1, S2, S3, S4, S5, ST, eq_self, reduceIte, reduceCtorEq, Nat.reduceEqDiff, Nat.reduceAdd]
      refine brH.intro (fun e => ?_) (fun e => ?_) <;> simp (maxSteps := 1000000) (disch := omega) only [h0, h1, h8, h7, wrap64, S, S1, S2, S3, S4, S5, ST, eq_self, reduceIte, reduceCtorEq, Nat.reduceEqDiff, Nat.reduceAdd]
      · refine hQ _ _ _ ?_
        simp (maxSteps := 1000000) (disch := omega) only [S, S1, S2, S3, S4, S5, ST, eq_self, reduceIte, reduceCtorEq, Nat.reduceEqDiff, Nat.reduceAdd]
        rw [hn, if_pos e]
      · rw [if_neg (by rw [e]; decide)] at hn
        exact ⟨m - 1, by omega, i + 1, by omega, by simp, hn⟩
    · refine hQ _ _ _ ?_
      simp (maxSteps := 1000000) (disch := omega) only [S, S1, S2, S3, S4, S5, ST, eq_self, reduceIte, reduceCtorEq, Nat.reduceEqDiff, Nat.reduceAdd]
      rw [hn, List.drop_of_length_le (by omega)]; rfl
theorem ContainsFunc_c (v : Value) (xs : List Int) (p : Int → Bool) (g : FuncId) (caps : List Value) (H : AH) (hr : Row 3 H v xs) (hlen : xs.length ≤ 1099511627776)
    (hp : ∀ x ∈ xs, ACalls Try.prog g (.int .i64 x :: caps) H fun r H' => r = .bool (p x) ∧ H = H') :
    ACalls Try.prog 46 [v, .func (.func g) #[] (List.toArray caps)] H fun r H' => r = .bool (xs.any p) ∧ H = H' := by
  refine in46 rfl ?_
  intro Q hQ
  simp (maxSteps := 1000000) (disch := omega) only [cd46, S, S1, S2, S3, S4, S5, ST, eq_self, reduceIte, reduceCtorEq, Nat.reduceEqDiff, Nat.reduceAdd]
  refine CallH.by (IndexFunc_c v xs p g caps H hr hlen hp) ?_
  rintro _ _ ⟨rfl, rfl⟩
  simp (maxSteps := 1000000) (disch := omega) only [S, S1, S2, S3, S4, S5, ST, eq_self, reduceIte, reduceCtorEq, Nat.reduceEqDiff, Nat.reduceAdd]
  refine hQ _ _ _ ?_
  simp (maxSteps := 1000000) (disch := omega) only [S, S1, S2, S3, S4, S5, ST, eq_self, reduceIte, reduceCtorEq, Nat.reduceEqDiff, Nat.reduceAdd]
  have := idxP_any p xs 0
  by_cases h : 0 ≤ idxP p xs 0
  · simp [h, this.1 h]
  · have h2 : xs.any p = false := by cases e : xs.any p <;> first | rfl | exact absurd (this.2 e) h
    simp [h, h2]
/-- a diagonal of a polygon -/
def Diag (n d : Int) : Prop := 0 ≤ d ∧ d.tmod 10 < n ∧ 1 < d.tmod 10 - d.tdiv 10 ∧ ¬ (d.tdiv 10 = 0 ∧ d.tmod 10 = n - 1)
instance (n d : Int) : Decidable (Diag n d) := inferInstanceAs (Decidable (_ ∧ _))
end Go.Proofs.Ytlcipphiflcaiaa.Ai
namespace Go.Proofs.Ytlcipphiflcaiaa.Ai
open Go Go.RowKit
set_option linter.unusedVariables false
set_option linter.unusedSimpArgs false
noncomputable instance (n : Nat) (es : List (Int × Int)) (T : List Int) : Decidable (TreL n es T) := Classical.propDecidable _
theorem keepsA {H C G : AH} {o : Nat} (k : Keeps o C G) (hp : H <+: C) (ho : H.length ≤ o) : H <+: G := prefix_of fun j y hy => k.2 j y (by have := at_lt hy; omega) (pre_at hp hy)
theorem mkf_2T (f : Fn) (p q : Option Addr) : makeFuncA f [] [.pointer p, .pointer q] = some (.func f #[] (List.toArray [.pointer p, .pointer q])) := rfl
end Go.Proofs.Ytlcipphiflcaiaa.Ai
namespace Go.Proofs.Ytlcipphiflcaiaa.Ai
open Go
def ords63 : List (Nat × List (Nat × Bool)) := [(5, [(0, false), (1, false), (2, false), (3, false), (4, false), (5, false), (6, false), (7, false), (8, false), (9, false), (10, false), (11, true), (12, false), (13, true)])]
def cd63 : Cd := (.seq (.reg [⟨⟨some 2, Op.box 32 (Operand.tmp 0), none⟩, []⟩,
  ⟨⟨some 4, Op.alloc 32, none⟩, []⟩]) (.seq (.reg [⟨⟨some 7, Op.fieldAddr 32 (Operand.tmp 2) 0, none⟩, []⟩,
  ⟨⟨some 8, Op.load 3 (Operand.tmp 7), none⟩, []⟩,
  ⟨⟨some 9, Op.buildSlice 22 0 #[], none⟩, []⟩,
  ⟨⟨some 10, Op.build 32 #[(0, (Operand.tmp 8)), (1, (Operand.tmp 9))], none⟩, []⟩,
  ⟨⟨some 5, Op.alloc 32, none⟩, []⟩,
  ⟨⟨none, Op.store 32 (Operand.tmp 5) (Operand.tmp 10), none⟩, []⟩]) (.seq (.seq (.reg [⟨⟨some 6, Op.assign (Operand.const (Value.int IntKind.i64 0)), none⟩, []⟩]) (.block 0 (.loop (.seq (.seq (.reg [⟨⟨some 11, Op.move (Operand.tmp 6), none⟩, []⟩,
  ⟨⟨some 12, Op.move (Operand.tmp 1), none⟩, []⟩,
  ⟨⟨some 13, Op.call { callee := (Callee.builtin Builtin.len), args := #[(Operand.tmp 12)], argTypes := #[25] }, none⟩, []⟩,
  ⟨⟨some 14, Op.binOp BinOp.lss 3 (Operand.tmp 11) (Operand.tmp 13) 3, none⟩, []⟩]) (.cond (Operand.tmp 14) .skip (.exit 0))) (.seq (.block 1 (.reg [⟨⟨some 17, Op.fieldAddr 32 (Operand.tmp 5) 1, none⟩, []⟩,
  ⟨⟨some 18, Op.load 22 (Operand.tmp 17), none⟩, []⟩,
  ⟨⟨some 19, Op.fieldAddr 32 (Operand.tmp 2) 1, none⟩, []⟩,
  ⟨⟨some 20, Op.load 22 (Operand.tmp 19), none⟩, []⟩,
  ⟨⟨some 21, Op.move (Operand.tmp 1), none⟩, []⟩,
  ⟨⟨some 22, Op.move (Operand.tmp 6), none⟩, []⟩,
  ⟨⟨some 23, Op.indexAddr 25 (Operand.tmp 21) (Operand.tmp 22), none⟩, []⟩,
  ⟨⟨some 24, Op.load 3 (Operand.tmp 23), none⟩, []⟩,
  ⟨⟨some 25, Op.indexAddr 22 (Operand.tmp 20) (Operand.tmp 24), none⟩, []⟩,
  ⟨⟨some 26, Op.load 65 (Operand.tmp 25), none⟩, []⟩,
  ⟨⟨some 27, Op.buildSlice 22 1 #[(0, (Operand.tmp 26))], none⟩, []⟩,
  ⟨⟨some 28, Op.call { callee := (Callee.builtin Builtin.append), args := #[(Operand.tmp 18), (Operand.tmp 27)], argTypes := #[22, 22] }, none⟩, []⟩,
  ⟨⟨some 29, Op.fieldAddr 32 (Operand.tmp 5) 1, none⟩, []⟩,
  ⟨⟨none, Op.store 22 (Operand.tmp 29) (Operand.tmp 28), none⟩, []⟩])) (.reg [⟨⟨some 15, Op.move (Operand.tmp 6), none⟩, []⟩,
  ⟨⟨some 16, Op.binOp BinOp.add 3 (Operand.tmp 15) (Operand.const (Value.int IntKind.i64 1)) 3, none⟩, []⟩,
  ⟨⟨some 6, Op.assign (Operand.tmp 16), none⟩, []⟩])))))) (.seq (.reg [⟨⟨some 30, Op.load 32 (Operand.tmp 5), none⟩, []⟩,
  ⟨⟨none, Op.store 32 (Operand.tmp 4) (Operand.tmp 30), none⟩, []⟩]) .ret))))
theorem sl63 : slim Try.f63.ntmps ords63 (Try.f63.body.getD .skip) = some cd63 := by kernel_rfl
set_option maxRecDepth 20000 in
theorem in63 {args : List Value} {H : AH} {R : Value → AH → Prop} (hl : args.length = 2) (h : ∀ (Q : Exit → Sl → AH → Prop), (∀ e s H, endA Try.prog [ResultVar.cell 4 32] R e s H → Q e s H) → wpC Try.prog cd63 Q (enterA args) H) : ACalls Try.prog 63 args H R :=
  ACalls.intro (by kernel_rfl) Try.func63 rfl (by kernel_rfl) sl63 hl (of_decide_eq_true (by kernel_rfl)) (by kernel_rfl) h
def ords38 : List (Nat × List (Nat × Bool)) := []
def cd38 : Cd := (.seq (.reg [⟨⟨some 1, Op.box 32 (Operand.tmp 0), none⟩, []⟩,
  ⟨⟨some 2, Op.assign (Operand.const (Value.bool false)), none⟩, []⟩]) (.seq (.reg [⟨⟨some 3, Op.load 32 (Operand.tmp 1), none⟩, []⟩,
  ⟨⟨some 4, Op.call { callee := (Callee.value (Operand.func 61)), args := #[(Operand.tmp 3)], argTypes := #[32] }, none⟩, []⟩,
  ⟨⟨some 5, Op.move (Operand.tmp 4), none⟩, []⟩,
  ⟨⟨some 6, Op.fieldAddr 32 (Operand.tmp 1) 0, some (5, true)⟩, []⟩,
  ⟨⟨some 7, Op.load 3 (Operand.tmp 6), some (5, true)⟩, []⟩,
  ⟨⟨some 8, Op.binOp BinOp.gtr 3 (Operand.tmp 7) (Operand.const (Value.int IntKind.i64 0)) 3, some (5, true)⟩, []⟩,
  ⟨⟨some 9, Op.pick (Operand.tmp 5) (Operand.tmp 8) (Operand.const (Value.bool false)), none⟩, []⟩,
  ⟨⟨some 2, Op.assign (Operand.tmp 9), none⟩, []⟩]) .ret))
theorem sl38 : slim Try.f38.ntmps ords38 (Try.f38.body.getD .skip) = some cd38 := by kernel_rfl
theorem in38 {args : List Value} {H : AH} {R : Value → AH → Prop} (hl : args.length = 1) (h : ∀ (Q : Exit → Sl → AH → Prop), (∀ e s H, endA Try.prog [ResultVar.tmp 2] R e s H → Q e s H) → wpC Try.prog cd38 Q (enterA args) H) : ACalls Try.prog 38 args H R :=
  ACalls.intro (by kernel_rfl) Try.func38 rfl (by kernel_rfl) sl38 hl (of_decide_eq_true (by kernel_rfl)) (by kernel_rfl) h
end Go.Proofs.Ytlcipphiflcaiaa.Ai
namespace Go.Proofs.Ytlcipphiflcaiaa.Ai
open Go Go.RowKit
set_option linter.unusedVariables false
set_option linter.unusedSimpArgs false
theorem bld_gr (n : Int) (p : Option Addr) (k c : Nat) : buildA Try.prog 32 [(0, .int .i64 n), (1, .slice p k c)] = some (.agg (List.toArray [.int .i64 n, .slice p k c])) := by kernel_rfl
theorem prt_len (es : List (Int × Int)) (T : List Int) : (prtG es T).length = T.length := by simp [prtG]
set_option maxRecDepth 20000 in
set_option maxHeartbeats 4000000 in
theorem l7Part_c (n : Int) (v w : Value) (es : List (Int × Int)) (T : List Int) (H : AH) (hr : RowP 65 H v es) (hw : Row 3 H w T) (hT : EdIn es T) (hlen : T.length ≤ 1000000) :
    ACalls Try.prog 63 [.agg (List.toArray [.int .i64 n, v]), w] H fun r H' => ∃ b, r = .agg (List.toArray [.int .i64 n, b]) ∧ MineP 65 H H' b (prtG es T) ∧ H <+: H' := by
  refine in63 rfl ?_
  intro Q hQ
  simp (maxSteps := 1000000) (disch := omega) only [cd63, hr.boxG, S, S1, S2, S3, S4, S5, ST, eq_self, reduceIte, reduceCtorEq, Nat.reduceEqDiff, Nat.reduceAdd]
  generalize hB : H ++ [AObj.cells [.int .i64 n, v] 32 false] = B
  have pB : H <+: B := by rw [← hB]; exact List.prefix_append _ _
  have cB : B[H.length]? = some (.cells [.int .i64 n, v] 32 false) := by rw [← hB]; exact at_new ..
  have rB := hr.pre pB
  simp (maxSteps := 1000000) (disch := omega) only [alloc_G, cell_of cB, S, S1, S2, S3, S4, S5, ST, eq_self, reduceIte, reduceCtorEq, Nat.reduceEqDiff, Nat.reduceAdd]
  generalize hA : B ++ [AObj.cells [.int .i64 0, .slice none 0 0] 32 false] = A
  have pBA : B <+: A := by rw [← hA]; exact List.prefix_append _ _
  have cA : A[B.length]? = some (.cells [.int .i64 0, .slice none 0 0] 32 false) := by rw [← hA]; exact at_new ..
  have lA : A.length = B.length + 1 := by rw [← hA]; simp
  have gA := pre_at pBA cB
  simp (maxSteps := 1000000) (disch := omega) only [cell_of gA, S, S1, S2, S3, S4, S5, ST, eq_self, reduceIte, reduceCtorEq, Nat.reduceEqDiff, Nat.reduceAdd]
  generalize hE : A ++ [AObj.cells [] 65 false] = E
  have pE : A <+: E := by rw [← hE]; exact List.prefix_append _ _
  have lE : E.length = A.length + 1 := by rw [← hE]; simp
  have m0 : MineP 65 A E (.slice (some ⟨A.length, 0, none⟩) 0 0) [] := by rw [← hE]; exact MineP.nil0 (P := Try.prog) A A (Nat.le_refl _)
  have hb2 := bld_gr n (some ⟨A.length, 0, none⟩) 0 0
  have st1 := st_G m0.row (at_new E (.cells [.int .i64 0, .slice none 0 0] 32 false)) rfl n
  rw [set_new] at st1
  simp (maxSteps := 1000000) (disch := omega) only [hb2, alloc_G, st1, S, S1, S2, S3, S4, S5, ST, eq_self, reduceIte, reduceCtorEq, Nat.reduceEqDiff, Nat.reduceAdd]
  generalize hG : E ++ [AObj.cells [.int .i64 n, .slice (some ⟨A.length, 0, none⟩) 0 0] 32 false] = G
  have pG : E <+: G := by rw [← hG]; exact List.prefix_append _ _
  have cG : G[E.length]? = some (.cells [.int .i64 n, .slice (some ⟨A.length, 0, none⟩) 0 0] 32 false) := by rw [← hG]; exact at_new ..
  have lG : G.length = E.length + 1 := by rw [← hG]; simp
  have pAG := pE.trans pG
  have pHA := pB.trans pBA
  refine LoopH.by (fun m s H' => ∃ i st, m + i = T.length ∧ s 1 = w ∧ s 2 = .pointer (some ⟨H.length, 0, none⟩) ∧ s 4 = .pointer (some ⟨B.length, 0, none⟩) ∧ s 5 = .pointer (some ⟨E.length, 0, none⟩) ∧ s 6 = .int .i64 ((i : Nat) : Int) ∧ H'[E.length]? = some (.cells [.int .i64 n, st] 32 false) ∧ (rowO st = A.length ∨ G.length ≤ rowO st) ∧ st ≠ .slice none 0 0 ∧ MineP 65 A H' st (prtG es (T.take i)) ∧ A <+: H') T.length ?_ ?_
  · exact ⟨0, .slice (some ⟨A.length, 0, none⟩) 0 0, by simp, rfl, rfl, rfl, rfl, rfl, cG, .inl rfl, (by intro e; cases e), m0.pre pG, pAG⟩
  rintro m s H' ⟨i, st, hm, s1, s2, s4, s5, s6, hc5, hst, hsn, hmn, hpp⟩
  have wH := hw.pre (pHA.trans hpp)
  have rH := rB.pre (pBA.trans hpp)
  have gH := pre_at hpp gA
  simp (maxSteps := 1000000) (disch := omega) only [s1, s2, s4, s5, s6, wH.len Try.underlying25, S, S1, S2, S3, S4, S5, ST, eq_self, reduceIte, reduceCtorEq, Nat.reduceEqDiff, Nat.reduceAdd]
  refine brD.intro (fun g => ?_) (fun g => ?_)
  · have hi : i < T.length := by omega
    have hcw := wH.cell hi
    have hmem : T.getD i 0 ∈ T := by simp [hi]
    have her := hT _ hmem
    have htk : T.take (i + 1) = T.take i ++ [T.getD i 0] := by rw [List.take_succ_eq_append_getElem hi]; simp [hi]
    have hi2 : (T.getD i 0).toNat < es.length := by omega
    obtain ⟨st2, H3, k1, k2, k3, k4, k5, k6⟩ := own1_22 hmn hpp (by rw [prt_len, List.length_take]; omega) (es.getD (T.getD i 0).toNat (0, 0)).1 (es.getD (T.getD i 0).toNat (0, 0)).2
    have l5 := at_lt hc5
    have lH := hpp.length_le
    have hne : E.length ≠ rowO st := by omega
    have d5 : H3[E.length]? = some (.cells [.int .i64 n, st] 32 false) := k4 _ _ (.inr hne) hc5
    obtain ⟨q2, hq2⟩ := k2.row.shape
    have t2 : st2.cells.toList = [st2] := by rw [hq2]; rfl
    have hst3 := st_at (P := Try.prog) (t := 22) (i := 1) (y := st2) cs22 d5 (by show 1 < 2; decide) k6 t2
    simp (maxSteps := 1000000) (disch := omega) only [s1, s2, s4, s5, s6, cell_of hc5, cell_of gH, wH.ix Try.underlying25 cs3, hcw, Int.toNat_natCast, rH.ix Try.underlying22 cs65, rH.ld ag65 cs65 hi2, k1, hst3, wrap64, S, S1, S2, S3, S4, S5, ST, eq_self, reduceIte, reduceCtorEq, Nat.reduceEqDiff, Nat.reduceAdd]
    have f5 : (H3.set E.length (.cells ([.int .i64 n, st].set 1 st2) 32 false))[E.length]? = some (.cells [.int .i64 n, st2] 32 false) := by
      rw [List.getElem?_set_self (at_lt d5)]; rfl
    have fs1 : rowO st2 = A.length ∨ G.length ≤ rowO st2 := .inr (by omega)
    have fs2 : st2 ≠ .slice none 0 0 := by
      intro hh
      rw [hh] at k5
      have : rowO (Value.slice none 0 0) = 0 := rfl
      omega
    have fm : MineP 65 A (H3.set E.length (.cells ([.int .i64 n, st].set 1 st2) 32 false)) st2 (prtG es (T.take (i + 1))) := by
      have e1 : prtG es (T.take (i + 1)) = prtG es (T.take i) ++ [((es.getD (T.getD i 0).toNat (0, 0)).1, (es.getD (T.getD i 0).toNat (0, 0)).2)] := by rw [htk]; simp [prtG]
      rw [e1]
      exact k2.keepL fun hl y hy => by rw [List.getElem?_set_ne (by omega)]; exact hy
    have fp : A <+: H3.set E.length (.cells ([.int .i64 n, st].set 1 st2) 32 false) := pre_set k3 (by omega) _
    refine ⟨m - 1, by omega, i + 1, st2, ?_⟩
    (repeat' first | exact f5 | exact fs1 | exact fs2 | exact fm | exact fp | apply And.intro) <;> first | (simp only [Value.int.injEq, true_and]; omega) | omega | rfl | assumption | (simp; done) | (simp; omega)
  · have hi : i = T.length := by omega
    subst hi
    rw [List.take_length] at hmn
    have cAH := pre_at hpp cA
    have hstore := st_G hmn.row cAH rfl n
    simp (maxSteps := 1000000) (disch := omega) only [s1, s2, s4, s5, s6, ld_agg ag32 cs32 hc5, hstore, S, S1, S2, S3, S4, S5, ST, eq_self, reduceIte, reduceCtorEq, Nat.reduceEqDiff, Nat.reduceAdd]
    have d4 := at_set (d := .cells [.int .i64 n, st] 32 false) cAH
    have lH' := hpp.length_le
    refine hQ _ _ _ (end_cell _ _ _ _ _ _ (.agg (List.toArray [.int .i64 n, st])) ?_ rfl ⟨st, rfl, ?_, ?_⟩)
    · simp (maxSteps := 1000000) (disch := omega) only [s4, ld_agg ag32 cs32 d4, S, S1, S2, S3, S4, S5, ST, eq_self, reduceIte, reduceCtorEq, Nat.reduceEqDiff, Nat.reduceAdd]
    · refine (hmn.base pHA).keep fun y hy => ?_
      rw [List.getElem?_set_ne (by omega)]; exact hy
    · exact pre_set (pHA.trans hpp) (by have := pB.length_le; omega) _
theorem l7Some_c (n : Int) (v : Value) (es : List (Int × Int)) (H : AH) (hr : RowP 65 H v es) (hl : es.length ≤ 1099511627776) :
    ACalls Try.prog 38 [.agg (List.toArray [.int .i64 n, v])] H fun r H' => r = .bool (decide (Grd n es ∧ 0 < n)) ∧ H <+: H' := by
  refine in38 rfl ?_
  intro Q hQ
  simp (maxSteps := 1000000) (disch := omega) only [cd38, hr.boxG, S, S1, S2, S3, S4, S5, ST, eq_self, reduceIte, reduceCtorEq, Nat.reduceEqDiff, Nat.reduceAdd]
  generalize hA : H ++ [AObj.cells [.int .i64 n, v] 32 false] = A
  have pA : H <+: A := by rw [← hA]; exact List.prefix_append _ _
  have cA : A[H.length]? = some (.cells [.int .i64 n, v] 32 false) := by rw [← hA]; exact at_new ..
  have rA := hr.pre pA
  simp (maxSteps := 1000000) (disch := omega) only [ld_agg ag32 cs32 cA, S, S1, S2, S3, S4, S5, ST, eq_self, reduceIte, reduceCtorEq, Nat.reduceEqDiff, Nat.reduceAdd]
  refine CallH.by (l2Good_c n v es A rA hl) ?_
  rintro _ B ⟨rfl, pB⟩
  have cB := pre_at pB cA
  by_cases e : Grd n es
  rotate_left
  · simp (maxSteps := 1000000) (disch := omega) only [decide_eq_false e, S, S1, S2, S3, S4, S5, ST, eq_self, reduceIte, reduceCtorEq, Nat.reduceEqDiff, Nat.reduceAdd]
    refine hQ _ _ _ ?_
    simp (maxSteps := 1000000) (disch := omega) only [S, S1, S2, S3, S4, S5, ST, eq_self, reduceIte, reduceCtorEq, Nat.reduceEqDiff, Nat.reduceAdd]
    refine ⟨?_, pA.trans pB⟩
    rw [decide_eq_false fun h : Grd n es ∧ 0 < n => e h.1]
  simp (maxSteps := 1000000) (disch := omega) only [decide_eq_true e, cell_of cB, S, S1, S2, S3, S4, S5, ST, eq_self, reduceIte, reduceCtorEq, Nat.reduceEqDiff, Nat.reduceAdd]
  refine hQ _ _ _ ?_
  simp (maxSteps := 1000000) (disch := omega) only [S, S1, S2, S3, S4, S5, ST, eq_self, reduceIte, reduceCtorEq, Nat.reduceEqDiff, Nat.reduceAdd]
  refine ⟨?_, pA.trans pB⟩
  rw [Value.bool.injEq, decide_eq_decide]
  exact ⟨fun h => ⟨e, h⟩, fun h => h.2⟩
end Go.Proofs.Ytlcipphiflcaiaa.Ai
namespace Go.Proofs.Ytlcipphiflcaiaa.Ai
open Go
def ords40 : List (Nat × List (Nat × Bool)) := [(2, [(0, false), (1, false), (2, false), (3, false), (4, false), (5, false), (6, false), (7, false), (8, false), (9, true)]), (3, [(0, false), (1, false), (2, false), (3, false), (5, false), (6, false), (8, false), (9, false), (4, true), (7, true), (10, false), (11, false), (12, false), (13, false)])]
def cd40 : Cd := (.seq (.reg [⟨⟨some 2, Op.box 32 (Operand.tmp 0), none⟩, []⟩,
  ⟨⟨some 4, Op.assign (Operand.const (Value.bool false)), none⟩, []⟩]) (.seq (.reg [⟨⟨some 7, Op.move (Operand.tmp 1), none⟩, []⟩,
  ⟨⟨some 8, Op.call { callee := (Callee.builtin Builtin.len), args := #[(Operand.tmp 7)], argTypes := #[25] }, none⟩, []⟩,
  ⟨⟨some 9, Op.binOp BinOp.sub 3 (Operand.tmp 8) (Operand.const (Value.int IntKind.i64 1)) 3, none⟩, []⟩,
  ⟨⟨some 5, Op.assign (Operand.tmp 9), none⟩, []⟩]) (.seq (.reg [⟨⟨some 10, Op.fieldAddr 32 (Operand.tmp 2) 1, none⟩, []⟩,
  ⟨⟨some 11, Op.load 22 (Operand.tmp 10), none⟩, []⟩,
  ⟨⟨some 12, Op.move (Operand.tmp 1), none⟩, []⟩,
  ⟨⟨some 13, Op.move (Operand.tmp 5), none⟩, []⟩,
  ⟨⟨some 14, Op.indexAddr 25 (Operand.tmp 12) (Operand.tmp 13), none⟩, []⟩,
  ⟨⟨some 15, Op.load 3 (Operand.tmp 14), none⟩, []⟩,
  ⟨⟨some 16, Op.indexAddr 22 (Operand.tmp 11) (Operand.tmp 15), none⟩, []⟩,
  ⟨⟨some 17, Op.load 65 (Operand.tmp 16), none⟩, []⟩,
  ⟨⟨some 6, Op.alloc 65, none⟩, []⟩,
  ⟨⟨none, Op.store 65 (Operand.tmp 6) (Operand.tmp 17), none⟩, []⟩]) (.seq (.reg [⟨⟨some 18, Op.load 32 (Operand.tmp 2), none⟩, []⟩,
  ⟨⟨some 19, Op.move (Operand.tmp 1), none⟩, []⟩,
  ⟨⟨some 20, Op.move (Operand.tmp 5), none⟩, []⟩,
  ⟨⟨some 21, Op.slice 25 (Operand.tmp 19) none (some (Operand.tmp 20)) none, none⟩, []⟩,
  ⟨⟨some 23, Op.indexAddr 65 (Operand.tmp 6) (Operand.const (Value.int IntKind.i64 0)), none⟩, []⟩,
  ⟨⟨some 24, Op.load 3 (Operand.tmp 23), none⟩, []⟩,
  ⟨⟨some 26, Op.indexAddr 65 (Operand.tmp 6) (Operand.const (Value.int IntKind.i64 1)), none⟩, []⟩,
  ⟨⟨some 27, Op.load 3 (Operand.tmp 26), none⟩, []⟩,
  ⟨⟨some 22, Op.call { callee := (Callee.value (Operand.func 63)), args := #[(Operand.tmp 18), (Operand.tmp 21)], argTypes := #[32, 25] }, none⟩, [⟨some 27, Op.load 3 (Operand.tmp 26), none⟩, ⟨some 24, Op.load 3 (Operand.tmp 23), none⟩]⟩,
  ⟨⟨some 25, Op.call { callee := (Callee.value (Operand.func 62)), args := #[(Operand.tmp 22), (Operand.tmp 24)], argTypes := #[32, 3] }, none⟩, [⟨some 27, Op.load 3 (Operand.tmp 26), none⟩]⟩,
  ⟨⟨some 28, Op.indexAddr 25 (Operand.tmp 25) (Operand.tmp 27), none⟩, []⟩,
  ⟨⟨some 29, Op.load 3 (Operand.tmp 28), none⟩, []⟩,
  ⟨⟨some 30, Op.binOp BinOp.geq 3 (Operand.tmp 29) (Operand.const (Value.int IntKind.i64 0)) 3, none⟩, []⟩,
  ⟨⟨some 4, Op.assign (Operand.tmp 30), none⟩, []⟩]) .ret))))
theorem sl40 : slim Try.f40.ntmps ords40 (Try.f40.body.getD .skip) = some cd40 := by kernel_rfl
theorem in40 {args : List Value} {H : AH} {R : Value → AH → Prop} (hl : args.length = 2) (h : ∀ (Q : Exit → Sl → AH → Prop), (∀ e s H, endA Try.prog [ResultVar.tmp 4] R e s H → Q e s H) → wpC Try.prog cd40 Q (enterA args) H) : ACalls Try.prog 40 args H R :=
  ACalls.intro (by kernel_rfl) Try.func40 rfl (by kernel_rfl) sl40 hl (of_decide_eq_true (by kernel_rfl)) (by kernel_rfl) h
def ords39 : List (Nat × List (Nat × Bool)) := []
def cd39 : Cd := (.seq (.reg [⟨⟨some 4, Op.box 32 (Operand.tmp 0), none⟩, []⟩,
  ⟨⟨some 8, Op.assign (Operand.const (Value.slice none 0 0)), none⟩, []⟩]) (.seq (.seq (.reg [⟨⟨some 11, Op.move (Operand.tmp 1), none⟩, []⟩,
  ⟨⟨some 12, Op.call { callee := (Callee.builtin Builtin.len), args := #[(Operand.tmp 11)], argTypes := #[25] }, none⟩, []⟩,
  ⟨⟨some 13, Op.fieldAddr 32 (Operand.tmp 4) 0, none⟩, []⟩,
  ⟨⟨some 14, Op.load 3 (Operand.tmp 13), none⟩, []⟩,
  ⟨⟨some 15, Op.binOp BinOp.sub 3 (Operand.tmp 14) (Operand.const (Value.int IntKind.i64 1)) 3, none⟩, []⟩,
  ⟨⟨some 16, Op.binOp BinOp.eql 3 (Operand.tmp 12) (Operand.tmp 15) 3, none⟩, []⟩]) (.cond (Operand.tmp 16) (.seq (.reg [⟨⟨some 17, Op.move (Operand.tmp 3), none⟩, []⟩,
  ⟨⟨some 18, Op.move (Operand.tmp 1), none⟩, []⟩,
  ⟨⟨some 19, Op.call { callee := (Callee.value (Operand.func 41)), args := #[(Operand.tmp 18)], argTypes := #[25] }, none⟩, []⟩,
  ⟨⟨some 20, Op.buildSlice 27 1 #[(0, (Operand.tmp 19))], none⟩, []⟩,
  ⟨⟨some 21, Op.call { callee := (Callee.builtin Builtin.append), args := #[(Operand.tmp 17), (Operand.tmp 20)], argTypes := #[27, 27] }, none⟩, []⟩,
  ⟨⟨some 8, Op.assign (Operand.tmp 21), none⟩, []⟩]) .ret) .skip)) (.seq (.seq (.reg [⟨⟨some 22, Op.move (Operand.tmp 2), none⟩, []⟩,
  ⟨⟨some 9, Op.assign (Operand.tmp 22), none⟩, []⟩]) (.block 0 (.loop (.seq (.seq (.reg [⟨⟨some 23, Op.move (Operand.tmp 9), none⟩, []⟩,
  ⟨⟨some 24, Op.fieldAddr 32 (Operand.tmp 4) 1, none⟩, []⟩,
  ⟨⟨some 25, Op.load 22 (Operand.tmp 24), none⟩, []⟩,
  ⟨⟨some 26, Op.call { callee := (Callee.builtin Builtin.len), args := #[(Operand.tmp 25)], argTypes := #[22] }, none⟩, []⟩,
  ⟨⟨some 27, Op.binOp BinOp.lss 3 (Operand.tmp 23) (Operand.tmp 26) 3, none⟩, []⟩,
  ⟨⟨some 28, Op.move (Operand.tmp 27), none⟩, []⟩,
  ⟨⟨some 29, Op.move (Operand.tmp 3), some (28, true)⟩, []⟩,
  ⟨⟨some 30, Op.call { callee := (Callee.builtin Builtin.len), args := #[(Operand.tmp 29)], argTypes := #[27] }, some (28, true)⟩, []⟩,
  ⟨⟨some 31, Op.binOp BinOp.leq 3 (Operand.tmp 30) (Operand.const (Value.int IntKind.i64 300)) 3, some (28, true)⟩, []⟩,
  ⟨⟨some 32, Op.pick (Operand.tmp 28) (Operand.tmp 31) (Operand.const (Value.bool false)), none⟩, []⟩]) (.cond (Operand.tmp 32) .skip (.exit 0))) (.seq (.block 1 (.seq (.reg [⟨⟨some 35, Op.move (Operand.tmp 1), none⟩, []⟩,
  ⟨⟨some 36, Op.call { callee := (Callee.value (Operand.func 41)), args := #[(Operand.tmp 35)], argTypes := #[25] }, none⟩, []⟩,
  ⟨⟨some 37, Op.move (Operand.tmp 9), none⟩, []⟩,
  ⟨⟨some 38, Op.buildSlice 25 1 #[(0, (Operand.tmp 37))], none⟩, []⟩,
  ⟨⟨some 39, Op.call { callee := (Callee.builtin Builtin.append), args := #[(Operand.tmp 36), (Operand.tmp 38)], argTypes := #[25, 25] }, none⟩, []⟩,
  ⟨⟨some 10, Op.assign (Operand.tmp 39), none⟩, []⟩]) (.seq (.reg [⟨⟨some 40, Op.load 32 (Operand.tmp 4), none⟩, []⟩,
  ⟨⟨some 41, Op.move (Operand.tmp 10), none⟩, []⟩,
  ⟨⟨some 42, Op.call { callee := (Callee.value (Operand.func 40)), args := #[(Operand.tmp 40), (Operand.tmp 41)], argTypes := #[32, 25] }, none⟩, []⟩,
  ⟨⟨some 43, Op.unOp UnOp.not 4 (Operand.tmp 42), none⟩, []⟩]) (.cond (Operand.tmp 43) (.reg [⟨⟨some 44, Op.load 32 (Operand.tmp 4), none⟩, []⟩,
  ⟨⟨some 45, Op.move (Operand.tmp 10), none⟩, []⟩,
  ⟨⟨some 46, Op.move (Operand.tmp 9), none⟩, []⟩,
  ⟨⟨some 47, Op.binOp BinOp.add 3 (Operand.tmp 46) (Operand.const (Value.int IntKind.i64 1)) 3, none⟩, []⟩,
  ⟨⟨some 48, Op.move (Operand.tmp 3), none⟩, []⟩,
  ⟨⟨some 49, Op.call { callee := (Callee.value (Operand.func 39)), args := #[(Operand.tmp 44), (Operand.tmp 45), (Operand.tmp 47), (Operand.tmp 48)], argTypes := #[32, 25, 3, 27] }, none⟩, []⟩,
  ⟨⟨some 3, Op.assign (Operand.tmp 49), none⟩, []⟩]) .skip)))) (.reg [⟨⟨some 33, Op.move (Operand.tmp 9), none⟩, []⟩,
  ⟨⟨some 34, Op.binOp BinOp.add 3 (Operand.tmp 33) (Operand.const (Value.int IntKind.i64 1)) 3, none⟩, []⟩,
  ⟨⟨some 9, Op.assign (Operand.tmp 34), none⟩, []⟩])))))) (.seq (.reg [⟨⟨some 50, Op.move (Operand.tmp 3), none⟩, []⟩,
  ⟨⟨some 8, Op.assign (Operand.tmp 50), none⟩, []⟩]) .ret))))
theorem sl39 : slim Try.f39.ntmps ords39 (Try.f39.body.getD .skip) = some cd39 := by kernel_rfl
theorem in39 {args : List Value} {H : AH} {R : Value → AH → Prop} (hl : args.length = 4) (h : ∀ (Q : Exit → Sl → AH → Prop), (∀ e s H, endA Try.prog [ResultVar.tmp 8] R e s H → Q e s H) → wpC Try.prog cd39 Q (enterA args) H) : ACalls Try.prog 39 args H R :=
  ACalls.intro (by kernel_rfl) Try.func39 rfl (by kernel_rfl) sl39 hl (of_decide_eq_true (by kernel_rfl)) (by kernel_rfl) h
end Go.Proofs.Ytlcipphiflcaiaa.Ai
namespace Go.Proofs.Ytlcipphiflcaiaa.Ai
open Go Go.RowKit
set_option linter.unusedVariables false
set_option linter.unusedSimpArgs false
theorem take_app (N : Nat) (a b c : List (List Int)) : ((a ++ b).take N ++ c).take N = (a ++ (b ++ c)).take N := by
  rw [← List.append_assoc]
  generalize a ++ b = d
  rw [List.take_append, List.take_append, List.take_take, Nat.min_self, List.length_take]
  by_cases h : N ≤ d.length
  · rw [Nat.min_eq_left h, Nat.sub_self, Nat.sub_eq_zero_of_le h]
  · rw [Nat.min_eq_right (by omega)]
set_option maxRecDepth 20000 in
set_option maxHeartbeats 4000000 in
theorem l7Closes_c (n : Nat) (v w : Value) (es : List (Int × Int)) (T : List Int) (e : Int) (H : AH) (hr : RowP 65 H v es) (hg : Grd (n : Int) es) (hw : Row 3 H w (T ++ [e])) (hT : EdIn es T) (he : 0 ≤ e ∧ e < es.length) (hlen : T.length ≤ 100) :
    ACalls Try.prog 40 [.agg (List.toArray [.int .i64 (n : Int), v]), w] H fun r H' => r = .bool (jnB es n T (enA es e) (enB es e)) ∧ H <+: H' := by
  have h28 : es.length ≤ 28 := grd_len hg
  have hn8 : n ≤ 8 := by have := hg.1; omega
  have hee := en_eq hg he
  have he2 : e.toNat < es.length := by omega
  have hl1 : (T ++ [e]).length = T.length + 1 := by simp
  have hw1 : IntKind.i64.wrap (((T ++ [e]).length : Int) - 1) = (T.length : Int) := by rw [wrap64 (by omega) (by omega)]; omega
  have hlast : (T ++ [e]).getD T.length 0 = e := by rw [List.getD_eq_getElem?_getD, List.getElem?_append_right (Nat.le_refl _)]; simp
  refine in40 rfl ?_
  intro Q hQ
  simp (maxSteps := 1000000) (disch := omega) only [cd40, hr.boxG, S, S1, S2, S3, S4, S5, ST, eq_self, reduceIte, reduceCtorEq, Nat.reduceEqDiff, Nat.reduceAdd]
  generalize hA : H ++ [AObj.cells [.int .i64 n, v] 32 false] = A
  have pA : H <+: A := by rw [← hA]; exact List.prefix_append _ _
  have cA : A[H.length]? = some (.cells [.int .i64 n, v] 32 false) := by rw [← hA]; exact at_new ..
  have rA := hr.pre pA
  have wA := hw.pre pA
  have cw := wA.cell (show T.length < (T ++ [e]).length by omega)
  rw [hlast] at cw
  simp (maxSteps := 1000000) (disch := omega) only [wA.len Try.underlying25, hw1, cell_of cA, wA.ix Try.underlying25 cs3, Int.toNat_natCast, cw, rA.ix Try.underlying22 cs65, rA.ld ag65 cs65 he2, S, S1, S2, S3, S4, S5, ST, eq_self, reduceIte, reduceCtorEq, Nat.reduceEqDiff, Nat.reduceAdd]
  rw [hee.1]
  have st := store_a2 A [.int .i64 0, .int .i64 0] rfl
  simp (maxSteps := 1000000) (disch := omega) only [alloc_a2, st, S, S1, S2, S3, S4, S5, ST, eq_self, reduceIte, reduceCtorEq, Nat.reduceEqDiff, Nat.reduceAdd]
  generalize hB : A ++ [AObj.cells [.int .i64 (enA es e : Int), .int .i64 (enB es e : Int)] 65 false] = B
  have pB : A <+: B := by rw [← hB]; exact List.prefix_append _ _
  have cB : B[A.length]? = some (.cells [.int .i64 (enA es e : Int), .int .i64 (enB es e : Int)] 65 false) := by rw [← hB]; exact at_new ..
  have gB := pre_at pB cA
  have wB := wA.pre pB
  have rB := rA.pre pB
  obtain ⟨a1, a2, a3⟩ := wB.slice (P := Try.prog) (t := 25) Try.underlying25 cs3 lo_none (bound_some (k := .i64) (i := (T.length : Int)) (by omega) (T ++ [e]).length) (Nat.zero_le _) (by rw [Int.toNat_natCast]; omega)
  rw [Int.toNat_natCast] at a1 a2 a3
  rw [List.drop_zero, Nat.sub_zero, List.take_append_of_le_length (Nat.le_refl _), List.take_length] at a2
  simp (maxSteps := 1000000) (disch := omega) only [ld_agg ag32 cs32 gB, a1, cell_of cB, S, S1, S2, S3, S4, S5, ST, eq_self, reduceIte, reduceCtorEq, Nat.reduceEqDiff, Nat.reduceAdd]
  refine CallH.by (l7Part_c n v _ es T B rB a2 hT (by omega)) ?_
  rintro _ C ⟨b, rfl, hb, pC⟩
  have cC := pre_at pC cB
  simp (maxSteps := 1000000) (disch := omega) only [cell_of cC, S, S1, S2, S3, S4, S5, ST, eq_self, reduceIte, reduceCtorEq, Nat.reduceEqDiff, Nat.reduceAdd]
  refine CallH.by (l3Far_c n b (prtG es T) (enA es e) C hb.row (by rw [prt_len]; omega) (by omega) (by omega)) ?_
  rintro u D ⟨hD, pD⟩
  rw [Int.toNat_natCast] at hD
  have bl := (bfs_rng (roadsL n (prtG es T)) (roadsL_ok _ _) (enA es e) (by rw [roadsL_len]; omega)).1
  rw [roadsL_len] at bl
  have cD := pre_at pD cC
  have k0 := hD.row.cell (show enB es e < (bfs (roadsL n (prtG es T)) (enA es e)).length by rw [bl]; omega)
  have hix := hD.row.ix (P := Try.prog) (t := 25) Try.underlying25 cs3 .i64 (i := (enB es e : Int)) (by omega) (by rw [bl]; omega)
  simp (maxSteps := 1000000) (disch := omega) only [cell_of cD, hix, Int.toNat_natCast, k0, S, S1, S2, S3, S4, S5, ST, eq_self, reduceIte, reduceCtorEq, Nat.reduceEqDiff, Nat.reduceAdd]
  refine hQ _ _ _ ?_
  simp (maxSteps := 1000000) (disch := omega) only [S, S1, S2, S3, S4, S5, ST, eq_self, reduceIte, reduceCtorEq, Nat.reduceEqDiff, Nat.reduceAdd]
  exact ⟨rfl, pA.trans (pB.trans (pC.trans pD))⟩
set_option maxRecDepth 20000 in
set_option maxHeartbeats 8000000 in
theorem l7Grow_c (n : Nat) (hn : 1 ≤ n) (v : Value) (es : List (Int × Int)) (hg : Grd (n : Int) es) (lo : Nat) : ∀ (k : Nat) (w : Value) (T : List Int) (o : Nat) (us : List Value) (ls : List (List Int)) (H : AH), k ≤ es.length → Beg n es k T → RowP 65 H v es → Row 3 H w T →
    Apart w (.slice (some ⟨o, 0, none⟩) 0 0) → Apart v (.slice (some ⟨o, 0, none⟩) 0 0) → InU lo H.length 25 3 H o us ls → ls.length ≤ 300 →
    ACalls Try.prog 39 [.agg (List.toArray [.int .i64 (n : Int), v]), w, .int .i64 ((es.length - k : Nat) : Int), .slice (some ⟨o, 0, none⟩) ls.length ls.length] H fun r H' => ∃ o' us', r = .slice (some ⟨o', 0, none⟩) ((ls ++ grA es n k T).take 301).length ((ls ++ grA es n k T).take 301).length ∧ InU lo H'.length 25 3 H' o' us' ((ls ++ grA es n k T).take 301) ∧
      (∀ (j : Nat) (y : AObj), j ≠ o → H[j]? = some y → H'[j]? = some y) ∧ H.length ≤ H'.length ∧ (o' = o ∨ H.length ≤ o') := by
  have h28 : es.length ≤ 28 := grd_len hg
  have hn8 : n ≤ 8 := by have := hg.1; omega
  intro k
  induction k using Nat.strongRecOn with
  | ind k ih =>
  intro w T o us ls H hk hT hr hw haw hav hin hls
  have hlo := hin.1
  have hlo2 := hin.2.1
  have hTl := hT.len
  have hw1 : IntKind.i64.wrap ((n : Int) - 1) = (n : Int) - 1 := wrap64 (by omega) (by omega)
  refine in39 rfl ?_
  intro Q hQ
  simp (maxSteps := 1000000) (disch := omega) only [cd39, hr.boxG, S, S1, S2, S3, S4, S5, ST, eq_self, reduceIte, reduceCtorEq, Nat.reduceEqDiff, Nat.reduceAdd]
  generalize hA : H ++ [AObj.cells [.int .i64 ↑n, v] 32 false] = A
  have pA : H <+: A := by rw [← hA]; exact List.prefix_append _ _
  have cA : A[H.length]? = some (.cells [.int .i64 ↑n, v] 32 false) := by rw [← hA]; exact at_new ..
  have rA := hr.pre pA
  have lA : A.length = H.length + 1 := by rw [← hA]; simp
  simp (maxSteps := 1000000) (disch := omega) only [cell_of cA, (hw.pre pA).len Try.underlying25, hw1, S, S1, S2, S3, S4, S5, ST, eq_self, reduceIte, reduceCtorEq, Nat.reduceEqDiff, Nat.reduceAdd]
  refine brD.intro (fun g => ?_) (fun g => ?_)
  · have hfull : T.length + 1 = n := by omega
    simp (maxSteps := 1000000) (disch := omega) only [S, S1, S2, S3, S4, S5, ST, eq_self, reduceIte, reduceCtorEq, Nat.reduceEqDiff, Nat.reduceAdd]
    refine CallH.by (l1Own_c w T A (hw.pre pA) (by omega)) ?_
    rintro c C ⟨hc, pC⟩
    have hinw := InI.of hc.mine
    have hinC := (hin.pre (pA.trans pC)).wide (Nat.le_refl _) pA.length_le
    obtain ⟨H3, k1, k2, k3, k4⟩ := hinC.app1 (P := Try.prog) (t2 := 27) Try.underlying27 cs25 (by rw [by25]; decide) zk25 hinw (by have := pA.length_le; omega) pC.length_le (Nat.le_refl _) (by omega)
    simp (maxSteps := 1000000) (disch := omega) only [bsRow hc.row C, k1, S, S1, S2, S3, S4, S5, ST, eq_self, reduceIte, reduceCtorEq, Nat.reduceEqDiff, Nat.reduceAdd]
    refine hQ _ _ _ ?_
    simp (maxSteps := 1000000) (disch := omega) only [S, S1, S2, S3, S4, S5, ST, eq_self, reduceIte, reduceCtorEq, Nat.reduceEqDiff, Nat.reduceAdd]
    have e : (ls ++ grA es n k T).take 301 = ls ++ [T] := by rw [grA_full hfull, List.take_of_length_le (by simp; omega)]
    have hl1 := pA.length_le
    have hl2 := pC.length_le
    rw [e]
    refine ⟨C.length + 1, us.take ls.length ++ [c], by simp, by rw [k3]; exact k2, fun j y hj hy => k4 j y hj (pre_at (pA.trans pC) hy), by omega, by omega⟩
  have hnf : T.length + 1 ≠ n := fun q => g (by omega)
  simp (maxSteps := 1000000) (disch := omega) only [S, S1, S2, S3, S4, S5, ST, eq_self, reduceIte, reduceCtorEq, Nat.reduceEqDiff, Nat.reduceAdd]
  refine LoopH.by (fun m s H' => ∃ (o' : Nat) (us' : List Value) (ls' : List (List Int)), m ≤ k ∧ s 1 = w ∧ s 3 = .slice (some ⟨o', 0, none⟩) ls'.length ls'.length ∧ s 4 = .pointer (some ⟨H.length, 0, none⟩) ∧ s 9 = .int .i64 ((es.length - m : Nat) : Int) ∧
      (ls' ++ grA es n m T).take 301 = (ls ++ grA es n k T).take 301 ∧ ls'.length ≤ 301 ∧ Beg n es m T ∧ InU lo H'.length 25 3 H' o' us' ls' ∧ (o' = o ∨ A.length ≤ o') ∧ (∀ (j : Nat) (y : AObj), j ≠ o → A[j]? = some y → H'[j]? = some y) ∧ A.length ≤ H'.length) k ?_ ?_
  · exact ⟨o, us, ls, Nat.le_refl _, rfl, rfl, rfl, rfl, rfl, by omega, hT, (hin.pre pA).wide (Nat.le_refl _) pA.length_le, .inl rfl, fun j y _ hy => hy, Nat.le_refl _⟩
  rintro m s H' ⟨o', us', ls', hm, h1, h3, h4, h9, hE, hl', hB, hin', ho', hk', hAl⟩
  have hkA : Kept (.slice (some ⟨o, 0, none⟩) 0 0) A H' := fun j y hj hy => by
    rcases hj with hj | hj
    · cases hj
    · exact hk' j y hj hy
  have hw' : Row 3 H' w T := (hw.pre pA).kept haw hkA
  have hr' : RowP 65 H' v es := (hr.pre pA).kept hav hkA
  have cH' : H'[H.length]? = some (.cells [.int .i64 (n : Int), v] 32 false) := hk' _ _ (by omega) cA
  have done : (ls' ++ grA es n m T).take 301 = ls' → ∃ o2 us', Value.slice (some ⟨o', 0, none⟩) ls'.length ls'.length = .slice (some ⟨o2, 0, none⟩) ((ls ++ grA es n k T).take 301).length ((ls ++ grA es n k T).take 301).length ∧ InU lo H'.length 25 3 H' o2 us' ((ls ++ grA es n k T).take 301) ∧
      (∀ (j : Nat) (y : AObj), j ≠ o → H[j]? = some y → H'[j]? = some y) ∧ H.length ≤ H'.length ∧ (o2 = o ∨ H.length ≤ o2) := by
    intro e
    rw [e] at hE
    rw [← hE]
    exact ⟨o', us', rfl, hin', fun j y hj hy => hk' j y hj (pre_at pA hy), by omega, by omega⟩
  simp (maxSteps := 1000000) (disch := omega) only [h1, h3, h4, h9, cell_of cH', hr'.len Try.underlying22, S, S1, S2, S3, S4, S5, ST, eq_self, reduceIte, reduceCtorEq, Nat.reduceEqDiff, Nat.reduceAdd]
  refine brD.intro (fun g1 => ?_) (fun g1 => ?_)
  rotate_left
  · have hm0 : m = 0 := by omega
    subst hm0
    simp (maxSteps := 1000000) (disch := omega) only [g1, h3, S, S1, S2, S3, S4, S5, ST, eq_self, reduceIte, reduceCtorEq, Nat.reduceEqDiff, Nat.reduceAdd]
    refine hQ _ _ _ ?_
    simp (maxSteps := 1000000) (disch := omega) only [h3, S, S1, S2, S3, S4, S5, ST, eq_self, reduceIte, reduceCtorEq, Nat.reduceEqDiff, Nat.reduceAdd]
    refine done ?_
    rw [grA, if_neg hnf, List.append_nil, List.take_of_length_le hl']
  simp (maxSteps := 1000000) (disch := omega) only [g1, h1, h3, h4, h9, S, S1, S2, S3, S4, S5, ST, eq_self, reduceIte, reduceCtorEq, Nat.reduceEqDiff, Nat.reduceAdd]
  refine brD.intro (fun g2 => ?_) (fun g2 => ?_)
  rotate_left
  · simp (maxSteps := 1000000) (disch := omega) only [g1, g2, h3, S, S1, S2, S3, S4, S5, ST, eq_self, reduceIte, reduceCtorEq, Nat.reduceEqDiff, Nat.reduceAdd]
    refine hQ _ _ _ ?_
    simp (maxSteps := 1000000) (disch := omega) only [h3, S, S1, S2, S3, S4, S5, ST, eq_self, reduceIte, reduceCtorEq, Nat.reduceEqDiff, Nat.reduceAdd]
    refine done ?_
    have : ls'.length = 301 := by omega
    rw [← this, List.take_append_of_le_length (Nat.le_refl _), List.take_length]
  obtain ⟨d, rfl⟩ : ∃ d, m = d + 1 := ⟨m - 1, by omega⟩
  have hee : (0 : Int) ≤ ((es.length - (d + 1) : Nat) : Int) ∧ ((es.length - (d + 1) : Nat) : Int) < es.length := by omega
  have hed : ((es.length - (d + 1) : Nat) : Int) + 1 = ((es.length - d : Nat) : Int) := by omega
  rw [grA, if_neg hnf] at hE
  have hsnoc := fun hj => hB.snoc hg (by omega) hnf hj
  generalize hX : ((es.length - (d + 1) : Nat) : Int) = x at *
  have hw2 : IntKind.i64.wrap (x + 1) = ((es.length - d : Nat) : Int) := by rw [wrap64 (by omega) (by omega)]; exact hed
  simp (maxSteps := 1000000) (disch := omega) only [g1, g2, h1, h3, h4, h9, S, S1, S2, S3, S4, S5, ST, eq_self, reduceIte, reduceCtorEq, Nat.reduceEqDiff, Nat.reduceAdd]
  refine CallH.by (l1Own_c w T H' hw' (by omega)) ?_
  rintro c C ⟨hc, pC⟩
  obtain ⟨c2, D, a1, a2, a3, a4, a5, a6⟩ := own1_25 hc pC (by omega) x
  have cD := pre_at a3 cH'
  have rD := hr'.pre a3
  have hpD := a3.length_le
  simp (maxSteps := 1000000) (disch := omega) only [a1, h1, h3, h4, h9, ld_agg ag32 cs32 cD, S, S1, S2, S3, S4, S5, ST, eq_self, reduceIte, reduceCtorEq, Nat.reduceEqDiff, Nat.reduceAdd]
  refine CallH.by (l7Closes_c n v c2 es T x D rD hg a2.row hB.ed hee (by omega)) ?_
  rintro _ E ⟨rfl, pE⟩
  have pHE := a3.trans pE
  have lHE := pHE.length_le
  have lDE := pE.length_le
  have keepE : ∀ (j : Nat) (y : AObj), j ≠ o → A[j]? = some y → E[j]? = some y := fun j y hj hy => pre_at pHE (hk' j y hj hy)
  have inE : InU lo E.length 25 3 E o' us' ls' := (hin'.pre pHE).wide (Nat.le_refl _) lHE
  have hoo := hin'.2.1
  by_cases hj : jnB es n T (enA es x) (enB es x) = true
  · rw [if_pos hj, List.nil_append] at hE
    rw [hj]
    simp (maxSteps := 1000000) (disch := omega) only [h1, h3, h4, h9, hw2, S, S1, S2, S3, S4, S5, ST, eq_self, reduceIte, reduceCtorEq, Nat.reduceEqDiff, Nat.reduceAdd]
    have f1 := hB.skip
    refine ⟨d, by omega, o', us', ls', ?_⟩
    (repeat' first | exact hE | exact f1 | exact inE | exact ho' | exact keepE | apply And.intro) <;> first | (simp only [Value.int.injEq, true_and]; omega) | omega | rfl | assumption | (simp; done) | (simp; omega)
  · rw [if_neg hj] at hE
    have hj' : jnB es n T (enA es x) (enB es x) = false := by simpa using hj
    rw [hj']
    have cE := pre_at pE cD
    have a2E := a2.row.pre pE
    have ap1 : Apart c2 (.slice (some ⟨o', 0, none⟩) 0 0) := by
      rcases a2 with ⟨q, _⟩ | ⟨oc, q1, q2, q3⟩
      · exact .inr (.inl q)
      · refine .inr (.inr ?_)
        rw [q1]
        show oc ≠ o'
        omega
    have ap2 : Apart v (.slice (some ⟨o', 0, none⟩) 0 0) := by
      rcases ho' with q | q
      · rw [q]; exact hav
      · rcases (hr.pre pA).nil with z | z
        · exact .inr (.inl z.1)
        · refine .inr (.inr ?_)
          show rowO v ≠ o'
          omega
    have ap3 : Apart w (.slice (some ⟨o', 0, none⟩) 0 0) := by
      rcases ho' with q | q
      · rw [q]; exact haw
      · rcases (hw.pre pA).nil with z | z
        · exact .inr (.inl z.1)
        · refine .inr (.inr ?_)
          show rowO w ≠ o'
          omega
    simp (maxSteps := 1000000) (disch := omega) only [h1, h3, h4, h9, ld_agg ag32 cs32 cE, hw2, S, S1, S2, S3, S4, S5, ST, eq_self, reduceIte, reduceCtorEq, Nat.reduceEqDiff, Nat.reduceAdd]
    refine CallH.by (ih d (by omega) c2 (T ++ [x]) o' us' ls' E (by omega) (hsnoc hj) (rD.pre pE) a2E ap1 ap2 inE (by omega)) ?_
    rintro _ F ⟨o2, us2, rfl, f1, f2, f3, f4⟩
    simp (maxSteps := 1000000) (disch := omega) only [h1, h3, h4, h9, hw2, S, S1, S2, S3, S4, S5, ST, eq_self, reduceIte, reduceCtorEq, Nat.reduceEqDiff, Nat.reduceAdd]
    have e1 : ((ls' ++ grA es n d (T ++ [x])).take 301 ++ grA es n d T).take 301 = (ls ++ grA es n k T).take 301 := by rw [take_app]; exact hE
    have e2 : ((ls' ++ grA es n d (T ++ [x])).take 301).length ≤ 301 := by rw [List.length_take]; omega
    have e3 := hB.skip
    have e4 : o2 = o ∨ A.length ≤ o2 := by
      rcases f4 with q | q
      · rw [q]; exact ho'
      · exact .inr (by omega)
    have e5 : ∀ (j : Nat) (y : AObj), j ≠ o → A[j]? = some y → F[j]? = some y := fun j y hj hy => by
      refine f2 j y (fun e => ?_) (keepE j y hj hy)
      rcases ho' with q | q
      · exact hj (by omega)
      · have := at_lt hy; omega
    refine ⟨d, by omega, o2, us2, (ls' ++ grA es n d (T ++ [x])).take 301, ?_⟩
    (repeat' first | exact e1 | exact e2 | exact e3 | exact f1 | exact e4 | exact e5 | apply And.intro) <;> first | (simp only [Value.int.injEq, true_and]; omega) | omega | rfl | assumption | (simp; done) | (simp; omega)
end Go.Proofs.Ytlcipphiflcaiaa.Ai
namespace Go.Proofs.Ytlcipphiflcaiaa.Ai
open Go
def ords18 : List (Nat × List (Nat × Bool)) := []
def cd18 : Cd := (.seq (.reg [⟨⟨some 1, Op.box 32 (Operand.tmp 0), none⟩, []⟩,
  ⟨⟨some 2, Op.assign (Operand.const (Value.slice none 0 0)), none⟩, []⟩]) (.seq (.reg [⟨⟨some 4, Op.load 32 (Operand.tmp 1), none⟩, []⟩,
  ⟨⟨some 5, Op.buildSlice 25 0 #[], none⟩, []⟩,
  ⟨⟨some 6, Op.buildSlice 27 0 #[], none⟩, []⟩,
  ⟨⟨some 7, Op.call { callee := (Callee.value (Operand.func 39)), args := #[(Operand.tmp 4), (Operand.tmp 5), (Operand.const (Value.int IntKind.i64 0)), (Operand.tmp 6)], argTypes := #[32, 25, 3, 27] }, none⟩, []⟩,
  ⟨⟨some 3, Op.assign (Operand.tmp 7), none⟩, []⟩]) (.seq (.seq (.reg [⟨⟨some 8, Op.move (Operand.tmp 3), none⟩, []⟩,
  ⟨⟨some 9, Op.call { callee := (Callee.builtin Builtin.len), args := #[(Operand.tmp 8)], argTypes := #[27] }, none⟩, []⟩,
  ⟨⟨some 10, Op.binOp BinOp.gtr 3 (Operand.tmp 9) (Operand.const (Value.int IntKind.i64 300)) 3, none⟩, []⟩]) (.cond (Operand.tmp 10) (.seq (.reg [⟨⟨some 11, Op.buildSlice 27 0 #[], none⟩, []⟩,
  ⟨⟨some 2, Op.assign (Operand.tmp 11), none⟩, []⟩]) .ret) .skip)) (.seq (.reg [⟨⟨some 12, Op.move (Operand.tmp 3), none⟩, []⟩,
  ⟨⟨some 2, Op.assign (Operand.tmp 12), none⟩, []⟩]) .ret))))
theorem sl18 : slim Try.f18.ntmps ords18 (Try.f18.body.getD .skip) = some cd18 := by kernel_rfl
theorem in18 {args : List Value} {H : AH} {R : Value → AH → Prop} (hl : args.length = 1) (h : ∀ (Q : Exit → Sl → AH → Prop), (∀ e s H, endA Try.prog [ResultVar.tmp 2] R e s H → Q e s H) → wpC Try.prog cd18 Q (enterA args) H) : ACalls Try.prog 18 args H R :=
  ACalls.intro (by kernel_rfl) Try.func18 rfl (by kernel_rfl) sl18 hl (of_decide_eq_true (by kernel_rfl)) (by kernel_rfl) h
end Go.Proofs.Ytlcipphiflcaiaa.Ai
namespace Go.Proofs.Ytlcipphiflcaiaa.Ai
open Go Go.RowKit
set_option linter.unusedVariables false
set_option linter.unusedSimpArgs false
/-- all trees, none if there are too many -/
def trsR (n : Nat) (es : List (Int × Int)) : List (List Int) := if 300 < (treA n es).length then [] else treA n es
set_option maxRecDepth 20000 in
set_option maxHeartbeats 4000000 in
theorem l7Trees_c (n : Nat) (hn : 1 ≤ n) (v : Value) (es : List (Int × Int)) (H : AH) (hr : RowP 65 H v es) (hg : Grd (n : Int) es) :
    ACalls Try.prog 18 [.agg (List.toArray [.int .i64 (n : Int), v])] H fun r H' => ∃ o us, r = .slice (some ⟨o, 0, none⟩) (trsR n es).length (trsR n es).length ∧ InU H.length H'.length 25 3 H' o us (trsR n es) ∧ H <+: H' := by
  have h28 : es.length ≤ 28 := grd_len hg
  refine in18 rfl ?_
  intro Q hQ
  simp (maxSteps := 1000000) (disch := omega) only [cd18, hr.boxG, S, S1, S2, S3, S4, S5, ST, eq_self, reduceIte, reduceCtorEq, Nat.reduceEqDiff, Nat.reduceAdd]
  generalize hA : H ++ [AObj.cells [.int .i64 ↑n, v] 32 false] = A
  have pA : H <+: A := by rw [← hA]; exact List.prefix_append _ _
  have cA : A[H.length]? = some (.cells [.int .i64 ↑n, v] 32 false) := by rw [← hA]; exact at_new ..
  have rA := hr.pre pA
  have lA : A.length = H.length + 1 := by rw [← hA]; simp
  generalize hB : A ++ [AObj.cells [] 3 false] = B
  have pB : A <+: B := by rw [← hB]; exact List.prefix_append _ _
  have lB : B.length = A.length + 1 := by rw [← hB]; simp
  have cB := pre_at pB cA
  have wB : Row 3 B (.slice (some ⟨A.length, 0, none⟩) 0 0) [] := .inr ⟨A.length, 0, [], false, rfl, by rw [← hB]; exact at_new .., by simp, rfl⟩
  generalize hC : B ++ [AObj.cells [] 25 false] = C
  have pC : B <+: C := by rw [← hC]; exact List.prefix_append _ _
  have lC : C.length = B.length + 1 := by rw [← hC]; simp
  have u0 : InU H.length C.length 25 3 C B.length [] [] := by
    have := InU.new H.length 25 3 B (by omega)
    rw [hC] at this
    exact this.wide (Nat.le_refl _) (by omega)
  have cC := pre_at pC cB
  have rC := rA.pre (pB.trans pC)
  have z0 : ((es.length - es.length : Nat) : Int) = 0 := by rw [Nat.sub_self]; rfl
  have hcall := l7Grow_c n hn v es hg H.length es.length (.slice (some ⟨A.length, 0, none⟩) 0 0) [] B.length [] [] C (Nat.le_refl _) (Beg.nil hn es) rC (wB.pre pC) (.inr (.inr (by show A.length ≠ B.length; omega))) (by
    rcases rA.nil with q | q
    · exact .inr (.inl q.1)
    · refine .inr (.inr ?_)
      show rowO v ≠ B.length
      omega) u0 (by simp)
  rw [z0] at hcall
  simp (maxSteps := 1000000) (disch := omega) only [ld_agg ag32 cs32 cA, hB, hC, ld_agg ag32 cs32 cB, ld_agg ag32 cs32 cC, S, S1, S2, S3, S4, S5, ST, eq_self, reduceIte, reduceCtorEq, Nat.reduceEqDiff, Nat.reduceAdd]
  refine CallH.by hcall ?_
  rintro _ D ⟨o, us, rfl, d1, d2, d3, d4⟩
  rw [List.nil_append] at d1 ⊢
  have hp : H <+: D := prefix_of fun j y hy => d2 j y (by have := at_lt hy; omega) (pre_at (pA.trans (pB.trans pC)) hy)
  have hlen : ((grA es n es.length []).take 301).length = min 301 (treA n es).length := List.length_take
  have hlen2 : (((grA es n es.length []).take 301).length : Int) > 300 ↔ 300 < (treA n es).length := by omega
  simp (maxSteps := 1000000) (disch := omega) only [S, S1, S2, S3, S4, S5, ST, eq_self, reduceIte, reduceCtorEq, Nat.reduceEqDiff, Nat.reduceAdd]
  refine brD.intro (fun g => ?_) (fun g => ?_)
  · have hR : trsR n es = [] := by unfold trsR; rw [if_pos (by omega)]
    have := InU.new H.length 25 3 D hp.length_le
    simp (maxSteps := 1000000) (disch := omega) only [S, S1, S2, S3, S4, S5, ST, eq_self, reduceIte, reduceCtorEq, Nat.reduceEqDiff, Nat.reduceAdd]
    refine hQ _ _ _ ?_
    simp (maxSteps := 1000000) (disch := omega) only [S, S1, S2, S3, S4, S5, ST, eq_self, reduceIte, reduceCtorEq, Nat.reduceEqDiff, Nat.reduceAdd]
    rw [hR]
    exact ⟨D.length, [], rfl, this.wide (Nat.le_refl _) (by simp), pre_app hp _⟩
  · have hR : trsR n es = (grA es n es.length []).take 301 := by
      unfold trsR
      rw [if_neg (by omega), List.take_of_length_le (show (grA es n es.length []).length ≤ 301 by have : treA n es = grA es n es.length [] := rfl; rw [← this]; omega)]
      rfl
    rw [← hR] at d1
    simp (maxSteps := 1000000) (disch := omega) only [S, S1, S2, S3, S4, S5, ST, eq_self, reduceIte, reduceCtorEq, Nat.reduceEqDiff, Nat.reduceAdd]
    refine hQ _ _ _ ?_
    simp (maxSteps := 1000000) (disch := omega) only [S, S1, S2, S3, S4, S5, ST, eq_self, reduceIte, reduceCtorEq, Nat.reduceEqDiff, Nat.reduceAdd]
    rw [hR]
    rw [hR] at d1
    exact ⟨o, us, rfl, d1, hp⟩
theorem trsR_tree {n : Nat} (hn : 1 ≤ n) {es : List (Int × Int)} (hg : Grd (n : Int) es) : ∀ U ∈ trsR n es, TreL n es U := fun U hU => by
  unfold trsR at hU
  split at hU
  · simp at hU
  · exact (treA_iff hn hg U).1 hU
end Go.Proofs.Ytlcipphiflcaiaa.Ai
namespace Go.Proofs.Ytlcipphiflcaiaa.Ai
open Go Go.RowKit
set_option linter.unusedVariables false
set_option linter.unusedSimpArgs false
theorem isJumpG_c (v w : Value) (xs ys : List Int) (H : AH) (hr : Row 3 H v xs) (hs : Row 3 H w ys) (hlx : xs.length ≤ 28) (hly : ys.length ≤ 28) (hx : ∀ x ∈ xs, 0 ≤ x ∧ x < 28) (hy : ∀ x ∈ ys, 0 ≤ x ∧ x < 28) (hpx : xs.Pairwise (· < ·)) (hpy : ys.Pairwise (· < ·)) :
    ACalls Try.prog 30 [v, w] H fun r H' => r = .bool (jmpB xs ys) ∧ H = H' := by
  refine in30 rfl ?_
  intro Q hQ
  simp (maxSteps := 1000000) (disch := omega) only [cd30, S, S1, S2, S3, S4, S5, ST, eq_self, reduceIte, reduceCtorEq, Nat.reduceEqDiff, Nat.reduceAdd]
  refine CallH.by (moves_c v w xs ys H hr hs (by omega) (by omega) (fun x h => by have := hx x h; omega) (fun x h => by have := hy x h; omega)) ?_
  rintro _ _ ⟨a, b, rfl, ha, hb, rfl⟩
  have la := List.length_filter_le (fun e => !decide (e ∈ ys)) xs
  have lb := List.length_filter_le (fun e => !decide (e ∈ xs)) ys
  have ea := popc_len2 ⟨Nat.lt_of_lt_of_le ha.1 (by decide), ha.2⟩ (hpx.filter _) (fun x h => hx x (List.mem_filter.1 h).1)
  have eb := popc_len2 ⟨Nat.lt_of_lt_of_le hb.1 (by decide), hb.2⟩ (hpy.filter _) (fun x h => hy x (List.mem_filter.1 h).1)
  simp (maxSteps := 1000000) (disch := omega) only [S, S1, S2, S3, S4, S5, ST, eq_self, reduceIte, reduceCtorEq, Nat.reduceEqDiff, Nat.reduceAdd]
  refine CallH.by (size_c a H (Nat.lt_of_lt_of_le ha.1 (by decide))) ?_
  rintro _ _ ⟨rfl, rfl⟩
  rw [ea]
  by_cases h1 : (xs.filter fun e => !decide (e ∈ ys)).length = 1
  · have h1' : (((xs.filter fun e => !decide (e ∈ ys)).length : Nat) : Int) = 1 := by omega
    simp (maxSteps := 1000000) (disch := omega) only [decide_eq_true h1', S, S1, S2, S3, S4, S5, ST, eq_self, reduceIte, reduceCtorEq, Nat.reduceEqDiff, Nat.reduceAdd]
    refine CallH.by (size_c b H (Nat.lt_of_lt_of_le hb.1 (by decide))) ?_
    rintro _ _ ⟨rfl, rfl⟩
    rw [eb]
    simp (maxSteps := 1000000) (disch := omega) only [S, S1, S2, S3, S4, S5, ST, eq_self, reduceIte, reduceCtorEq, Nat.reduceEqDiff, Nat.reduceAdd]
    refine hQ _ _ _ ?_
    simp (maxSteps := 1000000) (disch := omega) only [S, S1, S2, S3, S4, S5, ST, eq_self, reduceIte, reduceCtorEq, Nat.reduceEqDiff, Nat.reduceAdd]
    unfold jmpB
    rw [decide_eq_true h1, Bool.true_and]
    by_cases h2 : (ys.filter fun e => !decide (e ∈ xs)).length = 1
    · rw [decide_eq_true h2, decide_eq_true (show (((ys.filter fun e => !decide (e ∈ xs)).length : Nat) : Int) = 1 by omega)]
    · rw [decide_eq_false h2, decide_eq_false (show ¬ (((ys.filter fun e => !decide (e ∈ xs)).length : Nat) : Int) = 1 by omega)]
  · have h1' : ¬ (((xs.filter fun e => !decide (e ∈ ys)).length : Nat) : Int) = 1 := by omega
    simp (maxSteps := 1000000) (disch := omega) only [decide_eq_false h1', S, S1, S2, S3, S4, S5, ST, eq_self, reduceIte, reduceCtorEq, Nat.reduceEqDiff, Nat.reduceAdd]
    refine hQ _ _ _ ?_
    simp (maxSteps := 1000000) (disch := omega) only [S, S1, S2, S3, S4, S5, ST, eq_self, reduceIte, reduceCtorEq, Nat.reduceEqDiff, Nat.reduceAdd]
    unfold jmpB
    rw [decide_eq_false h1, Bool.false_and]
/-- there are some trees, and not too many -/
def TsOk (n : Int) (es : List (Int × Int)) : Prop := (Grd n es ∧ 0 < n) ∧ 0 < (treA n.toNat es).length ∧ (treA n.toNat es).length ≤ 300
instance (n : Int) (es : List (Int × Int)) : Decidable (TsOk n es) := by unfold TsOk; infer_instance
def tsL (n : Int) (es : List (Int × Int)) : List (List Int) := if TsOk n es then treA n.toNat es else []
end Go.Proofs.Ytlcipphiflcaiaa.Ai
namespace Go.Proofs.Ytlcipphiflcaiaa.Ai
open Go
def ords19 : List (Nat × List (Nat × Bool)) := []
def cd19 : Cd := (.seq (.reg [⟨⟨some 4, Op.assign (Operand.const (Value.int IntKind.i64 0)), none⟩, []⟩]) (.seq (.reg [⟨⟨some 5, Op.assign (Operand.const (Value.int IntKind.i64 0)), none⟩, []⟩]) (.seq (.seq (.reg [⟨⟨some 6, Op.assign (Operand.const (Value.int IntKind.i64 0)), none⟩, []⟩]) (.block 0 (.loop (.seq (.seq (.reg [⟨⟨some 7, Op.move (Operand.tmp 6), none⟩, []⟩,
  ⟨⟨some 8, Op.move (Operand.tmp 1), none⟩, []⟩,
  ⟨⟨some 9, Op.call { callee := (Callee.builtin Builtin.len), args := #[(Operand.tmp 8)], argTypes := #[25] }, none⟩, []⟩,
  ⟨⟨some 10, Op.binOp BinOp.lss 3 (Operand.tmp 7) (Operand.tmp 9) 3, none⟩, []⟩]) (.cond (Operand.tmp 10) .skip (.exit 0))) (.seq (.block 1 (.reg [⟨⟨some 13, Op.move (Operand.tmp 5), none⟩, []⟩,
  ⟨⟨some 14, Op.move (Operand.tmp 0), none⟩, []⟩,
  ⟨⟨some 15, Op.move (Operand.tmp 1), none⟩, []⟩,
  ⟨⟨some 16, Op.move (Operand.tmp 6), none⟩, []⟩,
  ⟨⟨some 17, Op.indexAddr 25 (Operand.tmp 15) (Operand.tmp 16), none⟩, []⟩,
  ⟨⟨some 18, Op.load 3 (Operand.tmp 17), none⟩, []⟩,
  ⟨⟨some 19, Op.indexAddr 25 (Operand.tmp 14) (Operand.tmp 18), none⟩, []⟩,
  ⟨⟨some 20, Op.load 3 (Operand.tmp 19), none⟩, []⟩,
  ⟨⟨some 21, Op.binOp BinOp.add 3 (Operand.tmp 13) (Operand.tmp 20) 3, none⟩, []⟩,
  ⟨⟨some 5, Op.assign (Operand.tmp 21), none⟩, []⟩])) (.reg [⟨⟨some 11, Op.move (Operand.tmp 6), none⟩, []⟩,
  ⟨⟨some 12, Op.binOp BinOp.add 3 (Operand.tmp 11) (Operand.const (Value.int IntKind.i64 1)) 3, none⟩, []⟩,
  ⟨⟨some 6, Op.assign (Operand.tmp 12), none⟩, []⟩])))))) (.seq (.reg [⟨⟨some 22, Op.move (Operand.tmp 5), none⟩, []⟩,
  ⟨⟨some 4, Op.assign (Operand.tmp 22), none⟩, []⟩]) .ret))))
theorem sl19 : slim Try.f19.ntmps ords19 (Try.f19.body.getD .skip) = some cd19 := by kernel_rfl
theorem in19 {args : List Value} {H : AH} {R : Value → AH → Prop} (hl : args.length = 2) (h : ∀ (Q : Exit → Sl → AH → Prop), (∀ e s H, endA Try.prog [ResultVar.tmp 4] R e s H → Q e s H) → wpC Try.prog cd19 Q (enterA args) H) : ACalls Try.prog 19 args H R :=
  ACalls.intro (by kernel_rfl) Try.func19 rfl (by kernel_rfl) sl19 hl (of_decide_eq_true (by kernel_rfl)) (by kernel_rfl) h
def ords17 : List (Nat × List (Nat × Bool)) := []
def cd17 : Cd := (.seq (.reg [⟨⟨some 2, Op.box 32 (Operand.tmp 0), none⟩, []⟩,
  ⟨⟨some 4, Op.assign (Operand.const (Value.bool false)), none⟩, []⟩]) (.seq (.seq (.reg [⟨⟨some 5, Op.assign (Operand.const (Value.int IntKind.i64 0)), none⟩, []⟩]) (.block 0 (.loop (.seq (.seq (.reg [⟨⟨some 6, Op.move (Operand.tmp 5), none⟩, []⟩,
  ⟨⟨some 7, Op.move (Operand.tmp 1), none⟩, []⟩,
  ⟨⟨some 8, Op.call { callee := (Callee.builtin Builtin.len), args := #[(Operand.tmp 7)], argTypes := #[25] }, none⟩, []⟩,
  ⟨⟨some 9, Op.binOp BinOp.lss 3 (Operand.tmp 6) (Operand.tmp 8) 3, none⟩, []⟩]) (.cond (Operand.tmp 9) .skip (.exit 0))) (.seq (.block 1 (.seq (.reg [⟨⟨some 12, Op.move (Operand.tmp 1), none⟩, []⟩,
  ⟨⟨some 13, Op.move (Operand.tmp 5), none⟩, []⟩,
  ⟨⟨some 14, Op.indexAddr 25 (Operand.tmp 12) (Operand.tmp 13), none⟩, []⟩,
  ⟨⟨some 15, Op.load 3 (Operand.tmp 14), none⟩, []⟩,
  ⟨⟨some 16, Op.call { callee := (Callee.value (Operand.func 37)), args := #[(Operand.tmp 15), (Operand.const (Value.int IntKind.i64 0)), (Operand.const (Value.int IntKind.i64 99))], argTypes := #[3, 3, 3] }, none⟩, []⟩,
  ⟨⟨some 17, Op.unOp UnOp.not 4 (Operand.tmp 16), none⟩, []⟩]) (.cond (Operand.tmp 17) (.seq (.reg [⟨⟨some 4, Op.assign (Operand.const (Value.bool false)), none⟩, []⟩]) .ret) .skip))) (.reg [⟨⟨some 10, Op.move (Operand.tmp 5), none⟩, []⟩,
  ⟨⟨some 11, Op.binOp BinOp.add 3 (Operand.tmp 10) (Operand.const (Value.int IntKind.i64 1)) 3, none⟩, []⟩,
  ⟨⟨some 5, Op.assign (Operand.tmp 11), none⟩, []⟩])))))) (.seq (.reg [⟨⟨some 18, Op.load 32 (Operand.tmp 2), none⟩, []⟩,
  ⟨⟨some 19, Op.call { callee := (Callee.value (Operand.func 38)), args := #[(Operand.tmp 18)], argTypes := #[32] }, none⟩, []⟩,
  ⟨⟨some 20, Op.move (Operand.tmp 19), none⟩, []⟩,
  ⟨⟨some 21, Op.move (Operand.tmp 1), some (20, true)⟩, []⟩,
  ⟨⟨some 22, Op.call { callee := (Callee.builtin Builtin.len), args := #[(Operand.tmp 21)], argTypes := #[25] }, some (20, true)⟩, []⟩,
  ⟨⟨some 23, Op.fieldAddr 32 (Operand.tmp 2) 1, some (20, true)⟩, []⟩,
  ⟨⟨some 24, Op.load 22 (Operand.tmp 23), some (20, true)⟩, []⟩,
  ⟨⟨some 25, Op.call { callee := (Callee.builtin Builtin.len), args := #[(Operand.tmp 24)], argTypes := #[22] }, some (20, true)⟩, []⟩,
  ⟨⟨some 26, Op.binOp BinOp.eql 3 (Operand.tmp 22) (Operand.tmp 25) 3, some (20, true)⟩, []⟩,
  ⟨⟨some 27, Op.pick (Operand.tmp 20) (Operand.tmp 26) (Operand.const (Value.bool false)), none⟩, []⟩,
  ⟨⟨some 4, Op.assign (Operand.tmp 27), none⟩, []⟩]) .ret)))
theorem sl17 : slim Try.f17.ntmps ords17 (Try.f17.body.getD .skip) = some cd17 := by kernel_rfl
theorem in17 {args : List Value} {H : AH} {R : Value → AH → Prop} (hl : args.length = 2) (h : ∀ (Q : Exit → Sl → AH → Prop), (∀ e s H, endA Try.prog [ResultVar.tmp 4] R e s H → Q e s H) → wpC Try.prog cd17 Q (enterA args) H) : ACalls Try.prog 17 args H R :=
  ACalls.intro (by kernel_rfl) Try.func17 rfl (by kernel_rfl) sl17 hl (of_decide_eq_true (by kernel_rfl)) (by kernel_rfl) h
def ords20 : List (Nat × List (Nat × Bool)) := [(8, [(0, false), (1, false), (2, false), (3, false), (4, false), (5, false), (6, false), (7, false), (8, false), (10, false), (11, false), (9, true), (12, true), (13, true), (14, false), (15, false)])]
def cd20 : Cd := (.seq (.reg [⟨⟨some 2, Op.box 32 (Operand.tmp 0), none⟩, []⟩,
  ⟨⟨some 4, Op.assign (Operand.const (Value.slice none 0 0)), none⟩, []⟩]) (.seq (.reg [⟨⟨some 10, Op.buildSlice 25 0 #[], none⟩, []⟩,
  ⟨⟨some 5, Op.assign (Operand.tmp 10), none⟩, []⟩]) (.seq (.seq (.reg [⟨⟨some 6, Op.assign (Operand.const (Value.int IntKind.i64 0)), none⟩, []⟩]) (.block 0 (.loop (.seq (.seq (.reg [⟨⟨some 11, Op.move (Operand.tmp 6), none⟩, []⟩,
  ⟨⟨some 12, Op.binOp BinOp.leq 3 (Operand.tmp 11) (Operand.const (Value.int IntKind.i64 99)) 3, none⟩, []⟩]) (.cond (Operand.tmp 12) .skip (.exit 0))) (.seq (.block 1 (.seq (.reg [⟨⟨some 7, Op.assign (Operand.const (Value.int IntKind.i64 0)), none⟩, []⟩]) (.block 2 (.loop (.seq (.seq (.reg [⟨⟨some 15, Op.move (Operand.tmp 7), none⟩, []⟩,
  ⟨⟨some 16, Op.move (Operand.tmp 1), none⟩, []⟩,
  ⟨⟨some 17, Op.call { callee := (Callee.builtin Builtin.len), args := #[(Operand.tmp 16)], argTypes := #[25] }, none⟩, []⟩,
  ⟨⟨some 18, Op.binOp BinOp.lss 3 (Operand.tmp 15) (Operand.tmp 17) 3, none⟩, []⟩]) (.cond (Operand.tmp 18) .skip (.exit 2))) (.seq (.block 3 (.seq (.reg [⟨⟨some 21, Op.move (Operand.tmp 1), none⟩, []⟩,
  ⟨⟨some 22, Op.move (Operand.tmp 7), none⟩, []⟩,
  ⟨⟨some 23, Op.indexAddr 25 (Operand.tmp 21) (Operand.tmp 22), none⟩, []⟩,
  ⟨⟨some 24, Op.load 3 (Operand.tmp 23), none⟩, []⟩,
  ⟨⟨some 25, Op.move (Operand.tmp 6), none⟩, []⟩,
  ⟨⟨some 26, Op.binOp BinOp.eql 3 (Operand.tmp 24) (Operand.tmp 25) 3, none⟩, []⟩,
  ⟨⟨some 27, Op.move (Operand.tmp 26), none⟩, []⟩,
  ⟨⟨some 28, Op.load 32 (Operand.tmp 2), some (27, true)⟩, []⟩,
  ⟨⟨some 29, Op.move (Operand.tmp 5), some (27, true)⟩, []⟩,
  ⟨⟨some 31, Op.move (Operand.tmp 7), some (27, true)⟩, []⟩,
  ⟨⟨some 32, Op.buildSlice 25 1 #[(0, (Operand.tmp 31))], some (27, true)⟩, []⟩,
  ⟨⟨some 30, Op.call { callee := (Callee.value (Operand.func 41)), args := #[(Operand.tmp 29)], argTypes := #[25] }, some (27, true)⟩, [⟨some 32, Op.buildSlice 25 1 #[(0, (Operand.tmp 31))], some (27, true)⟩, ⟨some 28, Op.load 32 (Operand.tmp 2), some (27, true)⟩]⟩,
  ⟨⟨some 33, Op.call { callee := (Callee.builtin Builtin.append), args := #[(Operand.tmp 30), (Operand.tmp 32)], argTypes := #[25, 25] }, some (27, true)⟩, [⟨some 28, Op.load 32 (Operand.tmp 2), some (27, true)⟩]⟩,
  ⟨⟨some 34, Op.call { callee := (Callee.value (Operand.func 40)), args := #[(Operand.tmp 28), (Operand.tmp 33)], argTypes := #[32, 25] }, some (27, true)⟩, []⟩,
  ⟨⟨some 35, Op.unOp UnOp.not 4 (Operand.tmp 34), some (27, true)⟩, []⟩,
  ⟨⟨some 36, Op.pick (Operand.tmp 27) (Operand.tmp 35) (Operand.const (Value.bool false)), none⟩, []⟩]) (.cond (Operand.tmp 36) (.reg [⟨⟨some 37, Op.move (Operand.tmp 5), none⟩, []⟩,
  ⟨⟨some 38, Op.move (Operand.tmp 7), none⟩, []⟩,
  ⟨⟨some 39, Op.buildSlice 25 1 #[(0, (Operand.tmp 38))], none⟩, []⟩,
  ⟨⟨some 40, Op.call { callee := (Callee.builtin Builtin.append), args := #[(Operand.tmp 37), (Operand.tmp 39)], argTypes := #[25, 25] }, none⟩, []⟩,
  ⟨⟨some 5, Op.assign (Operand.tmp 40), none⟩, []⟩]) .skip))) (.reg [⟨⟨some 19, Op.move (Operand.tmp 7), none⟩, []⟩,
  ⟨⟨some 20, Op.binOp BinOp.add 3 (Operand.tmp 19) (Operand.const (Value.int IntKind.i64 1)) 3, none⟩, []⟩,
  ⟨⟨some 7, Op.assign (Operand.tmp 20), none⟩, []⟩]))))))) (.reg [⟨⟨some 13, Op.move (Operand.tmp 6), none⟩, []⟩,
  ⟨⟨some 14, Op.binOp BinOp.add 3 (Operand.tmp 13) (Operand.const (Value.int IntKind.i64 1)) 3, none⟩, []⟩,
  ⟨⟨some 6, Op.assign (Operand.tmp 14), none⟩, []⟩])))))) (.seq (.reg [⟨⟨some 41, Op.buildSlice 25 0 #[], none⟩, []⟩,
  ⟨⟨some 8, Op.assign (Operand.tmp 41), none⟩, []⟩]) (.seq (.seq (.reg [⟨⟨some 9, Op.assign (Operand.const (Value.int IntKind.i64 0)), none⟩, []⟩]) (.block 4 (.loop (.seq (.seq (.reg [⟨⟨some 42, Op.move (Operand.tmp 9), none⟩, []⟩,
  ⟨⟨some 43, Op.move (Operand.tmp 5), none⟩, []⟩,
  ⟨⟨some 44, Op.call { callee := (Callee.builtin Builtin.len), args := #[(Operand.tmp 43)], argTypes := #[25] }, none⟩, []⟩,
  ⟨⟨some 45, Op.binOp BinOp.lss 3 (Operand.tmp 42) (Operand.tmp 44) 3, none⟩, []⟩]) (.cond (Operand.tmp 45) .skip (.exit 4))) (.seq (.block 5 (.reg [⟨⟨some 48, Op.move (Operand.tmp 8), none⟩, []⟩,
  ⟨⟨some 49, Op.move (Operand.tmp 5), none⟩, []⟩,
  ⟨⟨some 50, Op.move (Operand.tmp 9), none⟩, []⟩,
  ⟨⟨some 51, Op.indexAddr 25 (Operand.tmp 49) (Operand.tmp 50), none⟩, []⟩,
  ⟨⟨some 52, Op.load 3 (Operand.tmp 51), none⟩, []⟩,
  ⟨⟨some 53, Op.call { callee := (Callee.value (Operand.func 42)), args := #[(Operand.tmp 48), (Operand.tmp 52)], argTypes := #[25, 3] }, none⟩, []⟩,
  ⟨⟨some 8, Op.assign (Operand.tmp 53), none⟩, []⟩])) (.reg [⟨⟨some 46, Op.move (Operand.tmp 9), none⟩, []⟩,
  ⟨⟨some 47, Op.binOp BinOp.add 3 (Operand.tmp 46) (Operand.const (Value.int IntKind.i64 1)) 3, none⟩, []⟩,
  ⟨⟨some 9, Op.assign (Operand.tmp 47), none⟩, []⟩])))))) (.seq (.reg [⟨⟨some 54, Op.move (Operand.tmp 8), none⟩, []⟩,
  ⟨⟨some 4, Op.assign (Operand.tmp 54), none⟩, []⟩]) .ret))))))
theorem sl20 : slim Try.f20.ntmps ords20 (Try.f20.body.getD .skip) = some cd20 := by kernel_rfl
theorem in20 {args : List Value} {H : AH} {R : Value → AH → Prop} (hl : args.length = 2) (h : ∀ (Q : Exit → Sl → AH → Prop), (∀ e s H, endA Try.prog [ResultVar.tmp 4] R e s H → Q e s H) → wpC Try.prog cd20 Q (enterA args) H) : ACalls Try.prog 20 args H R :=
  ACalls.intro (by kernel_rfl) Try.func20 rfl (by kernel_rfl) sl20 hl (of_decide_eq_true (by kernel_rfl)) (by kernel_rfl) h
end Go.Proofs.Ytlcipphiflcaiaa.Ai
namespace Go.Proofs.Ytlcipphiflcaiaa.Ai
open Go Go.RowKit
set_option linter.unusedVariables false
set_option linter.unusedSimpArgs false
theorem swL_take {ws T : List Int} {i : Nat} (h : i < T.length) : swL ws (T.take (i + 1)) = swL ws (T.take i) + ws.getD (T.getD i 0).toNat 0 := by
  have e : T.take (i + 1) = T.take i ++ [T.getD i 0] := by
    rw [List.take_add_one, List.getElem?_eq_getElem h]
    simp [h]
  rw [e, swL_app]; simp [swL]
theorem swL_rng {ws : List Int} (h0 : ∀ x ∈ ws, 0 ≤ x ∧ x ≤ 99) : ∀ T : List Int, 0 ≤ swL ws T ∧ swL ws T ≤ 99 * (T.length : Int)
  | [] => by simp [swL]
  | a :: T => by
    have ih := swL_rng h0 T
    have e : swL ws (a :: T) = ws.getD a.toNat 0 + swL ws T := by simp [swL]
    have h1 : 0 ≤ ws.getD a.toNat 0 ∧ ws.getD a.toNat 0 ≤ 99 := by
      by_cases q : a.toNat < ws.length
      · exact h0 _ (by simp [q])
      · rw [List.getD_eq_getElem?_getD, List.getElem?_eq_none (by omega)]; decide
    rw [e, List.length_cons]
    omega
set_option maxRecDepth 20000 in
theorem l7Weight_c (v w : Value) (ws T : List Int) (H : AH) (hv : Row 3 H v ws) (hw : Row 3 H w T) (h0 : ∀ x ∈ ws, 0 ≤ x ∧ x ≤ 99) (hT : ∀ e ∈ T, 0 ≤ e ∧ e < ws.length) (hl : T.length ≤ 1000) (hl2 : ws.length ≤ 1000) :
    ACalls Try.prog 19 [v, w] H fun r H' => r = .int .i64 (swL ws T) ∧ H = H' := by
  refine in19 rfl ?_
  intro Q hQ
  simp (maxSteps := 1000000) (disch := omega) only [cd19, S, S1, S2, S3, S4, S5, ST, eq_self, reduceIte, reduceCtorEq, Nat.reduceEqDiff, Nat.reduceAdd]
  refine LoopH.by (fun m s H' => ∃ i, m + i = T.length ∧ s 0 = v ∧ s 1 = w ∧ s 5 = .int .i64 (swL ws (T.take i)) ∧ s 6 = .int .i64 ((i : Nat) : Int) ∧ H = H') T.length ?_ ?_
  · exact ⟨0, by simp, rfl, rfl, rfl, rfl, rfl⟩
  rintro m s H' ⟨i, hm, s0, s1, s5, s6, rfl⟩
  simp (maxSteps := 1000000) (disch := omega) only [s0, s1, s5, s6, hw.len Try.underlying25, S, S1, S2, S3, S4, S5, ST, eq_self, reduceIte, reduceCtorEq, Nat.reduceEqDiff, Nat.reduceAdd]
  refine brD.intro (fun g => ?_) (fun g => ?_)
  · have hi : i < T.length := by omega
    have hme : T.getD i 0 ∈ T := by simp [hi]
    have hr := hT _ hme
    have hc := hw.cell hi
    obtain ⟨x, hx⟩ : ∃ x : Nat, T.getD i 0 = x := ⟨(T.getD i 0).toNat, by omega⟩
    have ht := swL_take (ws := ws) hi
    rw [hx] at hr hc ht
    rw [Int.toNat_natCast] at ht
    have hcw := hv.cell (show x < ws.length by omega)
    have h3 := swL_rng h0 (T.take i)
    have h4 := swL_rng h0 (T.take (i + 1))
    have h5 : (T.take i).length ≤ 1000 := by rw [List.length_take]; omega
    have h6 : (T.take (i + 1)).length ≤ 1000 := by rw [List.length_take]; omega
    have hwr : IntKind.i64.wrap (swL ws (T.take i) + ws.getD x 0) = swL ws (T.take (i + 1)) := by rw [← ht]; exact wrap64 (by omega) (by omega)
    simp (maxSteps := 1000000) (disch := omega) only [s0, s1, s5, s6, hw.ix Try.underlying25 cs3, hv.ix Try.underlying25 cs3, Int.toNat_natCast, hc, hcw, hwr, wrap64, S, S1, S2, S3, S4, S5, ST, eq_self, reduceIte, reduceCtorEq, Nat.reduceEqDiff, Nat.reduceAdd]
    refine ⟨m - 1, by omega, i + 1, ?_⟩
    (repeat' apply And.intro) <;> first | exact h6 | (simp only [Value.int.injEq, true_and]; omega) | omega | rfl | assumption | (simp; done) | (simp; omega)
  · have hi : i = T.length := by omega
    subst hi
    simp (maxSteps := 1000000) (disch := omega) only [s5, S, S1, S2, S3, S4, S5, ST, eq_self, reduceIte, reduceCtorEq, Nat.reduceEqDiff, Nat.reduceAdd]
    refine hQ _ _ _ ?_
    simp (maxSteps := 1000000) (disch := omega) only [S, S1, S2, S3, S4, S5, ST, eq_self, reduceIte, reduceCtorEq, Nat.reduceEqDiff, Nat.reduceAdd]
    rw [List.take_length]
/-- a graph with a node, and weights -/
def WtOk (n : Int) (es : List (Int × Int)) (ws : List Int) : Prop := (∀ x ∈ ws, 0 ≤ x ∧ x ≤ 99) ∧ (Grd n es ∧ 0 < n) ∧ ws.length = es.length
instance (n : Int) (es : List (Int × Int)) (ws : List Int) : Decidable (WtOk n es ws) := by unfold WtOk; infer_instance
set_option maxRecDepth 20000 in
theorem l7Weights_c (n : Int) (v w : Value) (es : List (Int × Int)) (ws : List Int) (H : AH) (hr : RowP 65 H v es) (hlen : es.length ≤ 1099511627776) (hw : Row 3 H w ws) (hlw : ws.length ≤ 1099511627776) :
    ACalls Try.prog 17 [.agg (List.toArray [.int .i64 n, v]), w] H fun r H' => r = .bool (decide (WtOk n es ws)) ∧ H <+: H' := by
  refine in17 rfl ?_
  intro Q hQ
  simp (maxSteps := 1000000) (disch := omega) only [cd17, hr.boxG, S, S1, S2, S3, S4, S5, ST, eq_self, reduceIte, reduceCtorEq, Nat.reduceEqDiff, Nat.reduceAdd]
  generalize hA : H ++ [AObj.cells [.int .i64 n, v] 32 false] = A
  have pA : H <+: A := by rw [← hA]; exact List.prefix_append _ _
  have cA : A[H.length]? = some (.cells [.int .i64 n, v] 32 false) := by rw [← hA]; exact at_new ..
  have rA := hr.pre pA
  have wA := hw.pre pA
  refine LoopH.by (fun m s H' => ∃ i, m + i = ws.length ∧ s 1 = w ∧ s 2 = .pointer (some ⟨H.length, 0, none⟩) ∧ s 5 = .int .i64 ((i : Nat) : Int) ∧ A = H' ∧ ∀ j, j < i → 0 ≤ ws.getD j 0 ∧ ws.getD j 0 ≤ 99) ws.length ?_ ?_
  · exact ⟨0, by simp, rfl, rfl, rfl, rfl, fun j hj => absurd hj (Nat.not_lt_zero j)⟩
  rintro m s H' ⟨i, hm, s1, s2, s5, rfl, hall⟩
  simp (maxSteps := 1000000) (disch := omega) only [s1, s2, s5, wA.len Try.underlying25, S, S1, S2, S3, S4, S5, ST, eq_self, reduceIte, reduceCtorEq, Nat.reduceEqDiff, Nat.reduceAdd]
  refine brD.intro (fun g => ?_) (fun g => ?_)
  · have hi : i < ws.length := by omega
    have hc := wA.cell hi
    simp (maxSteps := 1000000) (disch := omega) only [s1, s2, s5, wA.ix Try.underlying25 cs3, Int.toNat_natCast, hc, S, S1, S2, S3, S4, S5, ST, eq_self, reduceIte, reduceCtorEq, Nat.reduceEqDiff, Nat.reduceAdd]
    refine CallH.by (l1In_c (ws.getD i 0) 0 99 A) ?_
    rintro _ _ ⟨rfl, rfl⟩
    by_cases e : 0 ≤ ws.getD i 0 ∧ ws.getD i 0 ≤ 99
    · simp (maxSteps := 1000000) (disch := omega) only [decide_eq_true e, s1, s2, s5, wrap64, S, S1, S2, S3, S4, S5, ST, eq_self, reduceIte, reduceCtorEq, Nat.reduceEqDiff, Nat.reduceAdd]
      have hall2 : ∀ j, j < i + 1 → 0 ≤ ws.getD j 0 ∧ ws.getD j 0 ≤ 99 := fun j hj => by
        by_cases q : j = i
        · subst q; exact e
        · exact hall j (by omega)
      refine ⟨m - 1, by omega, i + 1, ?_⟩
      (repeat' apply And.intro) <;> first | exact hall2 | (simp only [Value.int.injEq, true_and]; omega) | omega | rfl | assumption | (simp; done) | (simp; omega)
    · simp (maxSteps := 1000000) (disch := omega) only [decide_eq_false e, S, S1, S2, S3, S4, S5, ST, eq_self, reduceIte, reduceCtorEq, Nat.reduceEqDiff, Nat.reduceAdd]
      refine hQ _ _ _ ?_
      simp (maxSteps := 1000000) (disch := omega) only [S, S1, S2, S3, S4, S5, ST, eq_self, reduceIte, reduceCtorEq, Nat.reduceEqDiff, Nat.reduceAdd]
      exact ⟨by rw [decide_eq_false (fun h => e (h.1 _ (by simp [hi])))], pA⟩
  · have hi : i = ws.length := by omega
    subst hi
    have h99 : ∀ x ∈ ws, 0 ≤ x ∧ x ≤ 99 := by
      intro x hx
      obtain ⟨j, hj, rfl⟩ := List.getElem_of_mem hx
      have := hall j hj
      rwa [show ws.getD j 0 = ws[j] by simp [hj]] at this
    simp (maxSteps := 1000000) (disch := omega) only [s2, ld_agg ag32 cs32 cA, S, S1, S2, S3, S4, S5, ST, eq_self, reduceIte, reduceCtorEq, Nat.reduceEqDiff, Nat.reduceAdd]
    refine CallH.by (l7Some_c n v es A rA hlen) ?_
    rintro _ B ⟨rfl, pB⟩
    have cB := pre_at pB cA
    have rB := rA.pre pB
    by_cases e : Grd n es ∧ 0 < n
    · simp (maxSteps := 1000000) (disch := omega) only [decide_eq_true e, s1, s2, (wA.pre pB).len Try.underlying25, cell_of cB, rB.len Try.underlying22, S, S1, S2, S3, S4, S5, ST, eq_self, reduceIte, reduceCtorEq, Nat.reduceEqDiff, Nat.reduceAdd]
      refine hQ _ _ _ ?_
      simp (maxSteps := 1000000) (disch := omega) only [S, S1, S2, S3, S4, S5, ST, eq_self, reduceIte, reduceCtorEq, Nat.reduceEqDiff, Nat.reduceAdd]
      refine ⟨?_, pA.trans pB⟩
      rw [Value.bool.injEq, decide_eq_decide]
      exact ⟨fun h => ⟨h99, e, by omega⟩, fun h => by have := h.2.2; omega⟩
    · simp (maxSteps := 1000000) (disch := omega) only [decide_eq_false e, S, S1, S2, S3, S4, S5, ST, eq_self, reduceIte, reduceCtorEq, Nat.reduceEqDiff, Nat.reduceAdd]
      refine hQ _ _ _ ?_
      simp (maxSteps := 1000000) (disch := omega) only [S, S1, S2, S3, S4, S5, ST, eq_self, reduceIte, reduceCtorEq, Nat.reduceEqDiff, Nat.reduceAdd]
      exact ⟨by rw [decide_eq_false (fun h => e h.2.1)], pA.trans pB⟩
theorem krN_len {n : Nat} (hn : 1 ≤ n) {es : List (Int × Int)} (hg : Grd (n : Int) es) {ws : List Int} (hw : ∀ e : Nat, e < es.length → 0 ≤ ws.getD e 0) (w k : Nat) (hk : k ≤ es.length) :
    Krs n es ws (w : Int) k (krN n es ws (w : Int) (krW n es ws w) k) ∧ (krN n es ws (w : Int) (krW n es ws w) k).length + 1 ≤ n := by
  have h := (krN_ok hg (krW_ok hg hw w) k hk).1
  exact ⟨h, h.fst.few hn hg h.ed⟩
set_option maxRecDepth 20000 in
set_option maxHeartbeats 4000000 in
theorem l7Light_c (n : Nat) (hn : 1 ≤ n) (v w : Value) (es : List (Int × Int)) (ws : List Int) (H : AH) (hr : RowP 65 H v es) (hg : Grd (n : Int) es) (hw : Row 3 H w ws) (hlw : ws.length = es.length) (h0 : ∀ x ∈ ws, 0 ≤ x ∧ x ≤ 99) :
    ACalls Try.prog 20 [.agg (List.toArray [.int .i64 (n : Int), v]), w] H fun r H' => Own 3 H H' r (puts (krW n es ws 100)) ∧ H <+: H' := by
  have h28 : es.length ≤ 28 := grd_len hg
  have hn8 : n ≤ 8 := by have := hg.1; omega
  have hw0 : ∀ e : Nat, e < es.length → 0 ≤ ws.getD e 0 := fun e he => (h0 _ (by simp [show e < ws.length by omega])).1
  refine in20 rfl ?_
  intro Q hQ
  simp (maxSteps := 1000000) (disch := omega) only [cd20, hr.boxG, S, S1, S2, S3, S4, S5, ST, eq_self, reduceIte, reduceCtorEq, Nat.reduceEqDiff, Nat.reduceAdd]
  generalize hA : H ++ [AObj.cells [.int .i64 ↑n, v] 32 false] = A
  have pA : H <+: A := by rw [← hA]; exact List.prefix_append _ _
  have cA : A[H.length]? = some (.cells [.int .i64 ↑n, v] 32 false) := by rw [← hA]; exact at_new ..
  have rA := hr.pre pA
  have wA := hw.pre pA
  generalize hB : A ++ [AObj.cells [] 3 false] = B
  have pB : A <+: B := by rw [← hB]; exact List.prefix_append _ _
  have own0 : Own 3 A B (.slice (some ⟨A.length, 0, none⟩) 0 0) [] := .inr ⟨A.length, rfl, Nat.le_refl _, by rw [← hB]; exact at_new ..⟩
  refine LoopH.by (fun m s H' => ∃ i : Nat, m + i = 100 ∧ s 1 = w ∧ s 2 = .pointer (some ⟨H.length, 0, none⟩) ∧ s 6 = .int .i64 ((i : Nat) : Int) ∧ Own 3 A H' (s 5) (krW n es ws i) ∧ A <+: H') 100 ?_ ?_
  · refine ⟨0, by omega, ?_⟩
    simp (maxSteps := 1000000) (disch := omega) only [S, S1, S2, S3, S4, S5, ST, eq_self, reduceIte, reduceCtorEq, Nat.reduceEqDiff, Nat.reduceAdd]
    have f1 : Own 3 A B (.slice (some ⟨A.length, 0, none⟩) 0 0) (krW n es ws 0) := own0
    (repeat' first | exact f1 | exact pB | apply And.intro) <;> first | (simp only [Value.int.injEq, true_and]; omega) | omega | rfl | assumption | (simp; done) | (simp; omega)
  rintro m s H' ⟨i, hm, s1, s2, s6, hO, hp⟩
  simp (maxSteps := 1000000) (disch := omega) only [s1, s2, s6, S, S1, S2, S3, S4, S5, ST, eq_self, reduceIte, reduceCtorEq, Nat.reduceEqDiff, Nat.reduceAdd]
  refine brD.intro (fun g => ?_) (fun g => ?_)
  rotate_left
  · have hi : i = 100 := by omega
    subst hi
    clear s6 g
    have hk := krW_ok hg hw0 100
    have hlen := hk.fst.few hn hg hk.ed
    have hnd := hk.nd
    generalize krW n es ws 100 = K at *
    simp (maxSteps := 1000000) (disch := omega) only [S, S1, S2, S3, S4, S5, ST, eq_self, reduceIte, reduceCtorEq, Nat.reduceEqDiff, Nat.reduceAdd]
    generalize hC : H' ++ [AObj.cells [] 3 false] = C
    have pC : H' <+: C := by rw [← hC]; exact List.prefix_append _ _
    have ownC : Own 3 A C (.slice (some ⟨H'.length, 0, none⟩) 0 0) [] := .inr ⟨H'.length, rfl, hp.length_le, by rw [← hC]; exact at_new ..⟩
    generalize hV : s 5 = V at *
    have rV := hO.row
    refine LoopH.by (fun m s H2 => ∃ j : Nat, m + j = K.length ∧ s 5 = V ∧ s 9 = .int .i64 ((j : Nat) : Int) ∧ Own 3 A H2 (s 8) (puts (K.take j)) ∧ A <+: H2 ∧ Row 3 H2 V K) K.length ?_ ?_
    · refine ⟨0, by omega, ?_⟩
      simp (maxSteps := 1000000) (disch := omega) only [hV, S, S1, S2, S3, S4, S5, ST, eq_self, reduceIte, reduceCtorEq, Nat.reduceEqDiff, Nat.reduceAdd]
      have f1 : Own 3 A C (.slice (some ⟨H'.length, 0, none⟩) 0 0) (puts (K.take 0)) := ownC
      have f2 := hp.trans pC
      have f3 := rV.pre pC
      (repeat' first | exact f1 | exact f2 | exact f3 | apply And.intro) <;> first | (simp only [Value.int.injEq, true_and]; omega) | omega | rfl | assumption | (simp; done) | (simp; omega)
    rintro m2 t H2 ⟨j, hm2, t5, t9, hO2, hp2, rV2⟩
    simp (maxSteps := 1000000) (disch := omega) only [t5, t9, rV2.len Try.underlying25, S, S1, S2, S3, S4, S5, ST, eq_self, reduceIte, reduceCtorEq, Nat.reduceEqDiff, Nat.reduceAdd]
    refine brD.intro (fun g => ?_) (fun g => ?_)
    · have hj : j < K.length := by omega
      have hc := rV2.cell hj
      have hps := puts_perm _ (K.take j) rfl (List.Nodup.sublist (List.take_sublist _ _) hnd)
      have htk : K.take (j + 1) = K.take j ++ [K.getD j 0] := by
        rw [List.take_add_one, List.getElem?_eq_getElem hj]
        simp [hj]
      have hnot : K.getD j 0 ∉ puts (K.take j) := by
        intro hx
        have hx2 := hps.1.mem_iff.1 hx
        have hnd2 : (K.take (j + 1)).Nodup := List.Nodup.sublist (List.take_sublist _ _) hnd
        rw [htk, List.nodup_append] at hnd2
        exact hnd2.2.2 _ hx2 _ (by simp) rfl
      have hll := hps.1.length_eq
      rw [List.length_take] at hll
      simp (maxSteps := 1000000) (disch := omega) only [t5, t9, rV2.ix Try.underlying25 cs3, Int.toNat_natCast, hc, S, S1, S2, S3, S4, S5, ST, eq_self, reduceIte, reduceCtorEq, Nat.reduceEqDiff, Nat.reduceAdd]
      refine CallH.by (l1Put_c (t 8) (puts (K.take j)) (K.getD j 0) H2 hO2.row (by omega) hnot) ?_
      rintro u D ⟨hu, pD⟩
      rw [← puts_step, ← htk] at hu
      have f1 : Own 3 A D u (puts (K.take (j + 1))) := hu.base hp2
      have f2 := hp2.trans pD
      have f3 := rV2.pre pD
      simp (maxSteps := 1000000) (disch := omega) only [t5, t9, wrap64, hu.row.tup, S, S1, S2, S3, S4, S5, ST, eq_self, reduceIte, reduceCtorEq, Nat.reduceEqDiff, Nat.reduceAdd]
      refine ⟨m2 - 1, by omega, j + 1, ?_⟩
      (repeat' first | exact f1 | exact f2 | exact f3 | apply And.intro) <;> first | (simp only [Value.int.injEq, true_and]; omega) | omega | rfl | assumption | (simp; done) | (simp; omega)
    · have hj : j = K.length := by omega
      subst hj
      rw [List.take_length] at hO2
      simp (maxSteps := 1000000) (disch := omega) only [hO2.row.tup, S, S1, S2, S3, S4, S5, ST, eq_self, reduceIte, reduceCtorEq, Nat.reduceEqDiff, Nat.reduceAdd]
      refine hQ _ _ _ ?_
      simp (maxSteps := 1000000) (disch := omega) only [hO2.row.tup, S, S1, S2, S3, S4, S5, ST, eq_self, reduceIte, reduceCtorEq, Nat.reduceEqDiff, Nat.reduceAdd]
      exact ⟨hO2.base pA, pA.trans hp2⟩
  have hi : i < 100 := by omega
  simp (maxSteps := 1000000) (disch := omega) only [s1, s2, s6, S, S1, S2, S3, S4, S5, ST, eq_self, reduceIte, reduceCtorEq, Nat.reduceEqDiff, Nat.reduceAdd]
  refine LoopH.by (fun m s H2 => ∃ j : Nat, m + j = ws.length ∧ s 1 = w ∧ s 2 = .pointer (some ⟨H.length, 0, none⟩) ∧ s 6 = .int .i64 ((i : Nat) : Int) ∧ s 7 = .int .i64 ((j : Nat) : Int) ∧ Own 3 A H2 (s 5) (krN n es ws (i : Int) (krW n es ws i) j) ∧ A <+: H2) ws.length ?_ ?_
  · refine ⟨0, by omega, ?_⟩
    simp (maxSteps := 1000000) (disch := omega) only [s1, s2, s6, S, S1, S2, S3, S4, S5, ST, eq_self, reduceIte, reduceCtorEq, Nat.reduceEqDiff, Nat.reduceAdd]
    have f1 : Own 3 A H' (s 5) (krN n es ws (i : Int) (krW n es ws i) 0) := hO
    (repeat' first | exact f1 | exact hp | apply And.intro) <;> first | (simp only [Value.int.injEq, true_and]; omega) | omega | rfl | assumption | (simp; done) | (simp; omega)
  rintro m2 t H2 ⟨j, hm2, t1, t2, t6, t7, hO2, hp2⟩
  have wH := wA.pre hp2
  have cH := pre_at hp2 cA
  have rH := rA.pre hp2
  simp (maxSteps := 1000000) (disch := omega) only [t1, t2, t6, t7, wH.len Try.underlying25, S, S1, S2, S3, S4, S5, ST, eq_self, reduceIte, reduceCtorEq, Nat.reduceEqDiff, Nat.reduceAdd]
  refine brD.intro (fun g2 => ?_) (fun g2 => ?_)
  rotate_left
  · have hj : j = es.length := by omega
    subst hj
    have f1 : Own 3 A H2 (t 5) (krW n es ws (i + 1)) := hO2
    simp (maxSteps := 1000000) (disch := omega) only [t1, t2, t6, t7, wrap64, S, S1, S2, S3, S4, S5, ST, eq_self, reduceIte, reduceCtorEq, Nat.reduceEqDiff, Nat.reduceAdd]
    refine ⟨m - 1, by omega, i + 1, ?_⟩
    (repeat' first | exact f1 | exact hp2 | apply And.intro) <;> first | (simp only [Value.int.injEq, true_and]; omega) | omega | rfl | assumption | (simp; done) | (simp; omega)
  have hj : j < ws.length := by omega
  obtain ⟨hK, hKl⟩ := krN_len hn hg hw0 i j (by omega)
  have hc := wH.cell hj
  have hstep : krN n es ws (i : Int) (krW n es ws i) (j + 1) = if ws.getD j 0 = (i : Int) ∧ jnB es n (krN n es ws (i : Int) (krW n es ws i) j) (enA es (j : Int)) (enB es (j : Int)) = false then krN n es ws (i : Int) (krW n es ws i) j ++ [(j : Int)] else krN n es ws (i : Int) (krW n es ws i) j := rfl
  generalize krN n es ws (i : Int) (krW n es ws i) j = K at *
  by_cases e : ws.getD j 0 = (i : Int)
  rotate_left
  · rw [if_neg (fun h => e h.1)] at hstep
    simp (maxSteps := 1000000) (disch := omega) only [t1, t2, t6, t7, wH.ix Try.underlying25 cs3, Int.toNat_natCast, hc, decide_eq_false e, wrap64, ld_agg ag32 cs32 cH, S, S1, S2, S3, S4, S5, ST, eq_self, reduceIte, reduceCtorEq, Nat.reduceEqDiff, Nat.reduceAdd]
    have f1 : Own 3 A H2 (t 5) (krN n es ws (i : Int) (krW n es ws i) (j + 1)) := by rw [hstep]; exact hO2
    refine ⟨⟨trivial, fun h => (by cases h)⟩, fun h => (by cases h), m2 - 1, by omega, j + 1, ?_⟩
    (repeat' first | exact f1 | exact hp2 | apply And.intro) <;> first | (simp only [Value.int.injEq, true_and]; omega) | omega | rfl | assumption | (simp; done) | (simp; omega)
  simp (maxSteps := 1000000) (disch := omega) only [t1, t2, t6, t7, wH.ix Try.underlying25 cs3, Int.toNat_natCast, hc, decide_eq_true e, ld_agg ag32 cs32 cH, S, S1, S2, S3, S4, S5, ST, eq_self, reduceIte, reduceCtorEq, Nat.reduceEqDiff, Nat.reduceAdd]
  generalize hG : H2 ++ [AObj.cells [.int .i64 ((j : Nat) : Int)] 3 false] = G
  have pG : H2 <+: G := by rw [← hG]; exact List.prefix_append _ _
  have cJ : G[H2.length]? = some (.cells [.int .i64 ((j : Nat) : Int)] 3 false) := by rw [← hG]; exact at_new ..
  have rJ : Row 3 G (.slice (some ⟨H2.length, 0, none⟩) 1 1) [((j : Nat) : Int)] := .inr ⟨H2.length, 0, [.int .i64 ((j : Nat) : Int)], false, rfl, cJ, by simp, rfl⟩
  refine CallH.by (l1Own_c (t 5) K G (hO2.row.pre pG) (by omega)) ?_
  rintro c C ⟨hcO, pC⟩
  obtain ⟨c2, D, a1, a2, a3', _⟩ := hcO.app (P := Try.prog) (t := 25) Try.underlying25 cs3 (by rw [by3]; decide) zk3 (rJ.pre pC) pC (by simp; omega)
  have a3 : H2 <+: D := pG.trans a3'
  have cC := pre_at (pG.trans pC) cH
  have cJC : C[H2.length]? = G[H2.length]? := by rw [pre_at pC cJ, cJ]
  have cD := pre_at a3 cH
  have rD := rH.pre a3
  simp (maxSteps := 1000000) (disch := omega) only [a1, cJC, t1, t2, t6, t7, ld_agg ag32 cs32 cD, ld_agg ag32 cs32 cC, S, S1, S2, S3, S4, S5, ST, eq_self, reduceIte, reduceCtorEq, Nat.reduceEqDiff, Nat.reduceAdd]
  refine ⟨fun _ => trivial, fun _ => trivial, ?_⟩
  refine CallH.by (l7Closes_c n v c2 es K (j : Int) D rD hg a2.row hK.ed (by omega) (by omega)) ?_
  rintro _ E ⟨rfl, pE⟩
  have pHE := a3.trans pE
  have hOE := hO2.pre pHE
  have hpE := hp2.trans pHE
  by_cases hjn : jnB es n K (enA es (j : Int)) (enB es (j : Int)) = true
  · rw [if_neg (fun h => by rw [hjn] at h; cases h.2)] at hstep
    rw [hjn]
    simp (maxSteps := 1000000) (disch := omega) only [t1, t2, t6, t7, wrap64, S, S1, S2, S3, S4, S5, ST, eq_self, reduceIte, reduceCtorEq, Nat.reduceEqDiff, Nat.reduceAdd]
    refine ⟨m2 - 1, by omega, j + 1, ?_⟩
    have f1 : Own 3 A E (t 5) (krN n es ws (i : Int) (krW n es ws i) (j + 1)) := by rw [hstep]; exact hOE
    (repeat' first | exact f1 | exact hpE | apply And.intro) <;> first | (simp only [Value.int.injEq, true_and]; omega) | omega | rfl | assumption | (simp; done) | (simp; omega)
  · rw [Bool.not_eq_true] at hjn
    rw [if_pos ⟨e, hjn⟩] at hstep
    rw [hjn]
    obtain ⟨c3, F, b1, b2, b3, b4, b5, b6⟩ := own1_25 hOE hpE (by omega) ((j : Nat) : Int)
    simp (maxSteps := 1000000) (disch := omega) only [b1, t1, t2, t6, t7, wrap64, S, S1, S2, S3, S4, S5, ST, eq_self, reduceIte, reduceCtorEq, Nat.reduceEqDiff, Nat.reduceAdd]
    refine ⟨m2 - 1, by omega, j + 1, ?_⟩
    have f1 : Own 3 A F c3 (krN n es ws (i : Int) (krW n es ws i) (j + 1)) := by rw [hstep]; exact b2
    (repeat' first | exact f1 | exact b3 | apply And.intro) <;> first | (simp only [Value.int.injEq, true_and]; omega) | omega | rfl | assumption | (simp; done) | (simp; omega)
end Go.Proofs.Ytlcipphiflcaiaa.Ai
namespace Go.Proofs.Ytlcipphiflcaiaa.Ai
open Go
def ords47 : List (Nat × List (Nat × Bool)) := []
def cd47 : Cd := (.seq (.reg [⟨⟨some 2, Op.assign (Operand.const (Value.bool false)), none⟩, []⟩]) (.seq (.reg [⟨⟨some 3, Op.move (Operand.tmp 0), none⟩, []⟩,
  ⟨⟨some 4, Op.call { callee := (Callee.value (Operand.func 48)), args := #[(Operand.tmp 3), (Operand.const (Value.int IntKind.i64 0)), (Operand.const (Value.int IntKind.i64 99))], argTypes := #[3, 3, 3] }, none⟩, []⟩,
  ⟨⟨some 5, Op.unOp UnOp.not 4 (Operand.tmp 4), none⟩, []⟩,
  ⟨⟨some 2, Op.assign (Operand.tmp 5), none⟩, []⟩]) .ret))
theorem sl47 : slim Try.f47.ntmps ords47 (Try.f47.body.getD .skip) = some cd47 := by kernel_rfl
theorem in47 {args : List Value} {H : AH} {R : Value → AH → Prop} (hl : args.length = 1) (h : ∀ (Q : Exit → Sl → AH → Prop), (∀ e s H, endA Try.prog [ResultVar.tmp 2] R e s H → Q e s H) → wpC Try.prog cd47 Q (enterA args) H) : ACalls Try.prog 47 args H R :=
  ACalls.intro (by kernel_rfl) Try.func47 rfl (by kernel_rfl) sl47 hl (of_decide_eq_true (by kernel_rfl)) (by kernel_rfl) h
def ords23 : List (Nat × List (Nat × Bool)) := []
def cd23 : Cd := (.seq (.reg [⟨⟨some 2, Op.box 32 (Operand.tmp 0), none⟩, []⟩,
  ⟨⟨some 4, Op.assign (Operand.const (Value.bool false)), none⟩, []⟩]) (.seq (.reg [⟨⟨some 5, Op.load 32 (Operand.tmp 2), none⟩, []⟩,
  ⟨⟨some 6, Op.call { callee := (Callee.value (Operand.func 45)), args := #[(Operand.tmp 5)], argTypes := #[32] }, none⟩, []⟩,
  ⟨⟨some 7, Op.move (Operand.tmp 6), none⟩, []⟩,
  ⟨⟨some 8, Op.fieldAddr 32 (Operand.tmp 2) 0, some (7, true)⟩, []⟩,
  ⟨⟨some 9, Op.load 3 (Operand.tmp 8), some (7, true)⟩, []⟩,
  ⟨⟨some 10, Op.binOp BinOp.gtr 3 (Operand.tmp 9) (Operand.const (Value.int IntKind.i64 0)) 3, some (7, true)⟩, []⟩,
  ⟨⟨some 11, Op.pick (Operand.tmp 7) (Operand.tmp 10) (Operand.const (Value.bool false)), none⟩, []⟩,
  ⟨⟨some 12, Op.move (Operand.tmp 11), none⟩, []⟩,
  ⟨⟨some 13, Op.move (Operand.tmp 1), some (12, true)⟩, []⟩,
  ⟨⟨some 14, Op.call { callee := (Callee.builtin Builtin.len), args := #[(Operand.tmp 13)], argTypes := #[25] }, some (12, true)⟩, []⟩,
  ⟨⟨some 15, Op.fieldAddr 32 (Operand.tmp 2) 1, some (12, true)⟩, []⟩,
  ⟨⟨some 16, Op.load 22 (Operand.tmp 15), some (12, true)⟩, []⟩,
  ⟨⟨some 17, Op.call { callee := (Callee.builtin Builtin.len), args := #[(Operand.tmp 16)], argTypes := #[22] }, some (12, true)⟩, []⟩,
  ⟨⟨some 18, Op.binOp BinOp.eql 3 (Operand.tmp 14) (Operand.tmp 17) 3, some (12, true)⟩, []⟩,
  ⟨⟨some 19, Op.pick (Operand.tmp 12) (Operand.tmp 18) (Operand.const (Value.bool false)), none⟩, []⟩,
  ⟨⟨some 20, Op.move (Operand.tmp 19), none⟩, []⟩,
  ⟨⟨some 21, Op.move (Operand.tmp 1), some (20, true)⟩, []⟩,
  ⟨⟨some 22, Op.call { callee := (Callee.value (Operand.func 46)), args := #[(Operand.tmp 21), (Operand.func 47)], argTypes := #[25, 68] }, some (20, true)⟩, []⟩,
  ⟨⟨some 23, Op.unOp UnOp.not 4 (Operand.tmp 22), some (20, true)⟩, []⟩,
  ⟨⟨some 24, Op.pick (Operand.tmp 20) (Operand.tmp 23) (Operand.const (Value.bool false)), none⟩, []⟩,
  ⟨⟨some 4, Op.assign (Operand.tmp 24), none⟩, []⟩]) .ret))
theorem sl23 : slim Try.f23.ntmps ords23 (Try.f23.body.getD .skip) = some cd23 := by kernel_rfl
theorem in23 {args : List Value} {H : AH} {R : Value → AH → Prop} (hl : args.length = 2) (h : ∀ (Q : Exit → Sl → AH → Prop), (∀ e s H, endA Try.prog [ResultVar.tmp 4] R e s H → Q e s H) → wpC Try.prog cd23 Q (enterA args) H) : ACalls Try.prog 23 args H R :=
  ACalls.intro (by kernel_rfl) Try.func23 rfl (by kernel_rfl) sl23 hl (of_decide_eq_true (by kernel_rfl)) (by kernel_rfl) h
def ords29 : List (Nat × List (Nat × Bool)) := []
def cd29 : Cd := (.seq (.reg [⟨⟨some 4, Op.assign (Operand.const (Value.bool false)), none⟩, []⟩]) (.seq (.reg [⟨⟨some 5, Op.assign (Operand.const (Value.int IntKind.i64 0)), none⟩, []⟩]) (.seq (.seq (.reg [⟨⟨some 8, Op.move (Operand.tmp 0), none⟩, []⟩,
  ⟨⟨some 9, Op.call { callee := (Callee.builtin Builtin.len), args := #[(Operand.tmp 8)], argTypes := #[25] }, none⟩, []⟩,
  ⟨⟨some 10, Op.move (Operand.const (Value.int IntKind.i64 0)), none⟩, []⟩]) (.block 0 (.loop (.seq (.reg [⟨⟨some 11, Op.binOp BinOp.lss 3 (Operand.tmp 10) (Operand.tmp 9) 3, none⟩, []⟩]) (.seq (.cond (Operand.tmp 11) .skip (.exit 0)) (.seq (.block 1 (.seq (.reg [⟨⟨some 12, Op.indexAddr 25 (Operand.tmp 8) (Operand.tmp 10), none⟩, []⟩,
  ⟨⟨some 13, Op.load 3 (Operand.tmp 12), none⟩, []⟩,
  ⟨⟨some 7, Op.assign (Operand.tmp 13), none⟩, []⟩]) (.reg [⟨⟨some 14, Op.move (Operand.tmp 5), none⟩, []⟩,
  ⟨⟨some 15, Op.load 25 (Operand.tmp 1), none⟩, []⟩,
  ⟨⟨some 16, Op.move (Operand.tmp 7), none⟩, []⟩,
  ⟨⟨some 17, Op.indexAddr 25 (Operand.tmp 15) (Operand.tmp 16), none⟩, []⟩,
  ⟨⟨some 18, Op.load 3 (Operand.tmp 17), none⟩, []⟩,
  ⟨⟨some 19, Op.binOp BinOp.add 3 (Operand.tmp 14) (Operand.tmp 18) 3, none⟩, []⟩,
  ⟨⟨some 5, Op.assign (Operand.tmp 19), none⟩, []⟩]))) (.reg [⟨⟨some 20, Op.binOp BinOp.add 3 (Operand.tmp 10) (Operand.const (Value.int IntKind.i64 1)) 3, none⟩, []⟩,
  ⟨⟨some 10, Op.move (Operand.tmp 20), none⟩, []⟩]))))))) (.seq (.reg [⟨⟨some 21, Op.move (Operand.tmp 5), none⟩, []⟩,
  ⟨⟨some 22, Op.load 3 (Operand.tmp 2), none⟩, []⟩,
  ⟨⟨some 23, Op.binOp BinOp.gtr 3 (Operand.tmp 21) (Operand.tmp 22) 3, none⟩, []⟩,
  ⟨⟨some 4, Op.assign (Operand.tmp 23), none⟩, []⟩]) .ret))))
theorem sl29 : slim Try.f29.ntmps ords29 (Try.f29.body.getD .skip) = some cd29 := by kernel_rfl
theorem in29 {args : List Value} {H : AH} {R : Value → AH → Prop} (hl : args.length = 3) (h : ∀ (Q : Exit → Sl → AH → Prop), (∀ e s H, endA Try.prog [ResultVar.tmp 4] R e s H → Q e s H) → wpC Try.prog cd29 Q (enterA args) H) : ACalls Try.prog 29 args H R :=
  ACalls.intro (by kernel_rfl) Try.func29 rfl (by kernel_rfl) sl29 hl (of_decide_eq_true (by kernel_rfl)) (by kernel_rfl) h
end Go.Proofs.Ytlcipphiflcaiaa.Ai
namespace Go.Proofs.Ytlcipphiflcaiaa.Ai
open Go Go.RowKit
set_option linter.unusedVariables false
set_option linter.unusedSimpArgs false
theorem isWeighted1_c (x : Int) (H : AH) : ACalls Try.prog 47 [.int .i64 x] H fun r H' => r = .bool (!decide (0 ≤ x ∧ x ≤ 99)) ∧ H = H' := by
  refine in47 rfl ?_
  intro Q hQ
  simp (maxSteps := 1000000) (disch := omega) only [cd47, S, S1, S2, S3, S4, S5, ST, eq_self, reduceIte, reduceCtorEq, Nat.reduceEqDiff, Nat.reduceAdd]
  refine CallH.by (between_c x 0 99 H) ?_
  rintro _ _ ⟨rfl, rfl⟩
  simp (maxSteps := 1000000) (disch := omega) only [S, S1, S2, S3, S4, S5, ST, eq_self, reduceIte, reduceCtorEq, Nat.reduceEqDiff, Nat.reduceAdd]
  refine hQ _ _ _ ?_
  simp (maxSteps := 1000000) (disch := omega) only [S, S1, S2, S3, S4, S5, ST, eq_self, reduceIte, reduceCtorEq, Nat.reduceEqDiff, Nat.reduceAdd]
set_option maxRecDepth 20000 in
theorem isWeighted_c (n : Int) (v w : Value) (es : List (Int × Int)) (ws : List Int) (H : AH) (hr : RowP 65 H v es) (hlen : es.length ≤ 1099511627776) (hw : Row 3 H w ws) (hlw : ws.length ≤ 1099511627776) :
    ACalls Try.prog 23 [.agg (List.toArray [.int .i64 n, v]), w] H fun r H' => r = .bool (decide (WtOk n es ws)) ∧ H <+: H' := by
  refine in23 rfl ?_
  intro Q hQ
  simp (maxSteps := 1000000) (disch := omega) only [cd23, hr.boxG, S, S1, S2, S3, S4, S5, ST, eq_self, reduceIte, reduceCtorEq, Nat.reduceEqDiff, Nat.reduceAdd]
  generalize hA : H ++ [AObj.cells [.int .i64 n, v] 32 false] = A
  have pA : H <+: A := by rw [← hA]; exact List.prefix_append _ _
  have cA : A[H.length]? = some (.cells [.int .i64 n, v] 32 false) := by rw [← hA]; exact at_new ..
  have rA := hr.pre pA
  simp (maxSteps := 1000000) (disch := omega) only [ld_agg ag32 cs32 cA, S, S1, S2, S3, S4, S5, ST, eq_self, reduceIte, reduceCtorEq, Nat.reduceEqDiff, Nat.reduceAdd]
  refine CallH.by (IsGraph_c n v es A rA (by omega)) ?_
  rintro _ B ⟨rfl, pB⟩
  have cB := pre_at pB cA
  have rB := rA.pre pB
  have pHB := pA.trans pB
  have wB := hw.pre pHB
  by_cases e : Grd n es
  rotate_left
  · simp (maxSteps := 1000000) (disch := omega) only [decide_eq_false e, S, S1, S2, S3, S4, S5, ST, eq_self, reduceIte, reduceCtorEq, Nat.reduceEqDiff, Nat.reduceAdd]
    refine hQ _ _ _ ?_
    simp (maxSteps := 1000000) (disch := omega) only [S, S1, S2, S3, S4, S5, ST, eq_self, reduceIte, reduceCtorEq, Nat.reduceEqDiff, Nat.reduceAdd]
    exact ⟨by rw [decide_eq_false (fun h => e h.2.1.1)], pHB⟩
  by_cases e1 : 0 < n
  rotate_left
  · simp (maxSteps := 1000000) (disch := omega) only [decide_eq_true e, cell_of cB, decide_eq_false e1, S, S1, S2, S3, S4, S5, ST, eq_self, reduceIte, reduceCtorEq, Nat.reduceEqDiff, Nat.reduceAdd]
    refine hQ _ _ _ ?_
    simp (maxSteps := 1000000) (disch := omega) only [S, S1, S2, S3, S4, S5, ST, eq_self, reduceIte, reduceCtorEq, Nat.reduceEqDiff, Nat.reduceAdd]
    exact ⟨by rw [decide_eq_false (fun h => e1 h.2.1.2)], pHB⟩
  by_cases e2 : (ws.length : Int) = (es.length : Int)
  rotate_left
  · simp (maxSteps := 1000000) (disch := omega) only [decide_eq_true e, cell_of cB, decide_eq_true e1, wB.len Try.underlying25, rB.len Try.underlying22, decide_eq_false e2, S, S1, S2, S3, S4, S5, ST, eq_self, reduceIte, reduceCtorEq, Nat.reduceEqDiff, Nat.reduceAdd]
    refine hQ _ _ _ ?_
    simp (maxSteps := 1000000) (disch := omega) only [S, S1, S2, S3, S4, S5, ST, eq_self, reduceIte, reduceCtorEq, Nat.reduceEqDiff, Nat.reduceAdd]
    exact ⟨by rw [decide_eq_false (fun h => e2 (by have := h.2.2; omega))], pHB⟩
  simp (maxSteps := 1000000) (disch := omega) only [decide_eq_true e, cell_of cB, decide_eq_true e1, wB.len Try.underlying25, rB.len Try.underlying22, decide_eq_true e2, S, S1, S2, S3, S4, S5, ST, eq_self, reduceIte, reduceCtorEq, Nat.reduceEqDiff, Nat.reduceAdd]
  refine CallH.by (ContainsFunc_c w ws (fun x => !decide (0 ≤ x ∧ x ≤ 99)) 47 [] B wB hlw (fun x _ => isWeighted1_c x B)) ?_
  rintro _ _ ⟨rfl, rfl⟩
  simp (maxSteps := 1000000) (disch := omega) only [S, S1, S2, S3, S4, S5, ST, eq_self, reduceIte, reduceCtorEq, Nat.reduceEqDiff, Nat.reduceAdd]
  refine hQ _ _ _ ?_
  simp (maxSteps := 1000000) (disch := omega) only [S, S1, S2, S3, S4, S5, ST, eq_self, reduceIte, reduceCtorEq, Nat.reduceEqDiff, Nat.reduceAdd]
  refine ⟨?_, pHB⟩
  rw [Value.bool.injEq, Bool.eq_iff_iff, decide_eq_true_eq]
  constructor
  · intro h
    refine ⟨fun x hx => ?_, ⟨e, e1⟩, by omega⟩
    refine Classical.byContradiction fun hc => ?_
    have : ws.any (fun x => !decide (0 ≤ x ∧ x ≤ 99)) = true := List.any_eq_true.2 ⟨x, hx, by rw [decide_eq_false hc]; rfl⟩
    rw [this] at h
    cases h
  · intro h
    cases ha : ws.any (fun x => !decide (0 ≤ x ∧ x ≤ 99)) with
    | false => rfl
    | true =>
      obtain ⟨x, hx, hq⟩ := List.any_eq_true.1 ha
      have := h.1 x hx
      rw [decide_eq_true this] at hq
      cases hq
set_option maxRecDepth 20000 in
theorem heavy_c (w v : Value) (pw pl : Nat) (ws T : List Int) (least : Int) (H : AH) (hw : Row 3 H w ws) (hv : Row 3 H v T) (cw : H[pw]? = some (.cells [w] 25 false)) (cl : H[pl]? = some (.cells [.int .i64 least] 3 false)) (h0 : ∀ x ∈ ws, 0 ≤ x ∧ x ≤ 99) (hT : ∀ e ∈ T, 0 ≤ e ∧ e < ws.length) (hl : T.length ≤ 1000) (hl2 : ws.length ≤ 1000) :
    ACalls Try.prog 29 [v, .pointer (some ⟨pw, 0, none⟩), .pointer (some ⟨pl, 0, none⟩)] H fun r H' => r = .bool (decide (least < swL ws T)) ∧ H = H' := by
  refine in29 rfl ?_
  intro Q hQ
  simp (maxSteps := 1000000) (disch := omega) only [cd29, hv.len Try.underlying25, S, S1, S2, S3, S4, S5, ST, eq_self, reduceIte, reduceCtorEq, Nat.reduceEqDiff, Nat.reduceAdd]
  refine LoopH.by (fun m s H' => ∃ i, m + i = T.length ∧ s 1 = .pointer (some ⟨pw, 0, none⟩) ∧ s 2 = .pointer (some ⟨pl, 0, none⟩) ∧ s 5 = .int .i64 (swL ws (T.take i)) ∧ s 8 = v ∧ s 9 = .int .i64 (T.length : Int) ∧ s 10 = .int .i64 ((i : Nat) : Int) ∧ H = H') T.length ?_ ?_
  · exact ⟨0, by simp, rfl, rfl, rfl, rfl, rfl, rfl, rfl⟩
  rintro m s H' ⟨i, hm, s1, s2, s5, s8, s9, s10, rfl⟩
  simp (maxSteps := 1000000) (disch := omega) only [s1, s2, s5, s8, s9, s10, S, S1, S2, S3, S4, S5, ST, eq_self, reduceIte, reduceCtorEq, Nat.reduceEqDiff, Nat.reduceAdd]
  refine brD.intro (fun g => ?_) (fun g => ?_)
  · have hi : i < T.length := by omega
    have hme : T.getD i 0 ∈ T := by simp [hi]
    have hr := hT _ hme
    have hc := hv.cell hi
    obtain ⟨x, hx⟩ : ∃ x : Nat, T.getD i 0 = x := ⟨(T.getD i 0).toNat, by omega⟩
    have ht := swL_take (ws := ws) hi
    rw [hx] at hr hc ht
    rw [Int.toNat_natCast] at ht
    have hcw := hw.cell (show x < ws.length by omega)
    have h3 := swL_rng h0 (T.take i)
    have h4 := swL_rng h0 (T.take (i + 1))
    have h5 : (T.take i).length ≤ 1000 := by rw [List.length_take]; omega
    have h6 : (T.take (i + 1)).length ≤ 1000 := by rw [List.length_take]; omega
    have hwr : IntKind.i64.wrap (swL ws (T.take i) + ws.getD x 0) = swL ws (T.take (i + 1)) := by rw [← ht]; exact wrap64 (by omega) (by omega)
    simp (maxSteps := 1000000) (disch := omega) only [s1, s2, s5, s8, s9, s10, cell_of cw, hv.ix Try.underlying25 cs3, hw.ix Try.underlying25 cs3, Int.toNat_natCast, hc, hcw, hwr, wrap64, S, S1, S2, S3, S4, S5, ST, eq_self, reduceIte, reduceCtorEq, Nat.reduceEqDiff, Nat.reduceAdd]
    refine ⟨m - 1, by omega, i + 1, ?_⟩
    (repeat' apply And.intro) <;> first | exact h6 | (simp only [Value.int.injEq, true_and]; omega) | omega | rfl | assumption | (simp; done) | (simp; omega)
  · have hi : i = T.length := by omega
    subst hi
    simp (maxSteps := 1000000) (disch := omega) only [s2, s5, cell_of cl, S, S1, S2, S3, S4, S5, ST, eq_self, reduceIte, reduceCtorEq, Nat.reduceEqDiff, Nat.reduceAdd]
    refine hQ _ _ _ ?_
    simp (maxSteps := 1000000) (disch := omega) only [S, S1, S2, S3, S4, S5, ST, eq_self, reduceIte, reduceCtorEq, Nat.reduceEqDiff, Nat.reduceAdd]
    rw [List.take_length]
end Go.Proofs.Ytlcipphiflcaiaa.Ai
namespace Go.Proofs.Ytlcipphiflcaiaa.Ai
open Go
def ords25 : List (Nat × List (Nat × Bool)) := [(19, [(0, false), (1, false), (2, false), (3, false), (4, false), (5, false), (6, false), (7, false)])]
def cd25 : Cd := (.seq (.reg [⟨⟨some 3, Op.box 32 (Operand.tmp 0), none⟩, []⟩,
  ⟨⟨some 6, Op.assign (Operand.const (Value.int IntKind.i64 0)), none⟩, []⟩,
  ⟨⟨some 7, Op.assign (Operand.const (Value.bool false)), none⟩, []⟩]) (.seq (.reg [⟨⟨some 16, Op.fieldAddr 32 (Operand.tmp 3) 0, none⟩, []⟩,
  ⟨⟨some 17, Op.load 3 (Operand.tmp 16), none⟩, []⟩,
  ⟨⟨some 18, Op.call { callee := (Callee.value (Operand.func 53)), args := #[(Operand.tmp 17)], argTypes := #[3] }, none⟩, []⟩,
  ⟨⟨some 8, Op.assign (Operand.tmp 18), none⟩, []⟩,
  ⟨⟨some 9, Op.assign (Operand.const (Value.int IntKind.i64 0)), none⟩, []⟩,
  ⟨⟨some 10, Op.assign (Operand.const (Value.int IntKind.i64 0)), none⟩, []⟩]) (.seq (.seq (.reg [⟨⟨some 19, Op.move (Operand.tmp 2), none⟩, []⟩,
  ⟨⟨some 20, Op.call { callee := (Callee.builtin Builtin.len), args := #[(Operand.tmp 19)], argTypes := #[25] }, none⟩, []⟩,
  ⟨⟨some 21, Op.move (Operand.const (Value.int IntKind.i64 0)), none⟩, []⟩]) (.block 0 (.loop (.seq (.reg [⟨⟨some 22, Op.binOp BinOp.lss 3 (Operand.tmp 21) (Operand.tmp 20) 3, none⟩, []⟩]) (.seq (.cond (Operand.tmp 22) .skip (.exit 0)) (.seq (.block 1 (.seq (.reg [⟨⟨some 23, Op.indexAddr 25 (Operand.tmp 19) (Operand.tmp 21), none⟩, []⟩,
  ⟨⟨some 24, Op.load 3 (Operand.tmp 23), none⟩, []⟩,
  ⟨⟨some 12, Op.assign (Operand.tmp 24), none⟩, []⟩]) (.seq (.seq (.reg [⟨⟨some 25, Op.move (Operand.tmp 8), none⟩, []⟩,
  ⟨⟨some 26, Op.fieldAddr 32 (Operand.tmp 3) 1, none⟩, []⟩,
  ⟨⟨some 27, Op.load 22 (Operand.tmp 26), none⟩, []⟩,
  ⟨⟨some 28, Op.move (Operand.tmp 12), none⟩, []⟩,
  ⟨⟨some 29, Op.indexAddr 22 (Operand.tmp 27) (Operand.tmp 28), none⟩, []⟩,
  ⟨⟨some 30, Op.load 65 (Operand.tmp 29), none⟩, []⟩,
  ⟨⟨some 31, Op.call { callee := (Callee.value (Operand.func 52)), args := #[(Operand.tmp 25), (Operand.tmp 30)], argTypes := #[70, 65] }, none⟩, []⟩,
  ⟨⟨some 32, Op.unOp UnOp.not 4 (Operand.tmp 31), none⟩, []⟩]) (.cond (Operand.tmp 32) (.seq (.reg [⟨⟨some 6, Op.assign (Operand.const (Value.int IntKind.i64 0)), none⟩, []⟩,
  ⟨⟨some 7, Op.assign (Operand.const (Value.bool false)), none⟩, []⟩]) .ret) .skip)) (.reg [⟨⟨some 33, Op.move (Operand.tmp 9), none⟩, []⟩,
  ⟨⟨some 34, Op.move (Operand.tmp 1), none⟩, []⟩,
  ⟨⟨some 35, Op.move (Operand.tmp 12), none⟩, []⟩,
  ⟨⟨some 36, Op.indexAddr 25 (Operand.tmp 34) (Operand.tmp 35), none⟩, []⟩,
  ⟨⟨some 37, Op.load 3 (Operand.tmp 36), none⟩, []⟩,
  ⟨⟨some 38, Op.binOp BinOp.add 3 (Operand.tmp 33) (Operand.tmp 37) 3, none⟩, []⟩,
  ⟨⟨some 39, Op.move (Operand.tmp 10), none⟩, []⟩,
  ⟨⟨some 40, Op.binOp BinOp.add 3 (Operand.tmp 39) (Operand.const (Value.int IntKind.i64 1)) 3, none⟩, []⟩,
  ⟨⟨some 9, Op.assign (Operand.tmp 38), none⟩, []⟩,
  ⟨⟨some 10, Op.assign (Operand.tmp 40), none⟩, []⟩])))) (.reg [⟨⟨some 41, Op.binOp BinOp.add 3 (Operand.tmp 21) (Operand.const (Value.int IntKind.i64 1)) 3, none⟩, []⟩,
  ⟨⟨some 21, Op.move (Operand.tmp 41), none⟩, []⟩]))))))) (.seq (.seq (.reg [⟨⟨some 42, Op.move (Operand.const (Value.int IntKind.i64 0)), none⟩, []⟩]) (.block 2 (.loop (.seq (.reg [⟨⟨some 43, Op.binOp BinOp.lss 3 (Operand.tmp 42) (Operand.const (Value.int IntKind.i64 100)) 3, none⟩, []⟩]) (.seq (.cond (Operand.tmp 43) .skip (.exit 2)) (.seq (.block 3 (.seq (.reg [⟨⟨some 44, Op.move (Operand.tmp 42), none⟩, []⟩,
  ⟨⟨some 13, Op.assign (Operand.tmp 44), none⟩, []⟩]) (.seq (.reg [⟨⟨some 45, Op.fieldAddr 32 (Operand.tmp 3) 1, none⟩, []⟩,
  ⟨⟨some 46, Op.load 22 (Operand.tmp 45), none⟩, []⟩,
  ⟨⟨some 47, Op.call { callee := (Callee.builtin Builtin.len), args := #[(Operand.tmp 46)], argTypes := #[22] }, none⟩, []⟩,
  ⟨⟨some 48, Op.move (Operand.const (Value.int IntKind.i64 0)), none⟩, []⟩]) (.block 4 (.loop (.seq (.reg [⟨⟨some 49, Op.binOp BinOp.lss 3 (Operand.tmp 48) (Operand.tmp 47) 3, none⟩, []⟩]) (.seq (.cond (Operand.tmp 49) .skip (.exit 4)) (.seq (.block 5 (.seq (.reg [⟨⟨some 50, Op.move (Operand.tmp 48), none⟩, []⟩,
  ⟨⟨some 51, Op.indexAddr 22 (Operand.tmp 46) (Operand.tmp 48), none⟩, []⟩,
  ⟨⟨some 52, Op.load 65 (Operand.tmp 51), none⟩, []⟩,
  ⟨⟨some 15, Op.alloc 65, none⟩, []⟩,
  ⟨⟨some 14, Op.assign (Operand.tmp 50), none⟩, []⟩,
  ⟨⟨none, Op.store 65 (Operand.tmp 15) (Operand.tmp 52), none⟩, []⟩]) (.seq (.reg [⟨⟨some 53, Op.move (Operand.tmp 1), none⟩, []⟩,
  ⟨⟨some 54, Op.move (Operand.tmp 14), none⟩, []⟩,
  ⟨⟨some 55, Op.indexAddr 25 (Operand.tmp 53) (Operand.tmp 54), none⟩, []⟩,
  ⟨⟨some 56, Op.load 3 (Operand.tmp 55), none⟩, []⟩,
  ⟨⟨some 57, Op.move (Operand.tmp 13), none⟩, []⟩,
  ⟨⟨some 58, Op.binOp BinOp.eql 3 (Operand.tmp 56) (Operand.tmp 57) 3, none⟩, []⟩,
  ⟨⟨some 59, Op.move (Operand.tmp 58), none⟩, []⟩,
  ⟨⟨some 60, Op.move (Operand.tmp 8), some (59, true)⟩, []⟩,
  ⟨⟨some 61, Op.load 65 (Operand.tmp 15), some (59, true)⟩, []⟩,
  ⟨⟨some 62, Op.call { callee := (Callee.value (Operand.func 52)), args := #[(Operand.tmp 60), (Operand.tmp 61)], argTypes := #[70, 65] }, some (59, true)⟩, []⟩,
  ⟨⟨some 63, Op.pick (Operand.tmp 59) (Operand.tmp 62) (Operand.const (Value.bool false)), none⟩, []⟩]) (.cond (Operand.tmp 63) (.reg [⟨⟨some 64, Op.move (Operand.tmp 9), none⟩, []⟩,
  ⟨⟨some 65, Op.move (Operand.tmp 13), none⟩, []⟩,
  ⟨⟨some 66, Op.binOp BinOp.add 3 (Operand.tmp 64) (Operand.tmp 65) 3, none⟩, []⟩,
  ⟨⟨some 67, Op.move (Operand.tmp 10), none⟩, []⟩,
  ⟨⟨some 68, Op.binOp BinOp.add 3 (Operand.tmp 67) (Operand.const (Value.int IntKind.i64 1)) 3, none⟩, []⟩,
  ⟨⟨some 9, Op.assign (Operand.tmp 66), none⟩, []⟩,
  ⟨⟨some 10, Op.assign (Operand.tmp 68), none⟩, []⟩]) .skip)))) (.reg [⟨⟨some 69, Op.binOp BinOp.add 3 (Operand.tmp 48) (Operand.const (Value.int IntKind.i64 1)) 3, none⟩, []⟩,
  ⟨⟨some 48, Op.move (Operand.tmp 69), none⟩, []⟩]))))))))) (.reg [⟨⟨some 70, Op.binOp BinOp.add 3 (Operand.tmp 42) (Operand.const (Value.int IntKind.i64 1)) 3, none⟩, []⟩,
  ⟨⟨some 42, Op.move (Operand.tmp 70), none⟩, []⟩]))))))) (.seq (.reg [⟨⟨some 71, Op.move (Operand.tmp 9), none⟩, []⟩,
  ⟨⟨some 72, Op.move (Operand.tmp 10), none⟩, []⟩,
  ⟨⟨some 73, Op.fieldAddr 32 (Operand.tmp 3) 0, none⟩, []⟩,
  ⟨⟨some 74, Op.load 3 (Operand.tmp 73), none⟩, []⟩,
  ⟨⟨some 75, Op.binOp BinOp.sub 3 (Operand.tmp 74) (Operand.const (Value.int IntKind.i64 1)) 3, none⟩, []⟩,
  ⟨⟨some 76, Op.binOp BinOp.eql 3 (Operand.tmp 72) (Operand.tmp 75) 3, none⟩, []⟩,
  ⟨⟨some 6, Op.assign (Operand.tmp 71), none⟩, []⟩,
  ⟨⟨some 7, Op.assign (Operand.tmp 76), none⟩, []⟩]) .ret)))))
theorem sl25 : slim Try.f25.ntmps ords25 (Try.f25.body.getD .skip) = some cd25 := by kernel_rfl
theorem in25 {args : List Value} {H : AH} {R : Value → AH → Prop} (hl : args.length = 3) (h : ∀ (Q : Exit → Sl → AH → Prop), (∀ e s H, endA Try.prog [ResultVar.tmp 6, ResultVar.tmp 7] R e s H → Q e s H) → wpC Try.prog cd25 Q (enterA args) H) : ACalls Try.prog 25 args H R :=
  ACalls.intro (by kernel_rfl) Try.func25 rfl (by kernel_rfl) sl25 hl (of_decide_eq_true (by kernel_rfl)) (by kernel_rfl) h
end Go.Proofs.Ytlcipphiflcaiaa.Ai
namespace Go.Proofs.Ytlcipphiflcaiaa.Ai
open Go Go.RowKit
set_option linter.unusedVariables false
set_option linter.unusedSimpArgs false
theorem krN_step {n : Nat} {es : List (Int × Int)} {ws : List Int} {w : Int} {K : List Int} {j : Nat} : krN n es ws w K (j + 1) = if ws.getD j 0 = w ∧ jnB es n (krN n es ws w K j) (enA es (j : Int)) (enB es (j : Int)) = false then krN n es ws w K j ++ [(j : Int)] else krN n es ws w K j := rfl
set_option maxRecDepth 20000 in
set_option maxHeartbeats 8000000 in
theorem lightest_c (n : Nat) (hn : 1 ≤ n) (v w : Value) (es : List (Int × Int)) (ws : List Int) (H : AH) (hr : RowP 65 H v es) (hg : Grd (n : Int) es) (hw : Row 3 H w ws) (hlw : ws.length = es.length) (h0 : ∀ x ∈ ws, 0 ≤ x ∧ x ≤ 99) :
    ACalls Try.prog 25 [.agg (List.toArray [.int .i64 (n : Int), v]), w, .slice none 0 0] H fun r H' => ∃ b, r = .tuple (List.toArray [.int .i64 (swL ws (krW n es ws 100)), .bool b]) ∧ H <+: H' := by
  have h28 : es.length ≤ 28 := grd_len hg
  have hn8 : n ≤ 8 := by have := hg.1; omega
  have hw0 : ∀ e : Nat, e < es.length → 0 ≤ ws.getD e 0 := fun e he => (h0 _ (by simp [show e < ws.length by omega])).1
  refine in25 rfl ?_
  intro Q hQ
  simp (maxSteps := 1000000) (disch := omega) only [cd25, hr.boxG, S, S1, S2, S3, S4, S5, ST, eq_self, reduceIte, reduceCtorEq, Nat.reduceEqDiff, Nat.reduceAdd]
  generalize hA : H ++ [AObj.cells [.int .i64 ↑n, v] 32 false] = A
  have pA : H <+: A := by rw [← hA]; exact List.prefix_append _ _
  have cA : A[H.length]? = some (.cells [.int .i64 ↑n, v] 32 false) := by rw [← hA]; exact at_new ..
  have rA := hr.pre pA
  have wA := hw.pre pA
  simp (maxSteps := 1000000) (disch := omega) only [cell_of cA, S, S1, S2, S3, S4, S5, ST, eq_self, reduceIte, reduceCtorEq, Nat.reduceEqDiff, Nat.reduceAdd]
  refine CallH.by (newJoiner_c n A (by omega)) ?_
  rintro jv B ⟨hOwn, pB⟩
  obtain ⟨o, ejv, ho1, hoB⟩ : ∃ o, jv = .slice (some ⟨o, 0, none⟩) n n ∧ A.length ≤ o ∧ B[o]? = some (.cells (ints (alls n)) 3 false) := by
    have hal : (alls n).length = n := by simp [alls]
    rcases hOwn with ⟨_, q⟩ | ⟨o, q1, q2, q3⟩
    · rw [q] at hal; simp at hal; omega
    · rw [hal] at q1; exact ⟨o, q1, q2, q3⟩
  subst ejv
  have hw1 : IntKind.i64.wrap ((n : Int) - 1) = (n : Int) - 1 := wrap64 (by omega) (by omega)
  simp (maxSteps := 1000000) (disch := omega) only [S, S1, S2, S3, S4, S5, ST, eq_self, reduceIte, reduceCtorEq, Nat.reduceEqDiff, Nat.reduceAdd]
  refine LoopH.by (fun m s H' => s 1 = w ∧ s 3 = .pointer (some ⟨H.length, 0, none⟩) ∧ s 8 = .slice (some ⟨o, 0, none⟩) n n ∧ s 9 = .int .i64 0 ∧ s 10 = .int .i64 0 ∧ s 20 = .int .i64 0 ∧ s 21 = .int .i64 0 ∧ B = H') 0 ?_ ?_
  · exact ⟨rfl, rfl, rfl, rfl, rfl, rfl, rfl, rfl⟩
  rintro m s H' ⟨s1, s3, s8, s9, s10, s20, s21, rfl⟩
  simp (maxSteps := 1000000) (disch := omega) only [s1, s3, s8, s9, s10, s20, s21, S, S1, S2, S3, S4, S5, ST, eq_self, reduceIte, reduceCtorEq, Nat.reduceEqDiff, Nat.reduceAdd]
  refine brD.intro (fun z => absurd z (by decide)) (fun _ => ?_)
  simp (maxSteps := 1000000) (disch := omega) only [s1, s3, s8, s9, s10, s20, s21, S, S1, S2, S3, S4, S5, ST, eq_self, reduceIte, reduceCtorEq, Nat.reduceEqDiff, Nat.reduceAdd]
  refine LoopH.by (fun m s H' => ∃ (i : Nat) (J : List Int), m + i = 100 ∧ s 1 = w ∧ s 3 = .pointer (some ⟨H.length, 0, none⟩) ∧ s 8 = .slice (some ⟨o, 0, none⟩) n n ∧ s 9 = .int .i64 (swL ws (krW n es ws i)) ∧ s 10 = .int .i64 ((krW n es ws i).length : Int) ∧ s 42 = .int .i64 ((i : Nat) : Int) ∧ H'[o]? = some (.cells (ints J) 3 false) ∧ JR es (krW n es ws i) n J ∧ Keeps o B H') 100 ?_ ?_
  · refine ⟨0, alls n, by omega, ?_⟩
    simp (maxSteps := 1000000) (disch := omega) only [s1, s3, s8, s9, s10, S, S1, S2, S3, S4, S5, ST, eq_self, reduceIte, reduceCtorEq, Nat.reduceEqDiff, Nat.reduceAdd]
    have f2 : JR es (krW n es ws 0) n (alls n) := JR.zero es n
    have f3 : Keeps o B B := Keeps.of_pre (List.prefix_refl _)
    have z1 : swL ws (krW n es ws 0) = 0 := rfl
    have z2 : ((krW n es ws 0).length : Int) = 0 := rfl
    simp (maxSteps := 1000000) (disch := omega) only [z1, z2, S, S1, S2, S3, S4, S5, ST, eq_self, reduceIte, reduceCtorEq, Nat.reduceEqDiff, Nat.reduceAdd]
    (repeat' first | exact hoB | exact f2 | exact f3 | apply And.intro) <;> first | (simp only [Value.int.injEq, true_and]; omega) | omega | rfl | assumption | (simp; done) | (simp; omega)
  rintro m1 t H1 ⟨i, J, hm, t1, t3, t8, t9, t10, t42, hJ, hjr, kH⟩
  have hpA := keepsA kH pB ho1
  have cH := pre_at hpA cA
  have rH := rA.pre hpA
  have wH := wA.pre hpA
  simp (maxSteps := 1000000) (disch := omega) only [t1, t3, t8, t9, t10, t42, S, S1, S2, S3, S4, S5, ST, eq_self, reduceIte, reduceCtorEq, Nat.reduceEqDiff, Nat.reduceAdd]
  refine brD.intro (fun g => ?_) (fun g => ?_)
  rotate_left
  · have hi : i = 100 := by omega
    subst hi
    simp (maxSteps := 1000000) (disch := omega) only [t1, t3, t8, t9, t10, t42, cell_of cH, hw1, S, S1, S2, S3, S4, S5, ST, eq_self, reduceIte, reduceCtorEq, Nat.reduceEqDiff, Nat.reduceAdd]
    refine hQ _ _ _ ?_
    simp (maxSteps := 1000000) (disch := omega) only [S, S1, S2, S3, S4, S5, ST, eq_self, reduceIte, reduceCtorEq, Nat.reduceEqDiff, Nat.reduceAdd]
    exact ⟨_, rfl, pA.trans hpA⟩
  have hi : i < 100 := by omega
  simp (maxSteps := 1000000) (disch := omega) only [t1, t3, t8, t9, t10, t42, cell_of cH, rH.len Try.underlying22, S, S1, S2, S3, S4, S5, ST, eq_self, reduceIte, reduceCtorEq, Nat.reduceEqDiff, Nat.reduceAdd]
  refine LoopH.by (fun m s H' => ∃ (j : Nat) (J : List Int), m + j = es.length ∧ s 1 = w ∧ s 3 = .pointer (some ⟨H.length, 0, none⟩) ∧ s 8 = .slice (some ⟨o, 0, none⟩) n n ∧ s 9 = .int .i64 (swL ws (krN n es ws (i : Int) (krW n es ws i) j)) ∧ s 10 = .int .i64 ((krN n es ws (i : Int) (krW n es ws i) j).length : Int) ∧ s 42 = .int .i64 ((i : Nat) : Int) ∧ s 13 = .int .i64 ((i : Nat) : Int) ∧ s 46 = v ∧ s 47 = .int .i64 (es.length : Int) ∧ s 48 = .int .i64 ((j : Nat) : Int) ∧ H'[o]? = some (.cells (ints J) 3 false) ∧ JR es (krN n es ws (i : Int) (krW n es ws i) j) n J ∧ Keeps o B H') es.length ?_ ?_
  · refine ⟨0, J, by omega, ?_⟩
    simp (maxSteps := 1000000) (disch := omega) only [t1, t3, t8, t9, t10, t42, S, S1, S2, S3, S4, S5, ST, eq_self, reduceIte, reduceCtorEq, Nat.reduceEqDiff, Nat.reduceAdd]
    have f2 : JR es (krN n es ws (i : Int) (krW n es ws i) 0) n J := hjr
    have z1 : krN n es ws (i : Int) (krW n es ws i) 0 = krW n es ws i := rfl
    simp (maxSteps := 1000000) (disch := omega) only [z1, S, S1, S2, S3, S4, S5, ST, eq_self, reduceIte, reduceCtorEq, Nat.reduceEqDiff, Nat.reduceAdd]
    (repeat' first | exact hJ | exact hjr | exact kH | apply And.intro) <;> first | (simp only [Value.int.injEq, true_and]; omega) | omega | rfl | assumption | (simp; done) | (simp; omega)
  rintro m2 u H2 ⟨j, J2, hm2, u1, u3, u8, u9, u10, u42, u13, u46, u47, u48, hJ2, hjr2, kH2⟩
  have hpA2 := keepsA kH2 pB ho1
  have rH2 := rA.pre hpA2
  have wH2 := wA.pre hpA2
  simp (maxSteps := 1000000) (disch := omega) only [u1, u3, u8, u9, u10, u42, u13, u46, u47, u48, S, S1, S2, S3, S4, S5, ST, eq_self, reduceIte, reduceCtorEq, Nat.reduceEqDiff, Nat.reduceAdd]
  refine brD.intro (fun g2 => ?_) (fun g2 => ?_)
  rotate_left
  · have hj : j = es.length := by omega
    subst hj
    have z1 : krN n es ws (i : Int) (krW n es ws i) es.length = krW n es ws (i + 1) := rfl
    rw [z1] at u9 u10 hjr2
    simp (maxSteps := 1000000) (disch := omega) only [u1, u3, u8, u9, u10, u42, wrap64, S, S1, S2, S3, S4, S5, ST, eq_self, reduceIte, reduceCtorEq, Nat.reduceEqDiff, Nat.reduceAdd]
    refine ⟨m1 - 1, by omega, i + 1, J2, ?_⟩
    (repeat' first | exact hJ2 | exact hjr2 | exact kH2 | apply And.intro) <;> first | (simp only [Value.int.injEq, true_and]; omega) | omega | rfl | assumption | (simp; done) | (simp; omega)
  have hj : j < es.length := by omega
  obtain ⟨hK, hKl⟩ := krN_len hn hg hw0 i j (by omega)
  have hend := en_eq hg (e := (j : Int)) ⟨by omega, by omega⟩
  rw [Int.toNat_natCast] at hend
  have hst0 := store_a2 H2 [.int .i64 0, .int .i64 0] rfl
  have hc := (wH2.pre (List.prefix_append H2 [AObj.cells [.int .i64 (es.getD j (0, 0)).1, .int .i64 (es.getD j (0, 0)).2] 65 false])).cell (show j < ws.length by omega)
  have hstep := krN_step (n := n) (es := es) (ws := ws) (w := (i : Int)) (K := krW n es ws i) (j := j)
  simp (maxSteps := 1000000) (disch := omega) only [u1, u3, u8, u9, u10, u42, u13, u46, u47, u48, rH2.ix Try.underlying22 cs65, Int.toNat_natCast, rH2.ld ag65 cs65 hj, alloc_a2, hst0, S, S1, S2, S3, S4, S5, ST, eq_self, reduceIte, reduceCtorEq, Nat.reduceEqDiff, Nat.reduceAdd]
  generalize hD : H2 ++ [AObj.cells [.int .i64 (es.getD j (0, 0)).1, .int .i64 (es.getD j (0, 0)).2] 65 false] = D at *
  have pD : H2 <+: D := by rw [← hD]; exact List.prefix_append _ _
  have cP : D[H2.length]? = some (.cells [.int .i64 (es.getD j (0, 0)).1, .int .i64 (es.getD j (0, 0)).2] 65 false) := by rw [← hD]; exact at_new ..
  have wD := wH2.pre pD
  have kD : Keeps o B D := kH2.trans (Keeps.of_pre pD)
  have hJD := pre_at pD hJ2
  by_cases e : ws.getD j 0 = (i : Int)
  rotate_left
  · rw [if_neg (fun h => e h.1)] at hstep
    simp (maxSteps := 1000000) (disch := omega) only [u1, u3, u8, u9, u10, u42, u13, u46, u47, u48, wD.ix Try.underlying25 cs3, Int.toNat_natCast, hc, decide_eq_false e, wrap64, S, S1, S2, S3, S4, S5, ST, eq_self, reduceIte, reduceCtorEq, Nat.reduceEqDiff, Nat.reduceAdd]
    rw [← hstep] at hjr2 ⊢
    refine ⟨m2 - 1, by omega, j + 1, J2, ?_⟩
    (repeat' first | exact hJD | exact hjr2 | exact kD | apply And.intro) <;> first | (simp only [Value.int.injEq, true_and]; omega) | omega | rfl | assumption | (simp; done) | (simp; omega)
  simp (maxSteps := 1000000) (disch := omega) only [u1, u3, u8, u9, u10, u42, u13, u46, u47, u48, wD.ix Try.underlying25 cs3, Int.toNat_natCast, hc, decide_eq_true e, ld_a2 cP, S, S1, S2, S3, S4, S5, ST, eq_self, reduceIte, reduceCtorEq, Nat.reduceEqDiff, Nat.reduceAdd]
  have hjc := join_c hjr2 o D hJD (j : Int) (by omega) (by omega) (by rw [Int.toNat_natCast]; exact congrArg Prod.fst hend.1) (by rw [Int.toNat_natCast]; exact congrArg Prod.snd hend.1)
  rw [Int.toNat_natCast] at hjc
  refine CallH.by hjc ?_
  rintro _ G ⟨b, J', rfl, hb, hJ', hjr', k2⟩
  have kG := kD.trans k2
  have hjb := jnB_iff hg hK.ed (i := enA es (j : Int)) (j := enB es (j : Int)) (by omega) (by omega)
  have hjn := jnB_not hg hK.ed (i := enA es (j : Int)) (j := enB es (j : Int)) (by omega) (by omega)
  cases b with
  | false =>
    have hJn : Jn es (krN n es ws (i : Int) (krW n es ws i) j) (enA es (j : Int)) (enB es (j : Int)) := Classical.byContradiction fun q => by have := hb.2 q; cases this
    rw [if_neg (fun h => hjn.1 h.2 hJn)] at hstep
    have f2 : JR es (krN n es ws (i : Int) (krW n es ws i) j) n J' := by
      obtain ⟨rt, d, a1, a2⟩ := hjr'
      exact ⟨rt, d, a1, fun x y hx hy => Iff.trans ⟨fun h => h.mono fun z hz => List.mem_append_left _ hz, fun h => Jn.same (e := (j : Int)) (fun z hz => by
        rcases List.mem_append.1 hz with q | q
        · exact .inl q
        · exact .inr (List.mem_singleton.1 q)) hJn h⟩ (a2 x y hx hy)⟩
    simp (maxSteps := 1000000) (disch := omega) only [u1, u3, u8, u9, u10, u42, u13, u46, u47, u48, wrap64, S, S1, S2, S3, S4, S5, ST, eq_self, reduceIte, reduceCtorEq, Nat.reduceEqDiff, Nat.reduceAdd]
    rw [← hstep] at f2 ⊢
    refine ⟨m2 - 1, by omega, j + 1, J', ?_⟩
    (repeat' first | exact hJ' | exact f2 | exact kG | apply And.intro) <;> first | (simp only [Value.int.injEq, true_and]; omega) | omega | rfl | assumption | (simp; done) | (simp; omega)
  | true =>
    have hJn := hjn.2 (hb.1 rfl)
    rw [if_pos ⟨e, hJn⟩] at hstep
    have h3 := swL_rng h0 (krN n es ws (i : Int) (krW n es ws i) j)
    have h4 : swL ws (krN n es ws (i : Int) (krW n es ws i) (j + 1)) = swL ws (krN n es ws (i : Int) (krW n es ws i) j) + (i : Int) := by
      rw [hstep, swL_app, ← e]; simp [swL]
    have h5 : ((krN n es ws (i : Int) (krW n es ws i) (j + 1)).length : Int) = ((krN n es ws (i : Int) (krW n es ws i) j).length : Int) + 1 := by
      rw [hstep, List.length_append]; rfl
    have hwr : IntKind.i64.wrap (swL ws (krN n es ws (i : Int) (krW n es ws i) j) + (i : Int)) = swL ws (krN n es ws (i : Int) (krW n es ws i) (j + 1)) := by rw [h4]; exact wrap64 (by omega) (by omega)
    have hwl : IntKind.i64.wrap (((krN n es ws (i : Int) (krW n es ws i) j).length : Int) + 1) = ((krN n es ws (i : Int) (krW n es ws i) (j + 1)).length : Int) := by rw [h5]; exact wrap64 (by omega) (by omega)
    simp (maxSteps := 1000000) (disch := omega) only [u1, u3, u8, u9, u10, u42, u13, u46, u47, u48, hwr, hwl, wrap64, S, S1, S2, S3, S4, S5, ST, eq_self, reduceIte, reduceCtorEq, Nat.reduceEqDiff, Nat.reduceAdd]
    rw [← hstep] at hjr'
    refine ⟨m2 - 1, by omega, j + 1, J', ?_⟩
    (repeat' first | exact hJ' | exact hjr' | exact kG | apply And.intro) <;> first | (simp only [Value.int.injEq, true_and]; omega) | omega | rfl | assumption | (simp; done) | (simp; omega)
end Go.Proofs.Ytlcipphiflcaiaa.Ai
namespace Go.Proofs.Ytlcipphiflcaiaa.Ai
open Go
def ords21 : List (Nat × List (Nat × Bool)) := []
def cd21 : Cd := (.seq (.reg [⟨⟨some 2, Op.box 32 (Operand.tmp 0), none⟩, []⟩,
  ⟨⟨some 4, Op.alloc 29, none⟩, []⟩]) (.seq (.reg [⟨⟨some 5, Op.load 32 (Operand.tmp 2), none⟩, []⟩,
  ⟨⟨some 6, Op.move (Operand.tmp 1), none⟩, []⟩,
  ⟨⟨some 7, Op.call { callee := (Callee.value (Operand.func 43)), args := #[(Operand.tmp 5), (Operand.const (Value.int IntKind.i64 1)), (Operand.tmp 6)], argTypes := #[32, 3, 27] }, none⟩, []⟩,
  ⟨⟨none, Op.store 29 (Operand.tmp 4) (Operand.tmp 7), none⟩, []⟩]) .ret))
theorem sl21 : slim Try.f21.ntmps ords21 (Try.f21.body.getD .skip) = some cd21 := by kernel_rfl
set_option maxRecDepth 20000 in
theorem in21 {args : List Value} {H : AH} {R : Value → AH → Prop} (hl : args.length = 2) (h : ∀ (Q : Exit → Sl → AH → Prop), (∀ e s H, endA Try.prog [ResultVar.cell 4 29] R e s H → Q e s H) → wpC Try.prog cd21 Q (enterA args) H) : ACalls Try.prog 21 args H R :=
  ACalls.intro (by kernel_rfl) Try.func21 rfl (by kernel_rfl) sl21 hl (of_decide_eq_true (by kernel_rfl)) (by kernel_rfl) h
end Go.Proofs.Ytlcipphiflcaiaa.Ai
namespace Go.Proofs.Ytlcipphiflcaiaa.Ai
open Go Go.RowKit
set_option linter.unusedVariables false
set_option linter.unusedSimpArgs false
theorem stB_jmp (es : List (Int × Int)) : stB es 1 = jmpB := by
  funext x y
  have e : ∀ x y : List Int, (without x y).length = (x.filter fun e => !decide (e ∈ y)).length := by
    intro x y
    unfold without; congr 1
    exact List.filter_congr fun e _ => by simp
  unfold stB jmpB
  rw [if_neg (by decide), e x y, e y x, decide_eq_true (show (1 : Int) = 1 from rfl), Bool.true_or, Bool.and_true]
  rw [Bool.eq_iff_iff, Bool.and_eq_true, Bool.and_eq_true, decide_eq_true_eq, decide_eq_true_eq, decide_eq_true_eq, decide_eq_true_eq]
  omega
theorem tsL_in {n : Int} {es : List (Int × Int)} : ∀ x ∈ tsL n es, x.length ≤ 28 ∧ (∀ y ∈ x, 0 ≤ y ∧ y < 28) ∧ x.Pairwise (· < ·) := by
  intro x hx
  unfold tsL at hx
  split at hx
  · rename_i h
    have hg := h.1.1
    have h8 := hg.1
    obtain ⟨N, rfl⟩ : ∃ N : Nat, n = N := ⟨n.toNat, by omega⟩
    rw [Int.toNat_natCast] at hx
    have t := (treA_iff (by have := h.1.2; omega) hg x).1 hx
    have h28 := grd_len hg
    refine ⟨by have := t.1; omega, fun y hy => ?_, t.2.1⟩
    have := t.2.2.1 y hy
    omega
  · simp at hx
theorem tsL_len (n : Int) (es : List (Int × Int)) : (tsL n es).length ≤ 300 := by
  unfold tsL; split
  · rename_i h; exact h.2.2
  · exact Nat.zero_le _
set_option maxRecDepth 20000 in
set_option maxHeartbeats 4000000 in
theorem l7Exchanges_c {H0 : AH} (n : Int) (v : Value) (es : List (Int × Int)) (hg : RowP 65 H0 v es) (hes : es.length ≤ 1099511627776) {a : Value} {ls : List (List Int)} {lo : Nat} (hL : InL lo H0.length 25 3 H0 a ls) (h9 : ls.length ≤ 1000) (hlen : ∀ l ∈ ls, l.length ≤ 1000) :
    ACalls Try.prog 21 [.agg (List.toArray [.int .i64 n, v]), a] H0 fun r H' => ∃ b, r = .agg (List.toArray [a, b]) ∧ InP H0.length H'.length 65 H' b (steps jmpB ls) ∧ H0 <+: H' := by
  refine in21 rfl ?_
  intro Q hQ
  simp (maxSteps := 1000000) (disch := omega) only [cd21, hg.boxG, S, S1, S2, S3, S4, S5, ST, eq_self, reduceIte, reduceCtorEq, Nat.reduceEqDiff, Nat.reduceAdd]
  generalize hA0 : H0 ++ [AObj.cells [.int .i64 n, v] 32 false] = A0
  have pA0 : H0 <+: A0 := by rw [← hA0]; exact List.prefix_append _ _
  have cA0 : A0[H0.length]? = some (.cells [.int .i64 n, v] 32 false) := by rw [← hA0]; exact at_new ..
  have rA0 := hg.pre pA0
  simp (maxSteps := 1000000) (disch := omega) only [alloc_sp, S, S1, S2, S3, S4, S5, ST, eq_self, reduceIte, reduceCtorEq, Nat.reduceEqDiff, Nat.reduceAdd]
  generalize hA : A0 ++ [AObj.cells [.slice none 0 0, .slice none 0 0] 29 false] = A
  have pA1 : A0 <+: A := by rw [← hA]; exact List.prefix_append _ _
  have lA0 : A0.length = H0.length + 1 := by rw [← hA0]; simp
  have cS : A[A0.length]? = some (.cells [.slice none 0 0, .slice none 0 0] 29 false) := by rw [← hA]; exact at_new ..
  have lA : A.length = A0.length + 1 := by rw [← hA]; simp
  have pA := pA0.trans pA1
  have cA := pre_at pA1 cA0
  have rA := rA0.pre pA1
  have hLA : InL lo A.length 25 3 A a ls := (hL.pre pA).wide (Nat.le_refl _) (by omega)
  simp (maxSteps := 1000000) (disch := omega) only [ld_agg ag32 cs32 cA, S, S1, S2, S3, S4, S5, ST, eq_self, reduceIte, reduceCtorEq, Nat.reduceEqDiff, Nat.reduceAdd]
  refine CallH.by (l3Space_c n 1 v es rA hes hLA h9 hlen) ?_
  rintro _ D ⟨b, rfl, hp, pD⟩
  rw [stB_jmp] at hp
  have lD := pD.length_le
  have cSD := pre_at pD cS
  have hrow : SpRow D a b ls (steps jmpB ls) := ⟨⟨_, (hLA.row).pre pD⟩, by
    rcases hp with ⟨q1, q2⟩ | ⟨o, zs, q1, q2, q3, q4, q5⟩
    · exact (show MineP 65 D D b (steps jmpB ls) from .inl ⟨q1, q2⟩).row
    · exact (show MineP 65 A D b (steps jmpB ls) from .inr ⟨o, zs, q1, q2, q4, q5⟩).row⟩
  have hstore := hrow.store cSD rfl
  simp (maxSteps := 1000000) (disch := omega) only [hstore, S, S1, S2, S3, S4, S5, ST, eq_self, reduceIte, reduceCtorEq, Nat.reduceEqDiff, Nat.reduceAdd]
  have d4 := at_set (d := .cells [a, b] 29 false) cSD
  refine hQ _ _ _ (end_cell _ _ _ _ _ _ (.agg (List.toArray [a, b])) ?_ rfl ⟨b, rfl, ?_, ?_⟩)
  · simp (maxSteps := 1000000) (disch := omega) only [ld_agg ag29 cs29 d4, S, S1, S2, S3, S4, S5, ST, eq_self, reduceIte, reduceCtorEq, Nat.reduceEqDiff, Nat.reduceAdd]
  · rcases hp with q | ⟨o, zs, q1, q2, q3, q4, q5⟩
    · exact .inl q
    · exact .inr ⟨o, zs, q1, by omega, by simpa using q3, by rw [List.getElem?_set_ne (by omega)]; exact q4, q5⟩
  · exact pre_set (pA.trans pD) (by omega) _
end Go.Proofs.Ytlcipphiflcaiaa.Ai
namespace Go.Proofs.Ytlcipphiflcaiaa.Ai
open Go Go.RowKit
set_option linter.unusedVariables false
set_option linter.unusedSimpArgs false
theorem cnt_sub {α : Type} (p q : α → Bool) : ∀ l : List α, (l.filter q).countP p ≤ l.countP p
  | [] => Nat.le_refl _
  | a :: l => by
    have ih := cnt_sub p q l
    cases h : q a
    · rw [List.filter_cons_of_neg (by rw [h]; decide), List.countP_cons]; omega
    · rw [List.filter_cons_of_pos h, List.countP_cons, List.countP_cons]; omega
theorem tre_steps_f {n : Nat} (hn : 1 ≤ n) {es : List (Int × Int)} (hg : Grd (n : Int) es) (h28 : es.length ≤ 28) (h300 : (treA n es).length ≤ 300) (q : List Int → Bool) : (steps jmpB ((treA n es).filter q)).length ≤ 6000 := by
  by_cases hb : (n = 8 ∧ 15 ≤ es.length) ∨ (n = 7 ∧ 17 ≤ es.length)
  · have hnil : treA n es = [] := List.eq_nil_iff_forall_not_mem.2 fun T hT => by have := many_trees hg hb hT; omega
    rw [hnil]; exact Nat.zero_le _
  · have h2 := List.length_filter_le q (treA n es)
    have := steps_le (p := jmpB) (ls := (treA n es).filter q) (m := 40) fun x hx => by
      refine Nat.le_trans (nbS_cnt jmpB _ x) (Nat.le_trans (cnt_sub _ q _) ?_)
      exact tre_deg hn hg h28 hb (List.mem_filter.1 (show ((treA n es).filter q).getD x [] ∈ (treA n es).filter q by
        rw [List.getD_eq_getElem?_getD, List.getElem?_eq_getElem hx]; exact List.getElem_mem hx)).1
    omega
/-- the light trees -/
def lgB (n : Int) (es : List (Int × Int)) (ws : List Int) : Bool := decide (WtOk n es ws) && decide (TsOk n es)
def lgL (n : Int) (es : List (Int × Int)) (ws : List Int) : List (List Int) := if WtOk n es ws then (tsL n es).filter fun T => decide (swL ws T = swL ws (krW n.toNat es ws 100)) else []
def lgS (n : Int) (es : List (Int × Int)) (ws : List Int) : List (Int × Int) := steps jmpB (lgL n es ws)
theorem lgL_sub {n : Int} {es : List (Int × Int)} {ws : List Int} : ∀ x ∈ lgL n es ws, x ∈ tsL n es := by
  intro x hx
  unfold lgL at hx
  split at hx
  · exact (List.mem_filter.1 hx).1
  · simp at hx
theorem lgL_len (n : Int) (es : List (Int × Int)) (ws : List Int) : (lgL n es ws).length ≤ 300 := by
  have := tsL_len n es
  unfold lgL; split
  · exact Nat.le_trans (List.length_filter_le _ _) this
  · exact Nat.zero_le _
theorem lgS_len (n : Int) (es : List (Int × Int)) (ws : List Int) : (lgS n es ws).length ≤ 6000 := by
  unfold lgS lgL tsL
  split
  · split
    · rename_i h1 h
      have h8 := h.1.1.1
      have hg := h.1.1
      obtain ⟨N, rfl⟩ : ∃ N : Nat, n = N := ⟨n.toNat, by omega⟩
      rw [Int.toNat_natCast]
      exact tre_steps_f (by have := h.1.2; omega) hg (grd_len hg) h.2.2 _
    · exact Nat.zero_le _
  · exact Nat.zero_le _
theorem lgL_srt (n : Int) (es : List (Int × Int)) (ws : List Int) : SrtL (lgL n es ws) := by
  unfold lgL tsL
  split
  · split
    · rename_i h1 h
      have h8 := h.1.1.1
      have hg := h.1.1
      obtain ⟨N, rfl⟩ : ∃ N : Nat, n = N := ⟨n.toNat, by omega⟩
      rw [Int.toNat_natCast]
      exact srtL_of ((treA_pw (by have := h.1.2; omega) hg).filter _)
    · exact srtL_of .nil
  · exact srtL_of .nil
/-- not heavier than the greedy sum is as light as it -/
theorem lg_light {n : Int} {es : List (Int × Int)} {ws : List Int} (h : WtOk n es ws) {T : List Int} (hT : T ∈ tsL n es) : (!decide (swL ws (krW n.toNat es ws 100) < swL ws T)) = decide (swL ws T = swL ws (krW n.toNat es ws 100)) := by
  have hg := h.2.1.1
  have h8 := hg.1
  have hp := h.2.1.2
  unfold tsL at hT
  split at hT
  · have t := (treA_iff (n := n.toNat) (by omega) (by rw [show ((n.toNat : Nat) : Int) = n by omega]; exact hg) T).1 hT
    have := kr_least (n := n.toNat) (by omega) (by rw [show ((n.toNat : Nat) : Int) = n by omega]; exact hg) (ws := ws) (M := 100) (fun e he => by
      have := h.1 (ws.getD e 0) (by simp [show e < ws.length by have := h.2.2; omega])
      omega) t
    by_cases q : swL ws T = swL ws (krW n.toNat es ws 100)
    · rw [decide_eq_true q, decide_eq_false (by omega)]; rfl
    · rw [decide_eq_false q, decide_eq_true (by omega)]; rfl
  · simp at hT
theorem lg_ok (n : Int) (es : List (Int × Int)) (ws : List Int) : (lgL n es ws).length ≤ 1099511627776 ∧ sizeL (lgL n es ws) ≤ 549755813888 ∧ (lgS n es ws).length ≤ 1099511627776 := by
  have h1 := lgL_len n es ws
  have h2 := lgS_len n es ws
  have h6 : ∀ (ls : List (List Int)), (∀ l ∈ ls, l.length ≤ 28) → sizeL ls ≤ ls.length * 29 := by
    intro ls
    induction ls with
    | nil => intro _; simp [sizeL]
    | cons l ls ih =>
      intro hl
      have := ih (fun x hx => hl x (by simp [hx]))
      have := hl l (by simp)
      simp only [sizeL, List.map_cons, List.sum_cons, List.length_cons, Nat.add_mul, Nat.one_mul] at *
      omega
  have h7 := h6 (lgL n es ws) fun l hl => (tsL_in l (lgL_sub l hl)).1
  exact ⟨by omega, by omega, by omega⟩
end Go.Proofs.Ytlcipphiflcaiaa.Ai
namespace Go.Proofs.Ytlcipphiflcaiaa.Ai
open Go
def ords56 : List (Nat × List (Nat × Bool)) := []
def cd56 : Cd := (.seq (.reg [⟨⟨some 4, Op.assign (Operand.const (Value.int IntKind.i64 0)), none⟩, []⟩]) (.seq (.seq (.reg [⟨⟨some 6, Op.move (Operand.tmp 0), none⟩, []⟩,
  ⟨⟨some 7, Op.call { callee := (Callee.builtin Builtin.len), args := #[(Operand.tmp 6)], argTypes := #[27] }, none⟩, []⟩,
  ⟨⟨some 8, Op.move (Operand.const (Value.int IntKind.i64 0)), none⟩, []⟩]) (.block 0 (.loop (.seq (.reg [⟨⟨some 9, Op.binOp BinOp.lss 3 (Operand.tmp 8) (Operand.tmp 7) 3, none⟩, []⟩]) (.seq (.cond (Operand.tmp 9) .skip (.exit 0)) (.seq (.block 1 (.seq (.reg [⟨⟨some 10, Op.move (Operand.tmp 8), none⟩, []⟩,
  ⟨⟨some 5, Op.assign (Operand.tmp 10), none⟩, []⟩]) (.seq (.reg [⟨⟨some 11, Op.move (Operand.tmp 1), none⟩, []⟩,
  ⟨⟨some 12, Op.move (Operand.tmp 0), none⟩, []⟩,
  ⟨⟨some 13, Op.move (Operand.tmp 5), none⟩, []⟩,
  ⟨⟨some 14, Op.indexAddr 27 (Operand.tmp 12) (Operand.tmp 13), none⟩, []⟩,
  ⟨⟨some 15, Op.load 25 (Operand.tmp 14), none⟩, []⟩,
  ⟨⟨some 16, Op.call { callee := (Callee.value (Operand.tmp 11)), args := #[(Operand.tmp 15)], argTypes := #[25] }, none⟩, []⟩]) (.cond (Operand.tmp 16) (.seq (.reg [⟨⟨some 17, Op.move (Operand.tmp 5), none⟩, []⟩,
  ⟨⟨some 4, Op.assign (Operand.tmp 17), none⟩, []⟩]) .ret) .skip)))) (.reg [⟨⟨some 18, Op.binOp BinOp.add 3 (Operand.tmp 8) (Operand.const (Value.int IntKind.i64 1)) 3, none⟩, []⟩,
  ⟨⟨some 8, Op.move (Operand.tmp 18), none⟩, []⟩]))))))) (.seq (.reg [⟨⟨some 4, Op.assign (Operand.const (Value.int IntKind.i64 (-1))), none⟩, []⟩]) .ret)))
theorem sl56 : slim Try.f56.ntmps ords56 (Try.f56.body.getD .skip) = some cd56 := by kernel_rfl
theorem in56 {args : List Value} {H : AH} {R : Value → AH → Prop} (hl : args.length = 2) (h : ∀ (Q : Exit → Sl → AH → Prop), (∀ e s H, endA Try.prog [ResultVar.tmp 4] R e s H → Q e s H) → wpC Try.prog cd56 Q (enterA args) H) : ACalls Try.prog 56 args H R :=
  ACalls.intro (by kernel_rfl) Try.func56 rfl (by kernel_rfl) sl56 hl (of_decide_eq_true (by kernel_rfl)) (by kernel_rfl) h
end Go.Proofs.Ytlcipphiflcaiaa.Ai
namespace Go.Proofs.Ytlcipphiflcaiaa.Ai
open Go Go.RowKit
set_option linter.unusedVariables false
set_option linter.unusedSimpArgs false
/-- the place of the first that is true, or -1 -/
def idxB : List Bool → Nat → Int
  | [], _ => -1
  | b :: bs, k => if b = true then (k : Int) else idxB bs (k + 1)
theorem idxB_step (bs : List Bool) (i : Nat) (hi : i < bs.length) : idxB (bs.drop i) i = if bs.getD i false = true then (i : Int) else idxB (bs.drop (i + 1)) (i + 1) := by
  rw [List.drop_eq_getElem_cons hi]
  simp [idxB, hi]
theorem IndexFuncL_c (v : Value) (us : List Value) (bs : List Bool) (g : FuncId) (caps : List Value) (H : AH) (hr : RowV 25 H v us) (hlen : us.length ≤ 1099511627776) (hb : bs.length = us.length)
    (hp : ∀ i, i < us.length → ∀ H1, H <+: H1 → ACalls Try.prog g (us.getD i undef :: caps) H1 fun r H' => r = .bool (bs.getD i false) ∧ H1 <+: H') :
    ACalls Try.prog 56 [v, .func (.func g) #[] (List.toArray caps)] H fun r H' => r = .int .i64 (idxB bs 0) ∧ H <+: H' := by
  refine in56 rfl ?_
  intro Q hQ
  simp (maxSteps := 1000000) (disch := omega) only [cd56, hr.len Try.underlying27, S, S1, S2, S3, S4, S5, ST, eq_self, reduceIte, reduceCtorEq, Nat.reduceEqDiff, Nat.reduceAdd]
  refine LoopH.by (fun m s H' => ∃ i, m + i = us.length ∧ s 0 = v ∧ s 1 = .func (.func g) #[] (List.toArray caps) ∧ s 8 = .int .i64 ((i : Nat) : Int) ∧ s 7 = .int .i64 (us.length : Int) ∧ H <+: H' ∧ idxB bs 0 = idxB (bs.drop i) i) us.length ?_ ?_
  · exact ⟨0, by simp, rfl, rfl, rfl, rfl, List.prefix_refl _, by simp⟩
  · rintro m s H' ⟨i, hm, h0, h1, h8, h7, hpp, hn⟩
    have hr' := hr.pre hpp
    simp (maxSteps := 1000000) (disch := omega) only [h0, h1, h8, h7, S, S1, S2, S3, S4, S5, ST, eq_self, reduceIte, reduceCtorEq, Nat.reduceEqDiff, Nat.reduceAdd]
    refine brD.intro (fun g => ?_) (fun g => ?_) <;> simp (maxSteps := 1000000) (disch := omega) only [h0, h1, h8, h7, hr'.ix Try.underlying27 cs25, hr'.cell, Int.toNat_natCast, S, S1, S2, S3, S4, S5, ST, eq_self, reduceIte, reduceCtorEq, Nat.reduceEqDiff, Nat.reduceAdd]
    · have hi : i < us.length := by omega
      rw [idxB_step bs i (by omega)] at hn
      refine CallH.by (hp i hi H' hpp) ?_
      rintro _ H2 ⟨rfl, hp2⟩
      simp (maxSteps := 1000000) (disch := omega) only [S, S1, S2, S3, S4, S5, ST, eq_self, reduceIte, reduceCtorEq, Nat.reduceEqDiff, Nat.reduceAdd]
      refine brH.intro (fun e => ?_) (fun e => ?_) <;> simp (maxSteps := 1000000) (disch := omega) only [h0, h1, h8, h7, wrap64, S, S1, S2, S3, S4, S5, ST, eq_self, reduceIte, reduceCtorEq, Nat.reduceEqDiff, Nat.reduceAdd]
      · refine hQ _ _ _ ?_
        simp (maxSteps := 1000000) (disch := omega) only [S, S1, S2, S3, S4, S5, ST, eq_self, reduceIte, reduceCtorEq, Nat.reduceEqDiff, Nat.reduceAdd]
        rw [hn, if_pos e]
        exact ⟨rfl, hpp.trans hp2⟩
      · rw [if_neg (by rw [e]; decide)] at hn
        exact ⟨m - 1, by omega, i + 1, by omega, by simp, hpp.trans hp2, hn⟩
    · refine hQ _ _ _ ?_
      simp (maxSteps := 1000000) (disch := omega) only [S, S1, S2, S3, S4, S5, ST, eq_self, reduceIte, reduceCtorEq, Nat.reduceEqDiff, Nat.reduceAdd]
      rw [hn, List.drop_of_length_le (by omega)]
      exact ⟨rfl, hpp⟩
end Go.Proofs.Ytlcipphiflcaiaa.Ai
