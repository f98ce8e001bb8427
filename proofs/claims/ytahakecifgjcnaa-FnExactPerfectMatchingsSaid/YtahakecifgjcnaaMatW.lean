/- The walk over all matchings (impl's Graph.matchings), for any function that is called for each of them. -/
import Derived.Test.YtahakecifgjcnaaMatA
import Derived.Test.YtahakecifgjcnaaMatch
import Derived.Test.YtahakecifgjcnaaBfs
import Derived.Test.YtahakecifgjcnaaProg
import Derived.Test.YtahakecifgjcnaaAiM2
import Derived.KernelRfl
/- Slim code of this translation. By the kernel. -/
namespace Go.Proofs.Ytahakecifgjcnaa.Ai
open Go

/- (loop.example/g01128/impl.Graph).matchings$1 -/
def ords146 : List (Nat × List (Nat × Bool)) := [(5, [(0, false), (1, false), (2, false), (3, false), (4, false), (5, false), (6, false), (7, false), (8, false), (9, false), (10, false), (11, false), (12, false), (13, false), (14, false), (15, false)])]
def cd146 : Cd := (.seq (.reg [⟨⟨some 8, Op.assign (Operand.const (Value.bool false)), none⟩, []⟩]) (.seq (.seq (.reg [⟨⟨some 10, Op.load 65 (Operand.tmp 2), none⟩, []⟩,
  ⟨⟨some 11, Op.load 22 (Operand.tmp 3), none⟩, []⟩,
  ⟨⟨some 12, Op.call { callee := (Callee.value (Operand.tmp 10)), args := #[(Operand.tmp 11)], argTypes := #[22] }, none⟩, []⟩,
  ⟨⟨some 13, Op.unOp UnOp.not 4 (Operand.tmp 12), none⟩, []⟩]) (.cond (Operand.tmp 13) (.seq (.reg [⟨⟨some 8, Op.assign (Operand.const (Value.bool false)), none⟩, []⟩]) .ret) .skip)) (.seq (.block 0 (.loop (.seq (.seq (.reg [⟨⟨some 14, Op.move (Operand.tmp 0), none⟩, []⟩,
  ⟨⟨some 15, Op.fieldAddr 41 (Operand.tmp 4) 1, none⟩, []⟩,
  ⟨⟨some 16, Op.load 23 (Operand.tmp 15), none⟩, []⟩,
  ⟨⟨some 17, Op.call { callee := (Callee.builtin Builtin.len), args := #[(Operand.tmp 16)], argTypes := #[23] }, none⟩, []⟩,
  ⟨⟨some 18, Op.binOp BinOp.lss 3 (Operand.tmp 14) (Operand.tmp 17) 3, none⟩, []⟩]) (.cond (Operand.tmp 18) .skip (.exit 0))) (.seq (.block 1 (.seq (.reg [⟨⟨some 21, Op.fieldAddr 41 (Operand.tmp 4) 1, none⟩, []⟩,
  ⟨⟨some 22, Op.load 23 (Operand.tmp 21), none⟩, []⟩,
  ⟨⟨some 23, Op.move (Operand.tmp 0), none⟩, []⟩,
  ⟨⟨some 24, Op.indexAddr 23 (Operand.tmp 22) (Operand.tmp 23), none⟩, []⟩,
  ⟨⟨some 25, Op.indexAddr 66 (Operand.tmp 24) (Operand.const (Value.int IntKind.i64 0)), none⟩, []⟩,
  ⟨⟨some 26, Op.load 3 (Operand.tmp 25), none⟩, []⟩,
  ⟨⟨some 27, Op.binOp BinOp.shl 111 (Operand.const (Value.int IntKind.u64 1)) (Operand.tmp 26) 3, none⟩, []⟩,
  ⟨⟨some 28, Op.fieldAddr 41 (Operand.tmp 4) 1, none⟩, []⟩,
  ⟨⟨some 29, Op.load 23 (Operand.tmp 28), none⟩, []⟩,
  ⟨⟨some 30, Op.move (Operand.tmp 0), none⟩, []⟩,
  ⟨⟨some 31, Op.indexAddr 23 (Operand.tmp 29) (Operand.tmp 30), none⟩, []⟩,
  ⟨⟨some 32, Op.indexAddr 66 (Operand.tmp 31) (Operand.const (Value.int IntKind.i64 1)), none⟩, []⟩,
  ⟨⟨some 33, Op.load 3 (Operand.tmp 32), none⟩, []⟩,
  ⟨⟨some 34, Op.binOp BinOp.shl 111 (Operand.const (Value.int IntKind.u64 1)) (Operand.tmp 33) 3, none⟩, []⟩,
  ⟨⟨some 35, Op.binOp BinOp.or 111 (Operand.tmp 27) (Operand.tmp 34) 111, none⟩, []⟩,
  ⟨⟨some 9, Op.assign (Operand.tmp 35), none⟩, []⟩]) (.seq (.seq (.reg [⟨⟨some 36, Op.move (Operand.tmp 1), none⟩, []⟩,
  ⟨⟨some 37, Op.move (Operand.tmp 9), none⟩, []⟩,
  ⟨⟨some 38, Op.binOp BinOp.and 111 (Operand.tmp 36) (Operand.tmp 37) 111, none⟩, []⟩,
  ⟨⟨some 39, Op.binOp BinOp.neq 111 (Operand.tmp 38) (Operand.const (Value.int IntKind.u64 0)) 111, none⟩, []⟩]) (.cond (Operand.tmp 39) (.exit 1) .skip)) (.seq (.reg [⟨⟨some 40, Op.load 22 (Operand.tmp 3), none⟩, []⟩,
  ⟨⟨some 41, Op.move (Operand.tmp 0), none⟩, []⟩,
  ⟨⟨some 42, Op.buildSlice 22 1 #[(0, (Operand.tmp 41))], none⟩, []⟩,
  ⟨⟨some 43, Op.call { callee := (Callee.builtin Builtin.append), args := #[(Operand.tmp 40), (Operand.tmp 42)], argTypes := #[22, 22] }, none⟩, []⟩,
  ⟨⟨none, Op.store 22 (Operand.tmp 3) (Operand.tmp 43), none⟩, []⟩]) (.seq (.seq (.reg [⟨⟨some 44, Op.load 122 (Operand.tmp 5), none⟩, []⟩,
  ⟨⟨some 45, Op.move (Operand.tmp 0), none⟩, []⟩,
  ⟨⟨some 46, Op.binOp BinOp.add 3 (Operand.tmp 45) (Operand.const (Value.int IntKind.i64 1)) 3, none⟩, []⟩,
  ⟨⟨some 47, Op.move (Operand.tmp 1), none⟩, []⟩,
  ⟨⟨some 48, Op.move (Operand.tmp 9), none⟩, []⟩,
  ⟨⟨some 49, Op.binOp BinOp.or 111 (Operand.tmp 47) (Operand.tmp 48) 111, none⟩, []⟩,
  ⟨⟨some 50, Op.call { callee := (Callee.value (Operand.tmp 44)), args := #[(Operand.tmp 46), (Operand.tmp 49)], argTypes := #[3, 111] }, none⟩, []⟩,
  ⟨⟨some 51, Op.unOp UnOp.not 4 (Operand.tmp 50), none⟩, []⟩]) (.cond (Operand.tmp 51) (.seq (.reg [⟨⟨some 8, Op.assign (Operand.const (Value.bool false)), none⟩, []⟩]) .ret) .skip)) (.reg [⟨⟨some 52, Op.load 22 (Operand.tmp 3), none⟩, []⟩,
  ⟨⟨some 53, Op.load 22 (Operand.tmp 3), none⟩, []⟩,
  ⟨⟨some 54, Op.call { callee := (Callee.builtin Builtin.len), args := #[(Operand.tmp 53)], argTypes := #[22] }, none⟩, []⟩,
  ⟨⟨some 55, Op.binOp BinOp.sub 3 (Operand.tmp 54) (Operand.const (Value.int IntKind.i64 1)) 3, none⟩, []⟩,
  ⟨⟨some 56, Op.slice 22 (Operand.tmp 52) none (some (Operand.tmp 55)) none, none⟩, []⟩,
  ⟨⟨none, Op.store 22 (Operand.tmp 3) (Operand.tmp 56), none⟩, []⟩])))))) (.reg [⟨⟨some 19, Op.move (Operand.tmp 0), none⟩, []⟩,
  ⟨⟨some 20, Op.binOp BinOp.add 3 (Operand.tmp 19) (Operand.const (Value.int IntKind.i64 1)) 3, none⟩, []⟩,
  ⟨⟨some 0, Op.assign (Operand.tmp 20), none⟩, []⟩]))))) (.seq (.reg [⟨⟨some 8, Op.assign (Operand.const (Value.bool true)), none⟩, []⟩]) .ret))))
theorem sl146 : slim Try.f146.ntmps ords146 (Try.f146.body.getD .skip) = some cd146 := by kernel_rfl
theorem in146 {args : List Value} {H : AH} {R : Value → AH → Prop} (hl : args.length = 6) (h : ∀ (Q : Exit → Sl → AH → Prop), (∀ e s H, endA Try.prog [ResultVar.tmp 8] R e s H → Q e s H) → wpC Try.prog cd146 Q (enterA args) H) : ACalls Try.prog 146 args H R :=
  ACalls.intro (by kernel_rfl) Try.func146 rfl (by kernel_rfl) sl146 hl (of_decide_eq_true (by kernel_rfl)) (by kernel_rfl) h

/- (loop.example/g01128/impl.Graph).matchings -/
def ords94 : List (Nat × List (Nat × Bool)) := []
def cd94 : Cd := (.seq (.reg [⟨⟨some 2, Op.box 41 (Operand.tmp 0), none⟩, []⟩,
  ⟨⟨some 3, Op.box 65 (Operand.tmp 1), none⟩, []⟩]) (.seq (.reg [⟨⟨some 6, Op.buildSlice 22 0 #[], none⟩, []⟩,
  ⟨⟨some 4, Op.alloc 22, none⟩, []⟩,
  ⟨⟨none, Op.store 22 (Operand.tmp 4) (Operand.tmp 6), none⟩, []⟩]) (.seq (.reg [⟨⟨some 5, Op.alloc 122, none⟩, []⟩]) (.seq (.reg [⟨⟨some 7, Op.makeFunc (Fn.func 146) #[] #[(Operand.tmp 3), (Operand.tmp 4), (Operand.tmp 2), (Operand.tmp 5)], none⟩, []⟩,
  ⟨⟨none, Op.store 122 (Operand.tmp 5) (Operand.tmp 7), none⟩, []⟩]) (.reg [⟨⟨some 8, Op.load 122 (Operand.tmp 5), none⟩, []⟩,
  ⟨⟨some 9, Op.call { callee := (Callee.value (Operand.tmp 8)), args := #[(Operand.const (Value.int IntKind.i64 0)), (Operand.const (Value.int IntKind.u64 0))], argTypes := #[3, 111] }, none⟩, []⟩])))))
theorem sl94 : slim Try.f94.ntmps ords94 (Try.f94.body.getD .skip) = some cd94 := by kernel_rfl
theorem in94 {args : List Value} {H : AH} {R : Value → AH → Prop} (hl : args.length = 2) (h : ∀ (Q : Exit → Sl → AH → Prop), (∀ e s H, endA Try.prog [] R e s H → Q e s H) → wpC Try.prog cd94 Q (enterA args) H) : ACalls Try.prog 94 args H R :=
  ACalls.intro (by kernel_rfl) Try.func94 rfl (by kernel_rfl) sl94 hl (of_decide_eq_true (by kernel_rfl)) (by kernel_rfl) h
end Go.Proofs.Ytahakecifgjcnaa.Ai

namespace Go.Proofs.Ytahakecifgjcnaa.Ai
open Go Go.RowKit
set_option linter.unusedVariables false
set_option linter.unusedSimpArgs false

/-- a function that is called for each, with what it keeps in memory -/
structure CbOk {σ : Type} (HB : AH) (fW : FuncId) (caps : List Value) (I IF : σ → (Nat → Prop) → AH → Prop) (cb : σ → List Int → σ × Bool) : Prop where
  fin : ∀ {s F H}, I s F H → IF s F H
  live : ∀ {s F H o}, I s F H → F o → o < H.length ∧ HB.length ≤ o
  keep : ∀ {s F H H'}, I s F H → (∀ o y, F o → H[o]? = some y → H'[o]? = some y) → I s F H'
  call : ∀ {s F H w xs}, I s F H → Row 3 H w xs → (w = .slice none 0 0 ∨ ¬ F (rowO w)) → xs.length ≤ 1048576 → HB <+: H →
    ACalls Try.prog fW (w :: caps) H fun r H' => r = .bool (cb s xs).2 ∧ (∃ F', IF (cb s xs).1 F' H' ∧ ((cb s xs).2 = true → I (cb s xs).1 F' H') ∧ ∀ o, F' o → F o ∨ H.length ≤ o) ∧ ∀ o y, ¬ F o → H[o]? = some y → H'[o]? = some y

/-- the variables of the walk: the function, the edges so far, the graph, the walk itself -/
structure WSt (HB : AH) (vW v : Value) (n : Int) (pw pe pg pf : Nat) (F : Nat → Prop) (H : AH) (ed : List Int) : Prop where
  w : H[pw]? = some (.cells [vW] 65 false)
  g : H[pg]? = some (.cells [.int .i64 n, v] 41 false)
  f : H[pf]? = some (.cells [.func (.func 146) #[] (List.toArray [.pointer (some ⟨pw, 0, none⟩), .pointer (some ⟨pe, 0, none⟩), .pointer (some ⟨pg, 0, none⟩), .pointer (some ⟨pf, 0, none⟩)])] 122 false)
  e : ∃ oe zs, H[pe]? = some (.cells [.slice (some ⟨oe, 0, none⟩) ed.length ed.length] 22 false) ∧ H[oe]? = some (.cells (ints zs) 3 false) ∧ zs.take ed.length = ed ∧ ¬ F oe ∧ oe ≠ pw ∧ oe ≠ pg ∧ oe ≠ pf ∧ oe ≠ pe ∧ HB.length ≤ oe
  ne : pe ≠ pw ∧ pe ≠ pg ∧ pe ≠ pf
  out : ¬ F pw ∧ ¬ F pg ∧ ¬ F pf ∧ ¬ F pe
  lo : HB.length ≤ pw ∧ HB.length ≤ pe ∧ HB.length ≤ pg ∧ HB.length ≤ pf
  pre : HB <+: H

section
variable {HB : AH} {vW v : Value} {n : Int} {pw pe pg pf : Nat} {F F' : Nat → Prop} {H H' : AH} {ed : List Int}
/-- a call of the function leaves the variables -/
theorem WSt.cb (h : WSt HB vW v n pw pe pg pf F H ed) (hlive : ∀ o, F o → HB.length ≤ o) (hF : ∀ o, F' o → F o ∨ H.length ≤ o) (hk : ∀ o y, ¬ F o → H[o]? = some y → H'[o]? = some y) : WSt HB vW v n pw pe pg pf F' H' ed := by
  obtain ⟨oe, zs, e1, e2, e3, e4, e5⟩ := h.e
  have no : ∀ {o x}, ¬ F o → H[o]? = some x → ¬ F' o := fun ho hx hf => by
    rcases hF _ hf with g | g
    · exact ho g
    · have := at_lt hx; omega
  refine ⟨hk _ _ h.out.1 h.w, hk _ _ h.out.2.1 h.g, hk _ _ h.out.2.2.1 h.f, ⟨oe, zs, hk _ _ h.out.2.2.2 e1, hk _ _ e4 e2, e3, no e4 e2, e5⟩, h.ne, ⟨no h.out.1 h.w, no h.out.2.1 h.g, no h.out.2.2.1 h.f, no h.out.2.2.2 e1⟩, h.lo, ?_⟩
  exact prefix_of fun o x hx => hk o x (fun hf => by have := hlive o hf; have := at_lt hx; omega) (pre_at h.pre hx)
/-- one edge more -/
theorem WSt.push (h : WSt HB vW v n pw pe pg pf F H ed) (hlive : ∀ o, F o → o < H.length) (hb : ed.length ≤ 1048576) (x : Int) :
    ∃ w H2 H3, cellA H pe 0 = some (.slice (some w) ed.length ed.length) ∧ appendA Try.prog 22 22 (.slice (some w) ed.length ed.length) (.slice (some ⟨H.length, 0, none⟩) 1 1) (H ++ [.cells [.int .i64 x] 3 false]) = some (.slice (some ⟨H.length + 1, 0, none⟩) (ed.length + 1) (ed.length + 1), H2) ∧
      storeA Try.prog 22 (.pointer (some ⟨pe, 0, none⟩)) (.slice (some ⟨H.length + 1, 0, none⟩) (ed.length + 1) (ed.length + 1)) H2 = some H3 ∧ WSt HB vW v n pw pe pg pf F H3 (ed ++ [x]) ∧ (∀ o y, F o → H[o]? = some y → H3[o]? = some y) ∧ H.length ≤ H3.length := by
  obtain ⟨oe, zs, e1, e2, e3, e4, e5, e6, e7, e8, e9⟩ := h.e
  have hzl : ed.length ≤ zs.length := by
    have := congrArg List.length e3
    rw [List.length_take] at this; omega
  have k1 := app_q (P := Try.prog) (t := 22) (k := 0) (n := ed.length) (c := ed.length) (x := x) Try.underlying22 cs3 (by rw [by3]; decide) zk3 e2 (by omega) (by omega)
  rw [List.drop_zero, e3] at k1
  have at_ : ∀ {o y}, o ≠ oe → H[o]? = some y → (H.set oe .dead ++ [AObj.cells [.int .i64 x] 3 false, .cells (ints (ed ++ [x])) 3 false])[o]? = some y := by
    intro o y ho hy
    rw [List.getElem?_append_left (by simpa using at_lt hy), List.getElem?_set_ne (fun e => ho e.symm)]
    exact hy
  have a1 := at_ (fun e => e8 e.symm) e1
  have hst := st_at (P := Try.prog) (t := 22) (i := 0) (y := .slice (some ⟨H.length + 1, 0, none⟩) (ed.length + 1) (ed.length + 1)) cs22 a1 (by show 0 < 1; decide) rfl rfl
  have l1 := at_lt e1
  have l2 := at_lt e2
  have aw : ∀ {o y}, o ≠ oe → o ≠ pe → H[o]? = some y → ((H.set oe .dead ++ [AObj.cells [.int .i64 x] 3 false, .cells (ints (ed ++ [x])) 3 false]).set pe (.cells ([Value.slice (some ⟨oe, 0, none⟩) ed.length ed.length].set 0 (.slice (some ⟨H.length + 1, 0, none⟩) (ed.length + 1) (ed.length + 1))) 22 false))[o]? = some y := by
    intro o y ho1 ho2 hy
    rw [List.getElem?_set_ne (fun e => ho2 e.symm)]
    exact at_ ho1 hy
  have lw := at_lt h.w
  have lg := at_lt h.g
  have lf := at_lt h.f
  have lo := h.lo
  refine ⟨_, _, _, cell_of e1 0, k1, hst, ⟨aw (fun e => e5 e.symm) (fun e => h.ne.1 e.symm) h.w, aw (fun e => e6 e.symm) (fun e => h.ne.2.1 e.symm) h.g, aw (fun e => e7 e.symm) (fun e => h.ne.2.2 e.symm) h.f, ⟨H.length + 1, ed ++ [x], ?_, ?_, ?_, ?_, by omega, by omega, by omega, by omega, by have := h.pre.length_le; omega⟩, h.ne, h.out, h.lo, ?_⟩, ?_, by simp⟩
  · rw [List.getElem?_set_self (by simp; omega)]
    simp
  · rw [List.getElem?_set_ne (by omega), List.getElem?_append_right (by simp)]
    simp
  · rw [List.take_of_length_le (Nat.le_refl _)]
  · intro hf; have := hlive _ hf; omega
  · exact prefix_of fun o y hy => aw (by have := at_lt hy; omega) (by have := at_lt hy; omega) (pre_at h.pre hy)
  · intro o y hf hy
    exact aw (fun e => e4 (e ▸ hf)) (fun e => h.out.2.2.2 (e ▸ hf)) hy
/-- the last edge away -/
theorem WSt.pop {x : Int} (h : WSt HB vW v n pw pe pg pf F H (ed ++ [x])) :
    ∃ w c, cellA H pe 0 = some (.slice (some w) (ed.length + 1) c) ∧ sliceA Try.prog 22 (.slice (some w) (ed.length + 1) c) none (some (.int .i64 (ed.length : Int))) none H = some (.slice (some w) ed.length ed.length) ∧
      ∃ H3, storeA Try.prog 22 (.pointer (some ⟨pe, 0, none⟩)) (.slice (some w) ed.length ed.length) H = some H3 ∧ WSt HB vW v n pw pe pg pf F H3 ed ∧ (∀ o y, F o → H[o]? = some y → H3[o]? = some y) ∧ H3.length = H.length := by
  obtain ⟨oe, zs, e1, e2, e3, e4, e5, e6, e7, e8, e9⟩ := h.e
  have hl : (ed ++ [x]).length = ed.length + 1 := by simp
  rw [hl] at e1 e3
  have hz : zs.take ed.length = ed := by
    have := congrArg (List.take ed.length) e3
    rw [List.take_take, Nat.min_eq_left (by omega)] at this
    simpa using this
  have hsl := sl_own (P := Try.prog) (t := 22) (k := 0) (n := ed.length + 1) (c := ed.length + 1) Try.underlying22 cs3 e2 lo_none (bound_some (k := .i64) (i := (ed.length : Int)) (by omega) (ed.length + 1)) (Nat.zero_le _) (by omega)
  simp only [Int.toNat_natCast, Nat.add_zero, Nat.sub_zero] at hsl
  have hst := st_at (P := Try.prog) (t := 22) (i := 0) (y := .slice (some ⟨oe, 0, none⟩) ed.length ed.length) cs22 e1 (by show 0 < 1; decide) rfl rfl
  have aw : ∀ {o y}, o ≠ pe → H[o]? = some y → (H.set pe (.cells ([Value.slice (some ⟨oe, 0, none⟩) (ed.length + 1) (ed.length + 1)].set 0 (.slice (some ⟨oe, 0, none⟩) ed.length ed.length)) 22 false))[o]? = some y := by
    intro o y ho hy
    rw [List.getElem?_set_ne (fun e => ho e.symm)]; exact hy
  have lo := h.lo
  refine ⟨_, _, cell_of e1 0, hsl, _, hst, ⟨aw (fun e => h.ne.1 e.symm) h.w, aw (fun e => h.ne.2.1 e.symm) h.g, aw (fun e => h.ne.2.2 e.symm) h.f, ⟨oe, zs, ?_, aw e8 e2, hz, e4, e5, e6, e7, e8, e9⟩, h.ne, h.out, h.lo, ?_⟩, fun o y hf hy => aw (fun e => h.out.2.2.2 (e ▸ hf)) hy, by simp⟩
  · rw [List.getElem?_set_self (at_lt e1)]; rfl
  · exact prefix_of fun o y hy => aw (by have := at_lt hy; omega) (pre_at h.pre hy)
end

theorem box_func (H : AH) (f : Fn) (fs caps : Array Value) : boxA Try.prog 65 (.func f fs caps) H = some (.pointer (some ⟨H.length, 0, none⟩), H ++ [.cells [.func f fs caps] 65 false]) := by kernel_rfl
theorem alloc_sl (H : AH) : allocA Try.prog 22 H = some (.pointer (some ⟨H.length, 0, none⟩), H ++ [.cells [.slice none 0 0] 22 false]) := by kernel_rfl
theorem alloc_fn (H : AH) : allocA Try.prog 122 H = some (.pointer (some ⟨H.length, 0, none⟩), H ++ [.cells [.nilFunc] 122 false]) := by kernel_rfl
theorem csF : Try.prog.cellsOf 122 = 1 := by kernel_rfl
theorem csW : Try.prog.cellsOf 65 = 1 := by kernel_rfl
theorem agF : isAggA Try.prog 122 = some false := by kernel_rfl
theorem agW : isAggA Try.prog 65 = some false := by kernel_rfl
theorem mkf_1 (f : Fn) (p : Option Addr) : makeFuncA f [] [.pointer p] = some (.func f #[] (List.toArray [.pointer p])) := rfl
theorem mkf_4 (f : Fn) (p q r t : Option Addr) : makeFuncA f [] [.pointer p, .pointer q, .pointer r, .pointer t] = some (.func f #[] (List.toArray [.pointer p, .pointer q, .pointer r, .pointer t])) := rfl

theorem frE_or {es : List (Int × Int)} {ed : List Int} {e : Int} {x y : Nat} (ex : ed1 es e = x) (ey : ed2 es e = y) : frE es ed e ↔ ¬ ((x : Int) ∈ seenL es ed ∨ (y : Int) ∈ seenL es ed) := by
  unfold frE
  rw [ex, ey, not_or]

set_option maxRecDepth 20000 in
set_option maxHeartbeats 4000000 in
theorem from_c {σ : Type} {HB : AH} {fW : FuncId} {caps : List Value} {I IF : σ → (Nat → Prop) → AH → Prop} {cb : σ → List Int → σ × Bool} (hc : CbOk HB fW caps I IF cb) (fs : Array Value) (v : Value) (n : Int) (es : List (Int × Int)) (hr : RowP 66 HB v es) (hlen : es.length ≤ 1048576) (hg : Grd n es) (pw pe pg pf : Nat) :
    ∀ (k : Nat) (ed : List Int) (s : σ) (F : Nat → Prop) (H : AH) (b : Nat), k ≤ es.length → ed.length + k ≤ es.length → I s F H → WSt HB (.func (.func fW) fs (List.toArray caps)) v n pw pe pg pf F H ed → Bits b 8 (seenL es ed) →
      ACalls Try.prog 146 [.int .i64 ((es.length - k : Nat) : Int), .int .u64 ((b : Nat) : Int), .pointer (some ⟨pw, 0, none⟩), .pointer (some ⟨pe, 0, none⟩), .pointer (some ⟨pg, 0, none⟩), .pointer (some ⟨pf, 0, none⟩)] H fun r H' =>
        r = .bool (sfold cb (ed :: mall es k ed) s).2 ∧ HB <+: H' ∧ ∃ F', IF (sfold cb (ed :: mall es k ed) s).1 F' H' ∧ ((sfold cb (ed :: mall es k ed) s).2 = true → I (sfold cb (ed :: mall es k ed) s).1 F' H' ∧ WSt HB (.func (.func fW) fs (List.toArray caps)) v n pw pe pg pf F' H' ed) := by
  intro k
  induction k using Nat.strongRecOn with
  | ind k ih =>
  intro ed s F H b hk hek hI hW hb
  refine in146 rfl ?_
  intro Q hQ
  obtain ⟨oe, zs, e1, e2, e3, e4, e5⟩ := hW.e
  have hrow : Row 3 H (.slice (some ⟨oe, 0, none⟩) ed.length ed.length) ed := by
    have hzl : ed.length ≤ zs.length := by
      have := congrArg List.length e3
      rw [List.length_take] at this; omega
    refine .inr ⟨oe, 0, ints zs, false, rfl, e2, by rw [ints_len]; omega, ?_⟩
    rw [List.drop_zero]
    have : (ints zs).take ed.length = ints (zs.take ed.length) := by simp [ints, List.map_take]
    rw [this, e3]
  have hlv : ∀ o, F o → HB.length ≤ o := fun o ho => (hc.live hI ho).2
  simp (maxSteps := 1000000) (disch := omega) only [cd146, ld_one agW, cell_of hW.w, cell_of e1, S, S1, S2, S3, S4, ST, eq_self, ne_eq, not_true_eq_false, not_false_eq_true, and_self, true_and, and_true, reduceIte, reduceCtorEq, Nat.reduceEqDiff, Nat.reduceAdd, Nat.zero_add, Nat.add_zero, Option.map_none, Option.map_some, List.map_cons, List.map_nil, List.append_nil, List.cons_append, List.nil_append, List.getElem?_cons_zero, List.getElem?_cons_succ, List.getD_cons_zero, List.getD_cons_succ, List.getD_nil, Bool.not_true, Bool.not_false, decide_true, decide_false]
  refine CallH.by (hc.call hI hrow (.inr e4) (by omega) hW.pre) ?_
  rintro _ H1 ⟨rfl, ⟨F1, hI1, hIt, hF1⟩, hk1⟩
  have hW1 := hW.cb hlv hF1 hk1
  have hfold : sfold cb (ed :: mall es k ed) s = if (cb s ed).2 = true then sfold cb (mall es k ed) (cb s ed).1 else ((cb s ed).1, false) := rfl
  simp (maxSteps := 1000000) (disch := omega) only [S, S1, S2, S3, S4, ST, eq_self, ne_eq, not_true_eq_false, not_false_eq_true, and_self, true_and, and_true, reduceIte, reduceCtorEq, Nat.reduceEqDiff, Nat.reduceAdd, Nat.zero_add, Nat.add_zero, Option.map_none, Option.map_some, List.map_cons, List.map_nil, List.append_nil, List.cons_append, List.nil_append, List.getElem?_cons_zero, List.getElem?_cons_succ, List.getD_cons_zero, List.getD_cons_succ, List.getD_nil, Bool.not_true, Bool.not_false, decide_true, decide_false]
  refine brH.intro (fun g0 => ?_) (fun g0 => ?_)
  rotate_left
  · simp (maxSteps := 1000000) (disch := omega) only [g0, S, S1, S2, S3, S4, ST, eq_self, ne_eq, not_true_eq_false, not_false_eq_true, and_self, true_and, and_true, reduceIte, reduceCtorEq, Nat.reduceEqDiff, Nat.reduceAdd, Nat.zero_add, Nat.add_zero, Option.map_none, Option.map_some, List.map_cons, List.map_nil, List.append_nil, List.cons_append, List.nil_append, List.getElem?_cons_zero, List.getElem?_cons_succ, List.getD_cons_zero, List.getD_cons_succ, List.getD_nil, Bool.not_true, Bool.not_false, decide_true, decide_false]
    refine hQ _ _ _ ?_
    simp (maxSteps := 1000000) (disch := omega) only [S, S1, S2, S3, S4, ST, eq_self, ne_eq, not_true_eq_false, not_false_eq_true, and_self, true_and, and_true, reduceIte, reduceCtorEq, Nat.reduceEqDiff, Nat.reduceAdd, Nat.zero_add, Nat.add_zero, Option.map_none, Option.map_some, List.map_cons, List.map_nil, List.append_nil, List.cons_append, List.nil_append, List.getElem?_cons_zero, List.getElem?_cons_succ, List.getD_cons_zero, List.getD_cons_succ, List.getD_nil, Bool.not_true, Bool.not_false, decide_true, decide_false]
    rw [hfold, if_neg (by rw [g0]; decide)]
    exact ⟨rfl, hW1.pre, F1, hI1, fun h => by cases h⟩
  replace hI1 := hIt g0
  rw [if_pos g0] at hfold
  rw [hfold] at hQ
  generalize hs1 : (cb s ed).1 = s1 at *
  simp (maxSteps := 1000000) (disch := omega) only [g0, S, S1, S2, S3, S4, ST, eq_self, ne_eq, not_true_eq_false, not_false_eq_true, and_self, true_and, and_true, reduceIte, reduceCtorEq, Nat.reduceEqDiff, Nat.reduceAdd, Nat.zero_add, Nat.add_zero, Option.map_none, Option.map_some, List.map_cons, List.map_nil, List.append_nil, List.cons_append, List.nil_append, List.getElem?_cons_zero, List.getElem?_cons_succ, List.getD_cons_zero, List.getD_cons_succ, List.getD_nil, Bool.not_true, Bool.not_false, decide_true, decide_false]
  refine LoopH.by (fun m st H' => ∃ s' F', m ≤ k ∧ st 0 = .int .i64 ((es.length - m : Nat) : Int) ∧ st 1 = .int .u64 ((b : Nat) : Int) ∧ st 2 = .pointer (some ⟨pw, 0, none⟩) ∧ st 3 = .pointer (some ⟨pe, 0, none⟩) ∧ st 4 = .pointer (some ⟨pg, 0, none⟩) ∧ st 5 = .pointer (some ⟨pf, 0, none⟩) ∧ I s' F' H' ∧ WSt HB (.func (.func fW) fs (List.toArray caps)) v n pw pe pg pf F' H' ed ∧ sfold cb (mall es k ed) s1 = sfold cb (mall es m ed) s') k ?_ ?_
  · exact ⟨s1, F1, Nat.le_refl _, rfl, rfl, rfl, rfl, rfl, rfl, hI1, hW1, rfl⟩
  rintro m st H' ⟨s', F', hmk, h0, h1, h2, h3, h4, h5, hI', hW', hS⟩
  have hrH := hr.pre hW'.pre
  simp (maxSteps := 1000000) (disch := omega) only [h0, h1, h2, h3, h4, h5, cell_of hW'.g, hrH.len Try.underlying23, S, S1, S2, S3, S4, ST, eq_self, ne_eq, not_true_eq_false, not_false_eq_true, and_self, true_and, and_true, reduceIte, reduceCtorEq, Nat.reduceEqDiff, Nat.reduceAdd, Nat.zero_add, Nat.add_zero, Option.map_none, Option.map_some, List.map_cons, List.map_nil, List.append_nil, List.cons_append, List.nil_append, List.getElem?_cons_zero, List.getElem?_cons_succ, List.getD_cons_zero, List.getD_cons_succ, List.getD_nil, Bool.not_true, Bool.not_false, decide_true, decide_false]
  refine brD.intro (fun g => ?_) (fun g => ?_)
  rotate_left
  · have hm0 : m = 0 := by omega
    subst hm0
    simp (maxSteps := 1000000) (disch := omega) only [S, S1, S2, S3, S4, ST, eq_self, ne_eq, not_true_eq_false, not_false_eq_true, and_self, true_and, and_true, reduceIte, reduceCtorEq, Nat.reduceEqDiff, Nat.reduceAdd, Nat.zero_add, Nat.add_zero, Option.map_none, Option.map_some, List.map_cons, List.map_nil, List.append_nil, List.cons_append, List.nil_append, List.getElem?_cons_zero, List.getElem?_cons_succ, List.getD_cons_zero, List.getD_cons_succ, List.getD_nil, Bool.not_true, Bool.not_false, decide_true, decide_false]
    refine hQ _ _ _ ?_
    simp (maxSteps := 1000000) (disch := omega) only [S, S1, S2, S3, S4, ST, eq_self, ne_eq, not_true_eq_false, not_false_eq_true, and_self, true_and, and_true, reduceIte, reduceCtorEq, Nat.reduceEqDiff, Nat.reduceAdd, Nat.zero_add, Nat.add_zero, Option.map_none, Option.map_some, List.map_cons, List.map_nil, List.append_nil, List.cons_append, List.nil_append, List.getElem?_cons_zero, List.getElem?_cons_succ, List.getD_cons_zero, List.getD_cons_succ, List.getD_nil, Bool.not_true, Bool.not_false, decide_true, decide_false]
    rw [hS]
    exact ⟨rfl, hW'.pre, F', hc.fin hI', fun _ => ⟨hI', hW'⟩⟩
  obtain ⟨i, rfl⟩ : ∃ i, m = i + 1 := ⟨m - 1, by omega⟩
  have hei : es.length - (i + 1) < es.length := by omega
  have he1 : ((es.length - (i + 1) : Nat) : Int) + 1 = ((es.length - i : Nat) : Int) := by omega
  obtain ⟨x, y, ex, ey, hxy, hyn, hy8⟩ := grd_ed hg hei
  have hb64 : b < 2 ^ 64 := Nat.lt_of_lt_of_le hb.1 (by decide)
  have hx64 : 2 ^ x < 2 ^ 64 := Nat.pow_lt_pow_right (by decide) (by omega)
  have hy64 : 2 ^ y < 2 ^ 64 := Nat.pow_lt_pow_right (by decide) (by omega)
  have k1 := bin_shl Try.prog 111 x (by omega)
  have k2 := bin_shl Try.prog 111 y (by omega)
  have k3 := bin_or Try.prog 111 (2 ^ x) (2 ^ y) hx64 hy64
  have k4 := bin_and Try.prog 111 b (2 ^ x ||| 2 ^ y) hb64 (Nat.or_lt_two_pow hx64 hy64)
  have k5 := bin_or Try.prog 111 b (2 ^ x ||| 2 ^ y) hb64 (Nat.or_lt_two_pow hx64 hy64)
  have l0 := hrH.cell0 hei
  have l1 := hrH.cell1 hei
  rw [ex] at l0
  rw [ey] at l1
  have hno := hb.no (x := x) (y := y) (by omega) hy8
  have hor := hb.or2 (x := x) (y := y) (by omega) hy8
  generalize he : es.length - (i + 1) = e at *
  have ex' : ed1 es (e : Int) = x := by unfold ed1; rw [Int.toNat_natCast]; exact ex
  have ey' : ed2 es (e : Int) = y := by unfold ed2; rw [Int.toNat_natCast]; exact ey
  have hfr := frE_or (ed := ed) ex' ey'
  have hst := seenL_snoc es ed (e : Int)
  rw [ex', ey'] at hst
  rw [← hst] at hor
  have hmall : mall es (i + 1) ed = (if frE es ed (e : Int) then (ed ++ [(e : Int)]) :: mall es i (ed ++ [(e : Int)]) else []) ++ mall es i ed := by rw [mall, he]
  simp (maxSteps := 1000000) (disch := omega) only [h0, h1, h2, h3, h4, h5, cell_of hW'.g, hrH.ix Try.underlying23 cs66, Int.toNat_natCast, l0, l1, k1, k2, k3, k4, wrap64, S, S1, S2, S3, S4, ST, eq_self, ne_eq, not_true_eq_false, not_false_eq_true, and_self, true_and, and_true, reduceIte, reduceCtorEq, Nat.reduceEqDiff, Nat.reduceAdd, Nat.zero_add, Nat.add_zero, Option.map_none, Option.map_some, List.map_cons, List.map_nil, List.append_nil, List.cons_append, List.nil_append, List.getElem?_cons_zero, List.getElem?_cons_succ, List.getD_cons_zero, List.getD_cons_succ, List.getD_nil, Bool.not_true, Bool.not_false, decide_true, decide_false]
  refine brD.intro (fun q => ?_) (fun q => ?_) <;> simp (maxSteps := 1000000) (disch := omega) only [h0, h1, h2, h3, h4, h5, he1, wrap64, S, S1, S2, S3, S4, ST, eq_self, ne_eq, not_true_eq_false, not_false_eq_true, and_self, true_and, and_true, reduceIte, reduceCtorEq, Nat.reduceEqDiff, Nat.reduceAdd, Nat.zero_add, Nat.add_zero, Option.map_none, Option.map_some, List.map_cons, List.map_nil, List.append_nil, List.cons_append, List.nil_append, List.getElem?_cons_zero, List.getElem?_cons_succ, List.getD_cons_zero, List.getD_cons_succ, List.getD_nil, Bool.not_true, Bool.not_false, decide_true, decide_false]
  · have q' : b &&& (2 ^ x ||| 2 ^ y) ≠ 0 := by intro h; rw [h] at q; exact q rfl
    rw [if_neg (fun h => (hfr.1 h) (hno.1 q')), List.nil_append] at hmall
    rw [hmall] at hS
    refine ⟨i, by omega, s', F', by omega, ?_⟩
    (repeat' first | exact hI' | exact hW' | exact hS | apply And.intro) <;> first | (simp only [Value.int.injEq, true_and]; omega) | omega | rfl | assumption | (simp; done) | (simp; omega)
  · have q' : ¬ (b &&& (2 ^ x ||| 2 ^ y) ≠ 0) := by intro h; apply h; have := Decidable.not_not.1 q; exact_mod_cast this
    have hfr' : frE es ed (e : Int) := hfr.2 (fun h => q' (hno.2 h))
    rw [if_pos hfr'] at hmall
    rw [hmall, sfold_append] at hS
    obtain ⟨w, H2, H3, p1, p2, p3, hW3, hk3, hl3⟩ := hW'.push (fun o ho => (hc.live hI' ho).1) (by omega) (e : Int)
    have hI3 := hc.keep hI' hk3
    simp (maxSteps := 1000000) (disch := omega) only [h0, h1, h2, h3, h4, h5, p1, p2, p3, ld_one agF, cell_of hW3.f, k5, he1, wrap64, S, S1, S2, S3, S4, ST, eq_self, ne_eq, not_true_eq_false, not_false_eq_true, and_self, true_and, and_true, reduceIte, reduceCtorEq, Nat.reduceEqDiff, Nat.reduceAdd, Nat.zero_add, Nat.add_zero, Option.map_none, Option.map_some, List.map_cons, List.map_nil, List.append_nil, List.cons_append, List.nil_append, List.getElem?_cons_zero, List.getElem?_cons_succ, List.getD_cons_zero, List.getD_cons_succ, List.getD_nil, Bool.not_true, Bool.not_false, decide_true, decide_false]
    refine CallH.by (ih i (by omega) (ed ++ [(e : Int)]) s' F' H3 (b ||| (2 ^ x ||| 2 ^ y)) (by omega) (by simp; omega) hI3 hW3 hor) ?_
    rintro _ H4 ⟨rfl, hp4, F4, hI4, hW4⟩
    generalize hX : sfold cb ((ed ++ [(e : Int)]) :: mall es i (ed ++ [(e : Int)])) s' = X at *
    simp (maxSteps := 1000000) (disch := omega) only [S, S1, S2, S3, S4, ST, eq_self, ne_eq, not_true_eq_false, not_false_eq_true, and_self, true_and, and_true, reduceIte, reduceCtorEq, Nat.reduceEqDiff, Nat.reduceAdd, Nat.zero_add, Nat.add_zero, Option.map_none, Option.map_some, List.map_cons, List.map_nil, List.append_nil, List.cons_append, List.nil_append, List.getElem?_cons_zero, List.getElem?_cons_succ, List.getD_cons_zero, List.getD_cons_succ, List.getD_nil, Bool.not_true, Bool.not_false, decide_true, decide_false]
    refine brH.intro (fun g2 => ?_) (fun g2 => ?_)
    · obtain ⟨hI4', hW4'⟩ := hW4 g2
      obtain ⟨w4, c4, r1, r2, H5, r3, hW5, hk5, hl5⟩ := hW4'.pop
      have hI5 := hc.keep hI4' hk5
      rw [if_pos g2] at hS
      have hcl : ((ed.length + 1 : Nat) : Int) - 1 = (ed.length : Int) := by omega
      simp (maxSteps := 1000000) (disch := omega) only [g2, h0, h1, h2, h3, h4, h5, r1, hcl, r2, r3, he1, wrap64, S, S1, S2, S3, S4, ST, eq_self, ne_eq, not_true_eq_false, not_false_eq_true, and_self, true_and, and_true, reduceIte, reduceCtorEq, Nat.reduceEqDiff, Nat.reduceAdd, Nat.zero_add, Nat.add_zero, Option.map_none, Option.map_some, List.map_cons, List.map_nil, List.append_nil, List.cons_append, List.nil_append, List.getElem?_cons_zero, List.getElem?_cons_succ, List.getD_cons_zero, List.getD_cons_succ, List.getD_nil, Bool.not_true, Bool.not_false, decide_true, decide_false]
      refine ⟨i, by omega, X.1, F4, by omega, ?_⟩
      (repeat' first | exact hI5 | exact hW5 | exact hS | apply And.intro) <;> first | (simp only [Value.int.injEq, true_and]; omega) | omega | rfl | assumption | (simp; done) | (simp; omega)
    · simp (maxSteps := 1000000) (disch := omega) only [g2, S, S1, S2, S3, S4, ST, eq_self, ne_eq, not_true_eq_false, not_false_eq_true, and_self, true_and, and_true, reduceIte, reduceCtorEq, Nat.reduceEqDiff, Nat.reduceAdd, Nat.zero_add, Nat.add_zero, Option.map_none, Option.map_some, List.map_cons, List.map_nil, List.append_nil, List.cons_append, List.nil_append, List.getElem?_cons_zero, List.getElem?_cons_succ, List.getD_cons_zero, List.getD_cons_succ, List.getD_nil, Bool.not_true, Bool.not_false, decide_true, decide_false]
      refine hQ _ _ _ ?_
      simp (maxSteps := 1000000) (disch := omega) only [S, S1, S2, S3, S4, ST, eq_self, ne_eq, not_true_eq_false, not_false_eq_true, and_self, true_and, and_true, reduceIte, reduceCtorEq, Nat.reduceEqDiff, Nat.reduceAdd, Nat.zero_add, Nat.add_zero, Option.map_none, Option.map_some, List.map_cons, List.map_nil, List.append_nil, List.cons_append, List.nil_append, List.getElem?_cons_zero, List.getElem?_cons_succ, List.getD_cons_zero, List.getD_cons_succ, List.getD_nil, Bool.not_true, Bool.not_false, decide_true, decide_false]
      rw [if_neg (by rw [g2]; decide)] at hS
      rw [hS, g2]
      exact ⟨rfl, hp4, F4, hI4, fun h => by cases h⟩

set_option maxRecDepth 20000 in
set_option maxHeartbeats 1000000 in
theorem matchings_c {σ : Type} {HB : AH} {fW : FuncId} {caps : List Value} {I IF : σ → (Nat → Prop) → AH → Prop} {cb : σ → List Int → σ × Bool} (hc : CbOk HB fW caps I IF cb) (fs : Array Value) (v : Value) (n : Int) (es : List (Int × Int)) (hr : RowP 66 HB v es) (hlen : es.length ≤ 1048576) (hg : Grd n es)
    (s : σ) (F : Nat → Prop) (H : AH) (hI : I s F H) (hp : HB <+: H) :
    ACalls Try.prog 94 [.agg (List.toArray [.int .i64 n, v]), .func (.func fW) fs (List.toArray caps)] H fun r H' => HB <+: H' ∧ ∃ F', IF (sfold cb ([] :: mall es es.length []) s).1 F' H' := by
  refine in94 rfl ?_
  intro Q hQ
  have hrH := hr.pre hp
  simp (maxSteps := 1000000) (disch := omega) only [cd94, hrH.boxG, box_func, alloc_sl, alloc_fn, S, S1, S2, S3, S4, ST, eq_self, ne_eq, not_true_eq_false, not_false_eq_true, and_self, true_and, and_true, reduceIte, reduceCtorEq, Nat.reduceEqDiff, Nat.reduceAdd, Nat.zero_add, Nat.add_zero, Option.map_none, Option.map_some, List.map_cons, List.map_nil, List.append_nil, List.cons_append, List.nil_append, List.getElem?_cons_zero, List.getElem?_cons_succ, List.getD_cons_zero, List.getD_cons_succ, List.getD_nil, Bool.not_true, Bool.not_false, decide_true, decide_false]
  generalize hA : H ++ [AObj.cells [.int .i64 n, v] 41 false] = A
  have pA : H <+: A := by rw [← hA]; exact List.prefix_append _ _
  have cA : A[H.length]? = some (.cells [.int .i64 n, v] 41 false) := by rw [← hA]; exact at_new ..
  have rA := hrH.pre pA
  generalize hW0 : A ++ [AObj.cells [.func (.func fW) fs (List.toArray caps)] 65 false] = W
  have pW : A <+: W := by rw [← hW0]; exact List.prefix_append _ _
  have cW : W[A.length]? = some (.cells [.func (.func fW) fs (List.toArray caps)] 65 false) := by rw [← hW0]; exact at_new ..
  generalize hZ : W ++ [AObj.cells [] 3 false] = Z
  have pZ : W <+: Z := by rw [← hZ]; exact List.prefix_append _ _
  have cZ : Z[W.length]? = some (.cells (ints []) 3 false) := by rw [← hZ]; exact at_new ..
  have st1 := st_at (P := Try.prog) (t := 22) (i := 0) (y := .slice (some ⟨W.length, 0, none⟩) 0 0) cs22 (at_new Z (.cells [.slice none 0 0] 22 false)) (by show 0 < 1; decide) rfl rfl
  rw [set_new, List.set_cons_zero] at st1
  simp (maxSteps := 1000000) (disch := omega) only [st1, S, S1, S2, S3, S4, ST, eq_self, ne_eq, not_true_eq_false, not_false_eq_true, and_self, true_and, and_true, reduceIte, reduceCtorEq, Nat.reduceEqDiff, Nat.reduceAdd, Nat.zero_add, Nat.add_zero, Option.map_none, Option.map_some, List.map_cons, List.map_nil, List.append_nil, List.cons_append, List.nil_append, List.getElem?_cons_zero, List.getElem?_cons_succ, List.getD_cons_zero, List.getD_cons_succ, List.getD_nil, Bool.not_true, Bool.not_false, decide_true, decide_false]
  generalize hE : Z ++ [AObj.cells [.slice (some ⟨W.length, 0, none⟩) 0 0] 22 false] = E
  have pE : Z <+: E := by rw [← hE]; exact List.prefix_append _ _
  have cE : E[Z.length]? = some (.cells [.slice (some ⟨W.length, 0, none⟩) 0 0] 22 false) := by rw [← hE]; exact at_new ..
  have st2 := st_at (P := Try.prog) (t := 122) (i := 0) (y := .func (.func 146) #[] (List.toArray [.pointer (some ⟨A.length, 0, none⟩), .pointer (some ⟨Z.length, 0, none⟩), .pointer (some ⟨H.length, 0, none⟩), .pointer (some ⟨E.length, 0, none⟩)])) csF (at_new E (.cells [.nilFunc] 122 false)) (by show 0 < 1; decide) rfl rfl
  rw [set_new, List.set_cons_zero] at st2
  simp (maxSteps := 1000000) (disch := omega) only [alloc_fn, mkf_4, st2, ld_one agF, cell_new, S, S1, S2, S3, S4, ST, eq_self, ne_eq, not_true_eq_false, not_false_eq_true, and_self, true_and, and_true, reduceIte, reduceCtorEq, Nat.reduceEqDiff, Nat.reduceAdd, Nat.zero_add, Nat.add_zero, Option.map_none, Option.map_some, List.map_cons, List.map_nil, List.append_nil, List.cons_append, List.nil_append, List.getElem?_cons_zero, List.getElem?_cons_succ, List.getD_cons_zero, List.getD_cons_succ, List.getD_nil, Bool.not_true, Bool.not_false, decide_true, decide_false]
  generalize hG : E ++ [AObj.cells [.func (.func 146) #[] (List.toArray [.pointer (some ⟨A.length, 0, none⟩), .pointer (some ⟨Z.length, 0, none⟩), .pointer (some ⟨H.length, 0, none⟩), .pointer (some ⟨E.length, 0, none⟩)])] 122 false] = G
  have pG : E <+: G := by rw [← hG]; exact List.prefix_append _ _
  have cG : G[E.length]? = some (.cells [.func (.func 146) #[] (List.toArray [.pointer (some ⟨A.length, 0, none⟩), .pointer (some ⟨Z.length, 0, none⟩), .pointer (some ⟨H.length, 0, none⟩), .pointer (some ⟨E.length, 0, none⟩)])] 122 false) := by rw [← hG]; exact at_new ..
  have lA : A.length = H.length + 1 := by rw [← hA]; simp
  have lW : W.length = A.length + 1 := by rw [← hW0]; simp
  have lZ : Z.length = W.length + 1 := by rw [← hZ]; simp
  have lE : E.length = Z.length + 1 := by rw [← hE]; simp
  have lHB := hp.length_le
  have pHG := pA.trans (pW.trans (pZ.trans (pE.trans pG)))
  have hI2 := hc.keep hI (fun o y _ hy => pre_at pHG hy)
  have nF : ∀ {o}, H.length ≤ o → ¬ F o := fun ho hf => by have := (hc.live hI hf).1; omega
  have hW2 : WSt HB (.func (.func fW) fs (List.toArray caps)) v n A.length Z.length H.length E.length F G [] :=
    ⟨pre_at (pZ.trans (pE.trans pG)) cW, pre_at (pW.trans (pZ.trans (pE.trans pG))) cA, cG, ⟨W.length, [], pre_at pG cE, pre_at (pE.trans pG) cZ, rfl, nF (by omega), by omega, by omega, by omega, by omega, by omega⟩, ⟨by omega, by omega, by omega⟩, ⟨nF (by omega), nF (by omega), nF (by omega), nF (by omega)⟩, ⟨by omega, by omega, by omega, by omega⟩, hp.trans pHG⟩
  have hf := from_c hc fs v n es hr hlen hg A.length Z.length H.length E.length es.length [] s F G 0 (Nat.le_refl _) (by simp) hI2 hW2 ⟨by decide, fun z _ => by simp [seenL]⟩
  have z0 : ((0 : Nat) : Int) = 0 := rfl
  rw [Nat.sub_self, z0] at hf
  refine CallH.by hf ?_
  rintro _ H' ⟨rfl, hp', F', hI', _⟩
  simp (maxSteps := 1000000) (disch := omega) only [S, S1, S2, S3, S4, ST, eq_self, ne_eq, not_true_eq_false, not_false_eq_true, and_self, true_and, and_true, reduceIte, reduceCtorEq, Nat.reduceEqDiff, Nat.reduceAdd, Nat.zero_add, Nat.add_zero, Option.map_none, Option.map_some, List.map_cons, List.map_nil, List.append_nil, List.cons_append, List.nil_append, List.getElem?_cons_zero, List.getElem?_cons_succ, List.getD_cons_zero, List.getD_cons_succ, List.getD_nil, Bool.not_true, Bool.not_false, decide_true, decide_false]
  refine hQ _ _ _ ?_
  simp (maxSteps := 1000000) (disch := omega) only [S, S1, S2, S3, S4, ST, eq_self, ne_eq, not_true_eq_false, not_false_eq_true, and_self, true_and, and_true, reduceIte, reduceCtorEq, Nat.reduceEqDiff, Nat.reduceAdd, Nat.zero_add, Nat.add_zero, Option.map_none, Option.map_some, List.map_cons, List.map_nil, List.append_nil, List.cons_append, List.nil_append, List.getElem?_cons_zero, List.getElem?_cons_succ, List.getD_cons_zero, List.getD_cons_succ, List.getD_nil, Bool.not_true, Bool.not_false, decide_true, decide_false]
  exact ⟨hp', F', hI'⟩
end Go.Proofs.Ytahakecifgjcnaa.Ai
