/- Spaces as values, and the space of lists in order (impl.spaceOf). -/
import Derived.Test.YthhnpchjjbjabaaSrtF
import Derived.Test.YthhnpchjjbjabaaGrf
import Derived.Test.YthhnpchjjbjabaaAppL
import Derived.Test.YthhnpchjjbjabaaProg
import Derived.Test.YthhnpchjjbjabaaAiM2
import Derived.KernelRfl
/- Slim code of this translation. By the kernel. -/
namespace Go.Proofs.Ythhnpchjjbjabaa.Ai
open Go

/- loop.example/g01128/impl.spaceOf -/
def ords77 : List (Nat × List (Nat × Bool)) := []
def cd77 : Cd := (.seq (.reg [⟨⟨some 4, Op.alloc 40, none⟩, []⟩]) (.seq (.reg [⟨⟨some 10, Op.move (Operand.tmp 0), none⟩, []⟩,
  ⟨⟨some 11, Op.build 40 #[(0, (Operand.tmp 10))], none⟩, []⟩,
  ⟨⟨some 5, Op.alloc 40, none⟩, []⟩,
  ⟨⟨none, Op.store 40 (Operand.tmp 5) (Operand.tmp 11), none⟩, []⟩]) (.seq (.reg [⟨⟨some 12, Op.fieldAddr 40 (Operand.tmp 5) 0, none⟩, []⟩,
  ⟨⟨some 13, Op.load 38 (Operand.tmp 12), none⟩, []⟩,
  ⟨⟨some 14, Op.call { callee := (Callee.value (Operand.func 124)), args := #[(Operand.tmp 13), (Operand.func 125)], argTypes := #[38, 109] }, none⟩, []⟩]) (.seq (.seq (.reg [⟨⟨some 15, Op.fieldAddr 40 (Operand.tmp 5) 0, none⟩, []⟩,
  ⟨⟨some 16, Op.load 38 (Operand.tmp 15), none⟩, []⟩,
  ⟨⟨some 17, Op.call { callee := (Callee.builtin Builtin.len), args := #[(Operand.tmp 16)], argTypes := #[38] }, none⟩, []⟩,
  ⟨⟨some 18, Op.move (Operand.const (Value.int IntKind.i64 0)), none⟩, []⟩]) (.block 0 (.loop (.seq (.reg [⟨⟨some 19, Op.binOp BinOp.lss 3 (Operand.tmp 18) (Operand.tmp 17) 3, none⟩, []⟩]) (.seq (.cond (Operand.tmp 19) .skip (.exit 0)) (.seq (.block 1 (.seq (.reg [⟨⟨some 20, Op.move (Operand.tmp 18), none⟩, []⟩,
  ⟨⟨some 21, Op.indexAddr 38 (Operand.tmp 16) (Operand.tmp 18), none⟩, []⟩,
  ⟨⟨some 22, Op.load 32 (Operand.tmp 21), none⟩, []⟩,
  ⟨⟨some 6, Op.assign (Operand.tmp 20), none⟩, []⟩,
  ⟨⟨some 7, Op.assign (Operand.tmp 22), none⟩, []⟩]) (.seq (.reg [⟨⟨some 23, Op.fieldAddr 40 (Operand.tmp 5) 0, none⟩, []⟩,
  ⟨⟨some 24, Op.load 38 (Operand.tmp 23), none⟩, []⟩,
  ⟨⟨some 25, Op.move (Operand.tmp 6), none⟩, []⟩,
  ⟨⟨some 26, Op.binOp BinOp.add 3 (Operand.tmp 25) (Operand.const (Value.int IntKind.i64 1)) 3, none⟩, []⟩,
  ⟨⟨some 27, Op.slice 38 (Operand.tmp 24) (some (Operand.tmp 26)) none none, none⟩, []⟩,
  ⟨⟨some 28, Op.call { callee := (Callee.builtin Builtin.len), args := #[(Operand.tmp 27)], argTypes := #[38] }, none⟩, []⟩,
  ⟨⟨some 29, Op.move (Operand.const (Value.int IntKind.i64 0)), none⟩, []⟩]) (.block 2 (.loop (.seq (.reg [⟨⟨some 30, Op.binOp BinOp.lss 3 (Operand.tmp 29) (Operand.tmp 28) 3, none⟩, []⟩]) (.seq (.cond (Operand.tmp 30) .skip (.exit 2)) (.seq (.block 3 (.seq (.reg [⟨⟨some 31, Op.move (Operand.tmp 29), none⟩, []⟩,
  ⟨⟨some 32, Op.indexAddr 38 (Operand.tmp 27) (Operand.tmp 29), none⟩, []⟩,
  ⟨⟨some 33, Op.load 32 (Operand.tmp 32), none⟩, []⟩,
  ⟨⟨some 8, Op.assign (Operand.tmp 31), none⟩, []⟩,
  ⟨⟨some 9, Op.assign (Operand.tmp 33), none⟩, []⟩]) (.seq (.reg [⟨⟨some 34, Op.move (Operand.tmp 1), none⟩, []⟩,
  ⟨⟨some 35, Op.move (Operand.tmp 7), none⟩, []⟩,
  ⟨⟨some 36, Op.move (Operand.tmp 9), none⟩, []⟩,
  ⟨⟨some 37, Op.call { callee := (Callee.value (Operand.tmp 34)), args := #[(Operand.tmp 35), (Operand.tmp 36)], argTypes := #[32, 32] }, none⟩, []⟩]) (.cond (Operand.tmp 37) (.reg [⟨⟨some 38, Op.fieldAddr 40 (Operand.tmp 5) 1, none⟩, []⟩,
  ⟨⟨some 39, Op.load 22 (Operand.tmp 38), none⟩, []⟩,
  ⟨⟨some 40, Op.move (Operand.tmp 6), none⟩, []⟩,
  ⟨⟨some 41, Op.move (Operand.tmp 6), none⟩, []⟩,
  ⟨⟨some 42, Op.binOp BinOp.add 3 (Operand.tmp 41) (Operand.const (Value.int IntKind.i64 1)) 3, none⟩, []⟩,
  ⟨⟨some 43, Op.move (Operand.tmp 8), none⟩, []⟩,
  ⟨⟨some 44, Op.binOp BinOp.add 3 (Operand.tmp 42) (Operand.tmp 43) 3, none⟩, []⟩,
  ⟨⟨some 45, Op.build 76 #[(0, (Operand.tmp 40)), (1, (Operand.tmp 44))], none⟩, []⟩,
  ⟨⟨some 46, Op.buildSlice 22 1 #[(0, (Operand.tmp 45))], none⟩, []⟩,
  ⟨⟨some 47, Op.call { callee := (Callee.builtin Builtin.append), args := #[(Operand.tmp 39), (Operand.tmp 46)], argTypes := #[22, 22] }, none⟩, []⟩,
  ⟨⟨some 48, Op.fieldAddr 40 (Operand.tmp 5) 1, none⟩, []⟩,
  ⟨⟨none, Op.store 22 (Operand.tmp 48) (Operand.tmp 47), none⟩, []⟩]) .skip)))) (.reg [⟨⟨some 49, Op.binOp BinOp.add 3 (Operand.tmp 29) (Operand.const (Value.int IntKind.i64 1)) 3, none⟩, []⟩,
  ⟨⟨some 29, Op.move (Operand.tmp 49), none⟩, []⟩]))))))))) (.reg [⟨⟨some 50, Op.binOp BinOp.add 3 (Operand.tmp 18) (Operand.const (Value.int IntKind.i64 1)) 3, none⟩, []⟩,
  ⟨⟨some 18, Op.move (Operand.tmp 50), none⟩, []⟩]))))))) (.seq (.reg [⟨⟨some 51, Op.load 40 (Operand.tmp 5), none⟩, []⟩,
  ⟨⟨none, Op.store 40 (Operand.tmp 4) (Operand.tmp 51), none⟩, []⟩]) .ret)))))
theorem sl77 : slim Try.f77.ntmps ords77 (Try.f77.body.getD .skip) = some cd77 := by kernel_rfl
set_option maxRecDepth 20000 in
theorem in77 {args : List Value} {H : AH} {R : Value → AH → Prop} (hl : args.length = 2) (h : ∀ (Q : Exit → Sl → AH → Prop), (∀ e s H, endA Try.prog [ResultVar.cell 4 40] R e s H → Q e s H) → wpC Try.prog cd77 Q (enterA args) H) : ACalls Try.prog 77 args H R :=
  ACalls.intro (by kernel_rfl) Try.func77 rfl (by kernel_rfl) sl77 hl (of_decide_eq_true (by kernel_rfl)) (by kernel_rfl) h
end Go.Proofs.Ythhnpchjjbjabaa.Ai

namespace Go.Proofs.Ythhnpchjjbjabaa.Ai
open Go Go.RowKit
set_option linter.unusedVariables false
set_option linter.unusedSimpArgs false

theorem alloc_sp (H : AH) : allocA Try.prog 40 H = some (.pointer (some ⟨H.length, 0, none⟩), H ++ [.cells [.slice none 0 0, .slice none 0 0] 40 false]) := by kernel_rfl
theorem bld_sp1 (p : Option Addr) (n c : Nat) : buildA Try.prog 40 [(0, .slice p n c)] = some (.agg (List.toArray [.slice p n c, .slice none 0 0])) := by kernel_rfl
theorem bld_sp2 (p q : Option Addr) (n c m d : Nat) : buildA Try.prog 40 [(0, .slice p n c), (1, .slice q m d)] = some (.agg (List.toArray [.slice p n c, .slice q m d])) := by kernel_rfl
theorem bld_sp0 : buildA Try.prog 40 [] = some (.agg (List.toArray [.slice none 0 0, .slice none 0 0])) := by kernel_rfl
theorem st_ss {e : TypeId} {H : AH} {o : Nat} {vs : List Value} (ho : H[o]? = some (.cells vs e false)) (hv : vs.length = 2) (p q : Option Addr) (n c m d : Nat) :
    storeA Try.prog 40 (.pointer (some ⟨o, 0, none⟩)) (.agg (List.toArray [.slice p n c, .slice q m d])) H = some (H.set o (.cells [.slice p n c, .slice q m d] e false)) := by
  simp only [storeA, ho, cs40]
  have hcl : (Value.agg (List.toArray [.slice p n c, .slice q m d])).cells.toList = [.slice p n c, .slice q m d] := rfl
  rw [hcl, if_pos ⟨rfl, rfl, by decide, by rw [hv]; exact Nat.le_refl 2⟩]
  have : putAt vs 0 [.slice p n c, .slice q m d] = [.slice p n c, .slice q m d] := by
    unfold putAt
    rw [List.take_zero, List.nil_append, List.drop_of_length_le (by simp; omega), List.append_nil]
  rw [this]
/-- the end of a function with a variable and a value as results -/
theorem end_cell2 (P : Program) (a b : Nat) (t : TypeId) (R : Value → AH → Prop) (s : Sl) (H : AH) (v w : Value) (h : loadA P t (s a) H = some v) (ht : isTup v = false) (hb : s b = w) (hw : isTup w = false) (hr : R (.tuple (List.toArray [v, w])) H) : endA P [.cell a t, .tmp b] R .ret s H := by
  subst hb
  simp only [endA, resA, h, ht]
  simp [hw, outA]
  exact hr

/-- the steps between lists of which something is so -/
def stpI (p : List Int → List Int → Bool) (ls : List (List Int)) (i : Nat) : Nat → List (Int × Int)
  | 0 => []
  | k + 1 => stpI p ls i k ++ if p (ls.getD i []) (ls.getD (i + 1 + k) []) = true then [((i : Int), ((i + 1 + k : Nat) : Int))] else []
def stpO (p : List Int → List Int → Bool) (ls : List (List Int)) : Nat → List (Int × Int)
  | 0 => []
  | i + 1 => stpO p ls i ++ stpI p ls i (ls.length - (i + 1))
theorem stpI_len (p : List Int → List Int → Bool) (ls : List (List Int)) (i k : Nat) : (stpI p ls i k).length ≤ k := by
  induction k with
  | zero => simp [stpI]
  | succ k ih => simp only [stpI, List.length_append]; split <;> simp <;> omega
theorem stpO_len (p : List Int → List Int → Bool) (ls : List (List Int)) (i : Nat) : (stpO p ls i).length ≤ i * ls.length := by
  induction i with
  | zero => simp [stpO]
  | succ i ih =>
    have := stpI_len p ls i (ls.length - (i + 1))
    simp only [stpO, List.length_append, Nat.add_mul, Nat.one_mul]
    omega
abbrev steps (p : List Int → List Int → Bool) (ls : List (List Int)) : List (Int × Int) := stpO p ls ls.length

/-- is a step between two lists: a function of the program's -/
def StepFn (HB : AH) (fS : FuncId) (caps : List Value) (ls : List (List Int)) (p : List Int → List Int → Bool) : Prop :=
  ∀ (a b : Value) (x y : List Int) (H : AH), HB <+: H → Row 3 H a x → Row 3 H b y → x ∈ ls → y ∈ ls → ACalls Try.prog fS (a :: b :: caps) H fun r H' => r = .bool (p x y) ∧ H <+: H'

set_option maxRecDepth 20000 in
set_option maxHeartbeats 4000000 in
theorem spaceOf_c {HB H : AH} {v : Value} {us : List Value} {ls : List (List Int)} (h : Sts H v us ls) (h1 : 1 ≤ ls.length) (hls : ls.length ≤ 1000) (fS : FuncId) (caps : List Value) (p : List Int → List Int → Bool) (hS : StepFn HB fS caps ls p) (hp : HB <+: H) :
    ACalls Try.prog 77 [v, .func (.func fS) #[] (List.toArray caps)] H fun r H' => ∃ st, r = .agg (List.toArray [v, st]) ∧ MineP 76 H H' st (steps p ls) ∧ H <+: H' := by
  refine in77 rfl ?_
  intro Q hQ
  have hul := h.len
  obtain ⟨pv, hpv⟩ := h.row.shape
  have hb1 := bld_sp1 pv us.length us.length
  rw [← hpv] at hb1
  simp (maxSteps := 1000000) (disch := omega) only [cd77, alloc_sp, hb1, S, S1, S2, S3, S4, S5, ST, eq_self, reduceIte, reduceCtorEq, Nat.reduceEqDiff, Nat.reduceAdd]
  generalize hA : H ++ [AObj.cells [.slice none 0 0, .slice none 0 0] 40 false] = A
  have pA : H <+: A := by rw [← hA]; exact List.prefix_append _ _
  have cA : A[H.length]? = some (.cells [.slice none 0 0, .slice none 0 0] 40 false) := by rw [← hA]; exact at_new ..
  have lA : A.length = H.length + 1 := by rw [← hA]; simp
  have st1 := st_ss (at_new A (.cells [.slice none 0 0, .slice none 0 0] 40 false)) rfl pv none us.length us.length 0 0
  rw [set_new, ← hpv] at st1
  simp (maxSteps := 1000000) (disch := omega) only [st1, cell_new, S, S1, S2, S3, S4, S5, ST, eq_self, reduceIte, reduceCtorEq, Nat.reduceEqDiff, Nat.reduceAdd]
  generalize hB : A ++ [AObj.cells [v, .slice none 0 0] 40 false] = B
  have pB : A <+: B := by rw [← hB]; exact List.prefix_append _ _
  have cB : B[A.length]? = some (.cells [v, .slice none 0 0] 40 false) := by rw [← hB]; exact at_new ..
  have lB : B.length = A.length + 1 := by rw [← hB]; simp
  have pHB := pA.trans pB
  refine CallH.by (SortFunc_c (h.pre pHB) h1) ?_
  rintro _ C pC
  have pHC := pHB.trans pC
  have lC := pC.length_le
  have cC := pre_at pC cB
  have cC0 := pre_at (pB.trans pC) cA
  simp (maxSteps := 1000000) (disch := omega) only [cell_of cC, h.row.len Try.underlying38, hul, S, S1, S2, S3, S4, S5, ST, eq_self, reduceIte, reduceCtorEq, Nat.reduceEqDiff, Nat.reduceAdd]
  refine LoopH.by (fun m s H' => ∃ i st, m + i = ls.length ∧ s 1 = .func (.func fS) #[] (List.toArray caps) ∧ s 4 = .pointer (some ⟨H.length, 0, none⟩) ∧ s 5 = .pointer (some ⟨A.length, 0, none⟩) ∧ s 16 = v ∧ s 17 = .int .i64 (ls.length : Int) ∧ s 18 = .int .i64 ((i : Nat) : Int) ∧ H'[A.length]? = some (.cells [v, st] 40 false) ∧ H'[H.length]? = some (.cells [.slice none 0 0, .slice none 0 0] 40 false) ∧ (st = .slice none 0 0 ∨ B.length ≤ rowO st) ∧ MineP 76 H H' st (stpO p ls i) ∧ H <+: H') ls.length ?_ ?_
  · exact ⟨0, .slice none 0 0, by simp, rfl, rfl, rfl, rfl, rfl, rfl, cC, cC0, .inl rfl, .inl ⟨rfl, rfl⟩, pHC⟩
  rintro m s H' ⟨i, st, hm, s1, s4, s5, s16, s17, s18, hc5, hc4, hst, hmn, hpp⟩
  simp (maxSteps := 1000000) (disch := omega) only [s1, s4, s5, s16, s17, s18, S, S1, S2, S3, S4, S5, ST, eq_self, reduceIte, reduceCtorEq, Nat.reduceEqDiff, Nat.reduceAdd]
  refine brD.intro (fun g => ?_) (fun g => ?_)
  rotate_left
  · have hi : i = ls.length := by omega
    subst hi
    have hst2 : isTup st = false := hmn.row.tup
    obtain ⟨q, hq⟩ := hmn.row.shape
    have hstA := st_ss hc4 rfl pv q us.length us.length (stpO p ls ls.length).length (stpO p ls ls.length).length
    rw [← hpv, ← hq] at hstA
    simp (maxSteps := 1000000) (disch := omega) only [s4, s5, ld_agg ag40 cs40 hc5, hstA, S, S1, S2, S3, S4, S5, ST, eq_self, reduceIte, reduceCtorEq, Nat.reduceEqDiff, Nat.reduceAdd]
    have d4 := at_set (d := .cells [v, st] 40 false) hc4
    refine hQ _ _ _ (end_cell _ _ _ _ _ _ (.agg (List.toArray [v, st])) ?_ rfl ⟨st, rfl, ?_, ?_⟩)
    · simp (maxSteps := 1000000) (disch := omega) only [s4, ld_agg ag40 cs40 d4, S, S1, S2, S3, S4, S5, ST, eq_self, reduceIte, reduceCtorEq, Nat.reduceEqDiff, Nat.reduceAdd]
    · rcases hst with e | e
      · rcases hmn with hm0 | ⟨o, zs, q1, _⟩
        · exact .inl hm0
        · rw [e] at q1; cases q1
      · refine hmn.keepL ?_
        intro hl y hy
        rw [List.getElem?_set_ne (by omega)]
        exact hy
    · exact pre_set hpp (Nat.le_refl _) _
  have hi : i < ls.length := by omega
  have hH' := h.pre hpp
  have hci := hH'.cell hi
  have hri := hH'.each i hi
  have hmi : ls.getD i [] ∈ ls := by simp [hi]
  have hsl := hH'.row.slice (P := Try.prog) (t := 38) Try.underlying38 cs32 (bound_some (k := .i64) (i := (i : Int) + 1) (by omega) 0) (hi_none us.length) (show ((i : Int) + 1).toNat ≤ us.length by omega) (Nat.le_refl _)
  have hi1 : ((i : Int) + 1).toNat = i + 1 := by omega
  rw [hi1] at hsl
  obtain ⟨hsl1, hsl2, hsl3⟩ := hsl
  have hdl : (us.drop (i + 1)).take (us.length - (i + 1)) = us.drop (i + 1) := by rw [List.take_of_length_le (by simp)]
  rw [hdl] at hsl2
  have hdn : ((us.drop (i + 1)).length : Int) = ((ls.length - (i + 1) : Nat) : Int) := by simp; omega
  simp (maxSteps := 1000000) (disch := omega) only [s1, s4, s5, s16, s17, s18, hH'.row.ix Try.underlying38 cs32, Int.toNat_natCast, hci, cell_of hc5, wrap64, hsl1, hsl2.len Try.underlying38, hdn, S, S1, S2, S3, S4, S5, ST, eq_self, reduceIte, reduceCtorEq, Nat.reduceEqDiff, Nat.reduceAdd]
  refine LoopH.by (fun m' s' H'' => ∃ j st', m' + j = ls.length - (i + 1) ∧ s' 1 = .func (.func fS) #[] (List.toArray caps) ∧ s' 4 = .pointer (some ⟨H.length, 0, none⟩) ∧ s' 5 = .pointer (some ⟨A.length, 0, none⟩) ∧ s' 6 = .int .i64 ((i : Nat) : Int) ∧ s' 7 = us.getD i undef ∧ s' 16 = v ∧ s' 17 = .int .i64 (ls.length : Int) ∧ s' 18 = .int .i64 ((i : Nat) : Int) ∧ s' 27 = subV v (i + 1) us.length ∧ s' 28 = .int .i64 ((ls.length - (i + 1) : Nat) : Int) ∧ s' 29 = .int .i64 ((j : Nat) : Int) ∧ H''[A.length]? = some (.cells [v, st'] 40 false) ∧ H''[H.length]? = some (.cells [.slice none 0 0, .slice none 0 0] 40 false) ∧ (st' = .slice none 0 0 ∨ B.length ≤ rowO st') ∧ MineP 76 H H'' st' (stpO p ls i ++ stpI p ls i j) ∧ H <+: H'') (ls.length - (i + 1)) ?_ ?_
  · refine ⟨0, st, by simp, ?_⟩
    simp only [S, S1, S2, S3, S4, S5, ST, eq_self, reduceIte, reduceCtorEq, Nat.reduceEqDiff, Nat.reduceAdd, s1, s4, s5, s16, s17, s18]
    have f0 : MineP 76 H H' st (stpO p ls i ++ stpI p ls i 0) := by rw [stpI, List.append_nil]; exact hmn
    (repeat' first | exact hc5 | exact hc4 | exact hst | exact f0 | exact hpp | apply And.intro) <;> first | (simp only [Value.int.injEq, true_and]; omega) | omega | rfl | assumption | (simp; done) | (simp; omega)
  · rintro m' s' H'' ⟨j, st', hm', g1, g4, g5, g6, g7, g16, g17, g18, g27, g28, g29, hc5', hc4', hst', hmn', hpp'⟩
    simp (maxSteps := 1000000) (disch := omega) only [g1, g4, g5, g6, g7, g16, g17, g18, g27, g28, g29, S, S1, S2, S3, S4, S5, ST, eq_self, reduceIte, reduceCtorEq, Nat.reduceEqDiff, Nat.reduceAdd]
    refine brD.intro (fun q => ?_) (fun q => ?_)
    · have hj : i + 1 + j < ls.length := by omega
      have hH2 := h.pre hpp'
      have hsl' := hH2.row.slice (P := Try.prog) (t := 38) Try.underlying38 cs32 (bound_some (k := .i64) (i := (i : Int) + 1) (by omega) 0) (hi_none us.length) (show ((i : Int) + 1).toNat ≤ us.length by omega) (Nat.le_refl _)
      rw [hi1, hdl] at hsl'
      obtain ⟨_, hsr, _⟩ := hsl'
      have hjd : j < (us.drop (i + 1)).length := by simp; omega
      have hcj := hsr.cell hjd
      have hdd : (us.drop (i + 1)).getD j undef = us.getD (i + 1 + j) undef := by
        rw [List.getD_eq_getElem?_getD, List.getD_eq_getElem?_getD, List.getElem?_drop]
      rw [hdd] at hcj
      have hmj : ls.getD (i + 1 + j) [] ∈ ls := by simp [hj]
      simp (maxSteps := 1000000) (disch := omega) only [g1, g4, g5, g6, g7, g16, g17, g18, g27, g28, g29, hsr.ix Try.underlying38 cs32, Int.toNat_natCast, hcj, S, S1, S2, S3, S4, S5, ST, eq_self, reduceIte, reduceCtorEq, Nat.reduceEqDiff, Nat.reduceAdd]
      refine CallH.by (hS _ _ _ _ H'' (hp.trans hpp') (hH2.each i hi) (hH2.each (i + 1 + j) hj) hmi hmj) ?_
      rintro _ D ⟨rfl, pD⟩
      have hcD5 := pre_at pD hc5'
      have hcD4 := pre_at pD hc4'
      have hpD := hpp'.trans pD
      have hmD := hmn'.pre pD
      have hsl1 := stpO_len p ls i
      have hsl2 := stpI_len p ls i j
      have hmul : i * ls.length ≤ 1000 * 1000 := Nat.mul_le_mul (by omega) hls
      have lD := hpD.length_le
      have l5 := at_lt hc5'
      simp (maxSteps := 1000000) (disch := omega) only [S, S1, S2, S3, S4, S5, ST, eq_self, reduceIte, reduceCtorEq, Nat.reduceEqDiff, Nat.reduceAdd]
      refine brH.intro (fun e => ?_) (fun e => ?_)
      · have hstep : stpI p ls i (j + 1) = stpI p ls i j ++ [((i : Int), ((i + 1 + j : Nat) : Int))] := by rw [stpI, if_pos e]
        obtain ⟨st2, H3, k1, k2, k3, k4, k5, k6⟩ := own1_22 hmD hpD (by rw [List.length_append]; omega) (i : Int) ((i + 1 + j : Nat) : Int)
        have hne : st' = .slice none 0 0 ∨ ∀ o, o < B.length → o ≠ rowO st' := hst'.imp id fun q o ho => by omega
        have d5 : H3[A.length]? = some (.cells [v, st'] 40 false) := k4 _ _ (hne.imp id fun q => q _ (by omega)) hcD5
        have d4 : H3[H.length]? = some (.cells [.slice none 0 0, .slice none 0 0] 40 false) := k4 _ _ (hne.imp id fun q => q _ (by omega)) hcD4
        obtain ⟨q2, hq2⟩ := k2.row.shape
        have t1 : isTup st2 = false := k6
        have t2 : st2.cells.toList = [st2] := by rw [hq2]; rfl
        have hst3 := st_at (P := Try.prog) (t := 22) (i := 1) (y := st2) cs22 d5 (by show 1 < 2; decide) t1 t2
        have hidx : (i : Int) + 1 + (j : Int) = ((i + 1 + j : Nat) : Int) := by omega
        have lDB : B.length ≤ D.length := by have := hpp'.length_le; have := pD.length_le; omega
        simp (maxSteps := 1000000) (disch := omega) only [e, g1, g4, g5, g6, g7, g16, g17, g18, g27, g28, g29, cell_of hcD5, build_a2, wrap64, hidx, k1, hst3, S, S1, S2, S3, S4, S5, ST, eq_self, reduceIte, reduceCtorEq, Nat.reduceEqDiff, Nat.reduceAdd]
        have f5 : (H3.set A.length (.cells ([v, st'].set 1 st2) 40 false))[A.length]? = some (.cells [v, st2] 40 false) := by
          rw [List.getElem?_set_self (at_lt d5)]; rfl
        have f4 : (H3.set A.length (.cells ([v, st'].set 1 st2) 40 false))[H.length]? = some (.cells [.slice none 0 0, .slice none 0 0] 40 false) := by
          rw [List.getElem?_set_ne (by omega)]; exact d4
        have fs' : st2 = .slice none 0 0 ∨ B.length ≤ rowO st2 := .inr (by omega)
        have fm : MineP 76 H (H3.set A.length (.cells ([v, st'].set 1 st2) 40 false)) st2 (stpO p ls i ++ stpI p ls i (j + 1)) := by
          rw [hstep, ← List.append_assoc]
          exact k2.keepL fun hl y hy => by rw [List.getElem?_set_ne (by omega)]; exact hy
        have fp : H <+: H3.set A.length (.cells ([v, st'].set 1 st2) 40 false) := pre_set k3 (by omega) _
        refine ⟨m' - 1, by omega, j + 1, st2, ?_⟩
        (repeat' first | exact f5 | exact f4 | exact fs' | exact fm | exact fp | apply And.intro) <;> first | (simp only [Value.int.injEq, true_and]; omega) | omega | rfl | assumption | (simp; done) | (simp; omega)
      · have hstep : stpI p ls i (j + 1) = stpI p ls i j := by rw [stpI, if_neg (by rw [e]; decide), List.append_nil]
        rw [← hstep] at hmD
        simp (maxSteps := 1000000) (disch := omega) only [e, g1, g4, g5, g6, g7, g16, g17, g18, g27, g28, g29, wrap64, S, S1, S2, S3, S4, S5, ST, eq_self, reduceIte, reduceCtorEq, Nat.reduceEqDiff, Nat.reduceAdd]
        refine ⟨m' - 1, by omega, j + 1, st', ?_⟩
        (repeat' first | exact hcD5 | exact hcD4 | exact hst' | exact hmD | exact hpD | apply And.intro) <;> first | (simp only [Value.int.injEq, true_and]; omega) | omega | rfl | assumption | (simp; done) | (simp; omega)
    · have hjj : j = ls.length - (i + 1) := by omega
      subst hjj
      have hstO : stpO p ls (i + 1) = stpO p ls i ++ stpI p ls i (ls.length - (i + 1)) := rfl
      rw [← hstO] at hmn'
      simp (maxSteps := 1000000) (disch := omega) only [g1, g4, g5, g6, g7, g16, g17, g18, g27, g28, g29, wrap64, S, S1, S2, S3, S4, S5, ST, eq_self, reduceIte, reduceCtorEq, Nat.reduceEqDiff, Nat.reduceAdd]
      refine ⟨m - 1, by omega, i + 1, st', ?_⟩
      (repeat' first | exact hc5' | exact hc4' | exact hst' | exact hmn' | exact hpp' | apply And.intro) <;> first | (simp only [Value.int.injEq, true_and]; omega) | omega | rfl | assumption | (simp; done) | (simp; omega)
end Go.Proofs.Ythhnpchjjbjabaa.Ai
