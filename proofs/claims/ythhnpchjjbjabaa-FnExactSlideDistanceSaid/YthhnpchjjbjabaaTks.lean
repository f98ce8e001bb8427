/- TokenSwaps, TokenDistance: impl's side. -/
import Derived.Test.YthhnpchjjbjabaaSpd
import Derived.Test.YthhnpchjjbjabaaProg
import Derived.Test.YthhnpchjjbjabaaAiM2
import Derived.KernelRfl
/- Slim code of this translation. By the kernel. -/
namespace Go.Proofs.Ythhnpchjjbjabaa.Ai
open Go

/- loop.example/g01128/impl.TokenSwaps -/
def ords37 : List (Nat × List (Nat × Bool)) := [(3, [(0, false), (1, false), (3, false), (4, false), (2, true), (5, true), (6, false)])]
def cd37 : Cd := (.seq (.reg [⟨⟨some 2, Op.box 28 (Operand.tmp 0), none⟩, []⟩,
  ⟨⟨some 4, Op.assign (Operand.const (Value.slice none 0 0)), none⟩, []⟩,
  ⟨⟨some 5, Op.assign (Operand.const (Value.bool false)), none⟩, []⟩]) (.seq (.seq (.reg [⟨⟨some 13, Op.load 28 (Operand.tmp 2), none⟩, []⟩,
  ⟨⟨some 14, Op.move (Operand.tmp 1), none⟩, []⟩,
  ⟨⟨some 15, Op.call { callee := (Callee.value (Operand.func 83)), args := #[(Operand.tmp 13), (Operand.tmp 14)], argTypes := #[28, 32] }, none⟩, []⟩,
  ⟨⟨some 16, Op.unOp UnOp.not 4 (Operand.tmp 15), none⟩, []⟩,
  ⟨⟨some 17, Op.move (Operand.tmp 16), none⟩, []⟩,
  ⟨⟨some 18, Op.fieldAddr 28 (Operand.tmp 2) 0, some (17, false)⟩, []⟩,
  ⟨⟨some 19, Op.load 3 (Operand.tmp 18), some (17, false)⟩, []⟩,
  ⟨⟨some 20, Op.binOp BinOp.gtr 3 (Operand.tmp 19) (Operand.const (Value.int IntKind.i64 6)) 3, some (17, false)⟩, []⟩,
  ⟨⟨some 21, Op.pick (Operand.tmp 17) (Operand.const (Value.bool true)) (Operand.tmp 20), none⟩, []⟩]) (.cond (Operand.tmp 21) (.seq (.reg [⟨⟨some 4, Op.assign (Operand.const (Value.slice none 0 0)), none⟩, []⟩,
  ⟨⟨some 5, Op.assign (Operand.const (Value.bool false)), none⟩, []⟩]) .ret) .skip)) (.seq (.reg [⟨⟨some 22, Op.fieldAddr 28 (Operand.tmp 2) 0, none⟩, []⟩,
  ⟨⟨some 23, Op.load 3 (Operand.tmp 22), none⟩, []⟩,
  ⟨⟨some 25, Op.load 28 (Operand.tmp 2), none⟩, []⟩,
  ⟨⟨some 26, Op.makeFunc (Fn.func 85) #[(Operand.tmp 25)] #[], none⟩, []⟩,
  ⟨⟨some 24, Op.call { callee := (Callee.value (Operand.func 84)), args := #[(Operand.tmp 23)], argTypes := #[3] }, none⟩, [⟨some 25, Op.load 28 (Operand.tmp 2), none⟩]⟩,
  ⟨⟨some 27, Op.call { callee := (Callee.value (Operand.func 71)), args := #[(Operand.tmp 24), (Operand.tmp 26)], argTypes := #[32, 72] }, none⟩, []⟩,
  ⟨⟨some 6, Op.assign (Operand.tmp 27), none⟩, []⟩]) (.seq (.reg [⟨⟨some 29, Op.move (Operand.tmp 6), none⟩, []⟩,
  ⟨⟨some 30, Op.move (Operand.tmp 1), none⟩, []⟩,
  ⟨⟨some 31, Op.call { callee := (Callee.value (Operand.func 86)), args := #[(Operand.tmp 30)], argTypes := #[32] }, none⟩, []⟩,
  ⟨⟨some 32, Op.lookup 70 (Operand.tmp 29) (Operand.tmp 31) true, none⟩, []⟩,
  ⟨⟨some 28, Op.move (Operand.tmp 32), none⟩, []⟩,
  ⟨⟨some 33, Op.extract (Operand.tmp 28) 0, none⟩, []⟩,
  ⟨⟨some 34, Op.extract (Operand.tmp 28) 1, none⟩, []⟩,
  ⟨⟨some 7, Op.assign (Operand.tmp 33), none⟩, []⟩,
  ⟨⟨some 8, Op.assign (Operand.tmp 34), none⟩, []⟩]) (.seq (.seq (.reg [⟨⟨some 35, Op.move (Operand.tmp 8), none⟩, []⟩,
  ⟨⟨some 36, Op.unOp UnOp.not 4 (Operand.tmp 35), none⟩, []⟩]) (.cond (Operand.tmp 36) (.seq (.reg [⟨⟨some 4, Op.assign (Operand.const (Value.slice none 0 0)), none⟩, []⟩,
  ⟨⟨some 5, Op.assign (Operand.const (Value.bool false)), none⟩, []⟩]) .ret) .skip)) (.seq (.reg [⟨⟨some 37, Op.buildSlice 22 0 #[], none⟩, []⟩,
  ⟨⟨some 9, Op.assign (Operand.tmp 37), none⟩, []⟩]) (.seq (.seq (.reg [⟨⟨some 38, Op.move (Operand.tmp 1), none⟩, []⟩,
  ⟨⟨some 10, Op.assign (Operand.tmp 38), none⟩, []⟩]) (.block 0 (.loop (.seq (.seq (.reg [⟨⟨some 39, Op.move (Operand.tmp 7), none⟩, []⟩,
  ⟨⟨some 40, Op.binOp BinOp.gtr 3 (Operand.tmp 39) (Operand.const (Value.int IntKind.i64 0)) 3, none⟩, []⟩]) (.cond (Operand.tmp 40) .skip (.exit 0))) (.seq (.block 1 (.seq (.reg [⟨⟨some 43, Op.load 28 (Operand.tmp 2), none⟩, []⟩,
  ⟨⟨some 44, Op.move (Operand.tmp 10), none⟩, []⟩,
  ⟨⟨some 45, Op.call { callee := (Callee.value (Operand.func 85)), args := #[(Operand.tmp 43), (Operand.tmp 44)], argTypes := #[28, 32] }, none⟩, []⟩,
  ⟨⟨some 46, Op.call { callee := (Callee.builtin Builtin.len), args := #[(Operand.tmp 45)], argTypes := #[38] }, none⟩, []⟩,
  ⟨⟨some 47, Op.move (Operand.const (Value.int IntKind.i64 0)), none⟩, []⟩]) (.block 2 (.loop (.seq (.reg [⟨⟨some 48, Op.binOp BinOp.lss 3 (Operand.tmp 47) (Operand.tmp 46) 3, none⟩, []⟩]) (.seq (.cond (Operand.tmp 48) .skip (.exit 2)) (.seq (.block 3 (.seq (.reg [⟨⟨some 49, Op.move (Operand.tmp 47), none⟩, []⟩,
  ⟨⟨some 50, Op.indexAddr 38 (Operand.tmp 45) (Operand.tmp 47), none⟩, []⟩,
  ⟨⟨some 51, Op.load 32 (Operand.tmp 50), none⟩, []⟩,
  ⟨⟨some 11, Op.assign (Operand.tmp 49), none⟩, []⟩,
  ⟨⟨some 12, Op.assign (Operand.tmp 51), none⟩, []⟩]) (.seq (.reg [⟨⟨some 52, Op.move (Operand.tmp 6), none⟩, []⟩,
  ⟨⟨some 53, Op.move (Operand.tmp 12), none⟩, []⟩,
  ⟨⟨some 54, Op.call { callee := (Callee.value (Operand.func 86)), args := #[(Operand.tmp 53)], argTypes := #[32] }, none⟩, []⟩,
  ⟨⟨some 55, Op.lookup 70 (Operand.tmp 52) (Operand.tmp 54) false, none⟩, []⟩,
  ⟨⟨some 56, Op.move (Operand.tmp 7), none⟩, []⟩,
  ⟨⟨some 57, Op.binOp BinOp.sub 3 (Operand.tmp 56) (Operand.const (Value.int IntKind.i64 1)) 3, none⟩, []⟩,
  ⟨⟨some 58, Op.binOp BinOp.eql 3 (Operand.tmp 55) (Operand.tmp 57) 3, none⟩, []⟩]) (.cond (Operand.tmp 58) (.seq (.reg [⟨⟨some 59, Op.move (Operand.tmp 9), none⟩, []⟩,
  ⟨⟨some 60, Op.fieldAddr 28 (Operand.tmp 2) 1, none⟩, []⟩,
  ⟨⟨some 61, Op.load 22 (Operand.tmp 60), none⟩, []⟩,
  ⟨⟨some 62, Op.move (Operand.tmp 11), none⟩, []⟩,
  ⟨⟨some 63, Op.indexAddr 22 (Operand.tmp 61) (Operand.tmp 62), none⟩, []⟩,
  ⟨⟨some 64, Op.load 76 (Operand.tmp 63), none⟩, []⟩,
  ⟨⟨some 65, Op.buildSlice 22 1 #[(0, (Operand.tmp 64))], none⟩, []⟩,
  ⟨⟨some 66, Op.call { callee := (Callee.builtin Builtin.append), args := #[(Operand.tmp 59), (Operand.tmp 65)], argTypes := #[22, 22] }, none⟩, []⟩,
  ⟨⟨some 67, Op.move (Operand.tmp 12), none⟩, []⟩,
  ⟨⟨some 9, Op.assign (Operand.tmp 66), none⟩, []⟩,
  ⟨⟨some 10, Op.assign (Operand.tmp 67), none⟩, []⟩]) (.exit 2)) .skip)))) (.reg [⟨⟨some 68, Op.binOp BinOp.add 3 (Operand.tmp 47) (Operand.const (Value.int IntKind.i64 1)) 3, none⟩, []⟩,
  ⟨⟨some 47, Op.move (Operand.tmp 68), none⟩, []⟩])))))))) (.reg [⟨⟨some 41, Op.move (Operand.tmp 7), none⟩, []⟩,
  ⟨⟨some 42, Op.binOp BinOp.sub 3 (Operand.tmp 41) (Operand.const (Value.int IntKind.i64 1)) 3, none⟩, []⟩,
  ⟨⟨some 7, Op.assign (Operand.tmp 42), none⟩, []⟩])))))) (.seq (.reg [⟨⟨some 69, Op.move (Operand.tmp 9), none⟩, []⟩,
  ⟨⟨some 4, Op.assign (Operand.tmp 69), none⟩, []⟩,
  ⟨⟨some 5, Op.assign (Operand.const (Value.bool true)), none⟩, []⟩]) .ret))))))))
theorem sl37 : slim Try.f37.ntmps ords37 (Try.f37.body.getD .skip) = some cd37 := by kernel_rfl
theorem in37 {args : List Value} {H : AH} {R : Value → AH → Prop} (hl : args.length = 2) (h : ∀ (Q : Exit → Sl → AH → Prop), (∀ e s H, endA Try.prog [ResultVar.tmp 4, ResultVar.tmp 5] R e s H → Q e s H) → wpC Try.prog cd37 Q (enterA args) H) : ACalls Try.prog 37 args H R :=
  ACalls.intro (by kernel_rfl) Try.func37 rfl (by kernel_rfl) sl37 hl (of_decide_eq_true (by kernel_rfl)) (by kernel_rfl) h

/- loop.example/g01128/impl.TokenDistance -/
def ords24 : List (Nat × List (Nat × Bool)) := []
def cd24 : Cd := (.seq (.reg [⟨⟨some 2, Op.box 28 (Operand.tmp 0), none⟩, []⟩,
  ⟨⟨some 4, Op.assign (Operand.const (Value.int IntKind.i64 0)), none⟩, []⟩,
  ⟨⟨some 5, Op.assign (Operand.const (Value.bool false)), none⟩, []⟩]) (.seq (.reg [⟨⟨some 9, Op.load 28 (Operand.tmp 2), none⟩, []⟩,
  ⟨⟨some 10, Op.move (Operand.tmp 1), none⟩, []⟩,
  ⟨⟨some 11, Op.call { callee := (Callee.value (Operand.func 37)), args := #[(Operand.tmp 9), (Operand.tmp 10)], argTypes := #[28, 32] }, none⟩, []⟩,
  ⟨⟨some 8, Op.move (Operand.tmp 11), none⟩, []⟩,
  ⟨⟨some 12, Op.extract (Operand.tmp 8) 0, none⟩, []⟩,
  ⟨⟨some 13, Op.extract (Operand.tmp 8) 1, none⟩, []⟩,
  ⟨⟨some 6, Op.assign (Operand.tmp 12), none⟩, []⟩,
  ⟨⟨some 7, Op.assign (Operand.tmp 13), none⟩, []⟩]) (.seq (.reg [⟨⟨some 14, Op.move (Operand.tmp 6), none⟩, []⟩,
  ⟨⟨some 15, Op.call { callee := (Callee.builtin Builtin.len), args := #[(Operand.tmp 14)], argTypes := #[22] }, none⟩, []⟩,
  ⟨⟨some 16, Op.move (Operand.tmp 7), none⟩, []⟩,
  ⟨⟨some 4, Op.assign (Operand.tmp 15), none⟩, []⟩,
  ⟨⟨some 5, Op.assign (Operand.tmp 16), none⟩, []⟩]) .ret)))
theorem sl24 : slim Try.f24.ntmps ords24 (Try.f24.body.getD .skip) = some cd24 := by kernel_rfl
theorem in24 {args : List Value} {H : AH} {R : Value → AH → Prop} (hl : args.length = 2) (h : ∀ (Q : Exit → Sl → AH → Prop), (∀ e s H, endA Try.prog [ResultVar.tmp 4, ResultVar.tmp 5] R e s H → Q e s H) → wpC Try.prog cd24 Q (enterA args) H) : ACalls Try.prog 24 args H R :=
  ACalls.intro (by kernel_rfl) Try.func24 rfl (by kernel_rfl) sl24 hl (of_decide_eq_true (by kernel_rfl)) (by kernel_rfl) h
end Go.Proofs.Ythhnpchjjbjabaa.Ai

namespace Go.Proofs.Ythhnpchjjbjabaa.Ai
open Go Go.RowKit
set_option linter.unusedVariables false
set_option linter.unusedSimpArgs false

theorem fld_bd {n : Int} {es : List (Int × Int)} {p : List Int} (h : Fld n es p) : ∃ k : Nat, n = k ∧ Grd (k : Int) es ∧ Bd k p ∧ k ≤ 6 := by
  obtain ⟨⟨⟨h1, h2⟩, h3⟩, h4⟩ := h
  exact ⟨p.length, h3.symm, by rw [h3]; exact h1, ⟨h2, rfl⟩, by omega⟩
/-- the boards reached from home by swaps -/
def tkS (n : Nat) (es : List (Int × Int)) : List (List Int × Int) := bdR es false (hom n)
def tkD (n : Int) (es : List (Int × Int)) (p : List Int) : Option Int := if Fld n es p then bdD (tkS n.toNat es) p else none
def tkL (n : Int) (es : List (Int × Int)) (p : List Int) : List (Int × Int) := match tkD n es p with | some d => (pthL (tkS n.toNat es) es false d.toNat p).map (·.1) | none => []
theorem hom_bd {n : Nat} (hn : n ≤ 8) : Bd n (hom n) := ⟨hom_prm hn, hom_len n⟩
theorem tkD_rng {n : Int} {es : List (Int × Int)} {p : List Int} {d : Int} (h : tkD n es p = some d) : 0 ≤ d ∧ d < 720 := by
  unfold tkD at h
  split at h
  · rename_i e
    obtain ⟨k, rfl, hg, hb, h6⟩ := fld_bd e
    have hI := bdR_I h6 hg false (hom_bd (n := k) (by omega))
    have hm := bdD_mem h
    have := hI.rng _ hm
    have := hI.len_le h6
    have := mny_le h6
    simp only at *
    omega
  · cases h
theorem tkL_len (n : Int) (es : List (Int × Int)) (p : List Int) : (tkL n es p).length = (match tkD n es p with | some d => d.toNat | none => 0) := by
  unfold tkL
  cases h : tkD n es p with
  | none => rfl
  | some d =>
    have hr := tkD_rng h
    unfold tkD at h
    split at h
    · rename_i e
      obtain ⟨k, rfl, hg, hb, h6⟩ := fld_bd e
      simp only [Int.toNat_natCast] at h ⊢
      rw [List.length_map]
      exact pthL_len h6 hg false (hom_bd (by omega)) d.toNat p (by
        rw [Int.toNat_of_nonneg hr.1]; exact h)
    · cases h
theorem tkL_bd (n : Int) (es : List (Int × Int)) (p : List Int) : (tkL n es p).length ≤ 1099511627776 := by
  rw [tkL_len]
  cases h : tkD n es p with
  | none => simp
  | some d => have := tkD_rng h; simp only; omega
theorem find_step {α : Type} (q : α → Bool) (l : List α) (i : Nat) (hi : i < l.length) : (l.drop i).find? q = if q l[i] = true then some l[i] else (l.drop (i + 1)).find? q := by
  rw [List.drop_eq_getElem_cons hi, List.find?_cons]
  split
  · rename_i h; rw [if_pos h]
  · rename_i h; rw [if_neg (by rw [h]; decide)]

set_option maxRecDepth 20000 in
set_option maxHeartbeats 8000000 in
theorem TkI_c (n : Int) (v w : Value) (es : List (Int × Int)) (p : List Int) (H : AH) (hr : RowP 76 H v es) (hlen : es.length ≤ 1099511627776) (hes : ∀ y ∈ es, I64 y.1 ∧ I64 y.2) (hx : Row 3 H w p) (hlp : p.length ≤ 1099511627776) (hxs : ∀ y ∈ p, I64 y) (hn : I64 n) :
    ACalls Try.prog 37 [.agg (List.toArray [.int .i64 n, v]), w] H fun r H' => ∃ g, r = .tuple (List.toArray [g, .bool (tkD n es p).isSome]) ∧ MineP 76 H H' g (tkL n es p) ∧ H <+: H' := by
  refine in37 rfl ?_
  intro Q hQ
  simp (maxSteps := 1000000) (disch := omega) only [cd37, hr.boxG, S, S1, S2, S3, S4, S5, ST, eq_self, reduceIte, reduceCtorEq, Nat.reduceEqDiff, Nat.reduceAdd]
  generalize hA : H ++ [AObj.cells [.int .i64 n, v] 28 false] = A
  have pA : H <+: A := by rw [← hA]; exact List.prefix_append _ _
  have cA : A[H.length]? = some (.cells [.int .i64 n, v] 28 false) := by rw [← hA]; exact at_new ..
  have rA := hr.pre pA
  simp (maxSteps := 1000000) (disch := omega) only [ld_agg ag28 cs28 cA, S, S1, S2, S3, S4, S5, ST, eq_self, reduceIte, reduceCtorEq, Nat.reduceEqDiff, Nat.reduceAdd]
  refine CallH.by (isTokens_c n v w es p A rA hlen (hx.pre pA) hlp hxs) ?_
  rintro _ B ⟨rfl, pB⟩
  have cB := pre_at pB cA
  have pHB := pA.trans pB
  have rB := rA.pre pB
  have no : tkD n es p = none → ∃ g, (Value.tuple (List.toArray [.slice none 0 0, .bool false])) = .tuple (List.toArray [g, .bool (tkD n es p).isSome]) ∧ ∀ H', MineP 76 H H' g (tkL n es p) := fun h => ⟨.slice none 0 0, by rw [h]; rfl, fun H' => .inl ⟨rfl, by unfold tkL; rw [h]⟩⟩
  simp (maxSteps := 1000000) (disch := omega) only [S, S1, S2, S3, S4, S5, ST, eq_self, reduceIte, reduceCtorEq, Nat.reduceEqDiff, Nat.reduceAdd]
  refine brD.intro (fun e => ?_) (fun e => ?_) <;> simp (maxSteps := 1000000) (disch := omega) only [e, S, S1, S2, S3, S4, S5, ST, eq_self, reduceIte, reduceCtorEq, Nat.reduceEqDiff, Nat.reduceAdd]
  rotate_left
  · refine hQ _ _ _ ?_
    simp (maxSteps := 1000000) (disch := omega) only [S, S1, S2, S3, S4, S5, ST, eq_self, reduceIte, reduceCtorEq, Nat.reduceEqDiff, Nat.reduceAdd]
    obtain ⟨g, h1, h2⟩ := no (by unfold tkD; rw [if_neg (fun h => e h.1)])
    exact ⟨g, h1, h2 B, pHB⟩
  simp (maxSteps := 1000000) (disch := omega) only [e, cell_of cB, S, S1, S2, S3, S4, S5, ST, eq_self, reduceIte, reduceCtorEq, Nat.reduceEqDiff, Nat.reduceAdd]
  refine brD.intro (fun e6 => ?_) (fun e6 => ?_) <;> simp (maxSteps := 1000000) (disch := omega) only [e6, S, S1, S2, S3, S4, S5, ST, eq_self, reduceIte, reduceCtorEq, Nat.reduceEqDiff, Nat.reduceAdd]
  · refine hQ _ _ _ ?_
    simp (maxSteps := 1000000) (disch := omega) only [S, S1, S2, S3, S4, S5, ST, eq_self, reduceIte, reduceCtorEq, Nat.reduceEqDiff, Nat.reduceAdd]
    obtain ⟨g, h1, h2⟩ := no (by unfold tkD; rw [if_neg (fun h => by have := h.2; omega)])
    exact ⟨g, h1, h2 B, pHB⟩
  have hF : Fld n es p := ⟨e, by omega⟩
  have hD0 : tkD n es p = bdD (tkS n.toNat es) p := by unfold tkD; rw [if_pos hF]
  obtain ⟨k, rfl, hg, hb, h6⟩ := fld_bd hF
  rw [Int.toNat_natCast] at hD0
  have hl := grd_few hg
  have hhb := hom_bd (n := k) (by omega)
  simp (maxSteps := 1000000) (disch := omega) only [cell_of cB, ld_agg ag28 cs28 cB, mkf_G hr, S, S1, S2, S3, S4, S5, ST, eq_self, reduceIte, reduceCtorEq, Nat.reduceEqDiff, Nat.reduceAdd]
  refine CallH.by (home_c k B (by omega)) ?_
  rintro u C ⟨hu, pC⟩
  have cC := pre_at pC cB
  have rC := rB.pre pC
  simp (maxSteps := 1000000) (disch := omega) only [ld_agg ag28 cs28 cC, S, S1, S2, S3, S4, S5, ST, eq_self, reduceIte, reduceCtorEq, Nat.reduceEqDiff, Nat.reduceAdd]
  refine CallH.by (reached_c (HB := C) h6 hu.row hhb 85 [.agg (List.toArray [.int .i64 (k : Int), v])] [] (nxt es false) (swaps_mv rC hlen hg) (fun b hb => nxt_bd hg false hb) (nxt_le hg (by omega) false) (List.prefix_refl _)) ?_
  rintro _ D ⟨⟨o, rfl, ho, hol⟩, pD⟩
  have pHD := pHB.trans (pC.trans pD)
  have hxD := hx.pre pHD
  have cD := pre_at pD cC
  have hS : bdA (nxt es false) (hom k) = tkS k es := rfl
  rw [hS] at ho
  have hI := bdR_I h6 hg false hhb
  have hSI : bdR es false (hom k) = tkS k es := rfl
  rw [hSI] at hI
  simp (maxSteps := 1000000) (disch := omega) only [S, S1, S2, S3, S4, S5, ST, eq_self, reduceIte, reduceCtorEq, Nat.reduceEqDiff, Nat.reduceAdd]
  refine CallH.by (key_c w p D hxD hb.1) ?_
  rintro _ _ ⟨rfl, rfl⟩
  have hlk := lookI ho (keyL p)
  rw [getI_bd hb _ hI.ok, ← hD0] at hlk
  simp (maxSteps := 1000000) (disch := omega) only [hlk, S, S1, S2, S3, S4, S5, ST, eq_self, reduceIte, reduceCtorEq, Nat.reduceEqDiff, Nat.reduceAdd]
  cases hd : tkD (k : Int) es p with
  | none =>
    rw [hd] at hlk no
    simp (maxSteps := 1000000) (disch := omega) only [Option.isSome_none, S, S1, S2, S3, S4, S5, ST, eq_self, reduceIte, reduceCtorEq, Nat.reduceEqDiff, Nat.reduceAdd]
    refine hQ _ _ _ ?_
    simp (maxSteps := 1000000) (disch := omega) only [S, S1, S2, S3, S4, S5, ST, eq_self, reduceIte, reduceCtorEq, Nat.reduceEqDiff, Nat.reduceAdd]
    obtain ⟨g, h1, h2⟩ := no rfl
    rw [hd]
    exact ⟨g, h1, h2 D, pHD⟩
  | some d =>
  obtain ⟨hd0, hd7⟩ := tkD_rng hd
  have hK : tkL (k : Int) es p = (pthL (tkS k es) es false d.toNat p).map (·.1) := by unfold tkL; rw [hd]; simp only [Int.toNat_natCast]
  rw [hd, hK] at hQ
  rw [hd] at hD0
  simp (maxSteps := 1000000) (disch := omega) only [Option.isSome_some, Option.getD_some, S, S1, S2, S3, S4, S5, ST, eq_self, reduceIte, reduceCtorEq, Nat.reduceEqDiff, Nat.reduceAdd]
  generalize hE : D ++ [AObj.cells [] 76 false] = E
  have pE : D <+: E := by rw [← hE]; exact List.prefix_append _ _
  have lE : E.length = D.length + 1 := by rw [← hE]; simp
  have hm0 : MineP 76 D E (.slice (some ⟨D.length, 0, none⟩) 0 0) [] := by rw [← hE]; exact MineP.nil0 (P := Try.prog) D D (Nat.le_refl _)
  refine LoopH.by (fun m s H' => ∃ (q : List Int) (out : List (Int × Int)), s 2 = .pointer (some ⟨H.length, 0, none⟩) ∧ s 6 = .map (some o) ∧ s 7 = .int .i64 ((m : Nat) : Int) ∧ Row 3 H' (s 10) q ∧ Bd k q ∧ bdD (tkS k es) q = some ((m : Nat) : Int) ∧ m ≤ 720 ∧ out.length + m = d.toNat ∧ out ++ (pthL (tkS k es) es false m q).map (·.1) = (pthL (tkS k es) es false d.toNat p).map (·.1) ∧ MineP 76 D H' (s 9) out ∧ D <+: H') d.toNat ?_ ?_
  · refine ⟨p, [], ?_⟩
    have f0 : ((d.toNat : Nat) : Int) = d := by omega
    have f1 := hxD.pre pE
    have f2 : bdD (tkS k es) p = some ((d.toNat : Nat) : Int) := by rw [f0]; exact hD0.symm
    simp (maxSteps := 1000000) (disch := omega) only [S, S1, S2, S3, S4, S5, ST, eq_self, reduceIte, reduceCtorEq, Nat.reduceEqDiff, Nat.reduceAdd]
    rw [f0]
    rw [f0] at f2
    (repeat' first | exact f1 | exact hb | exact f2 | exact hm0 | exact pE | apply And.intro) <;> first | (simp only [Value.int.injEq, true_and]; omega) | omega | rfl | assumption | (simp; done) | (simp; omega)
  rintro m s H' ⟨q, out, h2, h6', h7, hrq, hbq, hdq, hm7, hol2, hout, hmo, hpp⟩
  generalize hU : s 9 = U at *
  generalize hW : s 10 = W at *
  simp (maxSteps := 1000000) (disch := omega) only [h2, h6', h7, hU, hW, S, S1, S2, S3, S4, S5, ST, eq_self, reduceIte, reduceCtorEq, Nat.reduceEqDiff, Nat.reduceAdd]
  refine brD.intro (fun g => ?_) (fun g => ?_)
  rotate_left
  · have hm0 : m = 0 := by omega
    subst hm0
    simp (maxSteps := 1000000) (disch := omega) only [hU, S, S1, S2, S3, S4, S5, ST, eq_self, reduceIte, reduceCtorEq, Nat.reduceEqDiff, Nat.reduceAdd]
    refine hQ _ _ _ ?_
    simp (maxSteps := 1000000) (disch := omega) only [hU, hmo.row.tup, S, S1, S2, S3, S4, S5, ST, eq_self, reduceIte, reduceCtorEq, Nat.reduceEqDiff, Nat.reduceAdd]
    have hout' : out = (pthL (tkS k es) es false d.toNat p).map (·.1) := by rw [← hout]; simp [pthL]
    rw [← hout']
    exact ⟨U, rfl, hmo.base pHD, pHD.trans hpp⟩
  obtain ⟨m1, rfl⟩ : ∃ m1, m = m1 + 1 := ⟨m - 1, by omega⟩
  obtain ⟨e1, hf1, hf2, hf3⟩ := fst1_some h6 hg false hhb hdq
  rw [hSI] at hf1 hf3
  have hpth : (pthL (tkS k es) es false (m1 + 1) q).map (·.1) = e1 :: (pthL (tkS k es) es false m1 (swp q e1.1.toNat e1.2.toNat)).map (·.1) := by
    simp only [pthL, hf1, List.map_cons]
  rw [hpth] at hout
  have rH := hr.pre (pHD.trans hpp)
  have cH := pre_at hpp cD
  simp (maxSteps := 1000000) (disch := omega) only [h2, h6', h7, hU, hW, ld_agg ag28 cs28 cH, S, S1, S2, S3, S4, S5, ST, eq_self, reduceIte, reduceCtorEq, Nat.reduceEqDiff, Nat.reduceAdd]
  refine CallH.by (swaps_c k v W es q H' rH hlen hrq hg hbq) ?_
  rintro r G ⟨hL, pG⟩
  obtain ⟨us, hus, hul, heach⟩ := hL.parts
  have hnl := nxt_len es false q
  rw [mvs_false] at hnl
  have hoG := pre_at (hpp.trans pG) ho
  have cGG := pre_at pG cH
  have rG := rH.pre pG
  simp (maxSteps := 1000000) (disch := omega) only [h2, h6', h7, hU, hW, hus.len Try.underlying38, hul, S, S1, S2, S3, S4, S5, ST, eq_self, reduceIte, reduceCtorEq, Nat.reduceEqDiff, Nat.reduceAdd]
  -- the first one that is nearer
  have hfind : es.find? (fun e => decide (bdD (tkS k es) (swp q e.1.toNat e.2.toNat) = some (m1 : Int))) = some e1 := by
    have := hf1
    unfold fst1 at this
    rw [mvs_false] at this
    exact this
  have hNat : ∀ i (hi : i < es.length), (nxt es false q).getD i [] = swp q (es.getD i (0, 0)).1.toNat (es.getD i (0, 0)).2.toNat := by
    intro i hi
    rw [nxt_false, List.getD_eq_getElem?_getD, List.getElem?_map, List.getElem?_eq_getElem hi]
    simp [hi]
  refine LoopH.by (fun m' s' H2 => ∃ i : Nat, m' + i = es.length ∧ s' 2 = .pointer (some ⟨H.length, 0, none⟩) ∧ s' 6 = .map (some o) ∧ s' 7 = .int .i64 ((m1 + 1 : Nat) : Int) ∧ s' 9 = U ∧ s' 10 = W ∧ s' 45 = r ∧ s' 46 = .int .i64 ((nxt es false q).length : Int) ∧ s' 47 = .int .i64 ((i : Nat) : Int) ∧ (es.drop i).find? (fun e => decide (bdD (tkS k es) (swp q e.1.toNat e.2.toNat) = some (m1 : Int))) = some e1 ∧ G = H2) es.length ?_ ?_
  · refine ⟨0, by simp, ?_⟩
    simp (maxSteps := 1000000) (disch := omega) only [h2, h6', h7, hU, hW, S, S1, S2, S3, S4, S5, ST, eq_self, reduceIte, reduceCtorEq, Nat.reduceEqDiff, Nat.reduceAdd]
    (repeat' first | exact hfind | apply And.intro) <;> first | (simp only [Value.int.injEq, true_and]; omega) | omega | rfl | assumption | (simp; done) | (simp; omega)
  rintro m' s' _ ⟨i, hm', k2, k6, k7, k9, k10, k45, k46, k47, hfi, rfl⟩
  rw [hnl] at k46
  have hi : i < es.length := by
    apply Decidable.byContradiction
    intro hni
    rw [List.drop_of_length_le (by omega)] at hfi
    simp at hfi
  rw [find_step _ es i hi] at hfi
  have hgi : es.getD i (0, 0) = es[i] := by simp [hi]
  have hrow := (heach i (by rw [hnl]; exact hi)).row.1
  have hcell := hus.cell (show i < us.length by omega)
  rw [hNat i hi] at hrow
  have hcm : swp q (es.getD i (0, 0)).1.toNat (es.getD i (0, 0)).2.toNat ∈ nxt es false q := by
    rw [nxt_false]
    exact List.mem_map.2 ⟨es.getD i (0, 0), by simp [hi], rfl⟩
  have hcb := nxt_bd hg false hbq _ hcm
  obtain ⟨dx, hdx, hdx0⟩ := bdR_known h6 hg false hhb hdq hcm
  rw [hSI] at hdx
  rw [← hgi] at hfi
  generalize hc : swp q (es.getD i (0, 0)).1.toNat (es.getD i (0, 0)).2.toNat = c at *
  have hlc := lookI1 hoG (keyL c)
  rw [getI_bd hcb _ hI.ok, hdx] at hlc
  have hlc' : lookupA Try.prog 70 (.map (some o)) (.int .i64 (keyL c)) false G = some (.int .i64 dx) := hlc
  simp (maxSteps := 1000000) (disch := omega) only [k2, k6, k7, k9, k10, k45, k46, k47, S, S1, S2, S3, S4, S5, ST, eq_self, reduceIte, reduceCtorEq, Nat.reduceEqDiff, Nat.reduceAdd]
  refine brD.intro (fun g1 => ?_) (fun g1 => absurd (show (i : Int) < (es.length : Int) by omega) g1)
  simp (maxSteps := 1000000) (disch := omega) only [k2, k6, k7, k9, k10, k45, k46, k47, hus.ix Try.underlying38 cs32, hcell, Int.toNat_natCast, S, S1, S2, S3, S4, S5, ST, eq_self, reduceIte, reduceCtorEq, Nat.reduceEqDiff, Nat.reduceAdd]
  refine CallH.by (key_c _ c G hrow hcb.1) ?_
  rintro _ _ ⟨rfl, rfl⟩
  have hm11 : ((m1 + 1 : Nat) : Int) - 1 = (m1 : Int) := by omega
  simp (maxSteps := 1000000) (disch := omega) only [k2, k6, k7, k9, k10, k45, k46, k47, hlc', hm11, wrap64, S, S1, S2, S3, S4, S5, ST, eq_self, reduceIte, reduceCtorEq, Nat.reduceEqDiff, Nat.reduceAdd]
  refine brD.intro (fun g2 => ?_) (fun g2 => ?_)
  · rw [if_pos (by rw [hdx, g2]; exact decide_eq_true rfl)] at hfi
    have he1 : es.getD i (0, 0) = e1 := by simpa using hfi
    have hld := rG.ld (P := Try.prog) ag76 cs76 hi
    rw [he1] at hld hc
    have hU1 := (hmo.pre pG)
    obtain ⟨U', H4, j1, j2, j3, j4, j5, j6⟩ := own1_22 hU1 (hpp.trans pG) (by omega) e1.1 e1.2
    have hap : Apart (us.getD i undef) U := by
      rcases (heach i (by rw [hnl]; exact hi)).at_ with q1 | q1
      · exact .inr (.inl q1)
      · rcases hmo with q2 | ⟨oo, zs, q2, q3, q4, q5⟩
        · exact .inl q2.1
        · refine .inr (.inr ?_)
          rw [q2]
          show rowO (us.getD i undef) ≠ oo
          have := at_lt q4
          omega
    have f1 := hrow.kept hap j4
    have f2 : bdD (tkS k es) c = some ((m1 : Nat) : Int) := by rw [hdx, g2]
    have f3 : out ++ [e1] ++ (pthL (tkS k es) es false m1 c).map (·.1) = (pthL (tkS k es) es false d.toNat p).map (·.1) := by
      rw [← hout, hc, List.append_assoc]; rfl
    have f4 : (out ++ [e1]).length + m1 = d.toNat := by rw [List.length_append]; simp; omega
    simp (maxSteps := 1000000) (disch := omega) only [k2, k6, k7, k9, k10, k45, k46, k47, cell_of cGG, rG.ix Try.underlying22 cs76, Int.toNat_natCast, hld, j1, hm11, wrap64, S, S1, S2, S3, S4, S5, ST, eq_self, reduceIte, reduceCtorEq, Nat.reduceEqDiff, Nat.reduceAdd]
    refine ⟨m1, by omega, c, out ++ [e1], ?_⟩
    (repeat' first | exact f1 | exact hcb | exact f2 | exact f4 | exact f3 | exact j2 | exact j3 | apply And.intro) <;> first | (simp only [Value.int.injEq, true_and]; omega) | omega | rfl | assumption | (simp; done) | (simp; omega)
  · rw [if_neg (by rw [hdx]; simp only [decide_eq_true_eq, Option.some.injEq]; exact g2)] at hfi
    simp (maxSteps := 1000000) (disch := omega) only [k2, k6, k7, k9, k10, k45, k46, k47, wrap64, S, S1, S2, S3, S4, S5, ST, eq_self, reduceIte, reduceCtorEq, Nat.reduceEqDiff, Nat.reduceAdd]
    refine ⟨m' - 1, by omega, i + 1, ?_⟩
    (repeat' first | exact hfi | apply And.intro) <;> first | (simp only [Value.int.injEq, true_and]; omega) | omega | rfl | assumption | (simp; done) | (simp; omega)

theorem TkDI_c (n : Int) (v w : Value) (es : List (Int × Int)) (p : List Int) (H : AH) (hr : RowP 76 H v es) (hlen : es.length ≤ 1099511627776) (hes : ∀ y ∈ es, I64 y.1 ∧ I64 y.2) (hx : Row 3 H w p) (hlp : p.length ≤ 1099511627776) (hxs : ∀ y ∈ p, I64 y) (hn : I64 n) :
    ACalls Try.prog 24 [.agg (List.toArray [.int .i64 n, v]), w] H fun r H' => r = .tuple (List.toArray [.int .i64 ((tkD n es p).getD 0), .bool (tkD n es p).isSome]) ∧ H <+: H' := by
  refine in24 rfl ?_
  intro Q hQ
  simp (maxSteps := 1000000) (disch := omega) only [cd24, hr.boxG, S, S1, S2, S3, S4, S5, ST, eq_self, reduceIte, reduceCtorEq, Nat.reduceEqDiff, Nat.reduceAdd]
  generalize hA : H ++ [AObj.cells [.int .i64 n, v] 28 false] = A
  have pA : H <+: A := by rw [← hA]; exact List.prefix_append _ _
  have cA : A[H.length]? = some (.cells [.int .i64 n, v] 28 false) := by rw [← hA]; exact at_new ..
  have rA := hr.pre pA
  simp (maxSteps := 1000000) (disch := omega) only [ld_agg ag28 cs28 cA, S, S1, S2, S3, S4, S5, ST, eq_self, reduceIte, reduceCtorEq, Nat.reduceEqDiff, Nat.reduceAdd]
  refine CallH.by (TkI_c n v w es p A rA hlen hes (hx.pre pA) hlp hxs hn) ?_
  rintro _ B ⟨g, rfl, hg, pB⟩
  simp (maxSteps := 1000000) (disch := omega) only [hg.row.len Try.underlying22, S, S1, S2, S3, S4, S5, ST, eq_self, reduceIte, reduceCtorEq, Nat.reduceEqDiff, Nat.reduceAdd]
  refine hQ _ _ _ ?_
  simp (maxSteps := 1000000) (disch := omega) only [S, S1, S2, S3, S4, S5, ST, eq_self, reduceIte, reduceCtorEq, Nat.reduceEqDiff, Nat.reduceAdd]
  refine ⟨?_, pA.trans pB⟩
  have hl := tkL_len n es p
  cases hd : tkD n es p with
  | none => rw [hd] at hl; rw [hl]; rfl
  | some d =>
    rw [hd] at hl
    have := tkD_rng hd
    have e : ((tkL n es p).length : Int) = d := by rw [hl]; simp only; omega
    rw [e]; rfl
end Go.Proofs.Ythhnpchjjbjabaa.Ai
