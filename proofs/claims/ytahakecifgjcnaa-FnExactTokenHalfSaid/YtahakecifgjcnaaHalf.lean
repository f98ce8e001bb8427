/- TokenHalf, both sides. -/
import Derived.Test.YtahakecifgjcnaaTok
import Derived.Test.YtahakecifgjcnaaRoads
import Derived.Test.YtahakecifgjcnaaProg
import Derived.Test.YtahakecifgjcnaaAiM2
import Derived.KernelRfl
/- Slim code of this translation. By the kernel. -/
namespace Go.Proofs.Ytahakecifgjcnaa.Ai
open Go

/- loop.example/g01128/impl.TokenHalf -/
def ords56 : List (Nat × List (Nat × Bool)) := []
def cd56 : Cd := (.seq (.reg [⟨⟨some 2, Op.box 41 (Operand.tmp 0), none⟩, []⟩,
  ⟨⟨some 4, Op.assign (Operand.const (Value.int IntKind.i64 0)), none⟩, []⟩,
  ⟨⟨some 5, Op.assign (Operand.const (Value.bool false)), none⟩, []⟩]) (.seq (.seq (.reg [⟨⟨some 11, Op.load 41 (Operand.tmp 2), none⟩, []⟩,
  ⟨⟨some 12, Op.move (Operand.tmp 1), none⟩, []⟩,
  ⟨⟨some 13, Op.call { callee := (Callee.value (Operand.func 113)), args := #[(Operand.tmp 11), (Operand.tmp 12)], argTypes := #[41, 22] }, none⟩, []⟩,
  ⟨⟨some 14, Op.unOp UnOp.not 4 (Operand.tmp 13), none⟩, []⟩]) (.cond (Operand.tmp 14) (.seq (.reg [⟨⟨some 4, Op.assign (Operand.const (Value.int IntKind.i64 0)), none⟩, []⟩,
  ⟨⟨some 5, Op.assign (Operand.const (Value.bool false)), none⟩, []⟩]) .ret) .skip)) (.seq (.reg [⟨⟨some 15, Op.load 41 (Operand.tmp 2), none⟩, []⟩,
  ⟨⟨some 16, Op.call { callee := (Callee.value (Operand.func 114)), args := #[(Operand.tmp 15)], argTypes := #[41] }, none⟩, []⟩,
  ⟨⟨some 6, Op.assign (Operand.tmp 16), none⟩, []⟩,
  ⟨⟨some 7, Op.assign (Operand.const (Value.int IntKind.i64 0)), none⟩, []⟩]) (.seq (.seq (.reg [⟨⟨some 17, Op.move (Operand.tmp 1), none⟩, []⟩,
  ⟨⟨some 18, Op.call { callee := (Callee.builtin Builtin.len), args := #[(Operand.tmp 17)], argTypes := #[22] }, none⟩, []⟩,
  ⟨⟨some 19, Op.move (Operand.const (Value.int IntKind.i64 0)), none⟩, []⟩]) (.block 0 (.loop (.seq (.reg [⟨⟨some 20, Op.binOp BinOp.lss 3 (Operand.tmp 19) (Operand.tmp 18) 3, none⟩, []⟩]) (.seq (.cond (Operand.tmp 20) .skip (.exit 0)) (.seq (.block 1 (.seq (.reg [⟨⟨some 21, Op.move (Operand.tmp 19), none⟩, []⟩,
  ⟨⟨some 22, Op.indexAddr 22 (Operand.tmp 17) (Operand.tmp 19), none⟩, []⟩,
  ⟨⟨some 23, Op.load 3 (Operand.tmp 22), none⟩, []⟩,
  ⟨⟨some 8, Op.assign (Operand.tmp 21), none⟩, []⟩,
  ⟨⟨some 9, Op.assign (Operand.tmp 23), none⟩, []⟩]) (.seq (.reg [⟨⟨some 24, Op.move (Operand.tmp 6), none⟩, []⟩,
  ⟨⟨some 25, Op.move (Operand.tmp 8), none⟩, []⟩,
  ⟨⟨some 26, Op.call { callee := (Callee.value (Operand.func 115)), args := #[(Operand.tmp 24), (Operand.tmp 25)], argTypes := #[47, 3] }, none⟩, []⟩,
  ⟨⟨some 27, Op.move (Operand.tmp 9), none⟩, []⟩,
  ⟨⟨some 28, Op.indexAddr 22 (Operand.tmp 26) (Operand.tmp 27), none⟩, []⟩,
  ⟨⟨some 29, Op.load 3 (Operand.tmp 28), none⟩, []⟩,
  ⟨⟨some 10, Op.assign (Operand.tmp 29), none⟩, []⟩]) (.seq (.seq (.reg [⟨⟨some 30, Op.move (Operand.tmp 10), none⟩, []⟩,
  ⟨⟨some 31, Op.binOp BinOp.lss 3 (Operand.tmp 30) (Operand.const (Value.int IntKind.i64 0)) 3, none⟩, []⟩]) (.cond (Operand.tmp 31) (.seq (.reg [⟨⟨some 4, Op.assign (Operand.const (Value.int IntKind.i64 0)), none⟩, []⟩,
  ⟨⟨some 5, Op.assign (Operand.const (Value.bool false)), none⟩, []⟩]) .ret) .skip)) (.reg [⟨⟨some 32, Op.move (Operand.tmp 7), none⟩, []⟩,
  ⟨⟨some 33, Op.move (Operand.tmp 10), none⟩, []⟩,
  ⟨⟨some 34, Op.binOp BinOp.add 3 (Operand.tmp 32) (Operand.tmp 33) 3, none⟩, []⟩,
  ⟨⟨some 7, Op.assign (Operand.tmp 34), none⟩, []⟩]))))) (.reg [⟨⟨some 35, Op.binOp BinOp.add 3 (Operand.tmp 19) (Operand.const (Value.int IntKind.i64 1)) 3, none⟩, []⟩,
  ⟨⟨some 19, Op.move (Operand.tmp 35), none⟩, []⟩]))))))) (.seq (.reg [⟨⟨some 36, Op.move (Operand.tmp 7), none⟩, []⟩,
  ⟨⟨some 37, Op.binOp BinOp.add 3 (Operand.tmp 36) (Operand.const (Value.int IntKind.i64 1)) 3, none⟩, []⟩,
  ⟨⟨some 38, Op.binOp BinOp.quo 3 (Operand.tmp 37) (Operand.const (Value.int IntKind.i64 2)) 3, none⟩, []⟩,
  ⟨⟨some 4, Op.assign (Operand.tmp 38), none⟩, []⟩,
  ⟨⟨some 5, Op.assign (Operand.const (Value.bool true)), none⟩, []⟩]) .ret)))))
theorem sl56 : slim Try.f56.ntmps ords56 (Try.f56.body.getD .skip) = some cd56 := by kernel_rfl
theorem in56 {args : List Value} {H : AH} {R : Value → AH → Prop} (hl : args.length = 2) (h : ∀ (Q : Exit → Sl → AH → Prop), (∀ e s H, endA Try.prog [ResultVar.tmp 4, ResultVar.tmp 5] R e s H → Q e s H) → wpC Try.prog cd56 Q (enterA args) H) : ACalls Try.prog 56 args H R :=
  ACalls.intro (by kernel_rfl) Try.func56 rfl (by kernel_rfl) sl56 hl (of_decide_eq_true (by kernel_rfl)) (by kernel_rfl) h

/- loop.example/g01128/spec.TokenHalf -/
def ords55 : List (Nat × List (Nat × Bool)) := [(7, [(0, false), (1, false), (3, false), (4, false), (5, false), (6, false), (2, true), (7, false), (8, false), (9, false)])]
def cd55 : Cd := (.seq (.reg [⟨⟨some 2, Op.box 41 (Operand.tmp 0), none⟩, []⟩,
  ⟨⟨some 4, Op.assign (Operand.const (Value.int IntKind.i64 0)), none⟩, []⟩,
  ⟨⟨some 5, Op.assign (Operand.const (Value.bool false)), none⟩, []⟩]) (.seq (.seq (.reg [⟨⟨some 9, Op.load 41 (Operand.tmp 2), none⟩, []⟩,
  ⟨⟨some 10, Op.call { callee := (Callee.value (Operand.func 78)), args := #[(Operand.tmp 9)], argTypes := #[41] }, none⟩, []⟩,
  ⟨⟨some 11, Op.unOp UnOp.not 4 (Operand.tmp 10), none⟩, []⟩,
  ⟨⟨some 12, Op.move (Operand.tmp 11), none⟩, []⟩,
  ⟨⟨some 13, Op.move (Operand.tmp 1), some (12, false)⟩, []⟩,
  ⟨⟨some 14, Op.call { callee := (Callee.builtin Builtin.len), args := #[(Operand.tmp 13)], argTypes := #[22] }, some (12, false)⟩, []⟩,
  ⟨⟨some 15, Op.fieldAddr 41 (Operand.tmp 2) 0, some (12, false)⟩, []⟩,
  ⟨⟨some 16, Op.load 3 (Operand.tmp 15), some (12, false)⟩, []⟩,
  ⟨⟨some 17, Op.binOp BinOp.neq 3 (Operand.tmp 14) (Operand.tmp 16) 3, some (12, false)⟩, []⟩,
  ⟨⟨some 18, Op.pick (Operand.tmp 12) (Operand.const (Value.bool true)) (Operand.tmp 17), none⟩, []⟩,
  ⟨⟨some 19, Op.move (Operand.tmp 18), none⟩, []⟩,
  ⟨⟨some 20, Op.move (Operand.tmp 1), some (19, false)⟩, []⟩,
  ⟨⟨some 21, Op.call { callee := (Callee.value (Operand.func 57)), args := #[(Operand.tmp 20)], argTypes := #[22] }, some (19, false)⟩, []⟩,
  ⟨⟨some 22, Op.unOp UnOp.not 4 (Operand.tmp 21), some (19, false)⟩, []⟩,
  ⟨⟨some 23, Op.pick (Operand.tmp 19) (Operand.const (Value.bool true)) (Operand.tmp 22), none⟩, []⟩]) (.cond (Operand.tmp 23) (.seq (.reg [⟨⟨some 4, Op.assign (Operand.const (Value.int IntKind.i64 0)), none⟩, []⟩,
  ⟨⟨some 5, Op.assign (Operand.const (Value.bool false)), none⟩, []⟩]) .ret) .skip)) (.seq (.reg [⟨⟨some 6, Op.assign (Operand.const (Value.int IntKind.i64 0)), none⟩, []⟩]) (.seq (.seq (.reg [⟨⟨some 7, Op.assign (Operand.const (Value.int IntKind.i64 0)), none⟩, []⟩]) (.block 0 (.loop (.seq (.seq (.reg [⟨⟨some 24, Op.move (Operand.tmp 7), none⟩, []⟩,
  ⟨⟨some 25, Op.move (Operand.tmp 1), none⟩, []⟩,
  ⟨⟨some 26, Op.call { callee := (Callee.builtin Builtin.len), args := #[(Operand.tmp 25)], argTypes := #[22] }, none⟩, []⟩,
  ⟨⟨some 27, Op.binOp BinOp.lss 3 (Operand.tmp 24) (Operand.tmp 26) 3, none⟩, []⟩]) (.cond (Operand.tmp 27) .skip (.exit 0))) (.seq (.block 1 (.seq (.reg [⟨⟨some 30, Op.load 41 (Operand.tmp 2), none⟩, []⟩,
  ⟨⟨some 31, Op.move (Operand.tmp 7), none⟩, []⟩,
  ⟨⟨some 33, Op.move (Operand.tmp 1), none⟩, []⟩,
  ⟨⟨some 34, Op.move (Operand.tmp 7), none⟩, []⟩,
  ⟨⟨some 35, Op.indexAddr 22 (Operand.tmp 33) (Operand.tmp 34), none⟩, []⟩,
  ⟨⟨some 36, Op.load 3 (Operand.tmp 35), none⟩, []⟩,
  ⟨⟨some 32, Op.call { callee := (Callee.value (Operand.func 112)), args := #[(Operand.tmp 30), (Operand.tmp 31)], argTypes := #[41, 3] }, none⟩, [⟨some 36, Op.load 3 (Operand.tmp 35), none⟩]⟩,
  ⟨⟨some 37, Op.indexAddr 22 (Operand.tmp 32) (Operand.tmp 36), none⟩, []⟩,
  ⟨⟨some 38, Op.load 3 (Operand.tmp 37), none⟩, []⟩,
  ⟨⟨some 8, Op.assign (Operand.tmp 38), none⟩, []⟩]) (.seq (.seq (.reg [⟨⟨some 39, Op.move (Operand.tmp 8), none⟩, []⟩,
  ⟨⟨some 40, Op.binOp BinOp.lss 3 (Operand.tmp 39) (Operand.const (Value.int IntKind.i64 0)) 3, none⟩, []⟩]) (.cond (Operand.tmp 40) (.seq (.reg [⟨⟨some 4, Op.assign (Operand.const (Value.int IntKind.i64 0)), none⟩, []⟩,
  ⟨⟨some 5, Op.assign (Operand.const (Value.bool false)), none⟩, []⟩]) .ret) .skip)) (.reg [⟨⟨some 41, Op.move (Operand.tmp 6), none⟩, []⟩,
  ⟨⟨some 42, Op.move (Operand.tmp 8), none⟩, []⟩,
  ⟨⟨some 43, Op.binOp BinOp.add 3 (Operand.tmp 41) (Operand.tmp 42) 3, none⟩, []⟩,
  ⟨⟨some 6, Op.assign (Operand.tmp 43), none⟩, []⟩])))) (.reg [⟨⟨some 28, Op.move (Operand.tmp 7), none⟩, []⟩,
  ⟨⟨some 29, Op.binOp BinOp.add 3 (Operand.tmp 28) (Operand.const (Value.int IntKind.i64 1)) 3, none⟩, []⟩,
  ⟨⟨some 7, Op.assign (Operand.tmp 29), none⟩, []⟩])))))) (.seq (.reg [⟨⟨some 44, Op.move (Operand.tmp 6), none⟩, []⟩,
  ⟨⟨some 45, Op.binOp BinOp.add 3 (Operand.tmp 44) (Operand.const (Value.int IntKind.i64 1)) 3, none⟩, []⟩,
  ⟨⟨some 46, Op.binOp BinOp.quo 3 (Operand.tmp 45) (Operand.const (Value.int IntKind.i64 2)) 3, none⟩, []⟩,
  ⟨⟨some 4, Op.assign (Operand.tmp 46), none⟩, []⟩,
  ⟨⟨some 5, Op.assign (Operand.const (Value.bool true)), none⟩, []⟩]) .ret)))))
theorem sl55 : slim Try.f55.ntmps ords55 (Try.f55.body.getD .skip) = some cd55 := by kernel_rfl
theorem in55 {args : List Value} {H : AH} {R : Value → AH → Prop} (hl : args.length = 2) (h : ∀ (Q : Exit → Sl → AH → Prop), (∀ e s H, endA Try.prog [ResultVar.tmp 4, ResultVar.tmp 5] R e s H → Q e s H) → wpC Try.prog cd55 Q (enterA args) H) : ACalls Try.prog 55 args H R :=
  ACalls.intro (by kernel_rfl) Try.func55 rfl (by kernel_rfl) sl55 hl (of_decide_eq_true (by kernel_rfl)) (by kernel_rfl) h
end Go.Proofs.Ytahakecifgjcnaa.Ai

namespace Go.Proofs.Ytahakecifgjcnaa.Ai
open Go Go.RowKit
set_option linter.unusedVariables false
set_option linter.unusedSimpArgs false

/-- the distance of a token from its own node -/
def halfD (n : Nat) (es : List (Int × Int)) (p : List Int) (k : Nat) : Int := (bfs (roadsL n es) k).getD (p.getD k 0).toNat 0
def halfU (n : Nat) (es : List (Int × Int)) (p : List Int) : Nat → Option Int
  | 0 => some 0
  | k + 1 => match halfU n es p k with
    | none => none
    | some s => if halfD n es p k < 0 then none else some (s + halfD n es p k)
theorem halfU_none (n : Nat) (es : List (Int × Int)) (p : List Int) (k j : Nat) (h : halfU n es p k = none) : halfU n es p (k + j) = none := by
  induction j with
  | zero => exact h
  | succ j ih => rw [← Nat.add_assoc, halfU, ih]
theorem halfU_bad {n : Nat} {es : List (Int × Int)} {p : List Int} {k N : Nat} {s : Int} (h : halfU n es p k = some s) (hd : halfD n es p k < 0) (hk : k < N) : halfU n es p N = none := by
  have : halfU n es p (k + 1) = none := by rw [halfU, h]; simp only; rw [if_pos hd]
  have := halfU_none n es p (k + 1) (N - (k + 1)) this
  rwa [show k + 1 + (N - (k + 1)) = N by omega] at this
theorem halfU_step {n : Nat} {es : List (Int × Int)} {p : List Int} {k : Nat} {s : Int} (h : halfU n es p k = some s) (hd : ¬ halfD n es p k < 0) : halfU n es p (k + 1) = some (s + halfD n es p k) := by
  rw [halfU, h]; simp only; rw [if_neg hd]
def halfR (n : Int) (es : List (Int × Int)) (p : List Int) : Option Int := if Tkn n es p then halfU n.toNat es p p.length else none
def halfV (o : Option Int) : Int := match o with | some s => (s + 1).tdiv 2 | none => 0
theorem tkn_at {n : Int} {es : List (Int × Int)} {p : List Int} (h : Tkn n es p) {k : Nat} (hk : k < p.length) : 0 ≤ p.getD k 0 ∧ p.getD k 0 < n := by
  have := (prm_range h.1.2).1 k hk
  have := h.2
  omega
theorem half_rng {n : Int} {es : List (Int × Int)} {p : List Int} (h : Tkn n es p) {k : Nat} (hk : k < p.length) : (bfs (roadsL n.toNat es) k).length = n.toNat ∧ -1 ≤ halfD n.toNat es p k ∧ halfD n.toNat es p k ≤ 8 := by
  have h1 := h.2
  have h2 := h.1.1.1
  have h3 := tkn_at h hk
  have hl := roadsL_len n.toNat es
  have := bfs_rng (roadsL n.toNat es) (roadsL_ok _ _) k (by omega)
  obtain ⟨q1, q2⟩ := this
  have := q2 (p.getD k 0).toNat (by omega)
  unfold halfD
  omega
theorem tdiv2 {s : Int} (h : 0 ≤ s ∧ s ≤ 1000000) : IntKind.i64.wrap (s.tdiv 2) = s.tdiv 2 := by
  rw [Int.tdiv_eq_ediv_of_nonneg h.1]
  exact wrap64 (by omega) (by omega)

set_option maxRecDepth 20000 in
set_option maxHeartbeats 2000000 in
theorem HalfI_c (n : Int) (v w : Value) (es : List (Int × Int)) (p : List Int) (H : AH) (hr : RowP 66 H v es) (hlen : es.length ≤ 1099511627776) (hes : ∀ y ∈ es, I64 y.1 ∧ I64 y.2) (hp : Row 3 H w p) (hlp : p.length ≤ 1099511627776) (hxp : ∀ y ∈ p, I64 y) (hn : I64 n) :
    ACalls Try.prog 56 [.agg (List.toArray [.int .i64 n, v]), w] H fun r H' => r = .tuple (List.toArray [.int .i64 (halfV (halfR n es p)), .bool (halfR n es p).isSome]) ∧ H <+: H' := by
  refine in56 rfl ?_
  intro Q hQ
  simp (maxSteps := 1000000) (disch := omega) only [cd56, hr.boxG, S, S1, S2, S3, S4, ST, eq_self, ne_eq, not_true_eq_false, not_false_eq_true, and_self, true_and, and_true, reduceIte, reduceCtorEq, Nat.reduceEqDiff, Nat.reduceAdd, Nat.zero_add, Nat.add_zero, Option.map_none, Option.map_some, List.map_cons, List.map_nil, List.append_nil, List.cons_append, List.nil_append, List.getElem?_cons_zero, List.getElem?_cons_succ, List.getD_cons_zero, List.getD_cons_succ, List.getD_nil, Bool.not_true, Bool.not_false, decide_true, decide_false]
  generalize hA : H ++ [AObj.cells [.int .i64 n, v] 41 false] = A
  have pA : H <+: A := by rw [← hA]; exact List.prefix_append _ _
  have cA : A[H.length]? = some (.cells [.int .i64 n, v] 41 false) := by rw [← hA]; exact at_new ..
  have rA := hr.pre pA
  simp (maxSteps := 1000000) (disch := omega) only [ld_agg ag41 cs41 cA, S, S1, S2, S3, S4, ST, eq_self, ne_eq, not_true_eq_false, not_false_eq_true, and_self, true_and, and_true, reduceIte, reduceCtorEq, Nat.reduceEqDiff, Nat.reduceAdd, Nat.zero_add, Nat.add_zero, Option.map_none, Option.map_some, List.map_cons, List.map_nil, List.append_nil, List.cons_append, List.nil_append, List.getElem?_cons_zero, List.getElem?_cons_succ, List.getD_cons_zero, List.getD_cons_succ, List.getD_nil, Bool.not_true, Bool.not_false, decide_true, decide_false]
  refine CallH.by (isTokens_c n v w es p A rA hlen (hp.pre pA) hlp hxp) ?_
  rintro _ B ⟨rfl, pB⟩
  have cB := pre_at pB cA
  have pHB := pA.trans pB
  simp (maxSteps := 1000000) (disch := omega) only [S, S1, S2, S3, S4, ST, eq_self, ne_eq, not_true_eq_false, not_false_eq_true, and_self, true_and, and_true, reduceIte, reduceCtorEq, Nat.reduceEqDiff, Nat.reduceAdd, Nat.zero_add, Nat.add_zero, Option.map_none, Option.map_some, List.map_cons, List.map_nil, List.append_nil, List.cons_append, List.nil_append, List.getElem?_cons_zero, List.getElem?_cons_succ, List.getD_cons_zero, List.getD_cons_succ, List.getD_nil, Bool.not_true, Bool.not_false, decide_true, decide_false]
  refine brD.intro (fun e => ?_) (fun e => ?_) <;> simp (maxSteps := 1000000) (disch := omega) only [e, ld_agg ag41 cs41 cB, S, S1, S2, S3, S4, ST, eq_self, ne_eq, not_true_eq_false, not_false_eq_true, and_self, true_and, and_true, reduceIte, reduceCtorEq, Nat.reduceEqDiff, Nat.reduceAdd, Nat.zero_add, Nat.add_zero, Option.map_none, Option.map_some, List.map_cons, List.map_nil, List.append_nil, List.cons_append, List.nil_append, List.getElem?_cons_zero, List.getElem?_cons_succ, List.getD_cons_zero, List.getD_cons_succ, List.getD_nil, Bool.not_true, Bool.not_false, decide_true, decide_false]
  · have hg := e.1.1
    have hnn := hg.1
    have hpl := e.2
    have hR : halfR n es p = halfU n.toNat es p p.length := by simp [halfR, e]
    refine CallH.by (roads_c n v es B (rA.pre pB) hlen hg) ?_
    rintro L C ⟨hL, pC⟩
    have pHC := pHB.trans pC
    have hrow := hL.row
    simp (maxSteps := 1000000) (disch := omega) only [hp.len Try.underlying22, S, S1, S2, S3, S4, ST, eq_self, ne_eq, not_true_eq_false, not_false_eq_true, and_self, true_and, and_true, reduceIte, reduceCtorEq, Nat.reduceEqDiff, Nat.reduceAdd, Nat.zero_add, Nat.add_zero, Option.map_none, Option.map_some, List.map_cons, List.map_nil, List.append_nil, List.cons_append, List.nil_append, List.getElem?_cons_zero, List.getElem?_cons_succ, List.getD_cons_zero, List.getD_cons_succ, List.getD_nil, Bool.not_true, Bool.not_false, decide_true, decide_false]
    refine LoopH.by (fun m s H' => ∃ k t, m + k = p.length ∧ s 6 = L ∧ s 7 = .int .i64 t ∧ s 17 = w ∧ s 18 = .int .i64 (p.length : Int) ∧ s 19 = .int .i64 ((k : Nat) : Int) ∧ halfU n.toNat es p k = some t ∧ 0 ≤ t ∧ t ≤ 8 * k ∧ C <+: H') p.length ?_ ?_
    · exact ⟨0, 0, by simp, rfl, rfl, rfl, rfl, rfl, rfl, by omega, by omega, List.prefix_refl _⟩
    · rintro m s H' ⟨k, t, hm, h6, h7, h17, h18, h19, hU, ht0, ht1, hpp⟩
      have hp' := hp.pre (pHC.trans hpp)
      simp (maxSteps := 1000000) (disch := omega) only [h6, h7, h17, h18, h19, S, S1, S2, S3, S4, ST, eq_self, ne_eq, not_true_eq_false, not_false_eq_true, and_self, true_and, and_true, reduceIte, reduceCtorEq, Nat.reduceEqDiff, Nat.reduceAdd, Nat.zero_add, Nat.add_zero, Option.map_none, Option.map_some, List.map_cons, List.map_nil, List.append_nil, List.cons_append, List.nil_append, List.getElem?_cons_zero, List.getElem?_cons_succ, List.getD_cons_zero, List.getD_cons_succ, List.getD_nil, Bool.not_true, Bool.not_false, decide_true, decide_false]
      refine brD.intro (fun g => ?_) (fun g => ?_)
      · have hk : k < p.length := by omega
        obtain ⟨q1, q2, q3⟩ := half_rng e hk
        have hpk := tkn_at e hk
        simp (maxSteps := 1000000) (disch := omega) only [h6, h7, h17, h18, h19, hp'.ix Try.underlying22 cs3, hp'.cell, Int.toNat_natCast, S, S1, S2, S3, S4, ST, eq_self, ne_eq, not_true_eq_false, not_false_eq_true, and_self, true_and, and_true, reduceIte, reduceCtorEq, Nat.reduceEqDiff, Nat.reduceAdd, Nat.zero_add, Nat.add_zero, Option.map_none, Option.map_some, List.map_cons, List.map_nil, List.append_nil, List.cons_append, List.nil_append, List.getElem?_cons_zero, List.getElem?_cons_succ, List.getD_cons_zero, List.getD_cons_succ, List.getD_nil, Bool.not_true, Bool.not_false, decide_true, decide_false]
        refine CallH.by (spread_c L (roadsL n.toNat es) k H' (hrow.pre hpp) (roadsL_ok _ _) (by rw [roadsL_len]; omega) (by rw [roadsL_len]; omega) (roadsL_small _ _ (by omega))) ?_
        rintro u D ⟨hu, pD⟩
        have hD : (bfs (roadsL n.toNat es) k).getD (p.getD k 0).toNat 0 = halfD n.toNat es p k := rfl
        simp (maxSteps := 1000000) (disch := omega) only [hu.row.ix Try.underlying22 cs3, hu.row.cell, hD, S, S1, S2, S3, S4, ST, eq_self, ne_eq, not_true_eq_false, not_false_eq_true, and_self, true_and, and_true, reduceIte, reduceCtorEq, Nat.reduceEqDiff, Nat.reduceAdd, Nat.zero_add, Nat.add_zero, Option.map_none, Option.map_some, List.map_cons, List.map_nil, List.append_nil, List.cons_append, List.nil_append, List.getElem?_cons_zero, List.getElem?_cons_succ, List.getD_cons_zero, List.getD_cons_succ, List.getD_nil, Bool.not_true, Bool.not_false, decide_true, decide_false]
        refine brD.intro (fun q => ?_) (fun q => ?_) <;> simp (maxSteps := 1000000) (disch := omega) only [q, h6, h7, h17, h18, h19, wrap64, S, S1, S2, S3, S4, ST, eq_self, ne_eq, not_true_eq_false, not_false_eq_true, and_self, true_and, and_true, reduceIte, reduceCtorEq, Nat.reduceEqDiff, Nat.reduceAdd, Nat.zero_add, Nat.add_zero, Option.map_none, Option.map_some, List.map_cons, List.map_nil, List.append_nil, List.cons_append, List.nil_append, List.getElem?_cons_zero, List.getElem?_cons_succ, List.getD_cons_zero, List.getD_cons_succ, List.getD_nil, Bool.not_true, Bool.not_false, decide_true, decide_false]
        · refine hQ _ _ _ ?_
          simp (maxSteps := 1000000) (disch := omega) only [S, S1, S2, S3, S4, ST, eq_self, ne_eq, not_true_eq_false, not_false_eq_true, and_self, true_and, and_true, reduceIte, reduceCtorEq, Nat.reduceEqDiff, Nat.reduceAdd, Nat.zero_add, Nat.add_zero, Option.map_none, Option.map_some, List.map_cons, List.map_nil, List.append_nil, List.cons_append, List.nil_append, List.getElem?_cons_zero, List.getElem?_cons_succ, List.getD_cons_zero, List.getD_cons_succ, List.getD_nil, Bool.not_true, Bool.not_false, decide_true, decide_false]
          rw [hR, halfU_bad hU q hk]
          exact ⟨rfl, pHC.trans (hpp.trans pD)⟩
        · have f1 := halfU_step hU q
          have f2 := hpp.trans pD
          refine ⟨m - 1, by omega, k + 1, t + halfD n.toNat es p k, ?_⟩
          (repeat' first | exact f1 | exact f2 | apply And.intro) <;> first | (simp only [Value.int.injEq, true_and]; omega) | omega | rfl | assumption | (simp; done) | (simp; omega)
      · have hk : k = p.length := by omega
        subst hk
        simp (maxSteps := 1000000) (disch := omega) only [h7, tdiv2 (s := t + 1), wrap64, S, S1, S2, S3, S4, ST, eq_self, ne_eq, not_true_eq_false, not_false_eq_true, and_self, true_and, and_true, reduceIte, reduceCtorEq, Nat.reduceEqDiff, Nat.reduceAdd, Nat.zero_add, Nat.add_zero, Option.map_none, Option.map_some, List.map_cons, List.map_nil, List.append_nil, List.cons_append, List.nil_append, List.getElem?_cons_zero, List.getElem?_cons_succ, List.getD_cons_zero, List.getD_cons_succ, List.getD_nil, Bool.not_true, Bool.not_false, decide_true, decide_false]
        refine hQ _ _ _ ?_
        simp (maxSteps := 1000000) (disch := omega) only [h7, S, S1, S2, S3, S4, ST, eq_self, ne_eq, not_true_eq_false, not_false_eq_true, and_self, true_and, and_true, reduceIte, reduceCtorEq, Nat.reduceEqDiff, Nat.reduceAdd, Nat.zero_add, Nat.add_zero, Option.map_none, Option.map_some, List.map_cons, List.map_nil, List.append_nil, List.cons_append, List.nil_append, List.getElem?_cons_zero, List.getElem?_cons_succ, List.getD_cons_zero, List.getD_cons_succ, List.getD_nil, Bool.not_true, Bool.not_false, decide_true, decide_false]
        rw [hR, hU]
        exact ⟨rfl, pHC.trans hpp⟩
  · refine hQ _ _ _ ?_
    simp (maxSteps := 1000000) (disch := omega) only [S, S1, S2, S3, S4, ST, eq_self, ne_eq, not_true_eq_false, not_false_eq_true, and_self, true_and, and_true, reduceIte, reduceCtorEq, Nat.reduceEqDiff, Nat.reduceAdd, Nat.zero_add, Nat.add_zero, Option.map_none, Option.map_some, List.map_cons, List.map_nil, List.append_nil, List.cons_append, List.nil_append, List.getElem?_cons_zero, List.getElem?_cons_succ, List.getD_cons_zero, List.getD_cons_succ, List.getD_nil, Bool.not_true, Bool.not_false, decide_true, decide_false]
    have hR : halfR n es p = none := by simp [halfR, e]
    rw [hR]
    exact ⟨rfl, pHB⟩

set_option maxRecDepth 20000 in
set_option maxHeartbeats 2000000 in
theorem HalfS_c (n : Int) (v w : Value) (es : List (Int × Int)) (p : List Int) (H : AH) (hr : RowP 66 H v es) (hlen : es.length ≤ 1099511627776) (hes : ∀ y ∈ es, I64 y.1 ∧ I64 y.2) (hp : Row 3 H w p) (hlp : p.length ≤ 1099511627776) (hxp : ∀ y ∈ p, I64 y) (hn : I64 n) :
    ACalls Try.prog 55 [.agg (List.toArray [.int .i64 n, v]), w] H fun r H' => r = .tuple (List.toArray [.int .i64 (halfV (halfR n es p)), .bool (halfR n es p).isSome]) ∧ H <+: H' := by
  refine in55 rfl ?_
  intro Q hQ
  simp (maxSteps := 1000000) (disch := omega) only [cd55, hr.boxG, S, S1, S2, S3, S4, ST, eq_self, ne_eq, not_true_eq_false, not_false_eq_true, and_self, true_and, and_true, reduceIte, reduceCtorEq, Nat.reduceEqDiff, Nat.reduceAdd, Nat.zero_add, Nat.add_zero, Option.map_none, Option.map_some, List.map_cons, List.map_nil, List.append_nil, List.cons_append, List.nil_append, List.getElem?_cons_zero, List.getElem?_cons_succ, List.getD_cons_zero, List.getD_cons_succ, List.getD_nil, Bool.not_true, Bool.not_false, decide_true, decide_false]
  generalize hA : H ++ [AObj.cells [.int .i64 n, v] 41 false] = A
  have pA : H <+: A := by rw [← hA]; exact List.prefix_append _ _
  have cA : A[H.length]? = some (.cells [.int .i64 n, v] 41 false) := by rw [← hA]; exact at_new ..
  have rA := hr.pre pA
  simp (maxSteps := 1000000) (disch := omega) only [ld_agg ag41 cs41 cA, S, S1, S2, S3, S4, ST, eq_self, ne_eq, not_true_eq_false, not_false_eq_true, and_self, true_and, and_true, reduceIte, reduceCtorEq, Nat.reduceEqDiff, Nat.reduceAdd, Nat.zero_add, Nat.add_zero, Option.map_none, Option.map_some, List.map_cons, List.map_nil, List.append_nil, List.cons_append, List.nil_append, List.getElem?_cons_zero, List.getElem?_cons_succ, List.getD_cons_zero, List.getD_cons_succ, List.getD_nil, Bool.not_true, Bool.not_false, decide_true, decide_false]
  refine CallH.by (l2Good_c n v es A rA hlen) ?_
  rintro _ B ⟨rfl, pB⟩
  have cB := pre_at pB cA
  have pHB := pA.trans pB
  have hpB := hp.pre pHB
  have no : ¬ Tkn n es p → ∀ G, H <+: G → (Value.tuple (List.toArray [.int .i64 0, .bool false]) = .tuple (List.toArray [.int .i64 (halfV (halfR n es p)), .bool (halfR n es p).isSome]) ∧ H <+: G) := fun h G hG => by
    have hR : halfR n es p = none := by simp [halfR, h]
    rw [hR]
    exact ⟨rfl, hG⟩
  simp (maxSteps := 1000000) (disch := omega) only [S, S1, S2, S3, S4, ST, eq_self, ne_eq, not_true_eq_false, not_false_eq_true, and_self, true_and, and_true, reduceIte, reduceCtorEq, Nat.reduceEqDiff, Nat.reduceAdd, Nat.zero_add, Nat.add_zero, Option.map_none, Option.map_some, List.map_cons, List.map_nil, List.append_nil, List.cons_append, List.nil_append, List.getElem?_cons_zero, List.getElem?_cons_succ, List.getD_cons_zero, List.getD_cons_succ, List.getD_nil, Bool.not_true, Bool.not_false, decide_true, decide_false]
  refine brD.intro (fun e => ?_) (fun e => ?_) <;> simp (maxSteps := 1000000) (disch := omega) only [e, hpB.len Try.underlying22, cell_of cB, S, S1, S2, S3, S4, ST, eq_self, ne_eq, not_true_eq_false, not_false_eq_true, and_self, true_and, and_true, reduceIte, reduceCtorEq, Nat.reduceEqDiff, Nat.reduceAdd, Nat.zero_add, Nat.add_zero, Option.map_none, Option.map_some, List.map_cons, List.map_nil, List.append_nil, List.cons_append, List.nil_append, List.getElem?_cons_zero, List.getElem?_cons_succ, List.getD_cons_zero, List.getD_cons_succ, List.getD_nil, Bool.not_true, Bool.not_false, decide_true, decide_false]
  · refine brD.intro (fun e2 => ?_) (fun e2 => ?_) <;> simp (maxSteps := 1000000) (disch := omega) only [e, e2, S, S1, S2, S3, S4, ST, eq_self, ne_eq, not_true_eq_false, not_false_eq_true, and_self, true_and, and_true, reduceIte, reduceCtorEq, Nat.reduceEqDiff, Nat.reduceAdd, Nat.zero_add, Nat.add_zero, Option.map_none, Option.map_some, List.map_cons, List.map_nil, List.append_nil, List.cons_append, List.nil_append, List.getElem?_cons_zero, List.getElem?_cons_succ, List.getD_cons_zero, List.getD_cons_succ, List.getD_nil, Bool.not_true, Bool.not_false, decide_true, decide_false]
    · refine hQ _ _ _ ?_
      simp (maxSteps := 1000000) (disch := omega) only [S, S1, S2, S3, S4, ST, eq_self, ne_eq, not_true_eq_false, not_false_eq_true, and_self, true_and, and_true, reduceIte, reduceCtorEq, Nat.reduceEqDiff, Nat.reduceAdd, Nat.zero_add, Nat.add_zero, Option.map_none, Option.map_some, List.map_cons, List.map_nil, List.append_nil, List.cons_append, List.nil_append, List.getElem?_cons_zero, List.getElem?_cons_succ, List.getD_cons_zero, List.getD_cons_succ, List.getD_nil, Bool.not_true, Bool.not_false, decide_true, decide_false]
      exact no (fun h => e2 h.2) _ pHB
    · refine CallH.by (l9Perm_c w p B hpB hlp) ?_
      rintro _ _ ⟨rfl, rfl⟩
      simp (maxSteps := 1000000) (disch := omega) only [e, e2, S, S1, S2, S3, S4, ST, eq_self, ne_eq, not_true_eq_false, not_false_eq_true, and_self, true_and, and_true, reduceIte, reduceCtorEq, Nat.reduceEqDiff, Nat.reduceAdd, Nat.zero_add, Nat.add_zero, Option.map_none, Option.map_some, List.map_cons, List.map_nil, List.append_nil, List.cons_append, List.nil_append, List.getElem?_cons_zero, List.getElem?_cons_succ, List.getD_cons_zero, List.getD_cons_succ, List.getD_nil, Bool.not_true, Bool.not_false, decide_true, decide_false]
      refine brD.intro (fun e3 => ?_) (fun e3 => ?_) <;> simp (maxSteps := 1000000) (disch := omega) only [e, e2, e3, S, S1, S2, S3, S4, ST, eq_self, ne_eq, not_true_eq_false, not_false_eq_true, and_self, true_and, and_true, reduceIte, reduceCtorEq, Nat.reduceEqDiff, Nat.reduceAdd, Nat.zero_add, Nat.add_zero, Option.map_none, Option.map_some, List.map_cons, List.map_nil, List.append_nil, List.cons_append, List.nil_append, List.getElem?_cons_zero, List.getElem?_cons_succ, List.getD_cons_zero, List.getD_cons_succ, List.getD_nil, Bool.not_true, Bool.not_false, decide_true, decide_false]
      · have hT : Tkn n es p := ⟨⟨e, e3⟩, by omega⟩
        have hnn := e.1
        have hpl := hT.2
        have hR : halfR n es p = halfU n.toNat es p p.length := by simp [halfR, hT]
        refine LoopH.by (fun m s H' => ∃ k t, m + k = p.length ∧ s 1 = w ∧ s 2 = .pointer (some ⟨H.length, 0, none⟩) ∧ s 6 = .int .i64 t ∧ s 7 = .int .i64 ((k : Nat) : Int) ∧ halfU n.toNat es p k = some t ∧ 0 ≤ t ∧ t ≤ 8 * k ∧ B <+: H') p.length ?_ ?_
        · exact ⟨0, 0, by simp, rfl, rfl, rfl, rfl, rfl, by omega, by omega, List.prefix_refl _⟩
        · rintro m s H' ⟨k, t, hm, h1, h2, h6, h7, hU, ht0, ht1, hpp⟩
          have hp' := hpB.pre hpp
          have cH := pre_at hpp cB
          simp (maxSteps := 1000000) (disch := omega) only [h1, h2, h6, h7, hp'.len Try.underlying22, S, S1, S2, S3, S4, ST, eq_self, ne_eq, not_true_eq_false, not_false_eq_true, and_self, true_and, and_true, reduceIte, reduceCtorEq, Nat.reduceEqDiff, Nat.reduceAdd, Nat.zero_add, Nat.add_zero, Option.map_none, Option.map_some, List.map_cons, List.map_nil, List.append_nil, List.cons_append, List.nil_append, List.getElem?_cons_zero, List.getElem?_cons_succ, List.getD_cons_zero, List.getD_cons_succ, List.getD_nil, Bool.not_true, Bool.not_false, decide_true, decide_false]
          refine brD.intro (fun g => ?_) (fun g => ?_)
          · have hk : k < p.length := by omega
            obtain ⟨q1, q2, q3⟩ := half_rng hT hk
            have hpk := tkn_at hT hk
            simp (maxSteps := 1000000) (disch := omega) only [h1, h2, h6, h7, ld_agg ag41 cs41 cH, hp'.ix Try.underlying22 cs3, hp'.cell, Int.toNat_natCast, S, S1, S2, S3, S4, ST, eq_self, ne_eq, not_true_eq_false, not_false_eq_true, and_self, true_and, and_true, reduceIte, reduceCtorEq, Nat.reduceEqDiff, Nat.reduceAdd, Nat.zero_add, Nat.add_zero, Option.map_none, Option.map_some, List.map_cons, List.map_nil, List.append_nil, List.cons_append, List.nil_append, List.getElem?_cons_zero, List.getElem?_cons_succ, List.getD_cons_zero, List.getD_cons_succ, List.getD_nil, Bool.not_true, Bool.not_false, decide_true, decide_false]
            refine CallH.by (l3Far_c n v es k H' (rA.pre (pB.trans hpp)) hlen hnn (by omega)) ?_
            rintro u D ⟨hu, pD⟩
            have hpD := hp'.pre pD
            have hD : (bfs (roadsL n.toNat es) k).getD (p.getD k 0).toNat 0 = halfD n.toNat es p k := rfl
            simp (maxSteps := 1000000) (disch := omega) only [hpD.cell, hu.row.ix Try.underlying22 cs3, hu.row.cell, hD, S, S1, S2, S3, S4, ST, eq_self, ne_eq, not_true_eq_false, not_false_eq_true, and_self, true_and, and_true, reduceIte, reduceCtorEq, Nat.reduceEqDiff, Nat.reduceAdd, Nat.zero_add, Nat.add_zero, Option.map_none, Option.map_some, List.map_cons, List.map_nil, List.append_nil, List.cons_append, List.nil_append, List.getElem?_cons_zero, List.getElem?_cons_succ, List.getD_cons_zero, List.getD_cons_succ, List.getD_nil, Bool.not_true, Bool.not_false, decide_true, decide_false]
            refine brD.intro (fun q => ?_) (fun q => ?_) <;> simp (maxSteps := 1000000) (disch := omega) only [q, h1, h2, h6, h7, wrap64, S, S1, S2, S3, S4, ST, eq_self, ne_eq, not_true_eq_false, not_false_eq_true, and_self, true_and, and_true, reduceIte, reduceCtorEq, Nat.reduceEqDiff, Nat.reduceAdd, Nat.zero_add, Nat.add_zero, Option.map_none, Option.map_some, List.map_cons, List.map_nil, List.append_nil, List.cons_append, List.nil_append, List.getElem?_cons_zero, List.getElem?_cons_succ, List.getD_cons_zero, List.getD_cons_succ, List.getD_nil, Bool.not_true, Bool.not_false, decide_true, decide_false]
            · refine hQ _ _ _ ?_
              simp (maxSteps := 1000000) (disch := omega) only [S, S1, S2, S3, S4, ST, eq_self, ne_eq, not_true_eq_false, not_false_eq_true, and_self, true_and, and_true, reduceIte, reduceCtorEq, Nat.reduceEqDiff, Nat.reduceAdd, Nat.zero_add, Nat.add_zero, Option.map_none, Option.map_some, List.map_cons, List.map_nil, List.append_nil, List.cons_append, List.nil_append, List.getElem?_cons_zero, List.getElem?_cons_succ, List.getD_cons_zero, List.getD_cons_succ, List.getD_nil, Bool.not_true, Bool.not_false, decide_true, decide_false]
              rw [hR, halfU_bad hU q hk]
              exact ⟨rfl, pHB.trans (hpp.trans pD)⟩
            · have f1 := halfU_step hU q
              have f2 := hpp.trans pD
              refine ⟨m - 1, by omega, k + 1, t + halfD n.toNat es p k, ?_⟩
              (repeat' first | exact f1 | exact f2 | apply And.intro) <;> first | (simp only [Value.int.injEq, true_and]; omega) | omega | rfl | assumption | (simp; done) | (simp; omega)
          · have hk : k = p.length := by omega
            subst hk
            simp (maxSteps := 1000000) (disch := omega) only [h6, tdiv2 (s := t + 1), wrap64, S, S1, S2, S3, S4, ST, eq_self, ne_eq, not_true_eq_false, not_false_eq_true, and_self, true_and, and_true, reduceIte, reduceCtorEq, Nat.reduceEqDiff, Nat.reduceAdd, Nat.zero_add, Nat.add_zero, Option.map_none, Option.map_some, List.map_cons, List.map_nil, List.append_nil, List.cons_append, List.nil_append, List.getElem?_cons_zero, List.getElem?_cons_succ, List.getD_cons_zero, List.getD_cons_succ, List.getD_nil, Bool.not_true, Bool.not_false, decide_true, decide_false]
            refine hQ _ _ _ ?_
            simp (maxSteps := 1000000) (disch := omega) only [h6, S, S1, S2, S3, S4, ST, eq_self, ne_eq, not_true_eq_false, not_false_eq_true, and_self, true_and, and_true, reduceIte, reduceCtorEq, Nat.reduceEqDiff, Nat.reduceAdd, Nat.zero_add, Nat.add_zero, Option.map_none, Option.map_some, List.map_cons, List.map_nil, List.append_nil, List.cons_append, List.nil_append, List.getElem?_cons_zero, List.getElem?_cons_succ, List.getD_cons_zero, List.getD_cons_succ, List.getD_nil, Bool.not_true, Bool.not_false, decide_true, decide_false]
            rw [hR, hU]
            exact ⟨rfl, pHB.trans hpp⟩
      · refine hQ _ _ _ ?_
        simp (maxSteps := 1000000) (disch := omega) only [S, S1, S2, S3, S4, ST, eq_self, ne_eq, not_true_eq_false, not_false_eq_true, and_self, true_and, and_true, reduceIte, reduceCtorEq, Nat.reduceEqDiff, Nat.reduceAdd, Nat.zero_add, Nat.add_zero, Option.map_none, Option.map_some, List.map_cons, List.map_nil, List.append_nil, List.cons_append, List.nil_append, List.getElem?_cons_zero, List.getElem?_cons_succ, List.getD_cons_zero, List.getD_cons_succ, List.getD_nil, Bool.not_true, Bool.not_false, decide_true, decide_false]
        exact no (fun h => e3 h.1.2) _ pHB
  · refine hQ _ _ _ ?_
    simp (maxSteps := 1000000) (disch := omega) only [S, S1, S2, S3, S4, ST, eq_self, ne_eq, not_true_eq_false, not_false_eq_true, and_self, true_and, and_true, reduceIte, reduceCtorEq, Nat.reduceEqDiff, Nat.reduceAdd, Nat.zero_add, Nat.add_zero, Option.map_none, Option.map_some, List.map_cons, List.map_nil, List.append_nil, List.cons_append, List.nil_append, List.getElem?_cons_zero, List.getElem?_cons_succ, List.getD_cons_zero, List.getD_cons_succ, List.getD_nil, Bool.not_true, Bool.not_false, decide_true, decide_false]
    exact no (fun h => e h.1.1) _ pHB
end Go.Proofs.Ytahakecifgjcnaa.Ai
