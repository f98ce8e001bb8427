/- Texts of this claim, joined: Near, ReachP, BfsQ, Rep, Bfs, Roads, TreQ, Seq, Has, Perm, Tri, MatP, MatA, TrI, Put, AppL, Swp, Reach, TrS, Index, Wout. -/
import Derived.Test.YtldcbmmmheookaaProg
import Derived.KernelRfl
import Derived.RangeFuncBox
import Derived.RangeFuncLeaves
import Derived.Shelf.Abstract
import Derived.WalkKit
import Derived.OwnWalkIn
import Derived.TacticsInMore
import Derived.LoopNIn
import Derived.LoopIn
import Derived.Maps.AppendAt
import Derived.Test.YtldcbmmmheookaaMgLawCrl3
namespace Go.Proofs.Ytldcbmmmheookaa.Ai
open Go
def ords141 : List (Nat × List (Nat × Bool)) := []
def cd141 : Cd := (.seq (.reg [⟨⟨some 3, Op.box 26 (Operand.tmp 0), none⟩, []⟩,
  ⟨⟨some 6, Op.assign (Operand.const (Value.bool false)), none⟩, []⟩]) (.seq (.seq (.reg [⟨⟨some 7, Op.assign (Operand.const (Value.int IntKind.i64 0)), none⟩, []⟩]) (.block 0 (.loop (.seq (.seq (.reg [⟨⟨some 9, Op.move (Operand.tmp 7), none⟩, []⟩,
  ⟨⟨some 10, Op.fieldAddr 26 (Operand.tmp 3) 1, none⟩, []⟩,
  ⟨⟨some 11, Op.load 24 (Operand.tmp 10), none⟩, []⟩,
  ⟨⟨some 12, Op.call { callee := (Callee.builtin Builtin.len), args := #[(Operand.tmp 11)], argTypes := #[24] }, none⟩, []⟩,
  ⟨⟨some 13, Op.binOp BinOp.lss 3 (Operand.tmp 9) (Operand.tmp 12) 3, none⟩, []⟩]) (.cond (Operand.tmp 13) .skip (.exit 0))) (.seq (.block 1 (.seq (.reg [⟨⟨some 16, Op.fieldAddr 26 (Operand.tmp 3) 1, none⟩, []⟩,
  ⟨⟨some 17, Op.load 24 (Operand.tmp 16), none⟩, []⟩,
  ⟨⟨some 18, Op.move (Operand.tmp 7), none⟩, []⟩,
  ⟨⟨some 19, Op.indexAddr 24 (Operand.tmp 17) (Operand.tmp 18), none⟩, []⟩,
  ⟨⟨some 20, Op.load 71 (Operand.tmp 19), none⟩, []⟩,
  ⟨⟨some 8, Op.alloc 71, none⟩, []⟩,
  ⟨⟨none, Op.store 71 (Operand.tmp 8) (Operand.tmp 20), none⟩, []⟩]) (.seq (.reg [⟨⟨some 21, Op.indexAddr 71 (Operand.tmp 8) (Operand.const (Value.int IntKind.i64 0)), none⟩, []⟩,
  ⟨⟨some 22, Op.load 3 (Operand.tmp 21), none⟩, []⟩,
  ⟨⟨some 23, Op.move (Operand.tmp 1), none⟩, []⟩,
  ⟨⟨some 24, Op.binOp BinOp.eql 3 (Operand.tmp 22) (Operand.tmp 23) 3, none⟩, []⟩,
  ⟨⟨some 25, Op.move (Operand.tmp 24), none⟩, []⟩,
  ⟨⟨some 26, Op.indexAddr 71 (Operand.tmp 8) (Operand.const (Value.int IntKind.i64 1)), some (25, true)⟩, []⟩,
  ⟨⟨some 27, Op.load 3 (Operand.tmp 26), some (25, true)⟩, []⟩,
  ⟨⟨some 28, Op.move (Operand.tmp 2), some (25, true)⟩, []⟩,
  ⟨⟨some 29, Op.binOp BinOp.eql 3 (Operand.tmp 27) (Operand.tmp 28) 3, some (25, true)⟩, []⟩,
  ⟨⟨some 30, Op.pick (Operand.tmp 25) (Operand.tmp 29) (Operand.const (Value.bool false)), none⟩, []⟩,
  ⟨⟨some 31, Op.move (Operand.tmp 30), none⟩, []⟩,
  ⟨⟨some 32, Op.indexAddr 71 (Operand.tmp 8) (Operand.const (Value.int IntKind.i64 0)), some (31, false)⟩, []⟩,
  ⟨⟨some 33, Op.load 3 (Operand.tmp 32), some (31, false)⟩, []⟩,
  ⟨⟨some 34, Op.move (Operand.tmp 2), some (31, false)⟩, []⟩,
  ⟨⟨some 35, Op.binOp BinOp.eql 3 (Operand.tmp 33) (Operand.tmp 34) 3, some (31, false)⟩, []⟩,
  ⟨⟨some 36, Op.move (Operand.tmp 35), some (31, false)⟩, []⟩,
  ⟨⟨some 37, Op.indexAddr 71 (Operand.tmp 8) (Operand.const (Value.int IntKind.i64 1)), some (36, true)⟩, []⟩,
  ⟨⟨some 38, Op.load 3 (Operand.tmp 37), some (36, true)⟩, []⟩,
  ⟨⟨some 39, Op.move (Operand.tmp 1), some (36, true)⟩, []⟩,
  ⟨⟨some 40, Op.binOp BinOp.eql 3 (Operand.tmp 38) (Operand.tmp 39) 3, some (36, true)⟩, []⟩,
  ⟨⟨some 41, Op.pick (Operand.tmp 36) (Operand.tmp 40) (Operand.const (Value.bool false)), some (31, false)⟩, []⟩,
  ⟨⟨some 42, Op.pick (Operand.tmp 31) (Operand.const (Value.bool true)) (Operand.tmp 41), none⟩, []⟩]) (.cond (Operand.tmp 42) (.seq (.reg [⟨⟨some 6, Op.assign (Operand.const (Value.bool true)), none⟩, []⟩]) .ret) .skip)))) (.reg [⟨⟨some 14, Op.move (Operand.tmp 7), none⟩, []⟩,
  ⟨⟨some 15, Op.binOp BinOp.add 3 (Operand.tmp 14) (Operand.const (Value.int IntKind.i64 1)) 3, none⟩, []⟩,
  ⟨⟨some 7, Op.assign (Operand.tmp 15), none⟩, []⟩])))))) (.seq (.reg [⟨⟨some 6, Op.assign (Operand.const (Value.bool false)), none⟩, []⟩]) .ret)))
theorem sl141 : slim Try.f141.ntmps ords141 (Try.f141.body.getD .skip) = some cd141 := by kernel_rfl
theorem in141 {args : List Value} {H : AH} {R : Value → AH → Prop} (hl : args.length = 3) (h : ∀ (Q : Exit → Sl → AH → Prop), (∀ e s H, endA Try.prog [ResultVar.tmp 6] R e s H → Q e s H) → wpC Try.prog cd141 Q (enterA args) H) : ACalls Try.prog 141 args H R :=
  ACalls.intro (by kernel_rfl) Try.func141 rfl (by kernel_rfl) sl141 hl (of_decide_eq_true (by kernel_rfl)) (by kernel_rfl) h
end Go.Proofs.Ytldcbmmmheookaa.Ai
namespace Go.Proofs.Ytldcbmmmheookaa.Ai
open Go Go.RowKit
set_option linter.unusedVariables false
set_option linter.unusedSimpArgs false
def hitB (a b : Int) (e : Int × Int) : Bool := decide (e.1 = a ∧ e.2 = b ∨ e.1 = b ∧ e.2 = a)
/-- are two nodes neighbors -/
def nearB (es : List (Int × Int)) (a b : Int) : Bool := es.any (hitB a b)
theorem any_step {α : Type} (p : α → Bool) (xs : List α) (d : α) (i : Nat) (hi : i < xs.length) : (xs.drop i).any p = (p (xs.getD i d) || (xs.drop (i + 1)).any p) := by
  have : xs.getD i d = xs[i] := by simp [hi]
  rw [List.drop_eq_getElem_cons hi, List.any_cons, this]
theorem nearB_comm (es : List (Int × Int)) (a b : Int) : nearB es a b = nearB es b a := by
  have : hitB a b = hitB b a := by
    funext e
    unfold hitB
    rw [decide_eq_decide]
    exact ⟨fun h => h.elim .inr .inl, fun h => h.elim .inr .inl⟩
  unfold nearB
  rw [this]
theorem nearB_iff (es : List (Int × Int)) (a b : Int) : nearB es a b = true ↔ ((a, b) ∈ es ∨ (b, a) ∈ es) := by
  unfold nearB hitB
  rw [List.any_eq_true]
  constructor
  · rintro ⟨⟨x, y⟩, hm, h⟩
    rcases of_decide_eq_true h with h | h
    · obtain ⟨h1, h2⟩ := h
      simp only at h1 h2
      subst h1; subst h2; exact .inl hm
    · obtain ⟨h1, h2⟩ := h
      simp only at h1 h2
      subst h1; subst h2; exact .inr hm
  · rintro (h | h)
    · exact ⟨_, h, by simp⟩
    · exact ⟨_, h, by simp⟩
theorem grd_mem {n : Int} {es : List (Int × Int)} (hg : Grd n es) {e : Int × Int} (he : e ∈ es) : 0 ≤ e.1 ∧ e.1 < e.2 ∧ e.2 < n := by
  obtain ⟨i, hi, rfl⟩ := List.mem_iff_getElem.1 he
  obtain ⟨h1, h2, h3, _⟩ := hg.2 i hi
  have : es.getD i (0, 0) = es[i] := by simp [hi]
  rw [this] at h1 h2 h3
  exact ⟨h1, h2, h3⟩
/-- the neighbors of a node below k -/
def nbsU (es : List (Int × Int)) (x : Int) : Nat → List Int
  | 0 => []
  | k + 1 => nbsU es x k ++ if nearB es x k = true then [(k : Int)] else []
theorem nbsU_len (es : List (Int × Int)) (x : Int) (k : Nat) : (nbsU es x k).length ≤ k := by
  induction k with
  | zero => simp [nbsU]
  | succ k ih => simp only [nbsU, List.length_append]; split <;> simp <;> omega
theorem nbsU_mem (es : List (Int × Int)) (x : Int) (k : Nat) (y : Int) : y ∈ nbsU es x k ↔ (0 ≤ y ∧ y < k) ∧ nearB es x y = true := by
  induction k with
  | zero => simp [nbsU]; intro h1 h2; omega
  | succ k ih =>
    simp only [nbsU, List.mem_append, ih]
    constructor
    · rintro (⟨h1, h2⟩ | h)
      · exact ⟨by omega, h2⟩
      · split at h
        · rename_i hn
          simp only [List.mem_cons, List.not_mem_nil, or_false] at h
          subst h; exact ⟨by omega, hn⟩
        · simp at h
    · rintro ⟨h1, h2⟩
      by_cases h : y < k
      · exact .inl ⟨by omega, h2⟩
      · obtain rfl : y = k := by omega
        right; rw [if_pos h2]; simp
set_option maxRecDepth 20000 in
set_option maxHeartbeats 1000000 in
theorem l2Near_c (n : Int) (v : Value) (es : List (Int × Int)) (a b : Int) (H : AH) (hr : RowP 71 H v es) (hlen : es.length ≤ 1099511627776) :
    ACalls Try.prog 141 [.agg (List.toArray [.int .i64 n, v]), .int .i64 a, .int .i64 b] H fun r H' => r = .bool (nearB es a b) ∧ H <+: H' := by
  refine in141 rfl ?_
  intro Q hQ
  simp (maxSteps := 1000000) (disch := omega) only [cd141, hr.boxG, S, S1, S2, S3, S4, S5, ST, eq_self, reduceIte, reduceCtorEq, Nat.reduceEqDiff, Nat.reduceAdd]
  generalize hA : H ++ [AObj.cells [.int .i64 n, v] 26 false] = A
  have pA : H <+: A := by rw [← hA]; exact List.prefix_append _ _
  have cA : A[H.length]? = some (.cells [.int .i64 n, v] 26 false) := by rw [← hA]; exact at_new ..
  have rA := hr.pre pA
  try simp (maxSteps := 1000000) (disch := omega) only [S, S1, S2, S3, S4, S5, ST, eq_self, reduceIte, reduceCtorEq, Nat.reduceEqDiff, Nat.reduceAdd]
  refine LoopH.by (fun m s H' => ∃ i, m + i = es.length ∧ s 1 = .int .i64 a ∧ s 2 = .int .i64 b ∧ s 3 = .pointer (some ⟨H.length, 0, none⟩) ∧ s 7 = .int .i64 ((i : Nat) : Int) ∧ nearB es a b = (es.drop i).any (hitB a b) ∧ A <+: H') es.length ?_ ?_
  · exact ⟨0, by simp, rfl, rfl, rfl, rfl, by rw [List.drop_zero]; rfl, List.prefix_refl _⟩
  · rintro m s H' ⟨i, hm, h1, h2, h3, h7, hn, hp⟩
    have hr' := rA.pre hp
    have cH := pre_at hp cA
    have hpp := pA.trans hp
    simp (maxSteps := 1000000) (disch := omega) only [h1, h2, h3, h7, cell_of cH, hr'.len Try.underlying24, S, S1, S2, S3, S4, S5, ST, eq_self, reduceIte, reduceCtorEq, Nat.reduceEqDiff, Nat.reduceAdd]
    refine brD.intro (fun g => ?_) (fun g => ?_)
    · have hi : i < es.length := by omega
      have hst0 := store_a2 H' [.int .i64 0, .int .i64 0] rfl
      rw [any_step _ es (0, 0) i hi] at hn
      simp (maxSteps := 1000000) (disch := omega) only [h1, h2, h3, h7, cell_of cH, hr'.ix Try.underlying24 cs71, Int.toNat_natCast, hr'.ld ag71 cs71 hi, alloc_a2, hst0, cell_new, wrap64, S, S1, S2, S3, S4, S5, ST, eq_self, reduceIte, reduceCtorEq, Nat.reduceEqDiff, Nat.reduceAdd]
      generalize hx : es.getD i (0, 0) = x at *
      have pB : A <+: H' ++ [AObj.cells [.int .i64 x.1, .int .i64 x.2] 71 false] := pre_app hp _
      have yes : hitB a b x = true → nearB es a b = true := fun h => by rw [hn, h]; rfl
      have no : hitB a b x = false → nearB es a b = (es.drop (i + 1)).any (hitB a b) := fun h => by rw [hn, h]; rfl
      unfold hitB at yes no
      rw [decide_eq_true_iff] at yes
      rw [decide_eq_false_iff_not] at no
      have second : ¬ (x.1 = a ∧ x.2 = b) → True := fun _ => trivial
      refine brD.intro (fun e1 => ?_) (fun e1 => ?_) <;> (first | have de1 := decide_eq_false e1 | have de1 := decide_eq_true e1) <;> simp (maxSteps := 1000000) (disch := omega) only [de1, h1, h2, h3, h7, cell_new, wrap64, S, S1, S2, S3, S4, S5, ST, eq_self, reduceIte, reduceCtorEq, Nat.reduceEqDiff, Nat.reduceAdd]
      · refine brD.intro (fun e2 => ?_) (fun e2 => ?_) <;> (first | have de2 := decide_eq_false e2 | have de2 := decide_eq_true e2) <;> simp (maxSteps := 1000000) (disch := omega) only [de1, de2, h1, h2, h3, h7, cell_new, wrap64, S, S1, S2, S3, S4, S5, ST, eq_self, reduceIte, reduceCtorEq, Nat.reduceEqDiff, Nat.reduceAdd]
        · refine hQ _ _ _ ?_
          simp (maxSteps := 1000000) (disch := omega) only [S, S1, S2, S3, S4, S5, ST, eq_self, reduceIte, reduceCtorEq, Nat.reduceEqDiff, Nat.reduceAdd]
          exact ⟨by rw [yes (by omega)], pA.trans pB⟩
        · refine brD.intro (fun e3 => ?_) (fun e3 => ?_) <;> (first | have de3 := decide_eq_false e3 | have de3 := decide_eq_true e3) <;> simp (maxSteps := 1000000) (disch := omega) only [de1, de2, de3, h1, h2, h3, h7, cell_new, wrap64, S, S1, S2, S3, S4, S5, ST, eq_self, reduceIte, reduceCtorEq, Nat.reduceEqDiff, Nat.reduceAdd]
          · refine brD.intro (fun e4 => ?_) (fun e4 => ?_) <;> (first | have de4 := decide_eq_false e4 | have de4 := decide_eq_true e4) <;> simp (maxSteps := 1000000) (disch := omega) only [de1, de2, de3, de4, h1, h2, h3, h7, cell_new, wrap64, S, S1, S2, S3, S4, S5, ST, eq_self, reduceIte, reduceCtorEq, Nat.reduceEqDiff, Nat.reduceAdd]
            · refine hQ _ _ _ ?_
              simp (maxSteps := 1000000) (disch := omega) only [S, S1, S2, S3, S4, S5, ST, eq_self, reduceIte, reduceCtorEq, Nat.reduceEqDiff, Nat.reduceAdd]
              exact ⟨by rw [yes (by omega)], pA.trans pB⟩
            · have f1 := no (by omega)
              refine ⟨m - 1, by omega, i + 1, ?_⟩
              (repeat' first | exact f1 | exact pB | apply And.intro) <;> first | (simp only [Value.int.injEq, true_and]; omega) | omega | rfl | assumption | (simp; done) | (simp; omega)
          · have f1 := no (by omega)
            refine ⟨m - 1, by omega, i + 1, ?_⟩
            (repeat' first | exact f1 | exact pB | apply And.intro) <;> first | (simp only [Value.int.injEq, true_and]; omega) | omega | rfl | assumption | (simp; done) | (simp; omega)
      · refine brD.intro (fun e3 => ?_) (fun e3 => ?_) <;> (first | have de3 := decide_eq_false e3 | have de3 := decide_eq_true e3) <;> simp (maxSteps := 1000000) (disch := omega) only [de1, de3, h1, h2, h3, h7, cell_new, wrap64, S, S1, S2, S3, S4, S5, ST, eq_self, reduceIte, reduceCtorEq, Nat.reduceEqDiff, Nat.reduceAdd]
        · refine brD.intro (fun e4 => ?_) (fun e4 => ?_) <;> (first | have de4 := decide_eq_false e4 | have de4 := decide_eq_true e4) <;> simp (maxSteps := 1000000) (disch := omega) only [de1, de3, de4, h1, h2, h3, h7, cell_new, wrap64, S, S1, S2, S3, S4, S5, ST, eq_self, reduceIte, reduceCtorEq, Nat.reduceEqDiff, Nat.reduceAdd]
          · refine hQ _ _ _ ?_
            simp (maxSteps := 1000000) (disch := omega) only [S, S1, S2, S3, S4, S5, ST, eq_self, reduceIte, reduceCtorEq, Nat.reduceEqDiff, Nat.reduceAdd]
            exact ⟨by rw [yes (by omega)], pA.trans pB⟩
          · have f1 := no (by omega)
            refine ⟨m - 1, by omega, i + 1, ?_⟩
            (repeat' first | exact f1 | exact pB | apply And.intro) <;> first | (simp only [Value.int.injEq, true_and]; omega) | omega | rfl | assumption | (simp; done) | (simp; omega)
        · have f1 := no (by omega)
          refine ⟨m - 1, by omega, i + 1, ?_⟩
          (repeat' first | exact f1 | exact pB | apply And.intro) <;> first | (simp only [Value.int.injEq, true_and]; omega) | omega | rfl | assumption | (simp; done) | (simp; omega)
    · simp (maxSteps := 1000000) (disch := omega) only [h1, h2, h3, h7, S, S1, S2, S3, S4, S5, ST, eq_self, reduceIte, reduceCtorEq, Nat.reduceEqDiff, Nat.reduceAdd]
      refine hQ _ _ _ ?_
      simp (maxSteps := 1000000) (disch := omega) only [S, S1, S2, S3, S4, S5, ST, eq_self, reduceIte, reduceCtorEq, Nat.reduceEqDiff, Nat.reduceAdd]
      rw [hn, List.drop_of_length_le (by omega)]
      exact ⟨rfl, hpp⟩
end Go.Proofs.Ytldcbmmmheookaa.Ai
namespace Go.Proofs.Ytldcbmmmheookaa.Ai
open Go
set_option linter.unusedVariables false
def rcIn (es : List (Int × Int)) (out : List Int) (y : Int) : List Int := if y ∈ out then out else if (out.any fun o => nearB es o y) = true then put out y else out
def rcRound (es : List (Int × Int)) (set out : List Int) : List Int := set.foldl (rcIn es) out
def rcIter (es : List (Int × Int)) (set : List Int) : Nat → List Int → List Int
  | 0, o => o
  | k + 1, o => rcRound es set (rcIter es set k o)
/-- the numbers of a set that are reached from one of them -/
def reachL (es : List (Int × Int)) (set : List Int) (x : Int) : List Int := rcIter es set set.length [x]
def pcS (es : List (Int × Int)) (set : List Int) (st : List (List Int) × List Int) (x : Int) : List (List Int) × List Int :=
  if x ∈ st.2 then st else (st.1 ++ [reachL es set x], (reachL es set x).foldl put st.2)
def pcK (es : List (Int × Int)) (set : List Int) (l : List Int) : List (List Int) × List Int := l.foldl (pcS es set) ([], [])
/-- all pieces of a set -/
def piecesL (es : List (Int × Int)) (set : List Int) : List (List Int) := (pcK es set set).1
/-- reached by roads, all of them to places of a kind -/
inductive Rch (adj : Int → Int → Prop) (S : Int → Prop) (x : Int) : Int → Prop
  | refl : Rch adj S x x
  | step {y z : Int} : Rch adj S x y → adj y z → S z → Rch adj S x z
theorem Rch.mono {adj : Int → Int → Prop} {S T : Int → Prop} {x z : Int} (h : Rch adj S x z) (hs : ∀ y, S y → T y) : Rch adj T x z := by
  induction h with
  | refl => exact .refl
  | step _ h1 h2 ih => exact .step ih h1 (hs _ h2)
theorem Rch.in_ {adj : Int → Int → Prop} {S : Int → Prop} {x z : Int} (h : Rch adj S x z) (hx : S x) : S z := by
  cases h with
  | refl => exact hx
  | step _ _ h2 => exact h2
theorem nodup_le {a b : List Int} (ha : a.Nodup) (h : ∀ x ∈ a, x ∈ b) : a.length ≤ b.length := by
  induction a generalizing b with
  | nil => simp
  | cons x a ih =>
    have hx : x ∈ b := h x (by simp)
    rw [List.nodup_cons] at ha
    have hl := List.length_erase_of_mem hx
    have hp := List.length_pos_of_mem hx
    have := ih (b := b.erase x) ha.2 fun y hy => (List.mem_erase_of_ne (fun e : y = x => ha.1 (by rw [← e]; exact hy))).2 (h y (by simp [hy]))
    simp only [List.length_cons]
    omega
theorem lt_nodup {l : List Int} (h : l.Pairwise (· < ·)) : l.Nodup := h.imp fun h => by omega
theorem rcIn_mem (es : List (Int × Int)) (out : List Int) (y : Int) {z : Int} (h : z ∈ out) : z ∈ rcIn es out y := by
  unfold rcIn
  split
  · exact h
  · split
    · exact (put_mem _ _ _).2 (.inr h)
    · exact h
theorem fold_mem (es : List (Int × Int)) (set : List Int) : ∀ (out : List Int) {z : Int}, z ∈ out → z ∈ set.foldl (rcIn es) out := by
  induction set with
  | nil => intro out z h; exact h
  | cons y ys ih => intro out z h; exact ih _ (rcIn_mem es out y h)
theorem rcIn_srt (es : List (Int × Int)) (out : List Int) (y : Int) (h : out.Pairwise (· < ·)) : (rcIn es out y).Pairwise (· < ·) := by
  unfold rcIn
  split
  · exact h
  · split
    · exact put_sorted _ _ h
    · exact h
theorem fold_srt (es : List (Int × Int)) (set : List Int) : ∀ (out : List Int), out.Pairwise (· < ·) → (set.foldl (rcIn es) out).Pairwise (· < ·) := by
  induction set with
  | nil => intro out h; exact h
  | cons y ys ih => intro out h; exact ih _ (rcIn_srt es out y h)
theorem rcIn_inv (es : List (Int × Int)) (S : Int → Prop) (x : Int) (out : List Int) (y : Int) (hy : S y) (h : ∀ z ∈ out, Rch (fun a b => nearB es a b = true) S x z) : ∀ z ∈ rcIn es out y, Rch (fun a b => nearB es a b = true) S x z := by
  unfold rcIn
  split
  · exact h
  · split
    · rename_i e
      intro z hz
      rcases (put_mem _ _ _).1 hz with rfl | hz
      · obtain ⟨o, ho, hn⟩ := List.any_eq_true.1 e
        exact .step (h o ho) hn hy
      · exact h z hz
    · exact h
theorem fold_inv (es : List (Int × Int)) (S : Int → Prop) (x : Int) (set : List Int) : ∀ (out : List Int), (∀ y ∈ set, S y) → (∀ z ∈ out, Rch (fun a b => nearB es a b = true) S x z) → ∀ z ∈ set.foldl (rcIn es) out, Rch (fun a b => nearB es a b = true) S x z := by
  induction set with
  | nil => intro out _ h; exact h
  | cons y ys ih => intro out hs h; exact ih _ (fun z hz => hs z (by simp [hz])) (rcIn_inv es S x out y (hs y (by simp)) h)
theorem rcIter_srt (es : List (Int × Int)) (set : List Int) (x : Int) (k : Nat) : (rcIter es set k [x]).Pairwise (· < ·) := by
  induction k with
  | zero => exact List.pairwise_singleton _ _
  | succ k ih => exact fold_srt es set _ ih
theorem rcIter_x (es : List (Int × Int)) (set : List Int) (x : Int) (k : Nat) : x ∈ rcIter es set k [x] := by
  induction k with
  | zero => simp [rcIter]
  | succ k ih => exact fold_mem es set _ ih
theorem rcIter_inv (es : List (Int × Int)) (set : List Int) (x : Int) (k : Nat) : ∀ z ∈ rcIter es set k [x], Rch (fun a b => nearB es a b = true) (· ∈ set) x z := by
  induction k with
  | zero => intro z hz; simp [rcIter] at hz; subst hz; exact .refl
  | succ k ih => exact fold_inv es (· ∈ set) x set _ (fun _ h => h) ih
def Clo (es : List (Int × Int)) (set out : List Int) : Prop := ∀ a ∈ out, ∀ b ∈ set, nearB es a b = true → b ∈ out
theorem fold_get (es : List (Int × Int)) {a b : Int} (hn : nearB es a b = true) : ∀ (set out : List Int), b ∈ set → a ∈ out → b ∈ set.foldl (rcIn es) out
  | [], out, h, _ => by simp at h
  | y :: ys, out, h, ha => by
    rw [List.foldl_cons]
    rcases List.mem_cons.1 h with rfl | h
    · refine fold_mem es ys _ ?_
      unfold rcIn
      split
      · rename_i hm; exact hm
      · rw [if_pos (List.any_eq_true.2 ⟨a, ha, hn⟩)]
        exact (put_mem _ _ _).2 (.inl rfl)
    · exact fold_get es hn ys _ h (rcIn_mem es out y ha)
theorem fold_clo (es : List (Int × Int)) (set : List Int) (out : List Int) (hc : Clo es set out) : ∀ l : List Int, (∀ y ∈ l, y ∈ set) → l.foldl (rcIn es) out = out
  | [], _ => rfl
  | y :: ys, h => by
    have : rcIn es out y = out := by
      unfold rcIn
      split
      · rfl
      · rename_i hm
        rw [if_neg]
        intro e
        obtain ⟨o, ho, hn⟩ := List.any_eq_true.1 e
        exact hm (hc o ho y (h y (by simp)) hn)
    rw [List.foldl_cons, this]
    exact fold_clo es set out hc ys fun z hz => h z (by simp [hz])
theorem rcIter_or (es : List (Int × Int)) (set : List Int) (x : Int) (k : Nat) : Clo es set (rcIter es set k [x]) ∨ k + 1 ≤ (rcIter es set k [x]).length := by
  induction k with
  | zero => exact .inr (by simp [rcIter])
  | succ k ih =>
    by_cases hc : Clo es set (rcIter es set k [x])
    · left
      have : rcIter es set (k + 1) [x] = rcIter es set k [x] := fold_clo es set _ hc set fun _ h => h
      rw [this]; exact hc
    · right
      have ih := ih.resolve_left hc
      have hex : ∃ a b, a ∈ rcIter es set k [x] ∧ b ∈ set ∧ nearB es a b = true ∧ b ∉ rcIter es set k [x] := Classical.byContradiction fun h => hc fun a ha b hb hn => Classical.byContradiction fun hm => h ⟨a, b, ha, hb, hn, hm⟩
      obtain ⟨a, b, ha, hb, hn, hm⟩ := hex
      have hb2 : b ∈ rcIter es set (k + 1) [x] := fold_get es hn set _ hb ha
      have := nodup_le (a := b :: rcIter es set k [x]) (b := rcIter es set (k + 1) [x]) (by
        rw [List.nodup_cons]; exact ⟨hm, lt_nodup (rcIter_srt es set x k)⟩) (by
        intro z hz
        rcases List.mem_cons.1 hz with rfl | hz
        · exact hb2
        · exact fold_mem es set _ hz)
      simp only [List.length_cons] at this
      omega
theorem reach_iff (es : List (Int × Int)) (set : List Int) (x : Int) (hx : x ∈ set) (z : Int) : z ∈ reachL es set x ↔ Rch (fun a b => nearB es a b = true) (· ∈ set) x z := by
  constructor
  · exact rcIter_inv es set x _ z
  · have hc : Clo es set (reachL es set x) := by
      rcases rcIter_or es set x set.length with h | h
      · exact h
      · have := nodup_le (a := rcIter es set set.length [x]) (b := set) (lt_nodup (rcIter_srt es set x _)) fun y hy => (rcIter_inv es set x _ y hy).in_ hx
        omega
    intro h
    induction h with
    | refl => exact rcIter_x es set x _
    | step _ h1 h2 ih => exact hc _ ih _ h2 h1
theorem puts_mem (z : Int) : ∀ (l s : List Int), z ∈ l.foldl put s ↔ z ∈ l ∨ z ∈ s
  | [], s => by simp
  | y :: ys, s => by
    rw [List.foldl_cons, puts_mem z ys, put_mem, List.mem_cons]
    constructor
    · rintro (h | h | h)
      · exact .inl (.inr h)
      · exact .inl (.inl h)
      · exact .inr h
    · rintro ((h | h) | h)
      · exact .inr (.inl h)
      · exact .inl h
      · exact .inr (.inr h)
theorem ptIn_seen {N C : Nat} (v : Nat) (hv : v < N) : ∀ (l : List Int) (st : List Bool × List Int), PI N C st → (∀ y ∈ l, 0 ≤ y ∧ y < N) → ((ptIn l st).1.getD v false = true ↔ (st.1.getD v false = true ∨ (v : Int) ∈ l))
  | [], st, h, _ => by simp [ptIn]
  | j :: r, st, h, hl => by
    have hj := hl j (by simp)
    simp only [ptIn]
    split
    · rename_i hs
      rw [ptIn_seen v hv r st h (fun y hy => hl y (by simp [hy])), List.mem_cons]
      constructor
      · rintro (h1 | h1)
        · exact .inl h1
        · exact .inr (.inr h1)
      · rintro (h1 | h1 | h1)
        · exact .inl h1
        · left; rw [← h1] at hs; simpa using hs
        · exact .inr h1
    · rename_i hn
      have hlen := h.len
      rw [ptIn_seen v hv r _ (h.put hj hn) (fun y hy => hl y (by simp [hy])), List.mem_cons]
      show ((st.1.set j.toNat true).getD v false = true ∨ _) ↔ _
      rw [getD_setBool _ _ _ _ (by omega)]
      by_cases e : j.toNat = v
      · rw [if_pos e]
        have : (v : Int) = j := by omega
        simp [this]
      · rw [if_neg e]
        have : ¬ (v : Int) = j := by omega
        simp [this]
theorem ptIn_q (z : Int) : ∀ (l : List Int) (st : List Bool × List Int), z ∈ (ptIn l st).2 → z ∈ st.2 ∨ (z ∈ l ∧ ¬ st.1.getD z.toNat false = true)
  | [], st, h => .inl h
  | j :: r, st, h => by
    simp only [ptIn] at h
    split at h
    · rcases ptIn_q z r st h with h | ⟨h, h2⟩
      · exact .inl h
      · exact .inr ⟨by simp [h], h2⟩
    · rename_i hn
      rcases ptIn_q z r _ h with h | ⟨h, h2⟩
      · simp only [List.mem_append, List.mem_cons, List.not_mem_nil, or_false] at h
        rcases h with h | rfl
        · exact .inl h
        · exact .inr ⟨by simp, hn⟩
      · refine .inr ⟨by simp [h], fun h3 => h2 ?_⟩
        show (st.1.set j.toNat true).getD z.toNat false = true
        rw [List.getD_eq_getElem?_getD, List.getElem?_set]
        rw [List.getD_eq_getElem?_getD] at h3
        split
        · split
          · rfl
          · rename_i e1 e2
            rw [← e1, List.getElem?_eq_none (by omega)] at h3
            exact h3
        · exact h3
/-- what holds of the queue from a place, all along: s is what was seen before -/
structure QI (L : List (List Int)) (s : List Bool) (x : Nat) (C : Nat) (st : List Bool × List Int) (k : Nat) : Prop where
  pi : PI L.length C st
  seen : ∀ v, v < L.length → (st.1.getD v false = true ↔ (s.getD v false = true ∨ (v : Int) ∈ st.2))
  rch : ∀ z ∈ st.2, Rch (fun a b => b ∈ L.getD a.toNat []) (fun z => 0 ≤ z ∧ z < L.length ∧ ¬ s.getD z.toNat false = true) x z
  cl : ∀ i, i < k → ∀ y ∈ L.getD (st.2.getD i 0).toNat [], st.1.getD y.toNat false = true
  le : k ≤ st.2.length
  x : (x : Int) ∈ st.2
theorem QI.step {L : List (List Int)} (hL : LOk L.length L) {s : List Bool} {x C : Nat} {st : List Bool × List Int} {k : Nat} (h : QI L s x C st k) (hk : k < st.2.length) : QI L s x C (ptIn (L.getD (st.2.getD k 0).toNat []) st) (k + 1) := by
  have hpre := ptIn_pre (L.getD (st.2.getD k 0).toNat []) st
  have hPI := PI.inn _ h.pi (hL (st.2.getD k 0).toNat)
  have hm : st.2.getD k 0 ∈ st.2 := by simp [hk]
  have hsn : ∀ v, v < L.length → _ := fun v hv => ptIn_seen v hv (L.getD (st.2.getD k 0).toNat []) st h.pi (hL _)
  refine ⟨hPI, ?_, ?_, ?_, ?_, hpre.subset h.x⟩
  · intro v hv
    constructor
    · intro hh
      rcases (hsn v hv).1 hh with h1 | h1
      · rcases (h.seen v hv).1 h1 with h2 | h2
        · exact .inl h2
        · exact .inr (hpre.subset h2)
      · by_cases h2 : st.1.getD v false = true
        · rcases (h.seen v hv).1 h2 with h2 | h2
          · exact .inl h2
          · exact .inr (hpre.subset h2)
        · right
          -- it is put into the queue
          have key : ∀ (l : List Int) (st : List Bool × List Int), PI L.length C st → (∀ y ∈ l, 0 ≤ y ∧ y < L.length) → (v : Int) ∈ l → ¬ st.1.getD v false = true → (v : Int) ∈ (ptIn l st).2 := by
            intro l
            induction l with
            | nil => intro st _ _ h3; simp at h3
            | cons j r ih =>
              intro st hp hl h3 h4
              have hj := hl j (by simp)
              simp only [ptIn]
              by_cases e : j = (v : Int)
              · subst e
                rw [Int.toNat_natCast, if_neg h4]
                exact (ptIn_pre r _).subset (by simp)
              · have h3' : (v : Int) ∈ r := by
                  rcases List.mem_cons.1 h3 with h | h
                  · exact absurd h.symm e
                  · exact h
                split
                · exact ih st hp (fun y hy => hl y (by simp [hy])) h3' h4
                · rename_i hn
                  refine ih _ (hp.put hj hn) (fun y hy => hl y (by simp [hy])) h3' ?_
                  show ¬ (st.1.set j.toNat true).getD v false = true
                  have := hp.len
                  rw [getD_setBool _ _ _ _ (by omega), if_neg (by omega)]
                  exact h4
          exact key _ st h.pi (hL _) h1 h2
    · rintro (h1 | h1)
      · exact (hsn v hv).2 (.inl ((h.seen v hv).2 (.inl h1)))
      · obtain ⟨_, h2⟩ := hPI.q _ h1
        simpa using h2
  · intro z hz
    rcases ptIn_q z _ st hz with h1 | ⟨h1, h2⟩
    · exact h.rch z h1
    · have hr := hL _ z h1
      refine .step (h.rch _ hm) h1 ⟨hr.1, hr.2, fun h3 => h2 ?_⟩
      exact (h.seen z.toNat (by omega)).2 (.inl h3)
  · intro i hi y hy
    have hg : (ptIn (L.getD (st.2.getD k 0).toNat []) st).2.getD i 0 = st.2.getD i 0 := by
      obtain ⟨t, ht⟩ := hpre
      rw [← ht, List.getD_eq_getElem?_getD, List.getElem?_append_left (by omega), ← List.getD_eq_getElem?_getD]
    rw [hg] at hy
    have hr := hL _ y hy
    refine (hsn y.toNat (by omega)).2 ?_
    by_cases e : i = k
    · subst e
      right
      rw [Int.toNat_of_nonneg hr.1]; exact hy
    · exact .inl (h.cl i (by omega) y hy)
  · have := hpre.length_le
    by_cases e : (ptIn (L.getD (st.2.getD k 0).toNat []) st).2.length = st.2.length <;> omega
theorem QI.run {L : List (List Int)} (hL : LOk L.length L) {s : List Bool} {x C : Nat} : ∀ (f : Nat) (st : List Bool × List Int) (k : Nat), f + k = L.length + 1 → QI L s x C st k → QI L s x C (ptF L f st k) (ptF L f st k).2.length
  | 0, st, k, hf, h => by have := h.pi.len_le; have := h.le; omega
  | f + 1, st, k, hf, h => by
    simp only [ptF]
    split
    · rename_i hk
      exact QI.run hL f _ _ (by omega) (h.step hL hk)
    · have : k = st.2.length := by have := h.le; omega
      rw [← this]; exact h
theorem srt_ext {a b : List Int} (ha : a.Pairwise (· < ·)) (hb : b.Pairwise (· < ·)) (h : ∀ z, z ∈ a ↔ z ∈ b) : a = b := by
  have hp : a.Perm b := (List.perm_ext_iff_of_nodup (lt_nodup ha) (lt_nodup hb)).2 h
  exact List.Perm.eq_of_pairwise (le := (· < ·)) (fun x y _ _ h1 h2 => by omega) ha hb hp
end Go.Proofs.Ytldcbmmmheookaa.Ai
namespace Go.Proofs.Ytldcbmmmheookaa.Ai
open Go
set_option linter.unusedVariables false
structure DI (L : List (List Int)) (i : Nat) (st : List Int × List Int) (k : Nat) : Prop where
  bi : BI L.length st
  iff : ∀ v, v < L.length → (0 ≤ st.1.getD v 0 ↔ (v : Int) ∈ st.2)
  src : ∀ v, v < L.length → 0 ≤ st.1.getD v 0 → (v = i ∧ st.1.getD v 0 = 0) ∨ ∃ u, u < L.length ∧ 0 ≤ st.1.getD u 0 ∧ (v : Int) ∈ L.getD u [] ∧ st.1.getD v 0 = st.1.getD u 0 + 1
  cl : ∀ j, j < k → ∀ y ∈ L.getD (st.2.getD j 0).toNat [], 0 ≤ st.1.getD y.toNat 0
  le : k ≤ st.2.length
  at_ : 0 ≤ st.1.getD i 0
theorem bfsIn_keep (d : Int) (v : Nat) : ∀ (l : List Int) (st : List Int × List Int), (∀ y ∈ l, 0 ≤ y ∧ y < st.1.length) → 0 ≤ st.1.getD v 0 → (bfsIn d l st).1.getD v 0 = st.1.getD v 0
  | [], st, _, _ => rfl
  | j :: r, st, hl, h => by
    simp only [bfsIn]
    have hj := hl j (by simp)
    split
    · rename_i hn
      have hvj : j.toNat ≠ v := fun e => by rw [e] at hn; omega
      have e1 : (st.1.set j.toNat d).getD v 0 = st.1.getD v 0 := by
        rw [List.getD_eq_getElem?_getD, List.getD_eq_getElem?_getD, List.getElem?_set_ne hvj]
      rw [bfsIn_keep d v r _ (fun y hy => by simpa using hl y (by simp [hy])) (by show 0 ≤ (st.1.set j.toNat d).getD v 0; rw [e1]; exact h)]
      exact e1
    · exact bfsIn_keep d v r st (fun y hy => hl y (by simp [hy])) h
theorem bfsIn_new (d : Int) (hd : 0 ≤ d) (v : Nat) : ∀ (l : List Int) (st : List Int × List Int), (∀ y ∈ l, 0 ≤ y ∧ y < st.1.length) → v < st.1.length → st.1.getD v 0 < 0 →
    (((v : Int) ∈ l ∧ (bfsIn d l st).1.getD v 0 = d ∧ (v : Int) ∈ (bfsIn d l st).2) ∨ ((v : Int) ∉ l ∧ (bfsIn d l st).1.getD v 0 = st.1.getD v 0 ∧ ((v : Int) ∈ (bfsIn d l st).2 → (v : Int) ∈ st.2)))
  | [], st, _, _, h => .inr ⟨by simp, rfl, id⟩
  | j :: r, st, hl, hv, h => by
    have hj := hl j (by simp)
    simp only [bfsIn]
    by_cases e : j = (v : Int)
    · subst e
      rw [Int.toNat_natCast, if_pos h]
      have e1 : (st.1.set v d).getD v 0 = d := by rw [getD_setB _ _ _ _ hv, if_pos rfl]
      refine .inl ⟨by simp, ?_, ?_⟩
      · rw [bfsIn_keep d v r _ (fun y hy => by simpa using hl y (by simp [hy])) (by show 0 ≤ (st.1.set v d).getD v 0; rw [e1]; exact hd)]
        exact e1
      · exact (bfsIn_pre d r _).subset (by simp)
    · have hne : ¬ (v : Int) = j := fun h => e h.symm
      split
      · rename_i hn
        have e1 : (st.1.set j.toNat d).getD v 0 = st.1.getD v 0 := by
          rw [getD_setB _ _ _ _ hv, if_neg (by omega)]
        rcases bfsIn_new d hd v r (st.1.set j.toNat d, st.2 ++ [j]) (fun y hy => by simpa using hl y (by simp [hy])) (by simpa using hv) (by show (st.1.set j.toNat d).getD v 0 < 0; rw [e1]; exact h) with ⟨h1, h2, h3⟩ | ⟨h1, h2, h3⟩
        · exact .inl ⟨by simp [h1], h2, h3⟩
        · refine .inr ⟨by simp [hne, h1], by rw [h2]; exact e1, fun h4 => ?_⟩
          have := h3 h4
          simpa [hne] using this
      · rcases bfsIn_new d hd v r st (fun y hy => hl y (by simp [hy])) hv h with ⟨h1, h2, h3⟩ | ⟨h1, h2, h3⟩
        · exact .inl ⟨by simp [h1], h2, h3⟩
        · exact .inr ⟨by simp [hne, h1], h2, h3⟩
theorem DI.step {L : List (List Int)} (hL : LOk L.length L) {i : Nat} {st : List Int × List Int} {k : Nat} (h : DI L i st k) (hk : k < st.2.length) :
    DI L i (bfsIn (st.1.getD (st.2.getD k 0).toNat 0 + 1) (L.getD (st.2.getD k 0).toNat []) st) (k + 1) := by
  have hm : st.2.getD k 0 ∈ st.2 := by simp [hk]
  obtain ⟨hxr, hx0⟩ := h.bi.q _ hm
  have hlo := h.bi.lo (st.2.getD k 0).toNat (by omega)
  have hlen := h.bi.len
  generalize hx : (st.2.getD k 0).toNat = x at *
  generalize hd : st.1.getD x 0 + 1 = d at *
  have hl := hL x
  have hl' : ∀ y ∈ L.getD x [], 0 ≤ y ∧ y < (st.1.length : Int) := by rw [hlen]; exact hl
  have hbi := BI.inn (d := d) _ h.bi hl (by omega)
  have hpre := bfsIn_pre d (L.getD x []) st
  have keep : ∀ v, 0 ≤ st.1.getD v 0 → _ := fun v hv => bfsIn_keep d v (L.getD x []) st hl' hv
  have new : ∀ v, v < L.length → st.1.getD v 0 < 0 → _ := fun v hv hn => bfsIn_new d (by omega) v (L.getD x []) st hl' (by omega) hn
  refine ⟨hbi, ?_, ?_, ?_, ?_, ?_⟩
  · intro v hv
    by_cases hn : 0 ≤ st.1.getD v 0
    · rw [keep v hn]
      exact ⟨fun _ => hpre.subset ((h.iff v hv).1 hn), fun _ => hn⟩
    · rcases new v hv (by omega) with ⟨h1, h2, h3⟩ | ⟨h1, h2, h3⟩
      · rw [h2]; exact ⟨fun _ => h3, fun _ => by omega⟩
      · rw [h2]; exact ⟨fun g => absurd g hn, fun g => (h.iff v hv).2 (h3 g)⟩
  · intro v hv hp
    by_cases hn : 0 ≤ st.1.getD v 0
    · rw [keep v hn]
      rcases h.src v hv hn with h1 | ⟨u, u1, u2, u3, u4⟩
      · exact .inl h1
      · exact .inr ⟨u, u1, by rw [keep u u2]; exact u2, u3, by rw [keep u u2]; exact u4⟩
    · rcases new v hv (by omega) with ⟨h1, h2, h3⟩ | ⟨h1, h2, h3⟩
      · refine .inr ⟨x, by omega, by rw [keep x hx0]; exact hx0, h1, ?_⟩
        rw [h2, keep x hx0, ← hd]
      · rw [h2] at hp; exact absurd hp hn
  · intro j hj y hy
    have hg : (bfsIn d (L.getD x []) st).2.getD j 0 = st.2.getD j 0 := by
      obtain ⟨t, ht⟩ := hpre
      rw [← ht, List.getD_eq_getElem?_getD, List.getElem?_append_left (by omega), ← List.getD_eq_getElem?_getD]
    rw [hg] at hy
    by_cases hn : 0 ≤ st.1.getD y.toNat 0
    · rw [keep _ hn]; exact hn
    · by_cases e : j = k
      · subst e
        rw [hx] at hy
        have hr := hl y hy
        rcases new y.toNat (by omega) (by omega) with ⟨h1, h2, h3⟩ | ⟨h1, h2, h3⟩
        · rw [h2]; omega
        · rw [Int.toNat_of_nonneg hr.1] at h1; exact absurd hy h1
      · exact absurd (h.cl j (by omega) y hy) hn
  · have := hpre.length_le
    omega
  · rw [keep i h.at_]; exact h.at_
theorem DI.run {L : List (List Int)} (hL : LOk L.length L) {i : Nat} : ∀ (f : Nat) (st : List Int × List Int) (k : Nat), f + k = L.length + 1 → DI L i st k → ∃ q, DI L i (bfsF L f st k, q) q.length
  | 0, st, k, hf, h => by have := h.bi.len_le; have := h.le; omega
  | f + 1, st, k, hf, h => by
    simp only [bfsF]
    split
    · rename_i hk
      exact DI.run hL f _ _ (by omega) (h.step hL hk)
    · have e : k = st.2.length := by have := h.le; omega
      exact ⟨st.2, by rw [← e]; exact h⟩
theorem DI.zero {L : List (List Int)} {i : Nat} (hi : i < L.length) : DI L i (bfs0 L.length i, [(i : Int)]) 0 := by
  have hat : ∀ v, v < L.length → (bfs0 L.length i).getD v 0 = if i = v then 0 else -1 := by
    intro v hv
    unfold bfs0
    rw [getD_setB _ _ _ _ (by simpa using hv)]
    split
    · rfl
    · rw [List.getD_eq_getElem?_getD, List.getElem?_replicate, if_pos hv]; rfl
  refine ⟨bfs0_BI _ i hi, ?_, ?_, fun j hj => absurd hj (Nat.not_lt_zero j), Nat.zero_le _, ?_⟩
  · intro v hv
    show 0 ≤ (bfs0 L.length i).getD v 0 ↔ (v : Int) ∈ [(i : Int)]
    rw [hat v hv, List.mem_singleton]
    split <;> omega
  · intro v hv h
    left
    have h' : 0 ≤ (bfs0 L.length i).getD v 0 := h
    rw [hat v hv] at h'
    show v = i ∧ (bfs0 L.length i).getD v 0 = 0
    rw [hat v hv]
    by_cases e : i = v
    · exact ⟨e.symm, by rw [if_pos e]⟩
    · rw [if_neg e] at h'; omega
  · show 0 ≤ (bfs0 L.length i).getD i 0
    rw [hat i hi, if_pos rfl]; omega
theorem bfs_DI {L : List (List Int)} (hL : LOk L.length L) {i : Nat} (hi : i < L.length) : ∃ q, DI L i (bfs L i, q) q.length := DI.run hL _ _ _ (by omega) (DI.zero hi)
/-- neighbors of what is met are met -/
theorem bfs_clo {L : List (List Int)} (hL : LOk L.length L) {i : Nat} (hi : i < L.length) {u : Nat} (hu : u < L.length) (h0 : 0 ≤ (bfs L i).getD u 0) {y : Int} (hy : y ∈ L.getD u []) : 0 ≤ (bfs L i).getD y.toNat 0 := by
  obtain ⟨q, h⟩ := bfs_DI hL hi
  obtain ⟨j, hj, e⟩ := List.mem_iff_getElem.1 ((h.iff u hu).1 h0)
  refine h.cl j hj y ?_
  have e2 : q.getD j 0 = (u : Int) := by simp [hj, e]
  show y ∈ L.getD (q.getD j 0).toNat []
  rw [e2, Int.toNat_natCast]; exact hy
/-- the distance of a place in the queue -/
def dq (st : List Int × List Int) (a : Nat) : Int := st.1.getD (st.2.getD a 0).toNat 0
theorem bfsIn_mono (d : Int) (hd : 0 ≤ d) : ∀ (l : List Int) (st : List Int × List Int), (∀ y ∈ l, 0 ≤ y ∧ y < st.1.length) → (∀ x ∈ st.2, (0 ≤ x ∧ x < st.1.length) ∧ 0 ≤ st.1.getD x.toNat 0) →
    (∀ a b, a ≤ b → b < st.2.length → dq st a ≤ dq st b) → (∀ b, b < st.2.length → dq st b ≤ d) →
    (∀ a b, a ≤ b → b < (bfsIn d l st).2.length → dq (bfsIn d l st) a ≤ dq (bfsIn d l st) b) ∧ ∀ b, b < (bfsIn d l st).2.length → dq (bfsIn d l st) b ≤ d
  | [], st, _, _, h1, h2 => ⟨h1, h2⟩
  | j :: r, st, hl, hq, h1, h2 => by
    have hj := hl j (by simp)
    simp only [bfsIn]
    split
    · rename_i hn
      have keep : ∀ a, a < st.2.length → dq (st.1.set j.toNat d, st.2 ++ [j]) a = dq st a := by
        intro a ha
        have hm : st.2.getD a 0 ∈ st.2 := by simp [ha]
        have hx := hq _ hm
        unfold dq
        have e1 : (st.2 ++ [j]).getD a 0 = st.2.getD a 0 := by
          rw [List.getD_eq_getElem?_getD, List.getElem?_append_left ha, ← List.getD_eq_getElem?_getD]
        show (st.1.set j.toNat d).getD ((st.2 ++ [j]).getD a 0).toNat 0 = _
        rw [e1, getD_setB _ _ _ _ (by omega), if_neg (fun e => by rw [e] at hn; omega)]
      have last : dq (st.1.set j.toNat d, st.2 ++ [j]) st.2.length = d := by
        unfold dq
        show (st.1.set j.toNat d).getD ((st.2 ++ [j]).getD st.2.length 0).toNat 0 = d
        rw [show (st.2 ++ [j]).getD st.2.length 0 = j by simp, getD_setB _ _ _ _ (by omega), if_pos rfl]
      refine bfsIn_mono d hd r _ (fun y hy => by simpa using hl y (by simp [hy])) ?_ ?_ ?_
      · intro x hx
        rcases List.mem_append.1 hx with hx | hx
        · have := hq x hx
          refine ⟨by simpa using this.1, ?_⟩
          show 0 ≤ (st.1.set j.toNat d).getD x.toNat 0
          rw [getD_setB _ _ _ _ (by omega)]
          split <;> omega
        · rw [List.mem_singleton] at hx; subst hx
          refine ⟨by simpa using hj, ?_⟩
          show 0 ≤ (st.1.set x.toNat d).getD x.toNat 0
          rw [getD_setB _ _ _ _ (by omega), if_pos rfl]; exact hd
      · intro a b hab hb
        have hb' : b < st.2.length + 1 := by simpa using hb
        by_cases eb : b = st.2.length
        · subst eb
          rw [last]
          by_cases ea : a = st.2.length
          · subst ea; rw [last]; exact Int.le_refl _
          · rw [keep a (by omega)]; exact h2 a (by omega)
        · rw [keep b (by omega), keep a (by omega)]; exact h1 a b hab (by omega)
      · intro b hb
        have hb' : b < st.2.length + 1 := by simpa using hb
        by_cases eb : b = st.2.length
        · subst eb; rw [last]; exact Int.le_refl _
        · rw [keep b (by omega)]; exact h2 b (by omega)
    · exact bfsIn_mono d hd r st (fun y hy => hl y (by simp [hy])) hq h1 h2
structure DS (L : List (List Int)) (i : Nat) (st : List Int × List Int) (k : Nat) : Prop where
  di : DI L i st k
  zero : st.1.getD i 0 = 0
  mono : ∀ a b, a ≤ b → b < st.2.length → dq st a ≤ dq st b
  near : ∀ a b, k ≤ a → a < st.2.length → b < st.2.length → dq st b ≤ dq st a + 1
  ed : ∀ a, a < k → ∀ y ∈ L.getD (st.2.getD a 0).toNat [], 0 ≤ st.1.getD y.toNat 0 ∧ st.1.getD y.toNat 0 ≤ dq st a + 1
theorem DS.step {L : List (List Int)} (hL : LOk L.length L) {i : Nat} (hi : i < L.length) {st : List Int × List Int} {k : Nat} (h : DS L i st k) (hk : k < st.2.length) :
    DS L i (bfsIn (st.1.getD (st.2.getD k 0).toNat 0 + 1) (L.getD (st.2.getD k 0).toNat []) st) (k + 1) := by
  have hd1 := h.di.step hL hk
  have hm : st.2.getD k 0 ∈ st.2 := by simp [hk]
  obtain ⟨hxr, hx0⟩ := h.di.bi.q _ hm
  have hlen := h.di.bi.len
  have hl := hL (st.2.getD k 0).toNat
  have hdk : dq st k + 1 = st.1.getD (st.2.getD k 0).toNat 0 + 1 := rfl
  have hl' : ∀ y ∈ L.getD (st.2.getD k 0).toNat [], 0 ≤ y ∧ y < (st.1.length : Int) := by rw [hlen]; exact hl
  have hmono := bfsIn_mono (dq st k + 1) (by unfold dq; omega) _ st hl' (fun x hx => by have := h.di.bi.q x hx; rw [hlen]; exact this) h.mono (fun b hb => h.near k b (Nat.le_refl _) hk hb)
  have hpre := bfsIn_pre (dq st k + 1) (L.getD (st.2.getD k 0).toNat []) st
  have keep : ∀ v, 0 ≤ st.1.getD v 0 → _ := fun v hv => bfsIn_keep (dq st k + 1) v (L.getD (st.2.getD k 0).toNat []) st hl' hv
  have gq : ∀ a, a < st.2.length → (bfsIn (dq st k + 1) (L.getD (st.2.getD k 0).toNat []) st).2.getD a 0 = st.2.getD a 0 := by
    intro a ha
    obtain ⟨t, ht⟩ := hpre
    rw [← ht, List.getD_eq_getElem?_getD, List.getElem?_append_left ha, ← List.getD_eq_getElem?_getD]
  have kq : ∀ a, a < st.2.length → dq (bfsIn (dq st k + 1) (L.getD (st.2.getD k 0).toNat []) st) a = dq st a := by
    intro a ha
    have hma : st.2.getD a 0 ∈ st.2 := by simp [ha]
    unfold dq at *
    rw [gq a ha]
    exact keep _ (h.di.bi.q _ hma).2
  have hpl := hpre.length_le
  rw [← hdk] at hd1 ⊢
  refine ⟨hd1, ?_, hmono.1, ?_, ?_⟩
  · rw [keep i (by rw [h.zero]; exact Int.le_refl _)]; exact h.zero
  · intro a b ha hal hb
    have h1 := hmono.2 b hb
    have h2 := hmono.1 k a (by omega) hal
    rw [kq k hk] at h2
    omega
  · intro a ha y hy
    rw [gq a (by omega)] at hy
    by_cases e : a = k
    · subst e
      rw [kq a hk]
      have hyr := hl y hy
      by_cases hn : 0 ≤ st.1.getD y.toNat 0
      · rw [keep _ hn]
        refine ⟨hn, ?_⟩
        have hin := (h.di.iff y.toNat (by omega)).1 hn
        rw [Int.toNat_of_nonneg hyr.1] at hin
        obtain ⟨b, hb, eb⟩ := List.mem_iff_getElem.1 hin
        have e2 : st.2.getD b 0 = y := by simp [hb, eb]
        have := h.near a b (Nat.le_refl _) hk hb
        have e3 : dq st b = st.1.getD y.toNat 0 := by unfold dq; rw [e2]
        rw [e3] at this; exact this
      · rcases bfsIn_new (dq st a + 1) (by unfold dq; omega) y.toNat _ st hl' (by omega) (by omega) with ⟨_, g2, _⟩ | ⟨g1, _⟩
        · rw [g2]; exact ⟨by unfold dq; omega, Int.le_refl _⟩
        · rw [Int.toNat_of_nonneg hyr.1] at g1; exact absurd hy g1
    · rw [kq a (by omega)]
      have h1 := h.ed a (by omega) y hy
      rw [keep _ h1.1]; exact h1
theorem DS.run {L : List (List Int)} (hL : LOk L.length L) {i : Nat} (hi : i < L.length) : ∀ (f : Nat) (st : List Int × List Int) (k : Nat), f + k = L.length + 1 → DS L i st k → ∃ q, DS L i (bfsF L f st k, q) q.length
  | 0, st, k, hf, h => by have := h.di.bi.len_le; have := h.di.le; omega
  | f + 1, st, k, hf, h => by
    simp only [bfsF]
    split
    · rename_i hk
      exact DS.run hL hi f _ _ (by omega) (h.step hL hi hk)
    · have e : k = st.2.length := by have := h.di.le; omega
      exact ⟨st.2, by rw [← e]; exact h⟩
theorem bfs_DS {L : List (List Int)} (hL : LOk L.length L) {i : Nat} (hi : i < L.length) : ∃ q, DS L i (bfs L i, q) q.length := by
  refine DS.run hL hi _ _ _ (by omega) ⟨DI.zero hi, ?_, ?_, ?_, fun a ha => absurd ha (Nat.not_lt_zero a)⟩
  · show (bfs0 L.length i).getD i 0 = 0
    unfold bfs0
    rw [getD_setB _ _ _ _ (by simpa using hi), if_pos rfl]
  · intro a b hab hb
    have hb' : b < 1 := hb
    have e1 : a = 0 := by omega
    have e2 : b = 0 := by omega
    rw [e1, e2]; exact Int.le_refl _
  · intro a b _ ha hb
    have ha' : a < 1 := ha
    have hb' : b < 1 := hb
    have e1 : a = 0 := by omega
    have e2 : b = 0 := by omega
    rw [e1, e2]; omega
theorem bfs_zero {L : List (List Int)} (hL : LOk L.length L) {i : Nat} (hi : i < L.length) : (bfs L i).getD i 0 = 0 := by
  obtain ⟨q, h⟩ := bfs_DS hL hi
  exact h.zero
end Go.Proofs.Ytldcbmmmheookaa.Ai
namespace Go.Proofs.Ytldcbmmmheookaa.Ai
open Go Go.RowKit
set_option linter.unusedVariables false
set_option linter.unusedSimpArgs false
def rpN (N k : Nat) : List Int := List.replicate k (-1) ++ List.replicate (N - k) 0
theorem rpN_len (N k : Nat) (h : k ≤ N) : (rpN N k).length = N := by simp [rpN]; omega
theorem rpN_set (N j : Nat) (hj : j < N) : (rpN N j).set j (-1) = rpN N (j + 1) := by
  unfold rpN
  rw [List.set_append_right _ _ (by simp)]
  obtain ⟨n, hn⟩ : ∃ n, N - j = n + 1 := ⟨N - j - 1, by omega⟩
  rw [hn, List.length_replicate, Nat.sub_self, List.replicate_succ, List.set_cons_zero, List.replicate_succ', List.append_assoc]
  have : N - (j + 1) = n := by omega
  rw [this]; rfl
end Go.Proofs.Ytldcbmmmheookaa.Ai
namespace Go.Proofs.Ytldcbmmmheookaa.Ai
open Go
def ords121 : List (Nat × List (Nat × Bool)) := [(16, [(0, false), (1, false), (2, false), (3, false), (4, false), (5, false), (6, false), (7, false), (8, false), (9, false), (10, false), (11, false), (12, false), (13, false), (14, true)])]
def cd121 : Cd := (.seq (.reg [⟨⟨some 4, Op.assign (Operand.const (Value.slice none 0 0)), none⟩, []⟩]) (.seq (.reg [⟨⟨some 11, Op.move (Operand.tmp 0), none⟩, []⟩,
  ⟨⟨some 12, Op.call { callee := (Callee.builtin Builtin.len), args := #[(Operand.tmp 11)], argTypes := #[38] }, none⟩, []⟩,
  ⟨⟨some 13, Op.makeSlice 27 (Operand.tmp 12) (Operand.tmp 12), none⟩, []⟩,
  ⟨⟨some 5, Op.assign (Operand.tmp 13), none⟩, []⟩]) (.seq (.seq (.reg [⟨⟨some 6, Op.assign (Operand.const (Value.int IntKind.i64 0)), none⟩, []⟩]) (.block 0 (.loop (.seq (.seq (.reg [⟨⟨some 14, Op.move (Operand.tmp 6), none⟩, []⟩,
  ⟨⟨some 15, Op.move (Operand.tmp 5), none⟩, []⟩,
  ⟨⟨some 16, Op.call { callee := (Callee.builtin Builtin.len), args := #[(Operand.tmp 15)], argTypes := #[27] }, none⟩, []⟩,
  ⟨⟨some 17, Op.binOp BinOp.lss 3 (Operand.tmp 14) (Operand.tmp 16) 3, none⟩, []⟩]) (.cond (Operand.tmp 17) .skip (.exit 0))) (.seq (.block 1 (.reg [⟨⟨some 20, Op.move (Operand.tmp 5), none⟩, []⟩,
  ⟨⟨some 21, Op.move (Operand.tmp 6), none⟩, []⟩,
  ⟨⟨some 22, Op.indexAddr 27 (Operand.tmp 20) (Operand.tmp 21), none⟩, []⟩,
  ⟨⟨none, Op.store 3 (Operand.tmp 22) (Operand.const (Value.int IntKind.i64 (-1))), none⟩, []⟩])) (.reg [⟨⟨some 18, Op.move (Operand.tmp 6), none⟩, []⟩,
  ⟨⟨some 19, Op.binOp BinOp.add 3 (Operand.tmp 18) (Operand.const (Value.int IntKind.i64 1)) 3, none⟩, []⟩,
  ⟨⟨some 6, Op.assign (Operand.tmp 19), none⟩, []⟩])))))) (.seq (.reg [⟨⟨some 23, Op.move (Operand.tmp 1), none⟩, []⟩,
  ⟨⟨some 24, Op.buildSlice 27 1 #[(0, (Operand.tmp 23))], none⟩, []⟩,
  ⟨⟨some 7, Op.assign (Operand.tmp 24), none⟩, []⟩]) (.seq (.reg [⟨⟨some 25, Op.move (Operand.tmp 5), none⟩, []⟩,
  ⟨⟨some 26, Op.move (Operand.tmp 1), none⟩, []⟩,
  ⟨⟨some 27, Op.indexAddr 27 (Operand.tmp 25) (Operand.tmp 26), none⟩, []⟩,
  ⟨⟨none, Op.store 3 (Operand.tmp 27) (Operand.const (Value.int IntKind.i64 0)), none⟩, []⟩]) (.seq (.seq (.reg [⟨⟨some 8, Op.assign (Operand.const (Value.int IntKind.i64 0)), none⟩, []⟩]) (.block 2 (.loop (.seq (.seq (.reg [⟨⟨some 28, Op.move (Operand.tmp 8), none⟩, []⟩,
  ⟨⟨some 29, Op.move (Operand.tmp 7), none⟩, []⟩,
  ⟨⟨some 30, Op.call { callee := (Callee.builtin Builtin.len), args := #[(Operand.tmp 29)], argTypes := #[27] }, none⟩, []⟩,
  ⟨⟨some 31, Op.binOp BinOp.lss 3 (Operand.tmp 28) (Operand.tmp 30) 3, none⟩, []⟩]) (.cond (Operand.tmp 31) .skip (.exit 2))) (.seq (.block 3 (.seq (.reg [⟨⟨some 34, Op.move (Operand.tmp 0), none⟩, []⟩,
  ⟨⟨some 35, Op.move (Operand.tmp 7), none⟩, []⟩,
  ⟨⟨some 36, Op.move (Operand.tmp 8), none⟩, []⟩,
  ⟨⟨some 37, Op.indexAddr 27 (Operand.tmp 35) (Operand.tmp 36), none⟩, []⟩,
  ⟨⟨some 38, Op.load 3 (Operand.tmp 37), none⟩, []⟩,
  ⟨⟨some 39, Op.indexAddr 38 (Operand.tmp 34) (Operand.tmp 38), none⟩, []⟩,
  ⟨⟨some 40, Op.load 27 (Operand.tmp 39), none⟩, []⟩,
  ⟨⟨some 9, Op.assign (Operand.tmp 40), none⟩, []⟩]) (.seq (.reg [⟨⟨some 10, Op.assign (Operand.const (Value.int IntKind.i64 0)), none⟩, []⟩]) (.block 4 (.loop (.seq (.seq (.reg [⟨⟨some 41, Op.move (Operand.tmp 10), none⟩, []⟩,
  ⟨⟨some 42, Op.move (Operand.tmp 9), none⟩, []⟩,
  ⟨⟨some 43, Op.call { callee := (Callee.builtin Builtin.len), args := #[(Operand.tmp 42)], argTypes := #[27] }, none⟩, []⟩,
  ⟨⟨some 44, Op.binOp BinOp.lss 3 (Operand.tmp 41) (Operand.tmp 43) 3, none⟩, []⟩]) (.cond (Operand.tmp 44) .skip (.exit 4))) (.seq (.block 5 (.seq (.reg [⟨⟨some 47, Op.move (Operand.tmp 5), none⟩, []⟩,
  ⟨⟨some 48, Op.move (Operand.tmp 9), none⟩, []⟩,
  ⟨⟨some 49, Op.move (Operand.tmp 10), none⟩, []⟩,
  ⟨⟨some 50, Op.indexAddr 27 (Operand.tmp 48) (Operand.tmp 49), none⟩, []⟩,
  ⟨⟨some 51, Op.load 3 (Operand.tmp 50), none⟩, []⟩,
  ⟨⟨some 52, Op.indexAddr 27 (Operand.tmp 47) (Operand.tmp 51), none⟩, []⟩,
  ⟨⟨some 53, Op.load 3 (Operand.tmp 52), none⟩, []⟩,
  ⟨⟨some 54, Op.binOp BinOp.lss 3 (Operand.tmp 53) (Operand.const (Value.int IntKind.i64 0)) 3, none⟩, []⟩]) (.cond (Operand.tmp 54) (.seq (.reg [⟨⟨some 55, Op.move (Operand.tmp 5), none⟩, []⟩,
  ⟨⟨some 56, Op.move (Operand.tmp 9), none⟩, []⟩,
  ⟨⟨some 57, Op.move (Operand.tmp 10), none⟩, []⟩,
  ⟨⟨some 58, Op.indexAddr 27 (Operand.tmp 56) (Operand.tmp 57), none⟩, []⟩,
  ⟨⟨some 59, Op.load 3 (Operand.tmp 58), none⟩, []⟩,
  ⟨⟨some 60, Op.move (Operand.tmp 5), none⟩, []⟩,
  ⟨⟨some 61, Op.move (Operand.tmp 7), none⟩, []⟩,
  ⟨⟨some 62, Op.move (Operand.tmp 8), none⟩, []⟩,
  ⟨⟨some 63, Op.indexAddr 27 (Operand.tmp 61) (Operand.tmp 62), none⟩, []⟩,
  ⟨⟨some 64, Op.load 3 (Operand.tmp 63), none⟩, []⟩,
  ⟨⟨some 65, Op.indexAddr 27 (Operand.tmp 60) (Operand.tmp 64), none⟩, []⟩,
  ⟨⟨some 66, Op.load 3 (Operand.tmp 65), none⟩, []⟩,
  ⟨⟨some 67, Op.binOp BinOp.add 3 (Operand.tmp 66) (Operand.const (Value.int IntKind.i64 1)) 3, none⟩, []⟩,
  ⟨⟨some 68, Op.indexAddr 27 (Operand.tmp 55) (Operand.tmp 59), none⟩, []⟩,
  ⟨⟨none, Op.store 3 (Operand.tmp 68) (Operand.tmp 67), none⟩, []⟩]) (.reg [⟨⟨some 69, Op.move (Operand.tmp 7), none⟩, []⟩,
  ⟨⟨some 70, Op.move (Operand.tmp 9), none⟩, []⟩,
  ⟨⟨some 71, Op.move (Operand.tmp 10), none⟩, []⟩,
  ⟨⟨some 72, Op.indexAddr 27 (Operand.tmp 70) (Operand.tmp 71), none⟩, []⟩,
  ⟨⟨some 73, Op.load 3 (Operand.tmp 72), none⟩, []⟩,
  ⟨⟨some 74, Op.buildSlice 27 1 #[(0, (Operand.tmp 73))], none⟩, []⟩,
  ⟨⟨some 75, Op.call { callee := (Callee.builtin Builtin.append), args := #[(Operand.tmp 69), (Operand.tmp 74)], argTypes := #[27, 27] }, none⟩, []⟩,
  ⟨⟨some 7, Op.assign (Operand.tmp 75), none⟩, []⟩])) .skip))) (.reg [⟨⟨some 45, Op.move (Operand.tmp 10), none⟩, []⟩,
  ⟨⟨some 46, Op.binOp BinOp.add 3 (Operand.tmp 45) (Operand.const (Value.int IntKind.i64 1)) 3, none⟩, []⟩,
  ⟨⟨some 10, Op.assign (Operand.tmp 46), none⟩, []⟩])))))))) (.reg [⟨⟨some 32, Op.move (Operand.tmp 8), none⟩, []⟩,
  ⟨⟨some 33, Op.binOp BinOp.add 3 (Operand.tmp 32) (Operand.const (Value.int IntKind.i64 1)) 3, none⟩, []⟩,
  ⟨⟨some 8, Op.assign (Operand.tmp 33), none⟩, []⟩])))))) (.seq (.reg [⟨⟨some 76, Op.move (Operand.tmp 5), none⟩, []⟩,
  ⟨⟨some 4, Op.assign (Operand.tmp 76), none⟩, []⟩]) .ret)))))))
theorem sl121 : slim Try.f121.ntmps ords121 (Try.f121.body.getD .skip) = some cd121 := by kernel_rfl
theorem in121 {args : List Value} {H : AH} {R : Value → AH → Prop} (hl : args.length = 2) (h : ∀ (Q : Exit → Sl → AH → Prop), (∀ e s H, endA Try.prog [ResultVar.tmp 4] R e s H → Q e s H) → wpC Try.prog cd121 Q (enterA args) H) : ACalls Try.prog 121 args H R :=
  ACalls.intro (by kernel_rfl) Try.func121 rfl (by kernel_rfl) sl121 hl (of_decide_eq_true (by kernel_rfl)) (by kernel_rfl) h
end Go.Proofs.Ytldcbmmmheookaa.Ai
namespace Go.Proofs.Ytldcbmmmheookaa.Ai
open Go Go.RowKit
set_option linter.unusedVariables false
set_option linter.unusedSimpArgs false
/-- the list of distances and the queue in the heap -/
def QH (H0 H : AH) (oo : Nat) (out : List Int) (oq kq nq : Nat) (q : List Int) : Prop :=
  (∃ zs, H[oq]? = some (.cells (ints zs) 3 false) ∧ (zs.drop kq).take nq = q ∧ kq + nq ≤ zs.length) ∧ H[oo]? = some (.cells (ints out) 3 false) ∧ H0.length ≤ oo ∧ H0.length ≤ oq ∧ oq ≠ oo ∧ H0 <+: H
/-- appending to a part of an object of ints -/
theorem app_q {P : Program} {t e : TypeId} (hu : P.underlying t = some (.slice e)) (hc : P.cellsOf e = 1) (hby : P.bytesOf e ≤ 64) (hz : zeroOk P e = true) {H : AH} {o k n c : Nat} {zs : List Int} {x : Int} (ho : H[o]? = some (.cells (ints zs) e false)) (hn : k + n ≤ zs.length) (hb : n ≤ 1099511627775) :
    appendA P t t (.slice (some ⟨o, k, none⟩) n c) (.slice (some ⟨H.length, 0, none⟩) 1 1) (H ++ [.cells [.int .i64 x] e false]) = some (.slice (some ⟨H.length + 1, 0, none⟩) (n + 1) (n + 1), H.set o .dead ++ [.cells [.int .i64 x] e false, .cells (ints ((zs.drop k).take n ++ [x])) e false]) := by
  have hlt : o < H.length := at_lt ho
  have hb2 : (n + 1) * P.bytesOf e ≤ 140737488355328 := by
    refine Nat.le_trans (Nat.mul_le_mul_left _ hby) ?_
    omega
  have ho2 : (H ++ [AObj.cells [.int .i64 x] e false])[o]? = some (.cells (ints zs) e false) := at_app ho _
  have hsc : sliceCells P e (.slice (some ⟨H.length, 0, none⟩) 1 1) (H ++ [.cells [.int .i64 x] e false]) = some (1, [.int .i64 x]) := by
    simp only [sliceCells, at_new, hc]; simp
  simp only [appendA, hu, hc, hsc, ho2, hz]
  rw [if_pos (by simp), if_neg (by simp), if_pos ⟨trivial, by rw [ints_len]; omega, hb2, by omega, trivial⟩]
  have : List.take (n * 1) (List.drop k (ints zs)) ++ [Value.int .i64 x] = ints ((zs.drop k).take n ++ [x]) := by
    simp [ints, List.map_take, List.map_drop]
  rw [this, List.length_append, List.set_append_left _ _ hlt]
  simp
theorem QH.push {H0 H : AH} {oo : Nat} {out : List Int} {oq kq nq : Nat} {q : List Int} (h : QH H0 H oo out oq kq nq q) (y : Nat) (d x : Int) (hb : nq ≤ 1099511627775) :
    ∃ H2, appendA Try.prog 27 27 (.slice (some ⟨oq, kq, none⟩) nq nq) (.slice (some ⟨(H.set oo (.cells (ints (out.set y d)) 3 false)).length, 0, none⟩) 1 1) (H.set oo (.cells (ints (out.set y d)) 3 false) ++ [.cells [.int .i64 x] 3 false]) = some (.slice (some ⟨(H.set oo (.cells (ints (out.set y d)) 3 false)).length + 1, 0, none⟩) (nq + 1) (nq + 1), H2) ∧
      QH H0 H2 oo (out.set y d) ((H.set oo (.cells (ints (out.set y d)) 3 false)).length + 1) 0 (nq + 1) (q ++ [x]) := by
  obtain ⟨⟨zs, h1, h2, h3⟩, h4, h5, h6, h7, h8⟩ := h
  have hlt := at_lt h4
  generalize hH1 : H.set oo (.cells (ints (out.set y d)) 3 false) = H1
  have l1 : H1.length = H.length := by rw [← hH1]; simp
  have k1 : H1[oq]? = some (.cells (ints zs) 3 false) := by rw [← hH1, List.getElem?_set_ne (fun e => h7 e.symm)]; exact h1
  have k4 : H1[oo]? = some (.cells (ints (out.set y d)) 3 false) := by rw [← hH1]; exact at_set h4
  have hp1 : H0 <+: H1 := by rw [← hH1]; exact pre_set h8 h5 _
  refine ⟨_, app_q Try.underlying27 cs3 (by rw [by3]; decide) zk3 k1 h3 hb, ⟨(zs.drop kq).take nq ++ [x], ?_, ?_, ?_⟩, ?_, h5, ?_, ?_, ?_⟩
  · rw [List.getElem?_append_right (by simp)]
    simp
  · rw [List.drop_zero, h2, List.take_of_length_le]
    rw [← h2]; simp; omega
  · simp; omega
  · rw [List.getElem?_append_left (by simp; omega), List.getElem?_set_ne h7]
    exact k4
  · have := h8.length_le; omega
  · omega
  · exact pre_app (pre_set hp1 h6 _) _
theorem QH.tail {H0 H : AH} {oo : Nat} {out : List Int} {oq kq nq : Nat} {x : Int} {q : List Int} (h : QH H0 H oo out oq kq nq (x :: q)) : QH H0 H oo out oq (kq + 1) (nq - 1) q ∧ cellA H oq kq = some (.int .i64 x) ∧ 0 < nq := by
  obtain ⟨⟨zs, h1, h2, h3⟩, h4⟩ := h
  have hl := congrArg List.length h2
  simp only [List.length_take, List.length_drop, List.length_cons] at hl
  have hk : kq < zs.length := by omega
  obtain ⟨n, rfl⟩ : ∃ n, nq = n + 1 := ⟨nq - 1, by omega⟩
  rw [List.drop_eq_getElem_cons hk, List.take_succ_cons] at h2
  injection h2 with e1 e2
  refine ⟨⟨⟨zs, h1, by simpa using e2, by omega⟩, h4⟩, ?_, by omega⟩
  rw [cell_of h1, ints_at zs hk]
  congr 2
  simp [hk, e1]
theorem bfsIn_drop (d : Int) (l : List Int) (j : Nat) (hj : j < l.length) (st : List Int × List Int) : bfsIn d (l.drop j) st = if st.1.getD (l.getD j 0).toNat 0 < 0 then bfsIn d (l.drop (j + 1)) (st.1.set (l.getD j 0).toNat d, st.2 ++ [l.getD j 0]) else bfsIn d (l.drop (j + 1)) st := by
  have e : l.getD j 0 = l[j] := by simp [hj]
  rw [List.drop_eq_getElem_cons hj, e]
  rfl
theorem QH.at {H0 H : AH} {oo : Nat} {out : List Int} {oq kq nq : Nat} {q : List Int} (h : QH H0 H oo out oq kq nq q) {j : Nat} (hj : j < q.length) : cellA H oq (kq + j) = some (.int .i64 (q.getD j 0)) := by
  obtain ⟨⟨zs, h1, h2, h3⟩, _⟩ := h
  have hl := congrArg List.length h2
  simp only [List.length_take, List.length_drop] at hl
  have hk : kq + j < zs.length := by omega
  rw [cell_of h1, ints_at zs hk]
  congr 2
  rw [← h2, List.getD_eq_getElem?_getD, List.getD_eq_getElem?_getD, List.getElem?_take, if_pos (by omega), List.getElem?_drop]
set_option maxRecDepth 20000 in
set_option maxHeartbeats 4000000 in
theorem l2Spread_c (v : Value) (L : List (List Int)) (i : Nat) (H : AH) {b : Nat} (hr : RowLB b 27 3 H v L) (hL : LOk L.length L) (hN : L.length ≤ 1000000) (hi : i < L.length) (hls : ∀ x, (L.getD x []).length ≤ 1000000000) :
    ACalls Try.prog 121 [v, .int .i64 (i : Int)] H fun r H' => Own 3 H H' r (bfs L i) ∧ H <+: H' := by
  refine in121 rfl ?_
  intro Q hQ
  obtain ⟨us, hus, hvb, hul, hin⟩ := hr
  simp (maxSteps := 1000000) (disch := omega) only [cd121, hus.len Try.underlying38, hul, mks27, Int.toNat_natCast, S, S1, S2, S3, S4, S5, ST, eq_self, reduceIte, reduceCtorEq, Nat.reduceEqDiff, Nat.reduceAdd]
  generalize hZ : H ++ [AObj.cells (ints (List.replicate L.length 0)) 3 false] = Z
  have pZ : H <+: Z := by rw [← hZ]; exact List.prefix_append _ _
  have cZ : Z[H.length]? = some (.cells (ints (List.replicate L.length 0)) 3 false) := by rw [← hZ]; exact at_new ..
  refine LoopH.by (fun m s H' => ∃ j, m + j = L.length ∧ s 0 = v ∧ s 1 = .int .i64 (i : Int) ∧ s 5 = .slice (some ⟨H.length, 0, none⟩) L.length L.length ∧ s 6 = .int .i64 ((j : Nat) : Int) ∧ H' = Z.set H.length (.cells (ints (rpN L.length j)) 3 false)) L.length ?_ ?_
  · refine ⟨0, by omega, rfl, rfl, rfl, rfl, ?_⟩
    have : rpN L.length 0 = List.replicate L.length 0 := by simp [rpN]
    rw [this]
    apply List.ext_getElem?
    intro j
    rw [List.getElem?_set]
    by_cases hj : H.length = j
    · subst hj; rw [if_pos rfl, if_pos (at_lt cZ), cZ]
    · rw [if_neg hj]
  rintro m s H' ⟨j, hm, h0, h1, h5, h6, rfl⟩
  have cJ : (Z.set H.length (.cells (ints (rpN L.length j)) 3 false))[H.length]? = some (.cells (ints (rpN L.length j)) 3 false) := at_set cZ
  simp (maxSteps := 1000000) (disch := omega) only [h0, h1, h5, h6, S, S1, S2, S3, S4, S5, ST, eq_self, reduceIte, reduceCtorEq, Nat.reduceEqDiff, Nat.reduceAdd]
  refine brD.intro (fun g => ?_) (fun g => ?_)
  · have hj : j < (rpN L.length j).length := by rw [rpN_len _ _ (by omega)]; omega
    simp (maxSteps := 1000000) (disch := omega) only [h0, h1, h5, h6, Int.toNat_natCast, Nat.zero_add, st_ints cs3 cJ hj, wrap64, S, S1, S2, S3, S4, S5, ST, eq_self, reduceIte, reduceCtorEq, Nat.reduceEqDiff, Nat.reduceAdd]
    rw [List.set_set, rpN_set _ _ (by omega)]
    refine ⟨m - 1, by omega, j + 1, ?_⟩
    (repeat' apply And.intro) <;> first | (simp only [Value.int.injEq, true_and]; omega) | omega | rfl | assumption | (simp; done) | (simp; omega)
  have hjN : j = L.length := by omega
  subst hjN
  have e3 : rpN L.length L.length = List.replicate L.length (-1) := by simp [rpN]
  rw [e3] at cJ
  rw [e3]
  have pA : H <+: Z.set H.length (.cells (ints (List.replicate L.length (-1))) 3 false) := pre_set pZ (Nat.le_refl _) _
  simp (maxSteps := 1000000) (disch := omega) only [h0, h1, h5, h6, S, S1, S2, S3, S4, S5, ST, eq_self, reduceIte, reduceCtorEq, Nat.reduceEqDiff, Nat.reduceAdd]
  have hlr : i < (List.replicate L.length (-1 : Int)).length := by simpa using hi
  generalize hoo : H.length = oo at *
  generalize hA : Z.set oo (.cells (ints (List.replicate L.length (-1))) 3 false) = A at *
  have cA := at_app cJ [AObj.cells [.int .i64 (i : Int)] 3 false]
  simp (maxSteps := 1000000) (disch := omega) only [h0, h1, h5, h6, Int.toNat_natCast, Nat.zero_add, st_ints cs3 cA hlr, S, S1, S2, S3, S4, S5, ST, eq_self, reduceIte, reduceCtorEq, Nat.reduceEqDiff, Nat.reduceAdd]
  have hb0 : (List.replicate L.length (-1 : Int)).set i 0 = bfs0 L.length i := rfl
  rw [hb0]
  have hltA := at_lt cJ
  have q0 : QH H ((A ++ [AObj.cells [.int .i64 (i : Int)] 3 false]).set oo (.cells (ints (bfs0 L.length i)) 3 false)) oo (bfs0 L.length i) A.length 0 1 [(i : Int)] := by
    refine ⟨⟨[(i : Int)], ?_, rfl, by simp⟩, at_set cA, by omega, pA.length_le, by omega, pre_set (pre_app pA _) (by omega) _⟩
    rw [List.getElem?_set_ne (by omega)]
    exact at_new ..
  refine LoopH.by (fun m s H' => ∃ st k oq, m + k = L.length ∧ s 0 = v ∧ s 5 = .slice (some ⟨oo, 0, none⟩) L.length L.length ∧ s 7 = .slice (some ⟨oq, 0, none⟩) st.2.length st.2.length ∧ s 8 = .int .i64 ((k : Nat) : Int) ∧ k ≤ st.2.length ∧ QH H H' oo st.1 oq 0 st.2.length st.2 ∧ BI L.length st ∧ bfsF L (m + 1) st k = bfs L i) L.length ?_ ?_
  · refine ⟨(bfs0 L.length i, [(i : Int)]), 0, A.length, by omega, ?_⟩
    simp only [S, S1, S2, S3, S4, S5, ST, eq_self, reduceIte, reduceCtorEq, Nat.reduceEqDiff, Nat.reduceAdd, h0, h5]
    have hb0 := bfs0_BI _ i hi
    have hF0 : bfsF L (L.length + 1) (bfs0 L.length i, [(i : Int)]) 0 = bfs L i := rfl
    (repeat' first | exact q0 | exact hb0 | exact hF0 | apply And.intro) <;> first | (simp only [Value.int.injEq, true_and]; omega) | omega | rfl | assumption | (simp; done) | (simp; omega)
  · rintro m s H' ⟨st, k, oq, hm, h0, h5, h7, h8, hkl, hq, hb, hF⟩
    have hle := hb.len_le
    simp (maxSteps := 1000000) (disch := omega) only [h0, h5, h7, h8, S, S1, S2, S3, S4, S5, ST, eq_self, reduceIte, reduceCtorEq, Nat.reduceEqDiff, Nat.reduceAdd]
    refine brD.intro (fun g => ?_) (fun g => ?_)
    · have hk : k < st.2.length := by omega
      rw [bfsF_step L m st k hk] at hF
      have hqm : st.2.getD k 0 ∈ st.2 := by simp [hk]
      obtain ⟨hxr, hx0⟩ := hb.q _ hqm
      have hxl := hb.lo (st.2.getD k 0).toNat (by omega)
      have hcell := hq.at hk
      obtain ⟨x, hx⟩ : ∃ x : Nat, st.2.getD k 0 = x := ⟨(st.2.getD k 0).toNat, by omega⟩
      rw [hx] at hF hxr hx0 hxl hcell
      rw [Int.toNat_natCast] at hF hx0 hxl
      rw [Nat.zero_add] at hcell
      have hpp : H <+: H' := hq.2.2.2.2.2
      have hus' := hus.pre hpp
      have hxu : x < us.length := by omega
      have hinH := (hin x (by omega)).1
      have hlb := hls x
      have hLx := hL x
      simp (maxSteps := 1000000) (disch := omega) only [h0, h5, h7, h8, hcell, hus'.ix Try.underlying38 cs27, hus'.cell, Int.toNat_natCast, Nat.zero_add, S, S1, S2, S3, S4, S5, ST, eq_self, reduceIte, reduceCtorEq, Nat.reduceEqDiff, Nat.reduceAdd]
      generalize hw : us.getD x undef = w at *
      generalize hl : L.getD x [] = l at *
      generalize hd : st.1.getD x 0 + 1 = d at *
      refine LoopH.by (fun m' s' H'' => ∃ j st' oq', m' + j = l.length ∧ s' 0 = v ∧ s' 5 = .slice (some ⟨oo, 0, none⟩) L.length L.length ∧ s' 7 = .slice (some ⟨oq', 0, none⟩) st'.2.length st'.2.length ∧ s' 8 = .int .i64 ((k : Nat) : Int) ∧ s' 9 = w ∧ s' 10 = .int .i64 ((j : Nat) : Int) ∧ QH H H'' oo st'.1 oq' 0 st'.2.length st'.2 ∧ BI L.length st' ∧ st.2 <+: st'.2 ∧ st'.1.getD x 0 + 1 = d ∧ bfsIn d (l.drop j) st' = bfsIn d l st) l.length ?_ ?_
      · refine ⟨0, st, oq, by simp, ?_⟩
        simp only [S, S1, S2, S3, S4, S5, ST, eq_self, reduceIte, reduceCtorEq, Nat.reduceEqDiff, Nat.reduceAdd, h0, h5, h7, h8]
        have hd2 : bfsIn d (l.drop 0) st = bfsIn d l st := by rw [List.drop_zero]
        have hpr := List.prefix_refl st.2
        (repeat' first | exact hq | exact hb | exact hd | exact hd2 | exact hpr | apply And.intro) <;> first | (simp only [Value.int.injEq, true_and]; omega) | omega | rfl | assumption | (simp; done) | (simp; omega)
      · rintro m' s' H'' ⟨j, st', oq', hm', g0, g5, g7, g8, g9, g10, hq', hb', hpre, hd', hB⟩
        have hpp' : H <+: H'' := hq'.2.2.2.2.2
        have hw' := hinH.pre hpp'
        have hle' := hb'.len_le
        simp (maxSteps := 1000000) (disch := omega) only [g0, g5, g7, g8, g9, g10, hw'.len Try.underlying27, S, S1, S2, S3, S4, S5, ST, eq_self, reduceIte, reduceCtorEq, Nat.reduceEqDiff, Nat.reduceAdd]
        refine brD.intro (fun q => ?_) (fun q => ?_)
        · have hj : j < l.length := by omega
          rw [bfsIn_drop d l j hj] at hB
          have hym : l.getD j 0 ∈ l := by simp [hj]
          obtain ⟨y, hy⟩ : ∃ y : Nat, l.getD j 0 = y := ⟨(l.getD j 0).toNat, by have := hLx _ hym; omega⟩
          have hyr := hLx _ hym
          rw [hy] at hB hyr
          rw [Int.toNat_natCast] at hB
          have hoc' := hq'.2.1
          have hlen' := hb'.len
          have hyl : y < st'.1.length := by omega
          have hxl' : x < st'.1.length := by omega
          have hcw := hw'.cell hj
          rw [hy] at hcw
          have hkl' : k < st'.2.length := by have := hpre.length_le; omega
          have hck := hq'.at hkl'
          have hqk : st'.2.getD k 0 = (x : Int) := by
            obtain ⟨t, ht⟩ := hpre
            rw [← ht, List.getD_eq_getElem?_getD, List.getElem?_append_left hk, ← List.getD_eq_getElem?_getD]; exact hx
          rw [hqk, Nat.zero_add] at hck
          simp (maxSteps := 1000000) (disch := omega) only [g0, g5, g7, g8, g9, g10, hw'.ix Try.underlying27 cs3, hcw, Int.toNat_natCast, Nat.zero_add, cell_ints hoc' hyl, S, S1, S2, S3, S4, S5, ST, eq_self, reduceIte, reduceCtorEq, Nat.reduceEqDiff, Nat.reduceAdd]
          refine brD.intro (fun e => ?_) (fun e => ?_)
          · rw [if_pos e] at hB
            have hd0 : 0 ≤ d := by omega
            have hdl : d ≤ st'.2.length := by
              have := hb'.lo x (by omega)
              omega
            have hb2 := hb'.put (j := (y : Int)) (d := d) hyr (by rw [Int.toNat_natCast]; exact e) ⟨hd0, hdl⟩
            rw [Int.toNat_natCast] at hb2
            obtain ⟨H2, k1, k2⟩ := hq'.push y d (y : Int) (by omega)
            have hp2 : H <+: H''.set oo (AObj.cells (ints (st'.1.set y d)) 3 false) := pre_set hpp' (by omega) _
            have hw2 := hinH.pre hp2
            have hcw2 := hw2.cell hj
            rw [hy] at hcw2
            simp (maxSteps := 1000000) (disch := omega) only [g0, g5, g7, g8, g9, g10, hw'.ix Try.underlying27 cs3, hw2.ix Try.underlying27 cs3, hcw, hcw2, hck, Int.toNat_natCast, Nat.zero_add, cell_ints hoc' hxl', hd', st_ints cs3 hoc' hyl, k1, wrap64, S, S1, S2, S3, S4, S5, ST, eq_self, reduceIte, reduceCtorEq, Nat.reduceEqDiff, Nat.reduceAdd]
            have f1 : st.2 <+: st'.2 ++ [(y : Int)] := hpre.trans (List.prefix_append _ _)
            have f2 : (st'.1.set y d).getD x 0 + 1 = d := by
              rw [getD_setB _ _ _ _ hxl']
              split
              · rename_i e2
                subst e2
                have := hb'.lo y (by omega)
                omega
              · exact hd'
            have f3 : (st'.2 ++ [(y : Int)]).length = st'.2.length + 1 := by simp
            rw [← f3] at k2
            refine ⟨m' - 1, by omega, j + 1, (st'.1.set y d, st'.2 ++ [(y : Int)]), (H''.set oo (AObj.cells (ints (st'.1.set y d)) 3 false)).length + 1, ?_⟩
            simp only [f3]
            rw [f3] at k2
            (repeat' first | exact k2 | exact hb2 | exact f1 | exact f2 | exact hB | apply And.intro) <;> first | (simp only [Value.int.injEq, true_and]; omega) | omega | rfl | assumption | (simp; done) | (simp; omega)
          · rw [if_neg e] at hB
            simp (maxSteps := 1000000) (disch := omega) only [g0, g5, g7, g8, g9, g10, wrap64, S, S1, S2, S3, S4, S5, ST, eq_self, reduceIte, reduceCtorEq, Nat.reduceEqDiff, Nat.reduceAdd]
            refine ⟨m' - 1, by omega, j + 1, st', oq', ?_⟩
            (repeat' first | exact hq' | exact hb' | exact hpre | exact hd' | exact hB | apply And.intro) <;> first | (simp only [Value.int.injEq, true_and]; omega) | omega | rfl | assumption | (simp; done) | (simp; omega)
        · simp (maxSteps := 1000000) (disch := omega) only [g0, g5, g7, g8, g9, g10, wrap64, S, S1, S2, S3, S4, S5, ST, eq_self, reduceIte, reduceCtorEq, Nat.reduceEqDiff, Nat.reduceAdd]
          rw [List.drop_of_length_le (by omega)] at hB
          have hB' : st' = bfsIn d l st := hB
          rw [← hB'] at hF
          have hm1 : m - 1 + 1 = m := by omega
          rw [← hm1] at hF
          have hkl' : k + 1 ≤ st'.2.length := by have := hpre.length_le; omega
          refine ⟨m - 1, by omega, st', k + 1, oq', ?_⟩
          (repeat' first | exact hq' | exact hb' | exact hF | exact hkl' | apply And.intro) <;> first | (simp only [Value.int.injEq, true_and]; omega) | omega | rfl | assumption | (simp; done) | (simp; omega)
    · simp (maxSteps := 1000000) (disch := omega) only [h5, S, S1, S2, S3, S4, S5, ST, eq_self, reduceIte, reduceCtorEq, Nat.reduceEqDiff, Nat.reduceAdd]
      refine hQ _ _ _ ?_
      simp (maxSteps := 1000000) (disch := omega) only [h5, S, S1, S2, S3, S4, S5, ST, eq_self, reduceIte, reduceCtorEq, Nat.reduceEqDiff, Nat.reduceAdd]
      rw [bfsF_done L _ st k (by omega)] at hF
      rw [hF] at hq
      have hbl : (bfs L i).length = L.length := by rw [← hF]; exact hb.len
      exact ⟨.inr ⟨oo, by rw [hbl], hq.2.2.1, hq.2.1⟩, hq.2.2.2.2.2⟩
end Go.Proofs.Ytldcbmmmheookaa.Ai
namespace Go.Proofs.Ytldcbmmmheookaa.Ai
open Go
def ords120 : List (Nat × List (Nat × Bool)) := []
def cd120 : Cd := (.seq (.reg [⟨⟨some 2, Op.box 26 (Operand.tmp 0), none⟩, []⟩,
  ⟨⟨some 4, Op.assign (Operand.const (Value.slice none 0 0)), none⟩, []⟩]) (.seq (.reg [⟨⟨some 7, Op.buildSlice 27 0 #[], none⟩, []⟩,
  ⟨⟨some 5, Op.assign (Operand.tmp 7), none⟩, []⟩]) (.seq (.seq (.reg [⟨⟨some 6, Op.assign (Operand.const (Value.int IntKind.i64 0)), none⟩, []⟩]) (.block 0 (.loop (.seq (.seq (.reg [⟨⟨some 8, Op.move (Operand.tmp 6), none⟩, []⟩,
  ⟨⟨some 9, Op.fieldAddr 26 (Operand.tmp 2) 0, none⟩, []⟩,
  ⟨⟨some 10, Op.load 3 (Operand.tmp 9), none⟩, []⟩,
  ⟨⟨some 11, Op.binOp BinOp.lss 3 (Operand.tmp 8) (Operand.tmp 10) 3, none⟩, []⟩]) (.cond (Operand.tmp 11) .skip (.exit 0))) (.seq (.block 1 (.seq (.reg [⟨⟨some 14, Op.load 26 (Operand.tmp 2), none⟩, []⟩,
  ⟨⟨some 15, Op.move (Operand.tmp 1), none⟩, []⟩,
  ⟨⟨some 16, Op.move (Operand.tmp 6), none⟩, []⟩,
  ⟨⟨some 17, Op.call { callee := (Callee.value (Operand.func 141)), args := #[(Operand.tmp 14), (Operand.tmp 15), (Operand.tmp 16)], argTypes := #[26, 3, 3] }, none⟩, []⟩]) (.cond (Operand.tmp 17) (.reg [⟨⟨some 18, Op.move (Operand.tmp 5), none⟩, []⟩,
  ⟨⟨some 19, Op.move (Operand.tmp 6), none⟩, []⟩,
  ⟨⟨some 20, Op.buildSlice 27 1 #[(0, (Operand.tmp 19))], none⟩, []⟩,
  ⟨⟨some 21, Op.call { callee := (Callee.builtin Builtin.append), args := #[(Operand.tmp 18), (Operand.tmp 20)], argTypes := #[27, 27] }, none⟩, []⟩,
  ⟨⟨some 5, Op.assign (Operand.tmp 21), none⟩, []⟩]) .skip))) (.reg [⟨⟨some 12, Op.move (Operand.tmp 6), none⟩, []⟩,
  ⟨⟨some 13, Op.binOp BinOp.add 3 (Operand.tmp 12) (Operand.const (Value.int IntKind.i64 1)) 3, none⟩, []⟩,
  ⟨⟨some 6, Op.assign (Operand.tmp 13), none⟩, []⟩])))))) (.seq (.reg [⟨⟨some 22, Op.move (Operand.tmp 5), none⟩, []⟩,
  ⟨⟨some 4, Op.assign (Operand.tmp 22), none⟩, []⟩]) .ret))))
theorem sl120 : slim Try.f120.ntmps ords120 (Try.f120.body.getD .skip) = some cd120 := by kernel_rfl
theorem in120 {args : List Value} {H : AH} {R : Value → AH → Prop} (hl : args.length = 2) (h : ∀ (Q : Exit → Sl → AH → Prop), (∀ e s H, endA Try.prog [ResultVar.tmp 4] R e s H → Q e s H) → wpC Try.prog cd120 Q (enterA args) H) : ACalls Try.prog 120 args H R :=
  ACalls.intro (by kernel_rfl) Try.func120 rfl (by kernel_rfl) sl120 hl (of_decide_eq_true (by kernel_rfl)) (by kernel_rfl) h
def ords90 : List (Nat × List (Nat × Bool)) := []
def cd90 : Cd := (.seq (.reg [⟨⟨some 2, Op.box 26 (Operand.tmp 0), none⟩, []⟩,
  ⟨⟨some 4, Op.assign (Operand.const (Value.slice none 0 0)), none⟩, []⟩]) (.seq (.reg [⟨⟨some 7, Op.fieldAddr 26 (Operand.tmp 2) 0, none⟩, []⟩,
  ⟨⟨some 8, Op.load 3 (Operand.tmp 7), none⟩, []⟩,
  ⟨⟨some 9, Op.makeSlice 38 (Operand.tmp 8) (Operand.tmp 8), none⟩, []⟩,
  ⟨⟨some 5, Op.assign (Operand.tmp 9), none⟩, []⟩]) (.seq (.seq (.reg [⟨⟨some 6, Op.assign (Operand.const (Value.int IntKind.i64 0)), none⟩, []⟩]) (.block 0 (.loop (.seq (.seq (.reg [⟨⟨some 10, Op.move (Operand.tmp 6), none⟩, []⟩,
  ⟨⟨some 11, Op.fieldAddr 26 (Operand.tmp 2) 0, none⟩, []⟩,
  ⟨⟨some 12, Op.load 3 (Operand.tmp 11), none⟩, []⟩,
  ⟨⟨some 13, Op.binOp BinOp.lss 3 (Operand.tmp 10) (Operand.tmp 12) 3, none⟩, []⟩]) (.cond (Operand.tmp 13) .skip (.exit 0))) (.seq (.block 1 (.reg [⟨⟨some 16, Op.move (Operand.tmp 5), none⟩, []⟩,
  ⟨⟨some 17, Op.move (Operand.tmp 6), none⟩, []⟩,
  ⟨⟨some 18, Op.load 26 (Operand.tmp 2), none⟩, []⟩,
  ⟨⟨some 19, Op.move (Operand.tmp 6), none⟩, []⟩,
  ⟨⟨some 20, Op.call { callee := (Callee.value (Operand.func 120)), args := #[(Operand.tmp 18), (Operand.tmp 19)], argTypes := #[26, 3] }, none⟩, []⟩,
  ⟨⟨some 21, Op.indexAddr 38 (Operand.tmp 16) (Operand.tmp 17), none⟩, []⟩,
  ⟨⟨none, Op.store 27 (Operand.tmp 21) (Operand.tmp 20), none⟩, []⟩])) (.reg [⟨⟨some 14, Op.move (Operand.tmp 6), none⟩, []⟩,
  ⟨⟨some 15, Op.binOp BinOp.add 3 (Operand.tmp 14) (Operand.const (Value.int IntKind.i64 1)) 3, none⟩, []⟩,
  ⟨⟨some 6, Op.assign (Operand.tmp 15), none⟩, []⟩])))))) (.seq (.reg [⟨⟨some 22, Op.move (Operand.tmp 5), none⟩, []⟩,
  ⟨⟨some 23, Op.move (Operand.tmp 1), none⟩, []⟩,
  ⟨⟨some 24, Op.call { callee := (Callee.value (Operand.func 121)), args := #[(Operand.tmp 22), (Operand.tmp 23)], argTypes := #[38, 3] }, none⟩, []⟩,
  ⟨⟨some 4, Op.assign (Operand.tmp 24), none⟩, []⟩]) .ret))))
theorem sl90 : slim Try.f90.ntmps ords90 (Try.f90.body.getD .skip) = some cd90 := by kernel_rfl
theorem in90 {args : List Value} {H : AH} {R : Value → AH → Prop} (hl : args.length = 2) (h : ∀ (Q : Exit → Sl → AH → Prop), (∀ e s H, endA Try.prog [ResultVar.tmp 4] R e s H → Q e s H) → wpC Try.prog cd90 Q (enterA args) H) : ACalls Try.prog 90 args H R :=
  ACalls.intro (by kernel_rfl) Try.func90 rfl (by kernel_rfl) sl90 hl (of_decide_eq_true (by kernel_rfl)) (by kernel_rfl) h
end Go.Proofs.Ytldcbmmmheookaa.Ai
namespace Go.Proofs.Ytldcbmmmheookaa.Ai
open Go Go.RowKit
set_option linter.unusedVariables false
set_option linter.unusedSimpArgs false
theorem mk_nils {P : Program} {t e : TypeId} (hu : P.underlying t = some (.slice e)) (hc : P.cellsOf e = 1) (hby : P.bytesOf e ≤ 64) (hz : zeroA P e = some (.slice none 0 0)) {n : Int} (h0 : 0 ≤ n) (h1 : n ≤ 1099511627776) (H : AH) :
    makeSliceA P t (.int .i64 n) (.int .i64 n) H = some (.slice (some ⟨H.length, 0, none⟩) n.toNat n.toNat, H ++ [.cells (List.replicate n.toNat (.slice none 0 0)) e false]) := by
  have hb2 : n.toNat * P.bytesOf e ≤ 281474976710656 := by
    refine Nat.le_trans (Nat.mul_le_mul_left _ hby) ?_
    omega
  have hzc : (Value.slice none 0 0).cells = #[.slice none 0 0] := rfl
  have hzs : zerosA (.slice none 0 0) (n.toNat * 1) = List.replicate n.toNat (.slice none 0 0) := by
    unfold zerosA
    rw [hzc, Nat.mul_one]
    apply List.ext_getElem
    · simp
    · intro i h1 h2
      simp [Nat.mod_one]
  simp only [makeSliceA, hu, hc, hz]
  rw [if_pos ⟨trivial, h0, by omega, hb2, by omega⟩, if_pos ⟨by simp [plainCs, hzc, plainC], by simp [hzc]⟩, hzs]
/-- the lists of neighbors -/
def roadsL (n : Nat) (es : List (Int × Int)) : List (List Int) := (List.range n).map fun x : Nat => nbsU es (x : Int) n
theorem roadsL_len (n : Nat) (es : List (Int × Int)) : (roadsL n es).length = n := by simp [roadsL]
theorem roadsL_at (n : Nat) (es : List (Int × Int)) (i : Nat) (hi : i < n) : (roadsL n es).getD i [] = nbsU es i n := by
  unfold roadsL
  rw [List.getD_eq_getElem?_getD, List.getElem?_map, List.getElem?_range hi]; rfl
theorem roadsL_out (n : Nat) (es : List (Int × Int)) (i : Nat) (hi : ¬ i < n) : (roadsL n es).getD i [] = [] := by
  rw [List.getD_eq_getElem?_getD, List.getElem?_eq_none (by rw [roadsL_len]; omega)]; rfl
theorem roadsL_ok (n : Nat) (es : List (Int × Int)) : LOk (roadsL n es).length (roadsL n es) := by
  intro i y hy
  rw [roadsL_len]
  by_cases hi : i < n
  · rw [roadsL_at n es i hi] at hy
    exact ((nbsU_mem es i n y).1 hy).1
  · rw [roadsL_out n es i hi] at hy
    simp at hy
theorem roadsL_small (n : Nat) (es : List (Int × Int)) (hn : n ≤ 1000000000) (x : Nat) : ((roadsL n es).getD x []).length ≤ 1000000000 := by
  by_cases hi : x < n
  · rw [roadsL_at n es x hi]
    have := nbsU_len es x n
    omega
  · rw [roadsL_out n es x hi]; simp
set_option maxRecDepth 20000 in
set_option maxHeartbeats 1000000 in
theorem l2Neighbors_c (n : Int) (v : Value) (es : List (Int × Int)) (x : Int) (H : AH) (hr : RowP 71 H v es) (hlen : es.length ≤ 1099511627776) (hn : 0 ≤ n ∧ n ≤ 8) :
    ACalls Try.prog 120 [.agg (List.toArray [.int .i64 n, v]), .int .i64 x] H fun r H' => Own 3 H H' r (nbsU es x n.toNat) ∧ H <+: H' := by
  refine in120 rfl ?_
  intro Q hQ
  simp (maxSteps := 1000000) (disch := omega) only [cd120, hr.boxG, S, S1, S2, S3, S4, S5, ST, eq_self, reduceIte, reduceCtorEq, Nat.reduceEqDiff, Nat.reduceAdd]
  generalize hA : H ++ [AObj.cells [.int .i64 n, v] 26 false] = A
  have pA : H <+: A := by rw [← hA]; exact List.prefix_append _ _
  have cA : A[H.length]? = some (.cells [.int .i64 n, v] 26 false) := by rw [← hA]; exact at_new ..
  have rA := hr.pre pA
  try simp (maxSteps := 1000000) (disch := omega) only [S, S1, S2, S3, S4, S5, ST, eq_self, reduceIte, reduceCtorEq, Nat.reduceEqDiff, Nat.reduceAdd]
  refine LoopH.by (fun m s H' => ∃ i, m + i = n.toNat ∧ s 1 = .int .i64 x ∧ s 2 = .pointer (some ⟨H.length, 0, none⟩) ∧ s 6 = .int .i64 ((i : Nat) : Int) ∧ Own 3 A H' (s 5) (nbsU es x i) ∧ A <+: H') n.toNat ?_ ?_
  · exact ⟨0, by simp, rfl, rfl, rfl, .inr ⟨A.length, rfl, Nat.le_refl _, at_new ..⟩, List.prefix_append _ _⟩
  · rintro m s H' ⟨i, hm, h1, h2, h6, ho, hp⟩
    have hr' := rA.pre hp
    have cH := pre_at hp cA
    have hl := nbsU_len es x i
    have hst : nbsU es x (i + 1) = nbsU es x i ++ if nearB es x i = true then [(i : Int)] else [] := rfl
    generalize hw : s 5 = w at *
    simp (maxSteps := 1000000) (disch := omega) only [h1, h2, h6, hw, cell_of cH, S, S1, S2, S3, S4, S5, ST, eq_self, reduceIte, reduceCtorEq, Nat.reduceEqDiff, Nat.reduceAdd]
    refine brD.intro (fun g => ?_) (fun g => ?_)
    · simp (maxSteps := 1000000) (disch := omega) only [h1, h2, h6, hw, ld_agg ag26 cs26 cH, S, S1, S2, S3, S4, S5, ST, eq_self, reduceIte, reduceCtorEq, Nat.reduceEqDiff, Nat.reduceAdd]
      refine CallH.by (l2Near_c n v es x i H' hr' hlen) ?_
      rintro _ B ⟨rfl, pB⟩
      have hoB := ho.pre pB
      have hpB := hp.trans pB
      simp (maxSteps := 1000000) (disch := omega) only [S, S1, S2, S3, S4, S5, ST, eq_self, reduceIte, reduceCtorEq, Nat.reduceEqDiff, Nat.reduceAdd]
      refine brH.intro (fun e2 => ?_) (fun e2 => ?_)
      · obtain ⟨w', H2, k1, k2, k3, k4, k5, k6⟩ := own1_27 hoB hpB (by omega) (i : Int)
        simp (maxSteps := 1000000) (disch := omega) only [e2, h1, h2, h6, hw, k1, wrap64, S, S1, S2, S3, S4, S5, ST, eq_self, reduceIte, reduceCtorEq, Nat.reduceEqDiff, Nat.reduceAdd]
        rw [if_pos e2] at hst
        rw [← hst] at k2
        refine ⟨m - 1, by omega, i + 1, ?_⟩
        (repeat' first | exact k2 | exact k3 | apply And.intro) <;> first | (simp only [Value.int.injEq, true_and]; omega) | omega | rfl | assumption | (simp; done) | (simp; omega)
      · simp (maxSteps := 1000000) (disch := omega) only [e2, h1, h2, h6, hw, wrap64, S, S1, S2, S3, S4, S5, ST, eq_self, reduceIte, reduceCtorEq, Nat.reduceEqDiff, Nat.reduceAdd]
        rw [if_neg (by simpa using e2), List.append_nil] at hst
        rw [← hst] at hoB
        refine ⟨m - 1, by omega, i + 1, ?_⟩
        (repeat' first | exact hoB | exact hpB | apply And.intro) <;> first | (simp only [Value.int.injEq, true_and]; omega) | omega | rfl | assumption | (simp; done) | (simp; omega)
    · simp (maxSteps := 1000000) (disch := omega) only [hw, S, S1, S2, S3, S4, S5, ST, eq_self, reduceIte, reduceCtorEq, Nat.reduceEqDiff, Nat.reduceAdd]
      refine hQ _ _ _ ?_
      simp (maxSteps := 1000000) (disch := omega) only [hw, ho.row.tup, S, S1, S2, S3, S4, S5, ST, eq_self, reduceIte, reduceCtorEq, Nat.reduceEqDiff, Nat.reduceAdd]
      have : i = n.toNat := by omega
      subst this
      exact ⟨ho.base pA, pA.trans hp⟩
set_option maxRecDepth 20000 in
set_option maxHeartbeats 2000000 in
theorem l3Far_c (n : Int) (v : Value) (es : List (Int × Int)) (i : Nat) (H : AH) (hr : RowP 71 H v es) (hlen : es.length ≤ 1099511627776) (hn : 0 ≤ n ∧ n ≤ 8) (hi : (i : Int) < n) :
    ACalls Try.prog 90 [.agg (List.toArray [.int .i64 n, v]), .int .i64 (i : Int)] H fun r H' => Own 3 H H' r (bfs (roadsL n.toNat es) i) ∧ H <+: H' := by
  refine in90 rfl ?_
  intro Q hQ
  simp (maxSteps := 1000000) (disch := omega) only [cd90, hr.boxG, S, S1, S2, S3, S4, S5, ST, eq_self, reduceIte, reduceCtorEq, Nat.reduceEqDiff, Nat.reduceAdd]
  generalize hA : H ++ [AObj.cells [.int .i64 n, v] 26 false] = A
  have pA : H <+: A := by rw [← hA]; exact List.prefix_append _ _
  have cA : A[H.length]? = some (.cells [.int .i64 n, v] 26 false) := by rw [← hA]; exact at_new ..
  have rA := hr.pre pA
  have mk := mk_nils (P := Try.prog) (t := 38) Try.underlying38 cs27 (by rw [by27]; decide) ze27 hn.1 (by omega)
  simp (maxSteps := 1000000) (disch := omega) only [cell_of cA, mk, S, S1, S2, S3, S4, S5, ST, eq_self, reduceIte, reduceCtorEq, Nat.reduceEqDiff, Nat.reduceAdd]
  have z0 := at_new A (.cells (List.replicate n.toNat (.slice none 0 0)) 27 false)
  refine LoopH.by (fun m s H' => ∃ j us, m + j = n.toNat ∧ s 1 = .int .i64 (i : Int) ∧ s 2 = .pointer (some ⟨H.length, 0, none⟩) ∧ s 5 = .slice (some ⟨A.length, 0, none⟩) n.toNat n.toNat ∧ s 6 = .int .i64 ((j : Nat) : Int) ∧ us.length = n.toNat ∧ H'[A.length]? = some (.cells us 27 false) ∧ (∀ x, x < j → Row 3 H' (us.getD x undef) (nbsU es x n.toNat) ∧ (us.getD x undef = .slice none 0 0 ∨ A.length < rowO (us.getD x undef))) ∧ A <+: H') n.toNat ?_ ?_
  · exact ⟨0, List.replicate n.toNat (.slice none 0 0), by simp, rfl, rfl, rfl, rfl, by simp, z0, fun x hx => absurd hx (Nat.not_lt_zero x), List.prefix_append _ _⟩
  · rintro m s H' ⟨j, us, hm, h1, h2, h5, h6, hul, hc, hrows, hp⟩
    have hr' := rA.pre hp
    have cH := pre_at hp cA
    simp (maxSteps := 1000000) (disch := omega) only [h1, h2, h5, h6, cell_of cH, S, S1, S2, S3, S4, S5, ST, eq_self, reduceIte, reduceCtorEq, Nat.reduceEqDiff, Nat.reduceAdd]
    refine brD.intro (fun g => ?_) (fun g => ?_)
    · simp (maxSteps := 1000000) (disch := omega) only [h1, h2, h5, h6, ld_agg ag26 cs26 cH, S, S1, S2, S3, S4, S5, ST, eq_self, reduceIte, reduceCtorEq, Nat.reduceEqDiff, Nat.reduceAdd]
      refine CallH.by (l2Neighbors_c n v es j H' hr' hlen hn) ?_
      rintro b D ⟨hb, pD⟩
      have hcD := pre_at pD hc
      have hju : j < us.length := by omega
      have hsh := hb.row.shape
      obtain ⟨q, eq⟩ := hsh
      have t1 : isTup b = false := by rw [eq]; rfl
      have t2 : b.cells.toList = [b] := by rw [eq]; rfl
      have hst := st_at (P := Try.prog) (t := 27) cs27 hcD hju t1 t2
      simp (maxSteps := 1000000) (disch := omega) only [h1, h2, h5, h6, Int.toNat_natCast, Nat.zero_add, hst, wrap64, S, S1, S2, S3, S4, S5, ST, eq_self, reduceIte, reduceCtorEq, Nat.reduceEqDiff, Nat.reduceAdd]
      have hlt := at_lt hc
      have f0 := at_set (d := .cells (us.set j b) 27 false) hcD
      have f1 : A <+: D.set A.length (.cells (us.set j b) 27 false) := pre_set (hp.trans pD) (Nat.le_refl _) _
      have keep : ∀ {w : Value} {l : List Int}, Row 3 D w l → (w = .slice none 0 0 ∨ A.length < rowO w) → Row 3 (D.set A.length (.cells (us.set j b) 27 false)) w l := by
        intro w l hw ha
        rcases ha with ha | ha
        · rcases hw with hw | ⟨o, k, vs, ro, e1, _⟩
          · exact .inl hw
          · rw [e1] at ha; cases ha
        · exact hw.mono fun y hy => by rw [List.getElem?_set_ne (by omega)]; exact hy
      have hbo : b = .slice none 0 0 ∨ A.length < rowO b := by
        rcases hb with ⟨q, _⟩ | ⟨o, q, ho, _⟩
        · exact .inl q
        · refine .inr ?_
          rw [q]
          show A.length < o
          omega
      have f2 : ∀ x, x < j + 1 → Row 3 (D.set A.length (.cells (us.set j b) 27 false)) ((us.set j b).getD x undef) (nbsU es x n.toNat) ∧ ((us.set j b).getD x undef = .slice none 0 0 ∨ A.length < rowO ((us.set j b).getD x undef)) := by
        intro x hx
        have hsx : (us.set j b).getD x undef = if j = x then b else us.getD x undef := by
          rw [List.getD_eq_getElem?_getD, List.getD_eq_getElem?_getD, List.getElem?_set]
          by_cases h : j = x
          · subst h; rw [if_pos rfl, if_pos rfl, if_pos hju]; rfl
          · rw [if_neg h, if_neg h]
        rw [hsx]
        split
        · rename_i e
          subst e
          exact ⟨keep hb.row hbo, hbo⟩
        · rename_i e
          obtain ⟨q1, q2⟩ := hrows x (by omega)
          exact ⟨keep (q1.pre pD) q2, q2⟩
      have f3 : (us.set j b).length = n.toNat := by simp [hul]
      refine ⟨m - 1, by omega, j + 1, us.set j b, ?_⟩
      (repeat' first | exact f0 | exact f1 | exact f2 | exact f3 | apply And.intro) <;> first | (simp only [Value.int.injEq, true_and]; omega) | omega | rfl | assumption | (simp; done) | (simp; omega)
    · have hj : j = n.toNat := by omega
      have hrow : RowLB H'.length 27 3 H' (.slice (some ⟨A.length, 0, none⟩) n.toNat n.toNat) (roadsL n.toNat es) := by
        refine ⟨us, .inr ⟨A.length, 0, us, false, by rw [hul], hc, by omega, by rw [List.drop_zero, List.take_of_length_le (Nat.le_refl _)]⟩, .inr (at_lt hc), by rw [roadsL_len, hul], fun x hx => ?_⟩
        rw [roadsL_len] at hx
        obtain ⟨q1, q2⟩ := hrows x (by omega)
        rw [roadsL_at _ _ _ hx]
        refine ⟨q1, ?_⟩
        rcases q1.nil with q | q
        · exact .inl q.1
        · exact .inr q
      simp (maxSteps := 1000000) (disch := omega) only [h1, h2, h5, h6, S, S1, S2, S3, S4, S5, ST, eq_self, reduceIte, reduceCtorEq, Nat.reduceEqDiff, Nat.reduceAdd]
      refine CallH.by (l2Spread_c _ (roadsL n.toNat es) i H' hrow (roadsL_ok _ _) (by rw [roadsL_len]; omega) (by rw [roadsL_len]; omega) (roadsL_small _ _ (by omega))) ?_
      rintro u E ⟨hu, pE⟩
      have hpp := pA.trans hp
      simp (maxSteps := 1000000) (disch := omega) only [S, S1, S2, S3, S4, S5, ST, eq_self, reduceIte, reduceCtorEq, Nat.reduceEqDiff, Nat.reduceAdd]
      refine hQ _ _ _ ?_
      simp (maxSteps := 1000000) (disch := omega) only [hu.row.tup, S, S1, S2, S3, S4, S5, ST, eq_self, reduceIte, reduceCtorEq, Nat.reduceEqDiff, Nat.reduceAdd]
      exact ⟨hu.base hpp, hpp.trans pE⟩
end Go.Proofs.Ytldcbmmmheookaa.Ai
namespace Go.Proofs.Ytldcbmmmheookaa.Ai
open Go
set_option linter.unusedVariables false
/-- the edges with some numbers -/
def prtG (es : List (Int × Int)) (T : List Int) : List (Int × Int) := T.map fun e => es.getD e.toNat (0, 0)
/-- numbers of edges -/
def EdIn (es : List (Int × Int)) (T : List Int) : Prop := ∀ e ∈ T, 0 ≤ e ∧ e < es.length
theorem EdIn.sub {es : List (Int × Int)} {T U : List Int} (h : EdIn es T) (hs : ∀ x ∈ U, x ∈ T) : EdIn es U := fun e he => h e (hs e he)
theorem en_eq {n : Int} {es : List (Int × Int)} (hg : Grd n es) {e : Int} (h : 0 ≤ e ∧ e < es.length) : es.getD e.toNat (0, 0) = ((enA es e : Int), (enB es e : Int)) ∧ enA es e < enB es e ∧ (enB es e : Int) < n := by
  have hl : e.toNat < es.length := by omega
  have hm : es.getD e.toNat (0, 0) ∈ es := by simp [hl]
  have := grd_mem hg hm
  unfold enA enB
  refine ⟨Prod.ext ?_ ?_, ?_, ?_⟩
  · show _ = (((es.getD e.toNat (0, 0)).1.toNat : Nat) : Int); omega
  · show _ = (((es.getD e.toNat (0, 0)).2.toNat : Nat) : Int); omega
  · omega
  · omega
theorem EdIn.ends {n : Nat} {es : List (Int × Int)} (hg : Grd (n : Int) es) {T : List Int} (h : EdIn es T) : EndsIn es T n := fun e he => by
  have := en_eq hg (h e he)
  omega
theorem prt_near {n : Int} {es : List (Int × Int)} (hg : Grd n es) {T : List Int} (hT : EdIn es T) (a b : Int) : nearB (prtG es T) a b = true ↔ ∃ e ∈ T, (a = enA es e ∧ b = enB es e) ∨ (b = enA es e ∧ a = enB es e) := by
  rw [nearB_iff]
  unfold prtG
  rw [List.mem_map, List.mem_map]
  constructor
  · rintro (⟨e, he, q⟩ | ⟨e, he, q⟩)
    · rw [(en_eq hg (hT e he)).1, Prod.mk.injEq] at q
      exact ⟨e, he, .inl ⟨q.1.symm, q.2.symm⟩⟩
    · rw [(en_eq hg (hT e he)).1, Prod.mk.injEq] at q
      exact ⟨e, he, .inr ⟨q.1.symm, q.2.symm⟩⟩
  · rintro ⟨e, he, ⟨q1, q2⟩ | ⟨q1, q2⟩⟩
    · exact .inl ⟨e, he, by rw [(en_eq hg (hT e he)).1, q1, q2]⟩
    · exact .inr ⟨e, he, by rw [(en_eq hg (hT e he)).1, q1, q2]⟩
theorem Rch.trans {adj : Int → Int → Prop} {S : Int → Prop} {x y z : Int} (h : Rch adj S x y) (k : Rch adj S y z) : Rch adj S x z := by
  induction k with
  | refl => exact h
  | step _ h1 h2 ih => exact .step ih h1 h2
theorem Rch.back {adj : Int → Int → Prop} {S : Int → Prop} (hs : ∀ a b, adj a b → adj b a) {x z : Int} (h : Rch adj S x z) (hx : S x) : Rch adj S z x := by
  induction h with
  | refl => exact .refl
  | step h0 h1 h2 ih => exact (Rch.step .refl (hs _ _ h1) (h0.in_ hx)).trans ih
theorem jn_rch {n : Nat} {es : List (Int × Int)} (hg : Grd (n : Int) es) {T : List Int} (hT : EdIn es T) {x : Nat} (hx : x < n) (z' : Int) :
    Rch (fun a b => nearB (prtG es T) a b = true) (· ∈ alls n) (x : Int) z' ↔ ∃ z : Nat, z' = z ∧ z < n ∧ Jn es T x z := by
  have ends := hT.ends hg
  constructor
  · intro h
    induction h with
    | refl => exact ⟨x, rfl, hx, .refl x⟩
    | step _ h1 h2 ih =>
      obtain ⟨z, rfl, hz, hj⟩ := ih
      obtain ⟨e, he, q⟩ := (prt_near hg hT _ _).1 h1
      have hm := ends e he
      rcases q with ⟨q1, q2⟩ | ⟨q1, q2⟩
      · have : z = enA es e := by omega
        subst this
        exact ⟨enB es e, q2, hm.2, hj.trans (.edge e he)⟩
      · have : z = enB es e := by omega
        subst this
        exact ⟨enA es e, q1, hm.1, hj.trans (.symm (.edge e he))⟩
  · rintro ⟨z, rfl, hz, hj⟩
    have key : ∀ {u v : Nat}, Jn es T u v → u < n → Rch (fun a b => nearB (prtG es T) a b = true) (· ∈ alls n) (u : Int) (v : Int) := by
      intro u v h
      induction h with
      | refl y => intro _; exact .refl
      | edge e he => intro _; exact .step .refl ((prt_near hg hT _ _).2 ⟨e, he, .inl ⟨rfl, rfl⟩⟩) ((alls_mem _ _).2 (by have := ends e he; omega))
      | symm h ih => intro hu; exact (ih ((Jn.in_ ends h).2 hu)).back (fun a b hab => by rw [nearB_comm]; exact hab) ((alls_mem _ _).2 (by have := (Jn.in_ ends h).2 hu; omega))
      | trans h1 h2 i1 i2 => intro hu; exact (i1 hu).trans (i2 ((Jn.in_ ends h1).1 hu))
    exact key hj hx
theorem pc_len (es : List (Int × Int)) (set : List Int) : ∀ (l : List Int) (st : List (List Int) × List Int), st.1.length ≤ (l.foldl (pcS es set) st).1.length ∧ ((l.foldl (pcS es set) st).1.length = st.1.length ↔ ∀ y ∈ l, y ∈ st.2)
  | [], st => ⟨Nat.le_refl _, by simp⟩
  | y :: r, st => by
    rw [List.foldl_cons]
    by_cases e : y ∈ st.2
    · have : pcS es set st y = st := by unfold pcS; rw [if_pos e]
      rw [this]
      obtain ⟨i1, i2⟩ := pc_len es set r st
      exact ⟨i1, by rw [i2]; simp [e]⟩
    · have hs : (pcS es set st y).1.length = st.1.length + 1 := by unfold pcS; rw [if_neg e]; simp
      obtain ⟨i1, i2⟩ := pc_len es set r (pcS es set st y)
      refine ⟨by omega, ⟨fun h => by omega, fun h => absurd (h y (by simp)) e⟩⟩
theorem pieces_one {n : Nat} (hn : 1 ≤ n) {es : List (Int × Int)} (hg : Grd (n : Int) es) {T : List Int} (hT : EdIn es T) : (piecesL (prtG es T) (alls n)).length = 1 ↔ Conn es T n := by
  obtain ⟨r, hr⟩ : ∃ r, alls n = (0 : Int) :: r := by
    obtain ⟨m, rfl⟩ : ∃ m, n = m + 1 := ⟨n - 1, by omega⟩
    exact ⟨(List.range m).map fun z : Nat => ((z + 1 : Nat) : Int), by unfold alls; rw [List.range_succ_eq_map, List.map_cons, List.map_map]; rfl⟩
  have h0 : (0 : Int) ∈ alls n := by rw [hr]; simp
  have e1 : piecesL (prtG es T) (alls n) = (r.foldl (pcS (prtG es T) (alls n)) ([reachL (prtG es T) (alls n) 0], (reachL (prtG es T) (alls n) 0).foldl put [])).1 := by
    unfold piecesL pcK
    conv => lhs; rw [show (alls n).foldl (pcS (prtG es T) (alls n)) ([], []) = ((0 : Int) :: r).foldl (pcS (prtG es T) (alls n)) ([], []) from by rw [← hr]]
    rw [List.foldl_cons]
    congr 1
  have hl := (pc_len (prtG es T) (alls n) r ([reachL (prtG es T) (alls n) 0], (reachL (prtG es T) (alls n) 0).foldl put [])).2
  have hl' : (piecesL (prtG es T) (alls n)).length = 1 ↔ ∀ y ∈ r, y ∈ (reachL (prtG es T) (alls n) 0).foldl put [] := by rw [e1]; exact hl
  rw [hl']
  have hmem : ∀ y : Int, y ∈ (reachL (prtG es T) (alls n) 0).foldl put [] ↔ ∃ z : Nat, y = z ∧ z < n ∧ Jn es T 0 z := fun y => by
    rw [puts_mem, reach_iff _ _ _ h0, show (0 : Int) = ((0 : Nat) : Int) from rfl, jn_rch hg hT (by omega : 0 < n)]
    simp
  constructor
  · intro h
    have all : ∀ y, y < n → Jn es T 0 y := fun y hy => by
      have hy' : (y : Int) ∈ alls n := (alls_mem _ _).2 (by omega)
      rw [hr] at hy'
      rcases List.mem_cons.1 hy' with q | q
      · have : y = 0 := by omega
        subst this; exact .refl 0
      · obtain ⟨z, hz, _, hj⟩ := (hmem _).1 (h _ q)
        have : y = z := by omega
        subst this; exact hj
    exact fun x y hx hy => (all x hx).symm.trans (all y hy)
  · intro h y hy
    have hy' : y ∈ alls n := by rw [hr]; exact List.mem_cons_of_mem _ hy
    have := (alls_mem _ _).1 hy'
    exact (hmem y).2 ⟨y.toNat, by omega, by omega, h 0 _ (by omega) (by omega)⟩
/-- joined, as the search tells -/
def jnB (es : List (Int × Int)) (n : Nat) (T : List Int) (a b : Nat) : Bool := decide (0 ≤ (bfs (roadsL n (prtG es T)) a).getD b 0)
theorem jnB_iff {n : Nat} {es : List (Int × Int)} (hg : Grd (n : Int) es) {T : List Int} (hT : EdIn es T) {i j : Nat} (hi : i < n) (hj : j < n) : jnB es n T i j = true ↔ Jn es T i j := by
  have hL := roadsL_ok n (prtG es T)
  have hl := roadsL_len n (prtG es T)
  have hi' : i < (roadsL n (prtG es T)).length := by omega
  unfold jnB
  rw [decide_eq_true_eq]
  have hadj : ∀ u, u < n → ∀ y, y ∈ (roadsL n (prtG es T)).getD u [] ↔ ((0 ≤ y ∧ y < n) ∧ nearB (prtG es T) u y = true) := fun u hu y => by rw [roadsL_at _ _ _ hu, nbsU_mem]
  constructor
  · obtain ⟨q, h⟩ := bfs_DS hL hi'
    have key : ∀ (d v : Nat), v < n → (bfs (roadsL n (prtG es T)) i).getD v 0 = d → Jn es T i v := by
      intro d
      induction d with
      | zero =>
        intro v hv hd
        rcases h.di.src v (by omega) (show 0 ≤ (bfs (roadsL n (prtG es T)) i).getD v 0 by omega) with ⟨e, _⟩ | ⟨u, u1, u2, u3, u4⟩
        · subst e; exact .refl _
        · have u2' : 0 ≤ (bfs (roadsL n (prtG es T)) i).getD u 0 := u2
          have u4' : (bfs (roadsL n (prtG es T)) i).getD v 0 = (bfs (roadsL n (prtG es T)) i).getD u 0 + 1 := u4
          omega
      | succ d ih =>
        intro v hv hd
        rcases h.di.src v (by omega) (show 0 ≤ (bfs (roadsL n (prtG es T)) i).getD v 0 by omega) with ⟨_, e⟩ | ⟨u, u1, u2, u3, u4⟩
        · have e' : (bfs (roadsL n (prtG es T)) i).getD v 0 = 0 := e
          omega
        · have u4' : (bfs (roadsL n (prtG es T)) i).getD v 0 = (bfs (roadsL n (prtG es T)) i).getD u 0 + 1 := u4
          have hu : u < n := by omega
          have hj := ih u hu (by omega)
          obtain ⟨e, he, c⟩ := (prt_near hg hT _ _).1 ((hadj u hu _).1 u3).2
          rcases c with ⟨c1, c2⟩ | ⟨c1, c2⟩
          · have e1 : u = enA es e := by omega
            have e2 : v = enB es e := by omega
            rw [e2]; exact (e1 ▸ hj).trans (.edge e he)
          · have e1 : u = enB es e := by omega
            have e2 : v = enA es e := by omega
            rw [e2]; exact (e1 ▸ hj).trans (.symm (.edge e he))
    intro h0
    exact key _ j hj (Int.toNat_of_nonneg h0).symm
  · intro hjn
    have hr := (jn_rch hg hT hi (j : Int)).2 ⟨j, rfl, hj, hjn⟩
    have key : ∀ z : Int, Rch (fun a b => nearB (prtG es T) a b = true) (· ∈ alls n) (i : Int) z → (0 ≤ z ∧ z < n) ∧ 0 ≤ (bfs (roadsL n (prtG es T)) i).getD z.toNat 0 := by
      intro z h
      induction h with
      | refl => refine ⟨by omega, ?_⟩; rw [Int.toNat_natCast, bfs_zero hL hi']; omega
      | step _ h1 h2 ih =>
        have hz := (alls_mem _ _).1 h2
        refine ⟨hz, bfs_clo hL hi' (by omega) ih.2 ((hadj _ (by omega) _).2 ⟨hz, ?_⟩)⟩
        rw [Int.toNat_of_nonneg ih.1.1]; exact h1
    have := (key _ hr).2
    rwa [Int.toNat_natCast] at this
theorem jnB_not {n : Nat} {es : List (Int × Int)} (hg : Grd (n : Int) es) {T : List Int} (hT : EdIn es T) {i j : Nat} (hi : i < n) (hj : j < n) : jnB es n T i j = false ↔ ¬ Jn es T i j := by
  rw [← jnB_iff hg hT hi hj, Bool.not_eq_true]
/-- a tree, as the programs tell -/
def TreL (n : Nat) (es : List (Int × Int)) (T : List Int) : Prop := T.length + 1 = n ∧ T.Pairwise (· < ·) ∧ EdIn es T ∧ Conn es T n
theorem TreL.tree {n : Nat} {es : List (Int × Int)} {T : List Int} (hg : Grd (n : Int) es) (h : TreL n es T) : Tree es T n :=
  ⟨h.2.1.imp fun q e => by omega, h.1, h.2.2.2, h.2.2.1.ends hg⟩
/-- the cut of a tree and one of its edges -/
def cutL (n : Nat) (es : List (Int × Int)) (T : List Int) (e : Int) : List Int := (alls es.length).filter fun f => !jnB es n (wo1 T e) (enA es f) (enB es f)
/-- the edges of a tree in the circle of another edge -/
def cirL (n : Nat) (es : List (Int × Int)) (T : List Int) (f : Int) : List Int := T.filter fun e => !jnB es n (wo1 T e) (enA es f) (enB es f)
theorem wo1_in {es : List (Int × Int)} {T : List Int} (h : EdIn es T) (e : Int) : EdIn es (wo1 T e) := h.sub fun x hx => (wo1_mem.1 hx).1
theorem cir_mem {n : Nat} {es : List (Int × Int)} (hg : Grd (n : Int) es) {T : List Int} (hT : EdIn es T) {f : Int} (hf : 0 ≤ f ∧ f < es.length) {e : Int} : e ∈ cirL n es T f ↔ Cir es T f e := by
  have := en_eq hg hf
  unfold cirL Cir
  rw [List.mem_filter, Bool.not_eq_true', jnB_not hg (wo1_in hT e) (by omega) (by omega)]
theorem cut_mem {n : Nat} {es : List (Int × Int)} (hg : Grd (n : Int) es) {T : List Int} (hT : EdIn es T) {e f : Int} : f ∈ cutL n es T e ↔ (0 ≤ f ∧ f < es.length) ∧ ¬ Jn es (wo1 T e) (enA es f) (enB es f) := by
  unfold cutL
  rw [List.mem_filter, alls_mem, Bool.not_eq_true']
  constructor
  · rintro ⟨h1, h2⟩
    have := en_eq hg h1
    exact ⟨h1, (jnB_not hg (wo1_in hT e) (by omega) (by omega)).1 h2⟩
  · rintro ⟨h1, h2⟩
    have := en_eq hg h1
    exact ⟨h1, (jnB_not hg (wo1_in hT e) (by omega) (by omega)).2 h2⟩
end Go.Proofs.Ytldcbmmmheookaa.Ai
namespace Go.Proofs.Ytldcbmmmheookaa.Ai
open Go Go.RowKit Go.Shelf
set_option linter.unusedVariables false
set_option linter.unusedSimpArgs false
attribute [local go_sem] Oper.semAt_some
/-- a slice value that holds ints, in a block below n₀; or it is nil -/
def SlInts (n₀ : Nat) (W : World) (sv : Value) (zs : List Int) : Prop :=
  (∃ a c, sv = .slice a 0 c ∧ zs = []) ∨ ∃ b off cap, sv = .slice (some ⟨b, off, none⟩) zs.length cap ∧ b < n₀ ∧ ∀ j, j < zs.length → W.cell? ⟨b, off + j, none⟩ = some (.int .i64 (zs[j]?.getD 0))
theorem SlInts.below {n₀ : Nat} {A B : World} (h : Below n₀ A B) {sv : Value} {zs : List Int} : SlInts n₀ A sv zs → SlInts n₀ B sv zs
  | .inl e => .inl e
  | .inr ⟨b, off, cap, e, hb, hc⟩ => .inr ⟨b, off, cap, e, hb, fun j hj => (h.cell (p := ⟨b, off + j, none⟩) hb).trans (hc j hj)⟩
end Go.Proofs.Ytldcbmmmheookaa.Ai
namespace Go.Proofs.Ytldcbmmmheookaa.Ai
open Go
def ords42 : List (Nat × List (Nat × Bool)) := []
def cd42 : Cd := (.seq (.reg [⟨⟨some 4, Op.assign (Operand.const (Value.bool false)), none⟩, []⟩]) (.seq (.seq (.reg [⟨⟨some 5, Op.assign (Operand.const (Value.int IntKind.i64 0)), none⟩, []⟩]) (.block 0 (.loop (.seq (.seq (.reg [⟨⟨some 6, Op.move (Operand.tmp 5), none⟩, []⟩,
  ⟨⟨some 7, Op.move (Operand.tmp 0), none⟩, []⟩,
  ⟨⟨some 8, Op.call { callee := (Callee.builtin Builtin.len), args := #[(Operand.tmp 7)], argTypes := #[27] }, none⟩, []⟩,
  ⟨⟨some 9, Op.binOp BinOp.lss 3 (Operand.tmp 6) (Operand.tmp 8) 3, none⟩, []⟩]) (.cond (Operand.tmp 9) .skip (.exit 0))) (.seq (.block 1 (.seq (.reg [⟨⟨some 12, Op.move (Operand.tmp 0), none⟩, []⟩,
  ⟨⟨some 13, Op.move (Operand.tmp 5), none⟩, []⟩,
  ⟨⟨some 14, Op.indexAddr 27 (Operand.tmp 12) (Operand.tmp 13), none⟩, []⟩,
  ⟨⟨some 15, Op.load 3 (Operand.tmp 14), none⟩, []⟩,
  ⟨⟨some 16, Op.move (Operand.tmp 1), none⟩, []⟩,
  ⟨⟨some 17, Op.binOp BinOp.eql 3 (Operand.tmp 15) (Operand.tmp 16) 3, none⟩, []⟩]) (.cond (Operand.tmp 17) (.seq (.reg [⟨⟨some 4, Op.assign (Operand.const (Value.bool true)), none⟩, []⟩]) .ret) .skip))) (.reg [⟨⟨some 10, Op.move (Operand.tmp 5), none⟩, []⟩,
  ⟨⟨some 11, Op.binOp BinOp.add 3 (Operand.tmp 10) (Operand.const (Value.int IntKind.i64 1)) 3, none⟩, []⟩,
  ⟨⟨some 5, Op.assign (Operand.tmp 11), none⟩, []⟩])))))) (.seq (.reg [⟨⟨some 4, Op.assign (Operand.const (Value.bool false)), none⟩, []⟩]) .ret)))
theorem sl42 : slim Try.f42.ntmps ords42 (Try.f42.body.getD .skip) = some cd42 := by kernel_rfl
theorem in42 {args : List Value} {H : AH} {R : Value → AH → Prop} (hl : args.length = 2) (h : ∀ (Q : Exit → Sl → AH → Prop), (∀ e s H, endA Try.prog [ResultVar.tmp 4] R e s H → Q e s H) → wpC Try.prog cd42 Q (enterA args) H) : ACalls Try.prog 42 args H R :=
  ACalls.intro (by kernel_rfl) Try.func42 rfl (by kernel_rfl) sl42 hl (of_decide_eq_true (by kernel_rfl)) (by kernel_rfl) h
end Go.Proofs.Ytldcbmmmheookaa.Ai
namespace Go.Proofs.Ytldcbmmmheookaa.Ai
open Go Go.RowKit
set_option linter.unusedVariables false
set_option linter.unusedSimpArgs false
theorem l1Has_c (v : Value) (xs : List Int) (x : Int) (H : AH) (hr : Row 3 H v xs) (hlen : xs.length ≤ 1099511627776) : ACalls Try.prog 42 [v, .int .i64 x] H fun r H' => r = .bool (decide (x ∈ xs)) ∧ H = H' := by
  refine in42 rfl ?_
  intro Q hQ
  simp (maxSteps := 1000000) (disch := omega) only [cd42, S, S1, S2, S3, S4, S5, ST, eq_self, reduceIte, reduceCtorEq, Nat.reduceEqDiff, Nat.reduceAdd]
  refine LoopH.by (fun m s H' => ∃ i, m + i = xs.length ∧ s 0 = v ∧ s 1 = .int .i64 x ∧ s 5 = .int .i64 ((i : Nat) : Int) ∧ H = H' ∧ x ∉ xs.take i) xs.length ?_ ?_
  · exact ⟨0, by simp, rfl, rfl, rfl, rfl, by simp⟩
  · rintro m s H' ⟨i, hm, h0, h1, h5, rfl, hn⟩
    simp (maxSteps := 1000000) (disch := omega) only [h0, h1, h5, hr.len Try.underlying27, S, S1, S2, S3, S4, S5, ST, eq_self, reduceIte, reduceCtorEq, Nat.reduceEqDiff, Nat.reduceAdd]
    refine brD.intro (fun g => ?_) (fun g => ?_) <;> simp (maxSteps := 1000000) (disch := omega) only [h0, h1, h5, hr.ix Try.underlying27 cs3, hr.cell, Int.toNat_natCast, S, S1, S2, S3, S4, S5, ST, eq_self, reduceIte, reduceCtorEq, Nat.reduceEqDiff, Nat.reduceAdd]
    · have hi : i < xs.length := by omega
      have hg : xs.getD i 0 = xs[i] := by simp [hi]
      refine brD.intro (fun e => ?_) (fun e => ?_) <;> simp (maxSteps := 1000000) (disch := omega) only [h0, h1, h5, wrap64, S, S1, S2, S3, S4, S5, ST, eq_self, reduceIte, reduceCtorEq, Nat.reduceEqDiff, Nat.reduceAdd]
      · refine hQ _ _ _ ?_
        simp (maxSteps := 1000000) (disch := omega) only [S, S1, S2, S3, S4, S5, ST, eq_self, reduceIte, reduceCtorEq, Nat.reduceEqDiff, Nat.reduceAdd]
        rw [hg] at e
        have : x ∈ xs := e ▸ List.getElem_mem hi
        simp [this]
      · refine ⟨m - 1, by omega, i + 1, by omega, by simp, ?_⟩
        rw [List.take_add_one, List.getElem?_eq_getElem hi]
        rw [hg] at e
        simp only [Option.toList_some, List.mem_append, List.mem_singleton, not_or]
        exact ⟨hn, fun e' => e e'.symm⟩
    · refine hQ _ _ _ ?_
      simp (maxSteps := 1000000) (disch := omega) only [S, S1, S2, S3, S4, S5, ST, eq_self, reduceIte, reduceCtorEq, Nat.reduceEqDiff, Nat.reduceAdd]
      rw [List.take_of_length_le (by omega)] at hn
      simp [hn]
end Go.Proofs.Ytldcbmmmheookaa.Ai
namespace Go.Proofs.Ytldcbmmmheookaa.Ai
open Go
def ords93 : List (Nat × List (Nat × Bool)) := []
def cd93 : Cd := (.seq (.reg [⟨⟨some 4, Op.assign (Operand.const (Value.bool false)), none⟩, []⟩]) (.seq (.seq (.reg [⟨⟨some 7, Op.move (Operand.tmp 0), none⟩, []⟩,
  ⟨⟨some 8, Op.call { callee := (Callee.builtin Builtin.len), args := #[(Operand.tmp 7)], argTypes := #[27] }, none⟩, []⟩,
  ⟨⟨some 9, Op.move (Operand.const (Value.int IntKind.i64 0)), none⟩, []⟩]) (.block 0 (.loop (.seq (.reg [⟨⟨some 10, Op.binOp BinOp.lss 3 (Operand.tmp 9) (Operand.tmp 8) 3, none⟩, []⟩]) (.seq (.cond (Operand.tmp 10) .skip (.exit 0)) (.seq (.block 1 (.seq (.reg [⟨⟨some 11, Op.move (Operand.tmp 9), none⟩, []⟩,
  ⟨⟨some 12, Op.indexAddr 27 (Operand.tmp 7) (Operand.tmp 9), none⟩, []⟩,
  ⟨⟨some 13, Op.load 3 (Operand.tmp 12), none⟩, []⟩,
  ⟨⟨some 5, Op.assign (Operand.tmp 11), none⟩, []⟩,
  ⟨⟨some 6, Op.assign (Operand.tmp 13), none⟩, []⟩]) (.seq (.reg [⟨⟨some 14, Op.move (Operand.tmp 6), none⟩, []⟩,
  ⟨⟨some 15, Op.move (Operand.tmp 1), none⟩, []⟩,
  ⟨⟨some 16, Op.binOp BinOp.sub 3 (Operand.tmp 15) (Operand.const (Value.int IntKind.i64 1)) 3, none⟩, []⟩,
  ⟨⟨some 17, Op.call { callee := (Callee.value (Operand.func 87)), args := #[(Operand.tmp 14), (Operand.const (Value.int IntKind.i64 0)), (Operand.tmp 16)], argTypes := #[3, 3, 3] }, none⟩, []⟩,
  ⟨⟨some 18, Op.unOp UnOp.not 4 (Operand.tmp 17), none⟩, []⟩,
  ⟨⟨some 19, Op.move (Operand.tmp 18), none⟩, []⟩,
  ⟨⟨some 20, Op.move (Operand.tmp 5), some (19, false)⟩, []⟩,
  ⟨⟨some 21, Op.binOp BinOp.gtr 3 (Operand.tmp 20) (Operand.const (Value.int IntKind.i64 0)) 3, some (19, false)⟩, []⟩,
  ⟨⟨some 22, Op.move (Operand.tmp 21), some (19, false)⟩, []⟩,
  ⟨⟨some 23, Op.move (Operand.tmp 6), some (22, true)⟩, []⟩,
  ⟨⟨some 24, Op.move (Operand.tmp 0), some (22, true)⟩, []⟩,
  ⟨⟨some 25, Op.move (Operand.tmp 5), some (22, true)⟩, []⟩,
  ⟨⟨some 26, Op.binOp BinOp.sub 3 (Operand.tmp 25) (Operand.const (Value.int IntKind.i64 1)) 3, some (22, true)⟩, []⟩,
  ⟨⟨some 27, Op.indexAddr 27 (Operand.tmp 24) (Operand.tmp 26), some (22, true)⟩, []⟩,
  ⟨⟨some 28, Op.load 3 (Operand.tmp 27), some (22, true)⟩, []⟩,
  ⟨⟨some 29, Op.binOp BinOp.leq 3 (Operand.tmp 23) (Operand.tmp 28) 3, some (22, true)⟩, []⟩,
  ⟨⟨some 30, Op.pick (Operand.tmp 22) (Operand.tmp 29) (Operand.const (Value.bool false)), some (19, false)⟩, []⟩,
  ⟨⟨some 31, Op.pick (Operand.tmp 19) (Operand.const (Value.bool true)) (Operand.tmp 30), none⟩, []⟩]) (.cond (Operand.tmp 31) (.seq (.reg [⟨⟨some 4, Op.assign (Operand.const (Value.bool false)), none⟩, []⟩]) .ret) .skip)))) (.reg [⟨⟨some 32, Op.binOp BinOp.add 3 (Operand.tmp 9) (Operand.const (Value.int IntKind.i64 1)) 3, none⟩, []⟩,
  ⟨⟨some 9, Op.move (Operand.tmp 32), none⟩, []⟩]))))))) (.seq (.reg [⟨⟨some 4, Op.assign (Operand.const (Value.bool true)), none⟩, []⟩]) .ret)))
theorem sl93 : slim Try.f93.ntmps ords93 (Try.f93.body.getD .skip) = some cd93 := by kernel_rfl
theorem in93 {args : List Value} {H : AH} {R : Value → AH → Prop} (hl : args.length = 2) (h : ∀ (Q : Exit → Sl → AH → Prop), (∀ e s H, endA Try.prog [ResultVar.tmp 4] R e s H → Q e s H) → wpC Try.prog cd93 Q (enterA args) H) : ACalls Try.prog 93 args H R :=
  ACalls.intro (by kernel_rfl) Try.func93 rfl (by kernel_rfl) sl93 hl (of_decide_eq_true (by kernel_rfl)) (by kernel_rfl) h
end Go.Proofs.Ytldcbmmmheookaa.Ai
namespace Go.Proofs.Ytldcbmmmheookaa.Ai
open Go Go.RowKit
set_option linter.unusedVariables false
set_option linter.unusedSimpArgs false
instance (n : Int) (ys : List Int) : Decidable (Rsg n ys) := by unfold Rsg; infer_instance
theorem isRising_c (v : Value) (ys : List Int) (n : Int) (H : AH) (hn : 0 ≤ n ∧ n ≤ 1099511627776) (hr : Row 3 H v ys) (hlen : ys.length ≤ 1099511627776) :
    ACalls Try.prog 93 [v, .int .i64 n] H fun r H' => r = .bool (decide (Rsg n ys)) ∧ H = H' := by
  refine in93 rfl ?_
  intro Q hQ
  simp (maxSteps := 1000000) (disch := omega) only [cd93, hr.len Try.underlying27, S, S1, S2, S3, S4, S5, ST, eq_self, reduceIte, reduceCtorEq, Nat.reduceEqDiff, Nat.reduceAdd]
  refine LoopH.by (fun m s H' => ∃ i, m + i = ys.length ∧ s 0 = v ∧ s 1 = .int .i64 n ∧ s 7 = v ∧ s 8 = .int .i64 (ys.length : Int) ∧ s 9 = .int .i64 ((i : Nat) : Int) ∧ H = H' ∧ ∀ j, j < i → (0 ≤ ys.getD j 0 ∧ ys.getD j 0 ≤ n - 1) ∧ (0 < j → ys.getD (j - 1) 0 < ys.getD j 0)) ys.length ?_ ?_
  · exact ⟨0, by simp, rfl, rfl, rfl, rfl, rfl, rfl, by omega⟩
  · rintro m s H' ⟨i, hm, h0, h1, h7, h8, h9, rfl, hj⟩
    simp (maxSteps := 1000000) (disch := omega) only [h0, h1, h7, h8, h9, S, S1, S2, S3, S4, S5, ST, eq_self, reduceIte, reduceCtorEq, Nat.reduceEqDiff, Nat.reduceAdd]
    refine brD.intro (fun g => ?_) (fun g => ?_)
    · have hi : i < ys.length := by omega
      have hp : ((i : Int) - 1).toNat = i - 1 := by omega
      have bad : ¬ ((0 ≤ ys.getD i 0 ∧ ys.getD i 0 ≤ n - 1) ∧ (0 < i → ys.getD (i - 1) 0 < ys.getD i 0)) → decide (Rsg n ys) = false := fun h => decide_eq_false fun hh => h (hh i hi)
      have nxt : ((0 ≤ ys.getD i 0 ∧ ys.getD i 0 ≤ n - 1) ∧ (0 < i → ys.getD (i - 1) 0 < ys.getD i 0)) → ∀ j, j < i + 1 → (0 ≤ ys.getD j 0 ∧ ys.getD j 0 ≤ n - 1) ∧ (0 < j → ys.getD (j - 1) 0 < ys.getD j 0) := by
        intro h j hjj
        by_cases e : j = i
        · subst e; exact h
        · exact hj j (by omega)
      simp (maxSteps := 1000000) (disch := omega) only [h0, h1, h7, h8, h9, hr.ix Try.underlying27 cs3, hr.cell, Int.toNat_natCast, wrap64, S, S1, S2, S3, S4, S5, ST, eq_self, reduceIte, reduceCtorEq, Nat.reduceEqDiff, Nat.reduceAdd]
      refine CallH.by (between_c ..) ?_
      rintro _ _ ⟨rfl, rfl⟩
      simp (maxSteps := 1000000) (disch := omega) only [S, S1, S2, S3, S4, S5, ST, eq_self, reduceIte, reduceCtorEq, Nat.reduceEqDiff, Nat.reduceAdd]
      refine brD.intro (fun e => ?_) (fun e => ?_) <;> simp (maxSteps := 1000000) (disch := omega) only [e, h0, h1, h7, h8, h9, wrap64, S, S1, S2, S3, S4, S5, ST, eq_self, reduceIte, reduceCtorEq, Nat.reduceEqDiff, Nat.reduceAdd]
      · refine brD.intro (fun q => ?_) (fun q => ?_) <;> simp (maxSteps := 1000000) (disch := omega) only [e, q, h0, h1, h7, h8, h9, hr.ix Try.underlying27 cs3, hr.cell, hp, wrap64, S, S1, S2, S3, S4, S5, ST, eq_self, reduceIte, reduceCtorEq, Nat.reduceEqDiff, Nat.reduceAdd]
        · refine brD.intro (fun z => ?_) (fun z => ?_) <;> simp (maxSteps := 1000000) (disch := omega) only [e, q, z, h0, h1, h7, h8, h9, wrap64, S, S1, S2, S3, S4, S5, ST, eq_self, reduceIte, reduceCtorEq, Nat.reduceEqDiff, Nat.reduceAdd]
          · refine hQ _ _ _ ?_
            simp (maxSteps := 1000000) (disch := omega) only [S, S1, S2, S3, S4, S5, ST, eq_self, reduceIte, reduceCtorEq, Nat.reduceEqDiff, Nat.reduceAdd]
            rw [bad (fun h => by have := h.2 (by omega); omega)]
          · have fx := nxt ⟨e, fun _ => by omega⟩
            refine ⟨m - 1, by omega, i + 1, ?_⟩
            (repeat' apply And.intro) <;> first | exact fx | (simp only [Value.int.injEq, true_and]; omega) | omega | rfl | assumption | (simp; done) | (simp; omega)
        · have fx := nxt ⟨e, fun _ => by omega⟩
          refine ⟨m - 1, by omega, i + 1, ?_⟩
          (repeat' apply And.intro) <;> first | exact fx | (simp only [Value.int.injEq, true_and]; omega) | omega | rfl | assumption | (simp; done) | (simp; omega)
      · refine hQ _ _ _ ?_
        simp (maxSteps := 1000000) (disch := omega) only [S, S1, S2, S3, S4, S5, ST, eq_self, reduceIte, reduceCtorEq, Nat.reduceEqDiff, Nat.reduceAdd]
        rw [bad (fun h => e h.1)]
    · simp (maxSteps := 1000000) (disch := omega) only [h0, h1, h7, h8, h9, S, S1, S2, S3, S4, S5, ST, eq_self, reduceIte, reduceCtorEq, Nat.reduceEqDiff, Nat.reduceAdd]
      refine hQ _ _ _ ?_
      simp (maxSteps := 1000000) (disch := omega) only [S, S1, S2, S3, S4, S5, ST, eq_self, reduceIte, reduceCtorEq, Nat.reduceEqDiff, Nat.reduceAdd]
      have : Rsg n ys := fun j hjj => hj j (by omega)
      simp [this]
end Go.Proofs.Ytldcbmmmheookaa.Ai
namespace Go.Proofs.Ytldcbmmmheookaa.Ai
open Go
def ords101 : List (Nat × List (Nat × Bool)) := []
def cd101 : Cd := (.seq (.reg [⟨⟨some 4, Op.assign (Operand.const (Value.int IntKind.i64 0)), none⟩, []⟩]) (.seq (.seq (.reg [⟨⟨some 6, Op.move (Operand.tmp 0), none⟩, []⟩,
  ⟨⟨some 7, Op.call { callee := (Callee.builtin Builtin.len), args := #[(Operand.tmp 6)], argTypes := #[27] }, none⟩, []⟩,
  ⟨⟨some 8, Op.move (Operand.const (Value.int IntKind.i64 0)), none⟩, []⟩]) (.block 0 (.loop (.seq (.reg [⟨⟨some 9, Op.binOp BinOp.lss 3 (Operand.tmp 8) (Operand.tmp 7) 3, none⟩, []⟩]) (.seq (.cond (Operand.tmp 9) .skip (.exit 0)) (.seq (.block 1 (.seq (.reg [⟨⟨some 10, Op.move (Operand.tmp 8), none⟩, []⟩,
  ⟨⟨some 5, Op.assign (Operand.tmp 10), none⟩, []⟩]) (.seq (.reg [⟨⟨some 11, Op.move (Operand.tmp 1), none⟩, []⟩,
  ⟨⟨some 12, Op.move (Operand.tmp 0), none⟩, []⟩,
  ⟨⟨some 13, Op.move (Operand.tmp 5), none⟩, []⟩,
  ⟨⟨some 14, Op.indexAddr 27 (Operand.tmp 12) (Operand.tmp 13), none⟩, []⟩,
  ⟨⟨some 15, Op.load 3 (Operand.tmp 14), none⟩, []⟩,
  ⟨⟨some 16, Op.call { callee := (Callee.value (Operand.tmp 11)), args := #[(Operand.tmp 15)], argTypes := #[3] }, none⟩, []⟩]) (.cond (Operand.tmp 16) (.seq (.reg [⟨⟨some 17, Op.move (Operand.tmp 5), none⟩, []⟩,
  ⟨⟨some 4, Op.assign (Operand.tmp 17), none⟩, []⟩]) .ret) .skip)))) (.reg [⟨⟨some 18, Op.binOp BinOp.add 3 (Operand.tmp 8) (Operand.const (Value.int IntKind.i64 1)) 3, none⟩, []⟩,
  ⟨⟨some 8, Op.move (Operand.tmp 18), none⟩, []⟩]))))))) (.seq (.reg [⟨⟨some 4, Op.assign (Operand.const (Value.int IntKind.i64 (-1))), none⟩, []⟩]) .ret)))
theorem sl101 : slim Try.f101.ntmps ords101 (Try.f101.body.getD .skip) = some cd101 := by kernel_rfl
theorem in101 {args : List Value} {H : AH} {R : Value → AH → Prop} (hl : args.length = 2) (h : ∀ (Q : Exit → Sl → AH → Prop), (∀ e s H, endA Try.prog [ResultVar.tmp 4] R e s H → Q e s H) → wpC Try.prog cd101 Q (enterA args) H) : ACalls Try.prog 101 args H R :=
  ACalls.intro (by kernel_rfl) Try.func101 rfl (by kernel_rfl) sl101 hl (of_decide_eq_true (by kernel_rfl)) (by kernel_rfl) h
def ords94 : List (Nat × List (Nat × Bool)) := []
def cd94 : Cd := (.seq (.reg [⟨⟨some 4, Op.assign (Operand.const (Value.bool false)), none⟩, []⟩]) (.seq (.reg [⟨⟨some 5, Op.move (Operand.tmp 0), none⟩, []⟩,
  ⟨⟨some 6, Op.move (Operand.tmp 1), none⟩, []⟩,
  ⟨⟨some 7, Op.call { callee := (Callee.value (Operand.func 101)), args := #[(Operand.tmp 5), (Operand.tmp 6)], argTypes := #[27, 80] }, none⟩, []⟩,
  ⟨⟨some 8, Op.binOp BinOp.geq 3 (Operand.tmp 7) (Operand.const (Value.int IntKind.i64 0)) 3, none⟩, []⟩,
  ⟨⟨some 4, Op.assign (Operand.tmp 8), none⟩, []⟩]) .ret))
theorem sl94 : slim Try.f94.ntmps ords94 (Try.f94.body.getD .skip) = some cd94 := by kernel_rfl
theorem in94 {args : List Value} {H : AH} {R : Value → AH → Prop} (hl : args.length = 2) (h : ∀ (Q : Exit → Sl → AH → Prop), (∀ e s H, endA Try.prog [ResultVar.tmp 4] R e s H → Q e s H) → wpC Try.prog cd94 Q (enterA args) H) : ACalls Try.prog 94 args H R :=
  ACalls.intro (by kernel_rfl) Try.func94 rfl (by kernel_rfl) sl94 hl (of_decide_eq_true (by kernel_rfl)) (by kernel_rfl) h
end Go.Proofs.Ytldcbmmmheookaa.Ai
namespace Go.Proofs.Ytldcbmmmheookaa.Ai
open Go Go.RowKit
set_option linter.unusedVariables false
set_option linter.unusedSimpArgs false
theorem I64.tdiv {x : Int} (h : I64 x) : IntKind.i64.wrap (x.tdiv 10) = x.tdiv 10 := by
  obtain ⟨h1, h2⟩ := h
  have hle : (x.tdiv 10).natAbs ≤ x.natAbs := by rw [Int.natAbs_tdiv]; exact Nat.div_le_self _ _
  by_cases h0 : 0 ≤ x
  · have := Int.tdiv_nonneg h0 (by decide : (0 : Int) ≤ 10)
    exact wrap64 (by omega) (by omega)
  · rw [IntKind.wrap_i64]
    have : (x.tdiv 10).natAbs ≤ 922337203685477580 := by
      rw [Int.natAbs_tdiv]
      show x.natAbs / 10 ≤ _
      omega
    omega
/-- two diagonals cross -/
def Crs (x y : Int) : Prop := x.tdiv 10 < y.tdiv 10 ∧ y.tdiv 10 < x.tmod 10 ∧ x.tmod 10 < y.tmod 10 ∨ y.tdiv 10 < x.tdiv 10 ∧ x.tdiv 10 < y.tmod 10 ∧ y.tmod 10 < x.tmod 10
instance (x y : Int) : Decidable (Crs x y) := inferInstanceAs (Decidable (_ ∨ _))
/-- a diagonal of a polygon -/
def Diag (n d : Int) : Prop := 0 ≤ d ∧ d.tmod 10 < n ∧ 1 < d.tmod 10 - d.tdiv 10 ∧ ¬ (d.tdiv 10 = 0 ∧ d.tmod 10 = n - 1)
instance (n d : Int) : Decidable (Diag n d) := inferInstanceAs (Decidable (_ ∧ _))
end Go.Proofs.Ytldcbmmmheookaa.Ai
namespace Go.Proofs.Ytldcbmmmheookaa.Ai
open Go Go.RowKit
set_option linter.unusedVariables false
/-- both nodes of an edge -/
abbrev ed1 (es : List (Int × Int)) (e : Int) : Int := (es.getD e.toNat (0, 0)).1
abbrev ed2 (es : List (Int × Int)) (e : Int) : Int := (es.getD e.toNat (0, 0)).2
def seenL (es : List (Int × Int)) (xs : List Int) : List Int := xs.flatMap fun e => [ed1 es e, ed2 es e]
theorem seenL_snoc (es : List (Int × Int)) (xs : List Int) (e : Int) : seenL es (xs ++ [e]) = seenL es xs ++ [ed1 es e, ed2 es e] := by simp [seenL]
theorem seenL_len (es : List (Int × Int)) (xs : List Int) : (seenL es xs).length = 2 * xs.length := by
  induction xs with
  | nil => rfl
  | cons a xs ih => simp only [seenL, List.flatMap_cons, List.length_append] at ih ⊢; simp only [List.length_cons, List.length_nil, ih]; omega
def rsOk (n : Int) (xs : List Int) (i : Nat) : Prop := (0 ≤ xs.getD i 0 ∧ xs.getD i 0 ≤ n - 1) ∧ (0 < i → xs.getD (i - 1) 0 < xs.getD i 0)
instance (n : Int) (xs : List Int) (i : Nat) : Decidable (rsOk n xs i) := by unfold rsOk; infer_instance
def frOk (es : List (Int × Int)) (xs : List Int) (i : Nat) : Prop := ed1 es (xs.getD i 0) ∉ seenL es (xs.take i) ∧ ed2 es (xs.getD i 0) ∉ seenL es (xs.take i)
instance (es : List (Int × Int)) (xs : List Int) (i : Nat) : Decidable (frOk es xs i) := by unfold frOk; infer_instance
def MtU (es : List (Int × Int)) (xs : List Int) (k : Nat) : Prop := ∀ i, i < k → rsOk es.length xs i ∧ frOk es xs i
instance (es : List (Int × Int)) (xs : List Int) (k : Nat) : Decidable (MtU es xs k) := by unfold MtU; infer_instance
theorem MtU.zero (es : List (Int × Int)) (xs : List Int) : MtU es xs 0 := fun i h => absurd h (Nat.not_lt_zero i)
theorem MtU.succ {es : List (Int × Int)} {xs : List Int} {k : Nat} (h : MtU es xs k) (h1 : rsOk es.length xs k) (h2 : frOk es xs k) : MtU es xs (k + 1) := by
  intro i hi
  rcases Nat.lt_succ_iff_lt_or_eq.1 hi with g | g
  · exact h i g
  · rw [g]; exact ⟨h1, h2⟩
theorem MtU.no {es : List (Int × Int)} {xs : List Int} {k i : Nat} (hi : i < k) (h : ¬ (rsOk es.length xs i ∧ frOk es xs i)) : ¬ MtU es xs k := fun g => h (g i hi)
end Go.Proofs.Ytldcbmmmheookaa.Ai
namespace Go.Proofs.Ytldcbmmmheookaa.Ai
open Go
set_option linter.unusedVariables false
/-- an edge that meets none of some -/
def frE (es : List (Int × Int)) (ed : List Int) (e : Int) : Prop := ed1 es e ∉ seenL es ed ∧ ed2 es e ∉ seenL es ed
instance (es : List (Int × Int)) (ed : List Int) (e : Int) : Decidable (frE es ed e) := by unfold frE; infer_instance
/-- all matchings that begin with some edges and have more, of the last k edges; in order -/
def mall (es : List (Int × Int)) : Nat → List Int → List (List Int)
  | 0, _ => []
  | k + 1, ed => (if frE es ed ((es.length - (k + 1) : Nat) : Int) then (ed ++ [((es.length - (k + 1) : Nat) : Int)]) :: mall es k (ed ++ [((es.length - (k + 1) : Nat) : Int)]) else []) ++ mall es k ed
/-- numbers of a range, each once -/
theorem nodupM_le : ∀ (n : Nat) (l : List Int), l.Nodup → (∀ x ∈ l, 0 ≤ x ∧ x < n) → l.length ≤ n
  | 0, l, _, h => by
    cases l with
    | nil => simp
    | cons x l => have := h x (by simp); omega
  | n + 1, l, hd, h => by
    have h1 := nodupM_le n (l.erase (n : Int)) (hd.erase _) (fun x hx => by
      have := (hd.mem_erase_iff).1 hx
      have h2 := h x this.2
      have : x ≠ (n : Int) := this.1
      omega)
    have : l.length ≤ (l.erase (n : Int)).length + 1 := by
      rw [List.length_erase]
      split <;> omega
    omega
/-- nodes of different edges, each once -/
def Mgo (n : Int) (es : List (Int × Int)) (ed : List Int) : Prop := (seenL es ed).Nodup ∧ ∀ z ∈ seenL es ed, 0 ≤ z ∧ z < n
theorem Mgo.nil (n : Int) (es : List (Int × Int)) : Mgo n es [] := ⟨by simp [seenL], fun z hz => by simp [seenL] at hz⟩
theorem Mgo.snoc {n : Int} {es : List (Int × Int)} {ed : List Int} {e : Int} (hg : Grd n es) (h : Mgo n es ed) (he : e.toNat < es.length) (hf : frE es ed e) : Mgo n es (ed ++ [e]) := by
  obtain ⟨a1, a2, a3, _⟩ := hg.2 e.toNat he
  have b1 : ed1 es e < ed2 es e := a2
  have b2 : 0 ≤ ed1 es e := a1
  have b3 : ed2 es e < n := a3
  refine ⟨?_, ?_⟩
  · rw [seenL_snoc, List.nodup_append]
    refine ⟨h.1, ?_, ?_⟩
    · simp; omega
    · intro x hx y hy hxy
      subst hxy
      simp only [List.mem_cons, List.not_mem_nil, or_false] at hy
      rcases hy with rfl | rfl
      · exact hf.1 hx
      · exact hf.2 hx
  · intro z hz
    rw [seenL_snoc, List.mem_append] at hz
    rcases hz with hz | hz
    · exact h.2 z hz
    · simp only [List.mem_cons, List.not_mem_nil, or_false] at hz
      omega
theorem Mgo.all {n : Int} {es : List (Int × Int)} (hg : Grd n es) : ∀ (k : Nat) (ed : List Int), k ≤ es.length → Mgo n es ed → ∀ x ∈ mall es k ed, Mgo n es x
  | 0, ed, _, h, x, hx => by simp [mall] at hx
  | k + 1, ed, hk, h, x, hx => by
    simp only [mall, List.mem_append] at hx
    rcases hx with hx | hx
    · split at hx
      · rename_i hf
        have h2 := h.snoc hg (by rw [Int.toNat_natCast]; omega) hf
        simp only [List.mem_cons] at hx
        rcases hx with rfl | hx
        · exact h2
        · exact Mgo.all hg k _ (by omega) h2 x hx
      · simp at hx
    · exact Mgo.all hg k ed (by omega) h x hx
theorem Mgo.len {n : Int} {es : List (Int × Int)} {ed : List Int} (hn : 0 ≤ n) (h : Mgo n es ed) : 2 * ed.length ≤ n.toNat := by
  have := nodupM_le n.toNat (seenL es ed) h.1 (fun z hz => by have := h.2 z hz; omega)
  rw [seenL_len] at this
  exact this
/-- a graph has at most 28 edges -/
def rnkE (a b : Nat) : Nat := a * (15 - a) / 2 + (b - a - 1)
theorem rnkE_lt : ∀ a b c d : Fin 8, a.1 < b.1 → c.1 < d.1 → (a.1 < c.1 ∨ a.1 = c.1 ∧ b.1 < d.1) → rnkE a.1 b.1 + 1 ≤ rnkE c.1 d.1 := by decide +kernel
theorem rnkE_le : ∀ a b : Fin 8, a.1 < b.1 → rnkE a.1 b.1 ≤ 27 := by decide +kernel
theorem grd_nat {n : Int} {es : List (Int × Int)} (hg : Grd n es) {i : Nat} (hi : i < es.length) : ∃ a b : Fin 8, a.1 < b.1 ∧ es.getD i (0, 0) = ((a.1 : Int), (b.1 : Int)) := by
  obtain ⟨h1, h2, h3, _⟩ := hg.2 i hi
  have := hg.1
  refine ⟨⟨(es.getD i (0, 0)).1.toNat, by omega⟩, ⟨(es.getD i (0, 0)).2.toNat, by omega⟩, by show (es.getD i (0, 0)).1.toNat < (es.getD i (0, 0)).2.toNat; omega, ?_⟩
  apply Prod.ext
  · show _ = (((es.getD i (0, 0)).1.toNat : Nat) : Int); omega
  · show _ = (((es.getD i (0, 0)).2.toNat : Nat) : Int); omega
theorem grd_len {n : Int} {es : List (Int × Int)} (hg : Grd n es) : es.length ≤ 28 := by
  have key : ∀ i, i < es.length → ∃ a b : Fin 8, a.1 < b.1 ∧ es.getD i (0, 0) = ((a.1 : Int), (b.1 : Int)) ∧ i ≤ rnkE a.1 b.1 := by
    intro i
    induction i with
    | zero => intro hi; obtain ⟨a, b, h1, h2⟩ := grd_nat hg hi; exact ⟨a, b, h1, h2, Nat.zero_le _⟩
    | succ i ih =>
      intro hi
      obtain ⟨a, b, h1, h2, h3⟩ := ih (by omega)
      obtain ⟨c, d, k1, k2⟩ := grd_nat hg hi
      have hlt := (hg.2 (i + 1) hi).2.2.2 (by omega)
      rw [Nat.add_sub_cancel, h2, k2] at hlt
      unfold pairLt at hlt
      simp only at hlt
      have := rnkE_lt a b c d h1 k1 (by omega)
      exact ⟨c, d, k1, k2, by omega⟩
  apply Decidable.byContradiction
  intro hc
  obtain ⟨a, b, h1, _, h3⟩ := key 28 (by omega)
  have := rnkE_le a b h1
  omega
end Go.Proofs.Ytldcbmmmheookaa.Ai
namespace Go.Proofs.Ytldcbmmmheookaa.Ai
open Go
def ords49 : List (Nat × List (Nat × Bool)) := []
def cd49 : Cd := (.seq (.reg [⟨⟨some 2, Op.box 26 (Operand.tmp 0), none⟩, []⟩,
  ⟨⟨some 4, Op.assign (Operand.const (Value.bool false)), none⟩, []⟩]) (.seq (.seq (.reg [⟨⟨some 6, Op.move (Operand.tmp 1), none⟩, []⟩,
  ⟨⟨some 7, Op.call { callee := (Callee.builtin Builtin.len), args := #[(Operand.tmp 6)], argTypes := #[27] }, none⟩, []⟩,
  ⟨⟨some 8, Op.fieldAddr 26 (Operand.tmp 2) 0, none⟩, []⟩,
  ⟨⟨some 9, Op.load 3 (Operand.tmp 8), none⟩, []⟩,
  ⟨⟨some 10, Op.binOp BinOp.sub 3 (Operand.tmp 9) (Operand.const (Value.int IntKind.i64 1)) 3, none⟩, []⟩,
  ⟨⟨some 11, Op.binOp BinOp.neq 3 (Operand.tmp 7) (Operand.tmp 10) 3, none⟩, []⟩,
  ⟨⟨some 12, Op.move (Operand.tmp 11), none⟩, []⟩,
  ⟨⟨some 13, Op.move (Operand.tmp 1), some (12, false)⟩, []⟩,
  ⟨⟨some 14, Op.fieldAddr 26 (Operand.tmp 2) 1, some (12, false)⟩, []⟩,
  ⟨⟨some 15, Op.load 24 (Operand.tmp 14), some (12, false)⟩, []⟩,
  ⟨⟨some 16, Op.call { callee := (Callee.builtin Builtin.len), args := #[(Operand.tmp 15)], argTypes := #[24] }, some (12, false)⟩, []⟩,
  ⟨⟨some 17, Op.call { callee := (Callee.value (Operand.func 93)), args := #[(Operand.tmp 13), (Operand.tmp 16)], argTypes := #[27, 3] }, some (12, false)⟩, []⟩,
  ⟨⟨some 18, Op.unOp UnOp.not 4 (Operand.tmp 17), some (12, false)⟩, []⟩,
  ⟨⟨some 19, Op.pick (Operand.tmp 12) (Operand.const (Value.bool true)) (Operand.tmp 18), none⟩, []⟩]) (.cond (Operand.tmp 19) (.seq (.reg [⟨⟨some 4, Op.assign (Operand.const (Value.bool false)), none⟩, []⟩]) .ret) .skip)) (.seq (.reg [⟨⟨some 20, Op.fieldAddr 26 (Operand.tmp 2) 0, none⟩, []⟩,
  ⟨⟨some 21, Op.load 3 (Operand.tmp 20), none⟩, []⟩,
  ⟨⟨some 22, Op.call { callee := (Callee.value (Operand.func 44)), args := #[(Operand.tmp 21)], argTypes := #[3] }, none⟩, []⟩,
  ⟨⟨some 5, Op.alloc 68, none⟩, []⟩,
  ⟨⟨none, Op.store 68 (Operand.tmp 5) (Operand.tmp 22), none⟩, []⟩]) (.seq (.reg [⟨⟨some 23, Op.move (Operand.tmp 1), none⟩, []⟩,
  ⟨⟨some 24, Op.makeFunc (Fn.func 95) #[] #[(Operand.tmp 5), (Operand.tmp 2)], none⟩, []⟩,
  ⟨⟨some 25, Op.call { callee := (Callee.value (Operand.func 94)), args := #[(Operand.tmp 23), (Operand.tmp 24)], argTypes := #[27, 80] }, none⟩, []⟩,
  ⟨⟨some 26, Op.unOp UnOp.not 4 (Operand.tmp 25), none⟩, []⟩,
  ⟨⟨some 4, Op.assign (Operand.tmp 26), none⟩, []⟩]) .ret))))
theorem sl49 : slim Try.f49.ntmps ords49 (Try.f49.body.getD .skip) = some cd49 := by kernel_rfl
theorem in49 {args : List Value} {H : AH} {R : Value → AH → Prop} (hl : args.length = 2) (h : ∀ (Q : Exit → Sl → AH → Prop), (∀ e s H, endA Try.prog [ResultVar.tmp 4] R e s H → Q e s H) → wpC Try.prog cd49 Q (enterA args) H) : ACalls Try.prog 49 args H R :=
  ACalls.intro (by kernel_rfl) Try.func49 rfl (by kernel_rfl) sl49 hl (of_decide_eq_true (by kernel_rfl)) (by kernel_rfl) h
def ords95 : List (Nat × List (Nat × Bool)) := [(1, [(0, false), (1, false), (2, false), (3, false), (4, false), (5, false), (6, true), (7, false), (8, false)])]
def cd95 : Cd := (.seq (.reg [⟨⟨some 4, Op.assign (Operand.const (Value.bool false)), none⟩, []⟩]) (.seq (.reg [⟨⟨some 5, Op.load 68 (Operand.tmp 1), none⟩, []⟩,
  ⟨⟨some 6, Op.fieldAddr 26 (Operand.tmp 2) 1, none⟩, []⟩,
  ⟨⟨some 7, Op.load 24 (Operand.tmp 6), none⟩, []⟩,
  ⟨⟨some 8, Op.move (Operand.tmp 0), none⟩, []⟩,
  ⟨⟨some 9, Op.indexAddr 24 (Operand.tmp 7) (Operand.tmp 8), none⟩, []⟩,
  ⟨⟨some 10, Op.load 71 (Operand.tmp 9), none⟩, []⟩,
  ⟨⟨some 11, Op.call { callee := (Callee.value (Operand.func 45)), args := #[(Operand.tmp 5), (Operand.tmp 10)], argTypes := #[68, 71] }, none⟩, []⟩,
  ⟨⟨some 12, Op.unOp UnOp.not 4 (Operand.tmp 11), none⟩, []⟩,
  ⟨⟨some 4, Op.assign (Operand.tmp 12), none⟩, []⟩]) .ret))
theorem sl95 : slim Try.f95.ntmps ords95 (Try.f95.body.getD .skip) = some cd95 := by kernel_rfl
theorem in95 {args : List Value} {H : AH} {R : Value → AH → Prop} (hl : args.length = 3) (h : ∀ (Q : Exit → Sl → AH → Prop), (∀ e s H, endA Try.prog [ResultVar.tmp 4] R e s H → Q e s H) → wpC Try.prog cd95 Q (enterA args) H) : ACalls Try.prog 95 args H R :=
  ACalls.intro (by kernel_rfl) Try.func95 rfl (by kernel_rfl) sl95 hl (of_decide_eq_true (by kernel_rfl)) (by kernel_rfl) h
def ords15 : List (Nat × List (Nat × Bool)) := []
def cd15 : Cd := (.seq (.reg [⟨⟨some 2, Op.box 26 (Operand.tmp 0), none⟩, []⟩,
  ⟨⟨some 4, Op.assign (Operand.const (Value.bool false)), none⟩, []⟩,
  ⟨⟨some 5, Op.assign (Operand.const (Value.bool false)), none⟩, []⟩]) (.seq (.seq (.reg [⟨⟨some 6, Op.load 26 (Operand.tmp 2), none⟩, []⟩,
  ⟨⟨some 7, Op.call { callee := (Callee.value (Operand.func 48)), args := #[(Operand.tmp 6)], argTypes := #[26] }, none⟩, []⟩,
  ⟨⟨some 8, Op.unOp UnOp.not 4 (Operand.tmp 7), none⟩, []⟩,
  ⟨⟨some 9, Op.move (Operand.tmp 8), none⟩, []⟩,
  ⟨⟨some 10, Op.fieldAddr 26 (Operand.tmp 2) 0, some (9, false)⟩, []⟩,
  ⟨⟨some 11, Op.load 3 (Operand.tmp 10), some (9, false)⟩, []⟩,
  ⟨⟨some 12, Op.binOp BinOp.eql 3 (Operand.tmp 11) (Operand.const (Value.int IntKind.i64 0)) 3, some (9, false)⟩, []⟩,
  ⟨⟨some 13, Op.pick (Operand.tmp 9) (Operand.const (Value.bool true)) (Operand.tmp 12), none⟩, []⟩]) (.cond (Operand.tmp 13) (.seq (.reg [⟨⟨some 4, Op.assign (Operand.const (Value.bool false)), none⟩, []⟩,
  ⟨⟨some 5, Op.assign (Operand.const (Value.bool false)), none⟩, []⟩]) .ret) .skip)) (.seq (.reg [⟨⟨some 14, Op.load 26 (Operand.tmp 2), none⟩, []⟩,
  ⟨⟨some 15, Op.move (Operand.tmp 1), none⟩, []⟩,
  ⟨⟨some 16, Op.call { callee := (Callee.value (Operand.func 49)), args := #[(Operand.tmp 14), (Operand.tmp 15)], argTypes := #[26, 27] }, none⟩, []⟩,
  ⟨⟨some 4, Op.assign (Operand.tmp 16), none⟩, []⟩,
  ⟨⟨some 5, Op.assign (Operand.const (Value.bool true)), none⟩, []⟩]) .ret)))
theorem sl15 : slim Try.f15.ntmps ords15 (Try.f15.body.getD .skip) = some cd15 := by kernel_rfl
theorem in15 {args : List Value} {H : AH} {R : Value → AH → Prop} (hl : args.length = 2) (h : ∀ (Q : Exit → Sl → AH → Prop), (∀ e s H, endA Try.prog [ResultVar.tmp 4, ResultVar.tmp 5] R e s H → Q e s H) → wpC Try.prog cd15 Q (enterA args) H) : ACalls Try.prog 15 args H R :=
  ACalls.intro (by kernel_rfl) Try.func15 rfl (by kernel_rfl) sl15 hl (of_decide_eq_true (by kernel_rfl)) (by kernel_rfl) h
end Go.Proofs.Ytldcbmmmheookaa.Ai
namespace Go.Proofs.Ytldcbmmmheookaa.Ai
open Go Go.RowKit
set_option linter.unusedVariables false
set_option linter.unusedSimpArgs false
theorem IndexFuncS_c (v : Value) (xs : List Int) (g : FuncId) (caps : List Value) (H : AH) (Inv : Nat → AH → Prop) (Fin : AH → Prop) (h0 : Inv 0 H) (hr : ∀ i H1, Inv i H1 → Row 3 H1 v xs) (hlen : xs.length ≤ 1099511627776)
    (hp : ∀ i, i < xs.length → ∀ H1, Inv i H1 → ACalls Try.prog g (.int .i64 (xs.getD i 0) :: caps) H1 fun r H' => (r = .bool true ∧ Fin H') ∨ (r = .bool false ∧ Inv (i + 1) H')) :
    ACalls Try.prog 101 [v, .func (.func g) #[] (List.toArray caps)] H fun r H' => (∃ k : Nat, r = .int .i64 (k : Int) ∧ Fin H') ∨ (r = .int .i64 (-1) ∧ Inv xs.length H') := by
  refine in101 rfl ?_
  intro Q hQ
  simp (maxSteps := 1000000) (disch := omega) only [cd101, (hr 0 H h0).len Try.underlying27, S, S1, S2, S3, S4, S5, ST, eq_self, reduceIte, reduceCtorEq, Nat.reduceEqDiff, Nat.reduceAdd]
  refine LoopH.by (fun m s H' => ∃ i, m + i = xs.length ∧ s 0 = v ∧ s 1 = .func (.func g) #[] (List.toArray caps) ∧ s 8 = .int .i64 ((i : Nat) : Int) ∧ s 7 = .int .i64 (xs.length : Int) ∧ Inv i H') xs.length ?_ ?_
  · exact ⟨0, by simp, rfl, rfl, rfl, rfl, h0⟩
  · rintro m s H' ⟨i, hm, h0, h1, h8, h7, hI⟩
    have hr' := hr i H' hI
    simp (maxSteps := 1000000) (disch := omega) only [h0, h1, h8, h7, S, S1, S2, S3, S4, S5, ST, eq_self, reduceIte, reduceCtorEq, Nat.reduceEqDiff, Nat.reduceAdd]
    refine brD.intro (fun g => ?_) (fun g => ?_)
    · have hi : i < xs.length := by omega
      have hc := hr'.cell hi
      simp (maxSteps := 1000000) (disch := omega) only [h0, h1, h8, h7, hr'.ix Try.underlying27 cs3, hc, Int.toNat_natCast, S, S1, S2, S3, S4, S5, ST, eq_self, reduceIte, reduceCtorEq, Nat.reduceEqDiff, Nat.reduceAdd]
      refine CallH.by (hp i hi H' hI) ?_
      rintro r D (⟨rfl, hF⟩ | ⟨rfl, hI2⟩)
      · simp (maxSteps := 1000000) (disch := omega) only [h0, h1, h8, h7, S, S1, S2, S3, S4, S5, ST, eq_self, reduceIte, reduceCtorEq, Nat.reduceEqDiff, Nat.reduceAdd]
        refine hQ _ _ _ ?_
        simp (maxSteps := 1000000) (disch := omega) only [S, S1, S2, S3, S4, S5, ST, eq_self, reduceIte, reduceCtorEq, Nat.reduceEqDiff, Nat.reduceAdd]
        exact .inl ⟨i, rfl, hF⟩
      · simp (maxSteps := 1000000) (disch := omega) only [h0, h1, h8, h7, wrap64, S, S1, S2, S3, S4, S5, ST, eq_self, reduceIte, reduceCtorEq, Nat.reduceEqDiff, Nat.reduceAdd]
        refine ⟨m - 1, by omega, i + 1, ?_⟩
        (repeat' first | exact hI2 | apply And.intro) <;> first | (simp only [Value.int.injEq, true_and]; omega) | omega | rfl | assumption | (simp; done) | (simp; omega)
    · have : i = xs.length := by omega
      subst this
      simp (maxSteps := 1000000) (disch := omega) only [S, S1, S2, S3, S4, S5, ST, eq_self, reduceIte, reduceCtorEq, Nat.reduceEqDiff, Nat.reduceAdd]
      refine hQ _ _ _ ?_
      simp (maxSteps := 1000000) (disch := omega) only [S, S1, S2, S3, S4, S5, ST, eq_self, reduceIte, reduceCtorEq, Nat.reduceEqDiff, Nat.reduceAdd]
      exact .inr hI
theorem ContainsFuncS_c (v : Value) (xs : List Int) (g : FuncId) (caps : List Value) (H : AH) (Inv : Nat → AH → Prop) (Fin : AH → Prop) (h0 : Inv 0 H) (hr : ∀ i H1, Inv i H1 → Row 3 H1 v xs) (hlen : xs.length ≤ 1099511627776)
    (hp : ∀ i, i < xs.length → ∀ H1, Inv i H1 → ACalls Try.prog g (.int .i64 (xs.getD i 0) :: caps) H1 fun r H' => (r = .bool true ∧ Fin H') ∨ (r = .bool false ∧ Inv (i + 1) H')) :
    ACalls Try.prog 94 [v, .func (.func g) #[] (List.toArray caps)] H fun r H' => (r = .bool true ∧ Fin H') ∨ (r = .bool false ∧ Inv xs.length H') := by
  refine in94 rfl ?_
  intro Q hQ
  simp (maxSteps := 1000000) (disch := omega) only [cd94, S, S1, S2, S3, S4, S5, ST, eq_self, reduceIte, reduceCtorEq, Nat.reduceEqDiff, Nat.reduceAdd]
  refine CallH.by (IndexFuncS_c v xs g caps H Inv Fin h0 hr hlen hp) ?_
  rintro _ D (⟨k, rfl, hF⟩ | ⟨rfl, hI⟩)
  · simp (maxSteps := 1000000) (disch := omega) only [S, S1, S2, S3, S4, S5, ST, eq_self, reduceIte, reduceCtorEq, Nat.reduceEqDiff, Nat.reduceAdd]
    refine hQ _ _ _ ?_
    simp (maxSteps := 1000000) (disch := omega) only [S, S1, S2, S3, S4, S5, ST, eq_self, reduceIte, reduceCtorEq, Nat.reduceEqDiff, Nat.reduceAdd]
    exact .inl ⟨by rw [decide_eq_true (by omega)], hF⟩
  · simp (maxSteps := 1000000) (disch := omega) only [S, S1, S2, S3, S4, S5, ST, eq_self, reduceIte, reduceCtorEq, Nat.reduceEqDiff, Nat.reduceAdd]
    refine hQ _ _ _ ?_
    simp (maxSteps := 1000000) (disch := omega) only [S, S1, S2, S3, S4, S5, ST, eq_self, reduceIte, reduceCtorEq, Nat.reduceEqDiff, Nat.reduceAdd]
    exact .inr ⟨by rw [decide_eq_false (by omega)], hI⟩
theorem rsg_asc (m : Int) (xs : List Int) : Rsg m xs ↔ xs.Pairwise (· < ·) ∧ ∀ e ∈ xs, 0 ≤ e ∧ e < m := by
  constructor
  · intro h
    have hmem : ∀ e ∈ xs, 0 ≤ e ∧ e < m := fun e he => by
      obtain ⟨i, hi, e1⟩ := List.mem_iff_getElem.1 he
      have := (h i hi).1
      rw [show xs.getD i 0 = e by simp [hi, e1]] at this
      omega
    refine ⟨?_, hmem⟩
    rw [List.pairwise_iff_getElem]
    have key : ∀ d i : Nat, i + d + 1 < xs.length → xs.getD i 0 < xs.getD (i + d + 1) 0 := by
      intro d
      induction d with
      | zero => intro i hi; have := (h (i + 1) (by omega)).2 (by omega); simpa using this
      | succ d ih =>
        intro i hi
        have h1 := ih i (by omega)
        have h2 := (h (i + (d + 1) + 1) hi).2 (by omega)
        have e : i + (d + 1) + 1 - 1 = i + d + 1 := by omega
        rw [e] at h2
        omega
    intro i j hi hj hij
    have := key (j - i - 1) i (by omega)
    rw [show i + (j - i - 1) + 1 = j by omega] at this
    simpa [hi, hj] using this
  · rintro ⟨h1, h2⟩ i hi
    rw [List.pairwise_iff_getElem] at h1
    have e1 : xs.getD i 0 = xs[i] := by simp [hi]
    have := h2 xs[i] (List.getElem_mem hi)
    refine ⟨by rw [e1]; omega, fun h0 => ?_⟩
    have := h1 (i - 1) i (by omega) hi (by omega)
    rw [e1, show xs.getD (i - 1) 0 = xs[i - 1]'(by omega) by simp [show i - 1 < xs.length by omega]]
    exact this
noncomputable instance (n : Nat) (es : List (Int × Int)) (T : List Int) : Decidable (TreL n es T) := Classical.propDecidable _
theorem own_sl {e : TypeId} {H0 H : AH} {v : Value} {xs : List Int} (h : Own e H0 H v xs) (hn : 0 < xs.length) : ∃ o, v = .slice (some ⟨o, 0, none⟩) xs.length xs.length ∧ H0.length ≤ o ∧ H[o]? = some (.cells (ints xs) e false) := by
  rcases h with ⟨_, h⟩ | ⟨o, h1, h2, h3⟩
  · rw [h] at hn; simp at hn
  · exact ⟨o, h1, h2, h3⟩
theorem keepsA {H C G : AH} {o : Nat} (k : Keeps o C G) (hp : H <+: C) (ho : H.length ≤ o) : H <+: G := prefix_of fun j y hy => k.2 j y (by have := at_lt hy; omega) (pre_at hp hy)
theorem alloc_jo (H : AH) : allocA Try.prog 68 H = some (.pointer (some ⟨H.length, 0, none⟩), H ++ [.cells [.slice none 0 0] 68 false]) := by kernel_rfl
theorem mkf_2T (f : Fn) (p q : Option Addr) : makeFuncA f [] [.pointer p, .pointer q] = some (.func f #[] (List.toArray [.pointer p, .pointer q])) := rfl
set_option maxRecDepth 20000 in
set_option maxHeartbeats 4000000 in
theorem isTree_c (n : Nat) (hn : 1 ≤ n) (v w : Value) (es : List (Int × Int)) (T : List Int) (H : AH) (hr : RowP 71 H v es) (hg : Grd (n : Int) es) (hw : Row 3 H w T) (hlen : T.length ≤ 1099511627776) :
    ACalls Try.prog 49 [.agg (List.toArray [.int .i64 (n : Int), v]), w] H fun r H' => r = .bool (decide (TreL n es T)) ∧ H <+: H' := by
  have h28 : es.length ≤ 28 := grd_len hg
  have hn8 : n ≤ 8 := by have := hg.1; omega
  refine in49 rfl ?_
  intro Q hQ
  simp (maxSteps := 1000000) (disch := omega) only [cd49, hr.boxG, hw.len Try.underlying27, S, S1, S2, S3, S4, S5, ST, eq_self, reduceIte, reduceCtorEq, Nat.reduceEqDiff, Nat.reduceAdd]
  generalize hA : H ++ [AObj.cells [.int .i64 n, v] 26 false] = A
  have pA : H <+: A := by rw [← hA]; exact List.prefix_append _ _
  have cA : A[H.length]? = some (.cells [.int .i64 n, v] 26 false) := by rw [← hA]; exact at_new ..
  have rA := hr.pre pA
  have rA := rA
  have wA := hw.pre pA
  have hw1 : IntKind.i64.wrap ((n : Int) - 1) = (n : Int) - 1 := wrap64 (by omega) (by omega)
  simp (maxSteps := 1000000) (disch := omega) only [cell_of cA, hw1, S, S1, S2, S3, S4, S5, ST, eq_self, reduceIte, reduceCtorEq, Nat.reduceEqDiff, Nat.reduceAdd]
  by_cases e1 : (T.length : Int) = (n : Int) - 1
  rotate_left
  · simp (maxSteps := 1000000) (disch := omega) only [decide_eq_true (show (T.length : Int) ≠ (n : Int) - 1 from e1), S, S1, S2, S3, S4, S5, ST, eq_self, reduceIte, reduceCtorEq, Nat.reduceEqDiff, Nat.reduceAdd]
    refine hQ _ _ _ ?_
    simp (maxSteps := 1000000) (disch := omega) only [S, S1, S2, S3, S4, S5, ST, eq_self, reduceIte, reduceCtorEq, Nat.reduceEqDiff, Nat.reduceAdd]
    refine ⟨?_, pA⟩
    rw [decide_eq_false fun h => e1 (by have := h.1; omega)]
  have e1' : ¬ ¬ (T.length : Int) = (n : Int) - 1 := fun h => h e1
  simp (maxSteps := 1000000) (disch := omega) only [decide_eq_false e1', cell_of cA, rA.len Try.underlying24, S, S1, S2, S3, S4, S5, ST, eq_self, reduceIte, reduceCtorEq, Nat.reduceEqDiff, Nat.reduceAdd]
  refine CallH.by (isRising_c w T es.length A (by omega) wA hlen) ?_
  rintro _ _ ⟨rfl, rfl⟩
  by_cases e2 : Rsg es.length T
  rotate_left
  · simp (maxSteps := 1000000) (disch := omega) only [decide_eq_false e2, S, S1, S2, S3, S4, S5, ST, eq_self, reduceIte, reduceCtorEq, Nat.reduceEqDiff, Nat.reduceAdd]
    refine hQ _ _ _ ?_
    simp (maxSteps := 1000000) (disch := omega) only [S, S1, S2, S3, S4, S5, ST, eq_self, reduceIte, reduceCtorEq, Nat.reduceEqDiff, Nat.reduceAdd]
    refine ⟨?_, pA⟩
    rw [decide_eq_false fun h => e2 ((rsg_asc _ _).2 ⟨h.2.1, h.2.2.1⟩)]
  obtain ⟨hasc, hin⟩ := (rsg_asc _ _).1 e2
  have hin : EdIn es T := hin
  simp (maxSteps := 1000000) (disch := omega) only [decide_eq_true e2, cell_of cA, S, S1, S2, S3, S4, S5, ST, eq_self, reduceIte, reduceCtorEq, Nat.reduceEqDiff, Nat.reduceAdd]
  refine CallH.by (newJoiner_c n A (by omega)) ?_
  rintro w1 B ⟨hB, pB⟩
  obtain ⟨o, rfl, ho1, ho2⟩ := own_sl hB (by rw [alls_len]; omega)
  rw [alls_len]
  have st1 := st_at (P := Try.prog) (t := 68) (i := 0) (y := .slice (some ⟨o, 0, none⟩) n n) cs68 (at_new B (.cells [.slice none 0 0] 68 false)) (by show 0 < 1; decide) rfl rfl
  have set0 : [Value.slice none 0 0].set 0 (.slice (some ⟨o, 0, none⟩) n n) = [.slice (some ⟨o, 0, none⟩) n n] := rfl
  rw [set_new, set0] at st1
  simp (maxSteps := 1000000) (disch := omega) only [alloc_jo, st1, mkf_2T, S, S1, S2, S3, S4, S5, ST, eq_self, reduceIte, reduceCtorEq, Nat.reduceEqDiff, Nat.reduceAdd]
  generalize hC : B ++ [AObj.cells [.slice (some ⟨o, 0, none⟩) n n] 68 false] = C
  have pC : B <+: C := by rw [← hC]; exact List.prefix_append _ _
  have cC : C[B.length]? = some (.cells [.slice (some ⟨o, 0, none⟩) n n] 68 false) := by rw [← hC]; exact at_new ..
  have oC := pre_at pC ho2
  have gC := pre_at (pB.trans pC) cA
  have pHC := pA.trans (pB.trans pC)
  have lA := at_lt cA
  have loB := at_lt ho2
  have hrC := rA.pre (pB.trans pC)
  have wC := wA.pre (pB.trans pC)
  have pAG : ∀ {G : AH}, Keeps o C G → A <+: G := fun {G} k => keepsA k (pB.trans pC) ho1
  refine CallH.by (ContainsFuncS_c w T 95 [.pointer (some ⟨B.length, 0, none⟩), .pointer (some ⟨H.length, 0, none⟩)] C
    (fun i G => Keeps o C G ∧ (∃ J, G[o]? = some (.cells (ints J) 3 false) ∧ JR es (T.take i) n J) ∧ ∀ k, k < i → ¬ Jn es (T.take k) (enA es (T.getD k 0)) (enB es (T.getD k 0)))
    (fun G => Keeps o C G ∧ ∃ k, k < T.length ∧ Jn es (T.take k) (enA es (T.getD k 0)) (enB es (T.getD k 0)))
    ⟨.of_pre (List.prefix_refl _), ⟨_, oC, by rw [List.take_zero]; exact JR.zero es n⟩, fun k hk => absurd hk (Nat.not_lt_zero k)⟩ (fun i G h => wA.pre (pAG h.1)) hlen ?_) ?_
  · rintro i hi G ⟨kG, ⟨J, hJ, hjr⟩, hno⟩
    refine in95 rfl ?_
    intro Q hQ
    have hm : T.getD i 0 ∈ T := by simp [hi]
    have her := hin _ hm
    have hen := en_eq hg her
    have hgt : T.take (i + 1) = T.take i ++ [T.getD i 0] := by rw [List.take_succ_eq_append_getElem hi]; simp [hi]
    obtain ⟨e, he⟩ : ∃ e, e = T.getD i 0 := ⟨_, rfl⟩
    rw [← he] at hm her hen hgt ⊢
    have pG := pAG kG
    have cG := pre_at pG cA
    have jG := kG.2 _ _ (by omega) cC
    have rG := rA.pre pG
    have hi2 : e.toNat < es.length := by omega
    simp (maxSteps := 1000000) (disch := omega) only [cd95, cell_of cG, ld_one ag68, cell_of jG, rG.ix Try.underlying24 cs71, rG.ld ag71 cs71 hi2, S, S1, S2, S3, S4, S5, ST, eq_self, reduceIte, reduceCtorEq, Nat.reduceEqDiff, Nat.reduceAdd]
    have q1 := congrArg Prod.fst hen.1
    have q2 := congrArg Prod.snd hen.1
    refine CallH.by (join_c hjr o G hJ e (by omega) (by omega) q1 q2) ?_
    rintro _ G2 ⟨b, J', rfl, hb, hJ', hjr', k2⟩
    simp (maxSteps := 1000000) (disch := omega) only [S, S1, S2, S3, S4, S5, ST, eq_self, reduceIte, reduceCtorEq, Nat.reduceEqDiff, Nat.reduceAdd]
    refine hQ _ _ _ ?_
    simp (maxSteps := 1000000) (disch := omega) only [S, S1, S2, S3, S4, S5, ST, eq_self, reduceIte, reduceCtorEq, Nat.reduceEqDiff, Nat.reduceAdd]
    cases b with
    | true =>
      right
      refine ⟨rfl, kG.trans k2, ⟨J', hJ', by rw [hgt]; exact hjr'⟩, fun k hk => ?_⟩
      by_cases g : k < i
      · exact hno k g
      · have : k = i := by omega
        subst this
        rw [← he]; exact hb.1 rfl
    | false =>
      left
      refine ⟨rfl, kG.trans k2, i, hi, ?_⟩
      rw [← he]
      exact Classical.byContradiction fun q => by cases hb.2 q
  rintro r G (⟨rfl, kG, k, hk, hj⟩ | ⟨rfl, kG, _, hno⟩)
  · simp (maxSteps := 1000000) (disch := omega) only [S, S1, S2, S3, S4, S5, ST, eq_self, reduceIte, reduceCtorEq, Nat.reduceEqDiff, Nat.reduceAdd]
    refine hQ _ _ _ ?_
    simp (maxSteps := 1000000) (disch := omega) only [S, S1, S2, S3, S4, S5, ST, eq_self, reduceIte, reduceCtorEq, Nat.reduceEqDiff, Nat.reduceAdd]
    refine ⟨?_, pA.trans (pAG kG)⟩
    rw [decide_eq_false fun h => ?_]
    exact (tree_iff (hasc.imp fun q e => by omega) h.1 (hin.ends hg)).2 h.2.2.2 k hk hj
  · simp (maxSteps := 1000000) (disch := omega) only [S, S1, S2, S3, S4, S5, ST, eq_self, reduceIte, reduceCtorEq, Nat.reduceEqDiff, Nat.reduceAdd]
    refine hQ _ _ _ ?_
    simp (maxSteps := 1000000) (disch := omega) only [S, S1, S2, S3, S4, S5, ST, eq_self, reduceIte, reduceCtorEq, Nat.reduceEqDiff, Nat.reduceAdd]
    refine ⟨?_, pA.trans (pAG kG)⟩
    have hl : T.length + 1 = n := by omega
    rw [decide_eq_true (show TreL n es T from ⟨hl, hasc, hin, (tree_iff (hasc.imp fun q e => by omega) hl (hin.ends hg)).1 hno⟩)]
theorem IsTreI_c (n : Int) (v w : Value) (es : List (Int × Int)) (T : List Int) (H : AH) (hr : RowP 71 H v es) (hl : es.length ≤ 1099511627776) (hw : Row 3 H w T) (hlen : T.length ≤ 1099511627776) :
    ACalls Try.prog 15 [.agg (List.toArray [.int .i64 n, v]), w] H fun r H' => r = .tuple (List.toArray [.bool (decide ((Grd n es ∧ 0 < n) ∧ TreL n.toNat es T)), .bool (decide (Grd n es ∧ 0 < n))]) ∧ H <+: H' := by
  refine in15 rfl ?_
  intro Q hQ
  simp (maxSteps := 1000000) (disch := omega) only [cd15, hr.boxG, S, S1, S2, S3, S4, S5, ST, eq_self, reduceIte, reduceCtorEq, Nat.reduceEqDiff, Nat.reduceAdd]
  generalize hA : H ++ [AObj.cells [.int .i64 n, v] 26 false] = A
  have pA : H <+: A := by rw [← hA]; exact List.prefix_append _ _
  have cA : A[H.length]? = some (.cells [.int .i64 n, v] 26 false) := by rw [← hA]; exact at_new ..
  have rA := hr.pre pA
  have cA := cA
  simp (maxSteps := 1000000) (disch := omega) only [ld_agg ag26 cs26 cA, S, S1, S2, S3, S4, S5, ST, eq_self, reduceIte, reduceCtorEq, Nat.reduceEqDiff, Nat.reduceAdd]
  refine CallH.by (IsGraph_c n v es A rA hl) ?_
  rintro _ B ⟨rfl, pB⟩
  have cB := pre_at pB cA
  by_cases e : Grd n es
  rotate_left
  · simp (maxSteps := 1000000) (disch := omega) only [decide_eq_false e, S, S1, S2, S3, S4, S5, ST, eq_self, reduceIte, reduceCtorEq, Nat.reduceEqDiff, Nat.reduceAdd]
    refine hQ _ _ _ ?_
    simp (maxSteps := 1000000) (disch := omega) only [S, S1, S2, S3, S4, S5, ST, eq_self, reduceIte, reduceCtorEq, Nat.reduceEqDiff, Nat.reduceAdd]
    refine ⟨?_, pA.trans pB⟩
    rw [decide_eq_false fun h : (Grd n es ∧ 0 < n) ∧ _ => e h.1.1, decide_eq_false fun h : Grd n es ∧ 0 < n => e h.1]
  simp (maxSteps := 1000000) (disch := omega) only [decide_eq_true e, cell_of cB, S, S1, S2, S3, S4, S5, ST, eq_self, reduceIte, reduceCtorEq, Nat.reduceEqDiff, Nat.reduceAdd]
  by_cases e0 : n = 0
  · subst e0
    simp (maxSteps := 1000000) (disch := omega) only [S, S1, S2, S3, S4, S5, ST, eq_self, reduceIte, reduceCtorEq, Nat.reduceEqDiff, Nat.reduceAdd]
    refine hQ _ _ _ ?_
    simp (maxSteps := 1000000) (disch := omega) only [S, S1, S2, S3, S4, S5, ST, eq_self, reduceIte, reduceCtorEq, Nat.reduceEqDiff, Nat.reduceAdd]
    refine ⟨?_, pA.trans pB⟩
    rw [decide_eq_false fun h : (Grd 0 es ∧ (0 : Int) < 0) ∧ _ => absurd h.1.2 (by omega), decide_eq_false fun h : Grd 0 es ∧ (0 : Int) < 0 => absurd h.2 (by omega)]
  simp (maxSteps := 1000000) (disch := omega) only [decide_eq_false e0, ld_agg ag26 cs26 cB, S, S1, S2, S3, S4, S5, ST, eq_self, reduceIte, reduceCtorEq, Nat.reduceEqDiff, Nat.reduceAdd]
  have hn := e.1
  obtain ⟨m, rfl⟩ : ∃ m : Nat, n = m := ⟨n.toNat, by omega⟩
  refine CallH.by (isTree_c m (by omega) v w es T B (rA.pre pB) e ((hw.pre pA).pre pB) hlen) ?_
  rintro _ D ⟨rfl, pD⟩
  simp (maxSteps := 1000000) (disch := omega) only [S, S1, S2, S3, S4, S5, ST, eq_self, reduceIte, reduceCtorEq, Nat.reduceEqDiff, Nat.reduceAdd]
  refine hQ _ _ _ ?_
  simp (maxSteps := 1000000) (disch := omega) only [S, S1, S2, S3, S4, S5, ST, eq_self, reduceIte, reduceCtorEq, Nat.reduceEqDiff, Nat.reduceAdd]
  refine ⟨?_, pA.trans (pB.trans pD)⟩
  have h1 : Grd (m : Int) es ∧ (0 : Int) < m := ⟨e, by omega⟩
  rw [decide_eq_true h1, Int.toNat_natCast]
  congr 4
  simp only [decide_eq_decide]
  exact ⟨fun h => ⟨h1, h⟩, fun h => h.2⟩
end Go.Proofs.Ytldcbmmmheookaa.Ai
namespace Go.Proofs.Ytldcbmmmheookaa.Ai
open Go
def ords56 : List (Nat × List (Nat × Bool)) := [(6, [(0, false), (1, false), (2, false), (3, false), (5, false), (6, false), (8, false), (9, false), (10, false), (4, true), (7, true), (11, true), (12, false)])]
def cd56 : Cd := (.seq (.reg [⟨⟨some 4, Op.assign (Operand.const (Value.slice none 0 0)), none⟩, []⟩]) (.seq (.reg [⟨⟨some 5, Op.assign (Operand.const (Value.int IntKind.i64 0)), none⟩, []⟩]) (.seq (.block 0 (.loop (.seq (.seq (.reg [⟨⟨some 6, Op.move (Operand.tmp 5), none⟩, []⟩,
  ⟨⟨some 7, Op.move (Operand.tmp 0), none⟩, []⟩,
  ⟨⟨some 8, Op.call { callee := (Callee.builtin Builtin.len), args := #[(Operand.tmp 7)], argTypes := #[27] }, none⟩, []⟩,
  ⟨⟨some 9, Op.binOp BinOp.lss 3 (Operand.tmp 6) (Operand.tmp 8) 3, none⟩, []⟩,
  ⟨⟨some 10, Op.move (Operand.tmp 9), none⟩, []⟩,
  ⟨⟨some 11, Op.move (Operand.tmp 0), some (10, true)⟩, []⟩,
  ⟨⟨some 12, Op.move (Operand.tmp 5), some (10, true)⟩, []⟩,
  ⟨⟨some 13, Op.indexAddr 27 (Operand.tmp 11) (Operand.tmp 12), some (10, true)⟩, []⟩,
  ⟨⟨some 14, Op.load 3 (Operand.tmp 13), some (10, true)⟩, []⟩,
  ⟨⟨some 15, Op.move (Operand.tmp 1), some (10, true)⟩, []⟩,
  ⟨⟨some 16, Op.binOp BinOp.lss 3 (Operand.tmp 14) (Operand.tmp 15) 3, some (10, true)⟩, []⟩,
  ⟨⟨some 17, Op.pick (Operand.tmp 10) (Operand.tmp 16) (Operand.const (Value.bool false)), none⟩, []⟩]) (.cond (Operand.tmp 17) .skip (.exit 0))) (.block 1 (.reg [⟨⟨some 18, Op.move (Operand.tmp 5), none⟩, []⟩,
  ⟨⟨some 19, Op.binOp BinOp.add 3 (Operand.tmp 18) (Operand.const (Value.int IntKind.i64 1)) 3, none⟩, []⟩,
  ⟨⟨some 5, Op.assign (Operand.tmp 19), none⟩, []⟩]))))) (.seq (.seq (.reg [⟨⟨some 20, Op.move (Operand.tmp 5), none⟩, []⟩,
  ⟨⟨some 21, Op.move (Operand.tmp 0), none⟩, []⟩,
  ⟨⟨some 22, Op.call { callee := (Callee.builtin Builtin.len), args := #[(Operand.tmp 21)], argTypes := #[27] }, none⟩, []⟩,
  ⟨⟨some 23, Op.binOp BinOp.lss 3 (Operand.tmp 20) (Operand.tmp 22) 3, none⟩, []⟩,
  ⟨⟨some 24, Op.move (Operand.tmp 23), none⟩, []⟩,
  ⟨⟨some 25, Op.move (Operand.tmp 0), some (24, true)⟩, []⟩,
  ⟨⟨some 26, Op.move (Operand.tmp 5), some (24, true)⟩, []⟩,
  ⟨⟨some 27, Op.indexAddr 27 (Operand.tmp 25) (Operand.tmp 26), some (24, true)⟩, []⟩,
  ⟨⟨some 28, Op.load 3 (Operand.tmp 27), some (24, true)⟩, []⟩,
  ⟨⟨some 29, Op.move (Operand.tmp 1), some (24, true)⟩, []⟩,
  ⟨⟨some 30, Op.binOp BinOp.eql 3 (Operand.tmp 28) (Operand.tmp 29) 3, some (24, true)⟩, []⟩,
  ⟨⟨some 31, Op.pick (Operand.tmp 24) (Operand.tmp 30) (Operand.const (Value.bool false)), none⟩, []⟩]) (.cond (Operand.tmp 31) (.seq (.reg [⟨⟨some 32, Op.move (Operand.tmp 0), none⟩, []⟩,
  ⟨⟨some 4, Op.assign (Operand.tmp 32), none⟩, []⟩]) .ret) .skip)) (.seq (.reg [⟨⟨some 33, Op.buildSlice 27 0 #[], none⟩, []⟩,
  ⟨⟨some 34, Op.move (Operand.tmp 0), none⟩, []⟩,
  ⟨⟨some 35, Op.move (Operand.tmp 5), none⟩, []⟩,
  ⟨⟨some 36, Op.slice 27 (Operand.tmp 34) none (some (Operand.tmp 35)) none, none⟩, []⟩,
  ⟨⟨some 38, Op.move (Operand.tmp 1), none⟩, []⟩,
  ⟨⟨some 39, Op.buildSlice 27 1 #[(0, (Operand.tmp 38))], none⟩, []⟩,
  ⟨⟨some 41, Op.move (Operand.tmp 0), none⟩, []⟩,
  ⟨⟨some 42, Op.move (Operand.tmp 5), none⟩, []⟩,
  ⟨⟨some 43, Op.slice 27 (Operand.tmp 41) (some (Operand.tmp 42)) none none, none⟩, []⟩,
  ⟨⟨some 37, Op.call { callee := (Callee.builtin Builtin.append), args := #[(Operand.tmp 33), (Operand.tmp 36)], argTypes := #[27, 27] }, none⟩, [⟨some 43, Op.slice 27 (Operand.tmp 41) (some (Operand.tmp 42)) none none, none⟩, ⟨some 39, Op.buildSlice 27 1 #[(0, (Operand.tmp 38))], none⟩]⟩,
  ⟨⟨some 40, Op.call { callee := (Callee.builtin Builtin.append), args := #[(Operand.tmp 37), (Operand.tmp 39)], argTypes := #[27, 27] }, none⟩, [⟨some 43, Op.slice 27 (Operand.tmp 41) (some (Operand.tmp 42)) none none, none⟩]⟩,
  ⟨⟨some 44, Op.call { callee := (Callee.builtin Builtin.append), args := #[(Operand.tmp 40), (Operand.tmp 43)], argTypes := #[27, 27] }, none⟩, []⟩,
  ⟨⟨some 4, Op.assign (Operand.tmp 44), none⟩, []⟩]) .ret)))))
theorem sl56 : slim Try.f56.ntmps ords56 (Try.f56.body.getD .skip) = some cd56 := by kernel_rfl
theorem in56 {args : List Value} {H : AH} {R : Value → AH → Prop} (hl : args.length = 2) (h : ∀ (Q : Exit → Sl → AH → Prop), (∀ e s H, endA Try.prog [ResultVar.tmp 4] R e s H → Q e s H) → wpC Try.prog cd56 Q (enterA args) H) : ACalls Try.prog 56 args H R :=
  ACalls.intro (by kernel_rfl) Try.func56 rfl (by kernel_rfl) sl56 hl (of_decide_eq_true (by kernel_rfl)) (by kernel_rfl) h
end Go.Proofs.Ytldcbmmmheookaa.Ai
namespace Go.Proofs.Ytldcbmmmheookaa.Ai
open Go Go.RowKit
set_option linter.unusedVariables false
set_option linter.unusedSimpArgs false
set_option maxHeartbeats 2000000 in
theorem l1Put_c (v : Value) (l : List Int) (x : Int) (H : AH) (hr : Row 3 H v l) (hlen : l.length ≤ 1000000) (hx : x ∉ l) :
    ACalls Try.prog 56 [v, .int .i64 x] H fun r H' => Own 3 H H' r (put l x) ∧ H <+: H' := by
  refine in56 rfl ?_
  intro Q hQ
  simp (maxSteps := 1000000) (disch := omega) only [cd56, S, S1, S2, S3, S4, S5, ST, eq_self, reduceIte, reduceCtorEq, Nat.reduceEqDiff, Nat.reduceAdd]
  refine LoopH.by (fun m s H' => ∃ i, m + i = l.length ∧ s 0 = v ∧ s 1 = .int .i64 x ∧ s 5 = .int .i64 ((i : Nat) : Int) ∧ H = H' ∧ ∀ j, j < i → l.getD j 0 < x) l.length ?_ ?_
  · exact ⟨0, by simp, rfl, rfl, rfl, rfl, by omega⟩
  · rintro m s H' ⟨i, hm, h0, h1, h5, rfl, hlt⟩
    have fin : (i < l.length → x ≤ l.getD i 0) → put l x = l.take i ++ x :: l.drop i := by
      intro h
      rw [putAt_eq0 l x i (by omega) hlt h, if_neg]
      rintro ⟨hi, e⟩
      apply hx
      have : l.getD i 0 = l[i] := by simp [hi]
      rw [← e, this]; exact List.getElem_mem hi
    have last : (i < l.length → x ≤ l.getD i 0) → ∀ s' : Sl, s' 0 = v → s' 1 = .int .i64 x → s' 5 = .int .i64 ((i : Nat) : Int) → True := fun _ _ _ _ _ => trivial
    -- the list made anew
    have hp1 := List.prefix_append H [AObj.cells [] 3 false]
    have hp2 : H <+: H ++ [AObj.cells [] 3 false] ++ [AObj.cells [.int .i64 x] 3 false] := pre_app hp1 _
    have sl1 : ∀ H1, H <+: H1 → sliceA Try.prog 27 v none (some (.int .i64 ((i : Nat) : Int))) none H1 = some (subV v 0 i) ∧ Row 3 H1 (subV v 0 i) (l.take i) := by
      intro H1 hp
      have h := (hr.pre hp).slice Try.underlying27 cs3 (lo := none) (hi := some (.int .i64 ((i : Nat) : Int))) lo_none (bound_some (by omega) _) (by omega) (by simp; omega)
      simp only [Int.toNat_natCast, List.drop_zero, Nat.sub_zero] at h
      exact ⟨h.1, h.2.1⟩
    have sl2 : ∀ H1, H <+: H1 → sliceA Try.prog 27 v (some (.int .i64 ((i : Nat) : Int))) none none H1 = some (subV v i l.length) ∧ Row 3 H1 (subV v i l.length) (l.drop i) := by
      intro H1 hp
      have h := (hr.pre hp).slice Try.underlying27 cs3 (lo := some (.int .i64 ((i : Nat) : Int))) (hi := none) (bound_some (by omega) _) (hi_none _) (by simp; omega) (Nat.le_refl _)
      simp only [Int.toNat_natCast] at h
      refine ⟨h.1, ?_⟩
      have e : (l.drop i).take (l.length - i) = l.drop i := List.take_of_length_le (by simp)
      rw [← e]; exact h.2.1
    have ho0 : Own 3 H (H ++ [AObj.cells [] 3 false] ++ [AObj.cells [.int .i64 x] 3 false]) (.slice (some ⟨H.length, 0, none⟩) 0 0) [] := .inr ⟨H.length, rfl, Nat.le_refl _, at_app (at_new ..) _⟩
    obtain ⟨w1, H3, k1, o1, p1, e1, _⟩ := ho0.app (P := Try.prog) (t := 27) Try.underlying27 cs3 (by rw [by3]; decide) zk3 (sl1 _ hp2).2 hp2 (by simp; omega)
    simp only [List.nil_append] at o1
    have c3 : H3[(H ++ [AObj.cells [] 3 false]).length]? = some (.cells [.int .i64 x] 3 false) := e1 _ _ (.inr (by simp [rowO])) (at_new ..)
    have c2 : (H ++ [AObj.cells [] 3 false] ++ [AObj.cells [.int .i64 x] 3 false])[(H ++ [AObj.cells [] 3 false]).length]? = some (.cells [.int .i64 x] 3 false) := at_new ..
    have r39 : Row 3 H3 (.slice (some ⟨(H ++ [AObj.cells [] 3 false]).length, 0, none⟩) 1 1) [x] := .inr ⟨_, 0, [.int .i64 x], false, rfl, c3, by simp, rfl⟩
    obtain ⟨w2, H4, k2, o2, p2, e2, _⟩ := o1.app (P := Try.prog) (t := 27) Try.underlying27 cs3 (by rw [by3]; decide) zk3 r39 p1 (by simp; omega)
    obtain ⟨w3, H5, k3, o3, p3, e3, _⟩ := o2.app (P := Try.prog) (t := 27) Try.underlying27 cs3 (by rw [by3]; decide) zk3 (sl2 _ p2).2 p2 (by simp; omega)
    have hcat : l.take i ++ [x] ++ l.drop i = l.take i ++ x :: l.drop i := by simp
    simp (maxSteps := 1000000) (disch := omega) only [h0, h1, h5, hr.len Try.underlying27, S, S1, S2, S3, S4, S5, ST, eq_self, reduceIte, reduceCtorEq, Nat.reduceEqDiff, Nat.reduceAdd]
    refine brD.intro (fun g => ?_) (fun g => ?_)
    · have hi : i < l.length := by omega
      simp (maxSteps := 1000000) (disch := omega) only [g, h0, h1, h5, hr.ix Try.underlying27 cs3, hr.cell, Int.toNat_natCast, S, S1, S2, S3, S4, S5, ST, eq_self, reduceIte, reduceCtorEq, Nat.reduceEqDiff, Nat.reduceAdd]
      refine brD.intro (fun e => ?_) (fun e => ?_)
      · simp (maxSteps := 1000000) (disch := omega) only [h0, h1, h5, wrap64, S, S1, S2, S3, S4, S5, ST, eq_self, reduceIte, reduceCtorEq, Nat.reduceEqDiff, Nat.reduceAdd]
        have fx : ∀ j, j < i + 1 → l.getD j 0 < x := by
          intro j hj
          by_cases ej : j = i
          · subst ej; exact e
          · exact hlt j (by omega)
        refine ⟨m - 1, by omega, i + 1, ?_⟩
        (repeat' apply And.intro) <;> first | exact fx | (simp only [Value.int.injEq, true_and]; omega) | omega | rfl | assumption | (simp; done) | (simp; omega)
      · have hne : ¬ l.getD i 0 = x := fun h => hx (by
          have : l.getD i 0 = l[i] := by simp [hi]
          rw [← h, this]; exact List.getElem_mem hi)
        simp (maxSteps := 1000000) (disch := omega) only [g, h0, h1, h5, hr.len Try.underlying27, hr.ix Try.underlying27 cs3, hr.cell, Int.toNat_natCast, S, S1, S2, S3, S4, S5, ST, eq_self, reduceIte, reduceCtorEq, Nat.reduceEqDiff, Nat.reduceAdd]
        refine brD.intro (fun h => absurd h hne) (fun hne => ?_)
        simp (maxSteps := 1000000) (disch := omega) only [hne, g, h0, h1, h5, (sl1 _ hp1).1, (sl2 _ hp2).1, k1, k2, k3, (sl2 _ p1).1, (sl2 _ p2).1, c2, c3, S, S1, S2, S3, S4, S5, ST, eq_self, reduceIte, reduceCtorEq, Nat.reduceEqDiff, Nat.reduceAdd]
        refine hQ _ _ _ ?_
        simp (maxSteps := 1000000) (disch := omega) only [o3.row.tup, S, S1, S2, S3, S4, S5, ST, eq_self, reduceIte, reduceCtorEq, Nat.reduceEqDiff, Nat.reduceAdd]
        rw [fin (fun _ => by omega), ← hcat]
        exact ⟨o3, p3⟩
    · simp (maxSteps := 1000000) (disch := omega) only [g, h0, h1, h5, hr.len Try.underlying27, S, S1, S2, S3, S4, S5, ST, eq_self, reduceIte, reduceCtorEq, Nat.reduceEqDiff, Nat.reduceAdd]
      simp (maxSteps := 1000000) (disch := omega) only [h0, h1, h5, (sl1 _ hp1).1, (sl2 _ hp2).1, k1, k2, k3, (sl2 _ p1).1, (sl2 _ p2).1, c2, c3, g, S, S1, S2, S3, S4, S5, ST, eq_self, reduceIte, reduceCtorEq, Nat.reduceEqDiff, Nat.reduceAdd]
      refine hQ _ _ _ ?_
      simp (maxSteps := 1000000) (disch := omega) only [o3.row.tup, S, S1, S2, S3, S4, S5, ST, eq_self, reduceIte, reduceCtorEq, Nat.reduceEqDiff, Nat.reduceAdd]
      rw [fin (fun _ => by omega), ← hcat]
      exact ⟨o3, p3⟩
end Go.Proofs.Ytldcbmmmheookaa.Ai
namespace Go.Proofs.Ytldcbmmmheookaa.Ai
open Go Go.RowKit
set_option linter.unusedVariables false
/-- the lists of a list of lists -/
theorem InL.parts {lo hi : Nat} {e2 e : TypeId} {H : AH} {v : Value} {ls : List (List Int)} (h : InL lo hi e2 e H v ls) : ∃ us : List Value, RowV e2 H v us ∧ us.length = ls.length ∧ ∀ i, i < ls.length → InI lo hi e H (us.getD i undef) (ls.getD i []) := by
  rcases h with ⟨h1, h2⟩ | ⟨o, us, h0, h1, h2, h3, h4, h5, h6⟩
  · subst h1; subst h2; exact ⟨[], .inl ⟨rfl, rfl⟩, rfl, fun i hi => absurd hi (by simp)⟩
  · refine ⟨us.take ls.length, .inr ⟨o, 0, us, false, by simp [h0, Nat.min_eq_left h4], h3, by simp; omega, by simp [Nat.min_eq_left h4]⟩, by simp; omega, fun i hi => ?_⟩
    have : (us.take ls.length).getD i undef = us.getD i undef := by
      rw [List.getD_eq_getElem?_getD, List.getD_eq_getElem?_getD, List.getElem?_take, if_pos hi]
    rw [this]
    exact (h5 i hi).1
end Go.Proofs.Ytldcbmmmheookaa.Ai
namespace Go.Proofs.Ytldcbmmmheookaa.Ai
open Go
def ords53 : List (Nat × List (Nat × Bool)) := []
def cd53 : Cd := (.seq (.reg [⟨⟨some 2, Op.assign (Operand.const (Value.slice none 0 0)), none⟩, []⟩]) (.seq (.reg [⟨⟨some 3, Op.buildSlice 27 0 #[], none⟩, []⟩,
  ⟨⟨some 4, Op.move (Operand.tmp 0), none⟩, []⟩,
  ⟨⟨some 5, Op.call { callee := (Callee.builtin Builtin.append), args := #[(Operand.tmp 3), (Operand.tmp 4)], argTypes := #[27, 27] }, none⟩, []⟩,
  ⟨⟨some 2, Op.assign (Operand.tmp 5), none⟩, []⟩]) .ret))
theorem sl53 : slim Try.f53.ntmps ords53 (Try.f53.body.getD .skip) = some cd53 := by kernel_rfl
theorem in53 {args : List Value} {H : AH} {R : Value → AH → Prop} (hl : args.length = 1) (h : ∀ (Q : Exit → Sl → AH → Prop), (∀ e s H, endA Try.prog [ResultVar.tmp 2] R e s H → Q e s H) → wpC Try.prog cd53 Q (enterA args) H) : ACalls Try.prog 53 args H R :=
  ACalls.intro (by kernel_rfl) Try.func53 rfl (by kernel_rfl) sl53 hl (of_decide_eq_true (by kernel_rfl)) (by kernel_rfl) h
end Go.Proofs.Ytldcbmmmheookaa.Ai
namespace Go.Proofs.Ytldcbmmmheookaa.Ai
open Go Go.RowKit
set_option linter.unusedVariables false
set_option linter.unusedSimpArgs false
set_option maxRecDepth 20000 in
theorem l1Own_c (v : Value) (xs : List Int) (H : AH) (hr : Row 3 H v xs) (hlen : xs.length ≤ 1099511627776) : ACalls Try.prog 53 [v] H fun r H' => Own 3 H H' r xs ∧ H <+: H' := by
  refine in53 rfl ?_
  intro Q hQ
  simp (maxSteps := 1000000) (disch := omega) only [cd53, S, S1, S2, S3, S4, S5, ST, eq_self, reduceIte, reduceCtorEq, Nat.reduceEqDiff, Nat.reduceAdd]
  have hp := List.prefix_append H [AObj.cells [] 3 false]
  have ho : Own 3 H (H ++ [AObj.cells [] 3 false]) (.slice (some ⟨H.length, 0, none⟩) 0 0) [] := .inr ⟨H.length, rfl, Nat.le_refl _, at_new ..⟩
  obtain ⟨v', H2, k1, k2, k3, _⟩ := ho.app (P := Try.prog) (t := 27) Try.underlying27 cs3 (by rw [by3]; decide) zk3 (hr.pre hp) hp (by simp; omega)
  simp (maxSteps := 1000000) (disch := omega) only [k1, S, S1, S2, S3, S4, S5, ST, eq_self, reduceIte, reduceCtorEq, Nat.reduceEqDiff, Nat.reduceAdd]
  refine hQ _ _ _ ?_
  simp (maxSteps := 1000000) (disch := omega) only [k2.row.tup, S, S1, S2, S3, S4, S5, ST, eq_self, reduceIte, reduceCtorEq, Nat.reduceEqDiff, Nat.reduceAdd]
  exact ⟨k2, k3⟩
end Go.Proofs.Ytldcbmmmheookaa.Ai
namespace Go.Proofs.Ytldcbmmmheookaa.Ai
open Go
def ords124 : List (Nat × List (Nat × Bool)) := [(11, [(0, false), (1, false), (2, false), (3, false), (4, false), (5, false), (6, false), (7, false), (8, false), (9, true)])]
def cd124 : Cd := (.seq (.reg [⟨⟨some 3, Op.box 26 (Operand.tmp 0), none⟩, []⟩,
  ⟨⟨some 6, Op.assign (Operand.const (Value.slice none 0 0)), none⟩, []⟩]) (.seq (.reg [⟨⟨some 11, Op.move (Operand.tmp 2), none⟩, []⟩,
  ⟨⟨some 12, Op.buildSlice 27 1 #[(0, (Operand.tmp 11))], none⟩, []⟩,
  ⟨⟨some 7, Op.assign (Operand.tmp 12), none⟩, []⟩]) (.seq (.seq (.reg [⟨⟨some 8, Op.assign (Operand.const (Value.int IntKind.i64 0)), none⟩, []⟩]) (.block 0 (.loop (.seq (.seq (.reg [⟨⟨some 13, Op.move (Operand.tmp 8), none⟩, []⟩,
  ⟨⟨some 14, Op.move (Operand.tmp 1), none⟩, []⟩,
  ⟨⟨some 15, Op.call { callee := (Callee.builtin Builtin.len), args := #[(Operand.tmp 14)], argTypes := #[27] }, none⟩, []⟩,
  ⟨⟨some 16, Op.binOp BinOp.lss 3 (Operand.tmp 13) (Operand.tmp 15) 3, none⟩, []⟩]) (.cond (Operand.tmp 16) .skip (.exit 0))) (.seq (.block 1 (.seq (.reg [⟨⟨some 9, Op.assign (Operand.const (Value.int IntKind.i64 0)), none⟩, []⟩]) (.block 2 (.loop (.seq (.seq (.reg [⟨⟨some 19, Op.move (Operand.tmp 9), none⟩, []⟩,
  ⟨⟨some 20, Op.move (Operand.tmp 1), none⟩, []⟩,
  ⟨⟨some 21, Op.call { callee := (Callee.builtin Builtin.len), args := #[(Operand.tmp 20)], argTypes := #[27] }, none⟩, []⟩,
  ⟨⟨some 22, Op.binOp BinOp.lss 3 (Operand.tmp 19) (Operand.tmp 21) 3, none⟩, []⟩]) (.cond (Operand.tmp 22) .skip (.exit 2))) (.seq (.block 3 (.seq (.reg [⟨⟨some 10, Op.assign (Operand.const (Value.int IntKind.i64 0)), none⟩, []⟩]) (.block 4 (.loop (.seq (.seq (.reg [⟨⟨some 25, Op.move (Operand.tmp 10), none⟩, []⟩,
  ⟨⟨some 26, Op.move (Operand.tmp 7), none⟩, []⟩,
  ⟨⟨some 27, Op.call { callee := (Callee.builtin Builtin.len), args := #[(Operand.tmp 26)], argTypes := #[27] }, none⟩, []⟩,
  ⟨⟨some 28, Op.binOp BinOp.lss 3 (Operand.tmp 25) (Operand.tmp 27) 3, none⟩, []⟩,
  ⟨⟨some 29, Op.move (Operand.tmp 28), none⟩, []⟩,
  ⟨⟨some 30, Op.move (Operand.tmp 7), some (29, true)⟩, []⟩,
  ⟨⟨some 31, Op.move (Operand.tmp 1), some (29, true)⟩, []⟩,
  ⟨⟨some 32, Op.move (Operand.tmp 9), some (29, true)⟩, []⟩,
  ⟨⟨some 33, Op.indexAddr 27 (Operand.tmp 31) (Operand.tmp 32), some (29, true)⟩, []⟩,
  ⟨⟨some 34, Op.load 3 (Operand.tmp 33), some (29, true)⟩, []⟩,
  ⟨⟨some 35, Op.call { callee := (Callee.value (Operand.func 42)), args := #[(Operand.tmp 30), (Operand.tmp 34)], argTypes := #[27, 3] }, some (29, true)⟩, []⟩,
  ⟨⟨some 36, Op.unOp UnOp.not 4 (Operand.tmp 35), some (29, true)⟩, []⟩,
  ⟨⟨some 37, Op.pick (Operand.tmp 29) (Operand.tmp 36) (Operand.const (Value.bool false)), none⟩, []⟩]) (.cond (Operand.tmp 37) .skip (.exit 4))) (.seq (.block 5 (.seq (.reg [⟨⟨some 40, Op.load 26 (Operand.tmp 3), none⟩, []⟩,
  ⟨⟨some 41, Op.move (Operand.tmp 7), none⟩, []⟩,
  ⟨⟨some 42, Op.move (Operand.tmp 10), none⟩, []⟩,
  ⟨⟨some 43, Op.indexAddr 27 (Operand.tmp 41) (Operand.tmp 42), none⟩, []⟩,
  ⟨⟨some 44, Op.load 3 (Operand.tmp 43), none⟩, []⟩,
  ⟨⟨some 45, Op.move (Operand.tmp 1), none⟩, []⟩,
  ⟨⟨some 46, Op.move (Operand.tmp 9), none⟩, []⟩,
  ⟨⟨some 47, Op.indexAddr 27 (Operand.tmp 45) (Operand.tmp 46), none⟩, []⟩,
  ⟨⟨some 48, Op.load 3 (Operand.tmp 47), none⟩, []⟩,
  ⟨⟨some 49, Op.call { callee := (Callee.value (Operand.func 141)), args := #[(Operand.tmp 40), (Operand.tmp 44), (Operand.tmp 48)], argTypes := #[26, 3, 3] }, none⟩, []⟩]) (.cond (Operand.tmp 49) (.reg [⟨⟨some 50, Op.move (Operand.tmp 7), none⟩, []⟩,
  ⟨⟨some 51, Op.move (Operand.tmp 1), none⟩, []⟩,
  ⟨⟨some 52, Op.move (Operand.tmp 9), none⟩, []⟩,
  ⟨⟨some 53, Op.indexAddr 27 (Operand.tmp 51) (Operand.tmp 52), none⟩, []⟩,
  ⟨⟨some 54, Op.load 3 (Operand.tmp 53), none⟩, []⟩,
  ⟨⟨some 55, Op.call { callee := (Callee.value (Operand.func 56)), args := #[(Operand.tmp 50), (Operand.tmp 54)], argTypes := #[27, 3] }, none⟩, []⟩,
  ⟨⟨some 7, Op.assign (Operand.tmp 55), none⟩, []⟩]) .skip))) (.reg [⟨⟨some 38, Op.move (Operand.tmp 10), none⟩, []⟩,
  ⟨⟨some 39, Op.binOp BinOp.add 3 (Operand.tmp 38) (Operand.const (Value.int IntKind.i64 1)) 3, none⟩, []⟩,
  ⟨⟨some 10, Op.assign (Operand.tmp 39), none⟩, []⟩]))))))) (.reg [⟨⟨some 23, Op.move (Operand.tmp 9), none⟩, []⟩,
  ⟨⟨some 24, Op.binOp BinOp.add 3 (Operand.tmp 23) (Operand.const (Value.int IntKind.i64 1)) 3, none⟩, []⟩,
  ⟨⟨some 9, Op.assign (Operand.tmp 24), none⟩, []⟩]))))))) (.reg [⟨⟨some 17, Op.move (Operand.tmp 8), none⟩, []⟩,
  ⟨⟨some 18, Op.binOp BinOp.add 3 (Operand.tmp 17) (Operand.const (Value.int IntKind.i64 1)) 3, none⟩, []⟩,
  ⟨⟨some 8, Op.assign (Operand.tmp 18), none⟩, []⟩])))))) (.seq (.reg [⟨⟨some 56, Op.move (Operand.tmp 7), none⟩, []⟩,
  ⟨⟨some 6, Op.assign (Operand.tmp 56), none⟩, []⟩]) .ret))))
theorem sl124 : slim Try.f124.ntmps ords124 (Try.f124.body.getD .skip) = some cd124 := by kernel_rfl
theorem in124 {args : List Value} {H : AH} {R : Value → AH → Prop} (hl : args.length = 3) (h : ∀ (Q : Exit → Sl → AH → Prop), (∀ e s H, endA Try.prog [ResultVar.tmp 6] R e s H → Q e s H) → wpC Try.prog cd124 Q (enterA args) H) : ACalls Try.prog 124 args H R :=
  ACalls.intro (by kernel_rfl) Try.func124 rfl (by kernel_rfl) sl124 hl (of_decide_eq_true (by kernel_rfl)) (by kernel_rfl) h
def ords98 : List (Nat × List (Nat × Bool)) := [(6, [(0, false), (1, false), (2, false), (3, false), (4, false), (5, false), (6, true), (7, false)])]
def cd98 : Cd := (.seq (.reg [⟨⟨some 2, Op.box 26 (Operand.tmp 0), none⟩, []⟩,
  ⟨⟨some 4, Op.assign (Operand.const (Value.slice none 0 0)), none⟩, []⟩]) (.seq (.reg [⟨⟨some 10, Op.buildSlice 38 0 #[], none⟩, []⟩,
  ⟨⟨some 11, Op.buildSlice 27 0 #[], none⟩, []⟩,
  ⟨⟨some 5, Op.assign (Operand.tmp 10), none⟩, []⟩,
  ⟨⟨some 6, Op.assign (Operand.tmp 11), none⟩, []⟩]) (.seq (.seq (.reg [⟨⟨some 7, Op.assign (Operand.const (Value.int IntKind.i64 0)), none⟩, []⟩]) (.block 0 (.loop (.seq (.seq (.reg [⟨⟨some 12, Op.move (Operand.tmp 7), none⟩, []⟩,
  ⟨⟨some 13, Op.move (Operand.tmp 1), none⟩, []⟩,
  ⟨⟨some 14, Op.call { callee := (Callee.builtin Builtin.len), args := #[(Operand.tmp 13)], argTypes := #[27] }, none⟩, []⟩,
  ⟨⟨some 15, Op.binOp BinOp.lss 3 (Operand.tmp 12) (Operand.tmp 14) 3, none⟩, []⟩]) (.cond (Operand.tmp 15) .skip (.exit 0))) (.seq (.block 1 (.seq (.seq (.reg [⟨⟨some 18, Op.move (Operand.tmp 6), none⟩, []⟩,
  ⟨⟨some 19, Op.move (Operand.tmp 1), none⟩, []⟩,
  ⟨⟨some 20, Op.move (Operand.tmp 7), none⟩, []⟩,
  ⟨⟨some 21, Op.indexAddr 27 (Operand.tmp 19) (Operand.tmp 20), none⟩, []⟩,
  ⟨⟨some 22, Op.load 3 (Operand.tmp 21), none⟩, []⟩,
  ⟨⟨some 23, Op.call { callee := (Callee.value (Operand.func 42)), args := #[(Operand.tmp 18), (Operand.tmp 22)], argTypes := #[27, 3] }, none⟩, []⟩]) (.cond (Operand.tmp 23) (.exit 1) .skip)) (.seq (.reg [⟨⟨some 24, Op.load 26 (Operand.tmp 2), none⟩, []⟩,
  ⟨⟨some 25, Op.move (Operand.tmp 1), none⟩, []⟩,
  ⟨⟨some 26, Op.move (Operand.tmp 1), none⟩, []⟩,
  ⟨⟨some 27, Op.move (Operand.tmp 7), none⟩, []⟩,
  ⟨⟨some 28, Op.indexAddr 27 (Operand.tmp 26) (Operand.tmp 27), none⟩, []⟩,
  ⟨⟨some 29, Op.load 3 (Operand.tmp 28), none⟩, []⟩,
  ⟨⟨some 30, Op.call { callee := (Callee.value (Operand.func 124)), args := #[(Operand.tmp 24), (Operand.tmp 25), (Operand.tmp 29)], argTypes := #[26, 27, 3] }, none⟩, []⟩,
  ⟨⟨some 8, Op.assign (Operand.tmp 30), none⟩, []⟩]) (.seq (.seq (.reg [⟨⟨some 9, Op.assign (Operand.const (Value.int IntKind.i64 0)), none⟩, []⟩]) (.block 2 (.loop (.seq (.seq (.reg [⟨⟨some 31, Op.move (Operand.tmp 9), none⟩, []⟩,
  ⟨⟨some 32, Op.move (Operand.tmp 8), none⟩, []⟩,
  ⟨⟨some 33, Op.call { callee := (Callee.builtin Builtin.len), args := #[(Operand.tmp 32)], argTypes := #[27] }, none⟩, []⟩,
  ⟨⟨some 34, Op.binOp BinOp.lss 3 (Operand.tmp 31) (Operand.tmp 33) 3, none⟩, []⟩]) (.cond (Operand.tmp 34) .skip (.exit 2))) (.seq (.block 3 (.reg [⟨⟨some 37, Op.move (Operand.tmp 6), none⟩, []⟩,
  ⟨⟨some 38, Op.move (Operand.tmp 8), none⟩, []⟩,
  ⟨⟨some 39, Op.move (Operand.tmp 9), none⟩, []⟩,
  ⟨⟨some 40, Op.indexAddr 27 (Operand.tmp 38) (Operand.tmp 39), none⟩, []⟩,
  ⟨⟨some 41, Op.load 3 (Operand.tmp 40), none⟩, []⟩,
  ⟨⟨some 42, Op.call { callee := (Callee.value (Operand.func 56)), args := #[(Operand.tmp 37), (Operand.tmp 41)], argTypes := #[27, 3] }, none⟩, []⟩,
  ⟨⟨some 6, Op.assign (Operand.tmp 42), none⟩, []⟩])) (.reg [⟨⟨some 35, Op.move (Operand.tmp 9), none⟩, []⟩,
  ⟨⟨some 36, Op.binOp BinOp.add 3 (Operand.tmp 35) (Operand.const (Value.int IntKind.i64 1)) 3, none⟩, []⟩,
  ⟨⟨some 9, Op.assign (Operand.tmp 36), none⟩, []⟩])))))) (.reg [⟨⟨some 43, Op.move (Operand.tmp 5), none⟩, []⟩,
  ⟨⟨some 44, Op.move (Operand.tmp 8), none⟩, []⟩,
  ⟨⟨some 45, Op.buildSlice 38 1 #[(0, (Operand.tmp 44))], none⟩, []⟩,
  ⟨⟨some 46, Op.call { callee := (Callee.builtin Builtin.append), args := #[(Operand.tmp 43), (Operand.tmp 45)], argTypes := #[38, 38] }, none⟩, []⟩,
  ⟨⟨some 5, Op.assign (Operand.tmp 46), none⟩, []⟩]))))) (.reg [⟨⟨some 16, Op.move (Operand.tmp 7), none⟩, []⟩,
  ⟨⟨some 17, Op.binOp BinOp.add 3 (Operand.tmp 16) (Operand.const (Value.int IntKind.i64 1)) 3, none⟩, []⟩,
  ⟨⟨some 7, Op.assign (Operand.tmp 17), none⟩, []⟩])))))) (.seq (.reg [⟨⟨some 47, Op.move (Operand.tmp 5), none⟩, []⟩,
  ⟨⟨some 4, Op.assign (Operand.tmp 47), none⟩, []⟩]) .ret))))
theorem sl98 : slim Try.f98.ntmps ords98 (Try.f98.body.getD .skip) = some cd98 := by kernel_rfl
theorem in98 {args : List Value} {H : AH} {R : Value → AH → Prop} (hl : args.length = 2) (h : ∀ (Q : Exit → Sl → AH → Prop), (∀ e s H, endA Try.prog [ResultVar.tmp 4] R e s H → Q e s H) → wpC Try.prog cd98 Q (enterA args) H) : ACalls Try.prog 98 args H R :=
  ACalls.intro (by kernel_rfl) Try.func98 rfl (by kernel_rfl) sl98 hl (of_decide_eq_true (by kernel_rfl)) (by kernel_rfl) h
end Go.Proofs.Ytldcbmmmheookaa.Ai
namespace Go.Proofs.Ytldcbmmmheookaa.Ai
open Go Go.RowKit
set_option linter.unusedVariables false
set_option linter.unusedSimpArgs false
theorem bsRow {H0 : AH} {v : Value} {xs : List Int} (h : Row 3 H0 v xs) (K : AH) : buildSliceA Try.prog 38 1 [(0, v)] K = some (.slice (some ⟨K.length, 0, none⟩) 1 1, K ++ [.cells [v] 27 false]) := by
  obtain ⟨q, eq⟩ := h.shape
  rw [eq]
  exact bs1 Try.underlying38 cs27 ze27 ⟨by kernel_rfl, by kernel_rfl⟩ K rfl
/-- a set of few nodes -/
def Sm (o : List Int) : Prop := o.Pairwise (· < ·) ∧ ∀ z ∈ o, 0 ≤ z ∧ z < 8
theorem Sm.len {o : List Int} (h : Sm o) : o.length ≤ 8 := by
  have := nodup_le (a := o) (b := (List.range 8).map fun z : Nat => (z : Int)) (lt_nodup h.1) fun x hx => by
    have := h.2 x hx
    exact List.mem_map.2 ⟨x.toNat, List.mem_range.2 (by omega), by omega⟩
  simpa using this
theorem Sm.put {o : List Int} (h : Sm o) {x : Int} (hx : 0 ≤ x ∧ x < 8) : Sm (put o x) := by
  refine ⟨put_sorted _ _ h.1, fun z hz => ?_⟩
  rcases (put_mem _ _ _).1 hz with rfl | hz
  · exact hx
  · exact h.2 z hz
theorem Sm.nil : Sm [] := ⟨List.Pairwise.nil, fun z hz => by simp at hz⟩
theorem Sm.one {x : Int} (hx : 0 ≤ x ∧ x < 8) : Sm [x] := ⟨List.pairwise_singleton _ _, fun z hz => by simp at hz; subst hz; exact hx⟩
theorem Sm.rcIn {o : List Int} (h : Sm o) (es : List (Int × Int)) {y : Int} (hy : 0 ≤ y ∧ y < 8) : Sm (rcIn es o y) := by
  unfold Ai.rcIn
  split
  · exact h
  · split
    · exact h.put hy
    · exact h
theorem Sm.fold (es : List (Int × Int)) : ∀ (l : List Int) {o : List Int}, Sm o → (∀ y ∈ l, 0 ≤ y ∧ y < 8) → Sm (l.foldl (Ai.rcIn es) o)
  | [], o, h, _ => h
  | y :: ys, o, h, hl => Sm.fold es ys (h.rcIn es (hl y (by simp))) fun z hz => hl z (by simp [hz])
theorem Sm.iter (es : List (Int × Int)) (set : List Int) (hl : ∀ y ∈ set, 0 ≤ y ∧ y < 8) {x : Int} (hx : 0 ≤ x ∧ x < 8) : ∀ k, Sm (rcIter es set k [x])
  | 0 => Sm.one hx
  | k + 1 => Sm.fold es set (Sm.iter es set hl hx k) hl
theorem drop_fold {β : Type} (f : β → Int → β) (l : List Int) (i : Nat) (hi : i < l.length) (o : β) : (l.drop i).foldl f o = (l.drop (i + 1)).foldl f (f o (l.getD i 0)) := by
  have e : l.getD i 0 = l[i] := by simp [hi]
  rw [List.drop_eq_getElem_cons hi, List.foldl_cons, e]
set_option maxRecDepth 20000 in
set_option maxHeartbeats 4000000 in
theorem l2Reach_c (n : Int) (v w : Value) (es : List (Int × Int)) (set : List Int) (x : Int) (H : AH) (hr : RowP 71 H v es) (hlen : es.length ≤ 1099511627776) (hs : Row 3 H w set) (hsr : ∀ z ∈ set, 0 ≤ z ∧ z < 8) (hsl : set.length ≤ 8) (hx : 0 ≤ x ∧ x < 8) :
    ACalls Try.prog 124 [.agg (List.toArray [.int .i64 n, v]), w, .int .i64 x] H fun r H' => Own 3 H H' r (reachL es set x) ∧ H <+: H' := by
  refine in124 rfl ?_
  intro Q hQ
  simp (maxSteps := 1000000) (disch := omega) only [cd124, hr.boxG, S, S1, S2, S3, S4, S5, ST, eq_self, reduceIte, reduceCtorEq, Nat.reduceEqDiff, Nat.reduceAdd]
  generalize hA : H ++ [AObj.cells [.int .i64 n, v] 26 false] = A
  have pA : H <+: A := by rw [← hA]; exact List.prefix_append _ _
  have cA : A[H.length]? = some (.cells [.int .i64 n, v] 26 false) := by rw [← hA]; exact at_new ..
  have rA := hr.pre pA
  try simp (maxSteps := 1000000) (disch := omega) only [S, S1, S2, S3, S4, S5, ST, eq_self, reduceIte, reduceCtorEq, Nat.reduceEqDiff, Nat.reduceAdd]
  refine LoopH.by (fun m s H' => ∃ i, m + i = set.length ∧ s 1 = w ∧ s 3 = .pointer (some ⟨H.length, 0, none⟩) ∧ s 8 = .int .i64 ((i : Nat) : Int) ∧ Own 3 A H' (s 7) (rcIter es set i [x]) ∧ A <+: H') set.length ?_ ?_
  · exact ⟨0, by simp, rfl, rfl, rfl, .inr ⟨A.length, rfl, Nat.le_refl _, at_new ..⟩, List.prefix_append _ _⟩
  rintro m s H' ⟨i, hm, h1, h3, h8, ho, hp⟩
  have hss := hs.pre (pA.trans hp)
  have hiter : rcIter es set (i + 1) [x] = set.foldl (rcIn es) (rcIter es set i [x]) := rfl
  have hsm := Sm.iter es set hsr hx i
  have hend : i = set.length → rcIter es set i [x] = reachL es set x := fun e => by rw [e]; rfl
  generalize hw : s 7 = u at *
  generalize hR : rcIter es set i [x] = R at *
  simp (maxSteps := 1000000) (disch := omega) only [h1, h3, h8, hw, hss.len Try.underlying27, S, S1, S2, S3, S4, S5, ST, eq_self, reduceIte, reduceCtorEq, Nat.reduceEqDiff, Nat.reduceAdd]
  refine brD.intro (fun g => ?_) (fun g => ?_)
  rotate_left
  · simp (maxSteps := 1000000) (disch := omega) only [hw, S, S1, S2, S3, S4, S5, ST, eq_self, reduceIte, reduceCtorEq, Nat.reduceEqDiff, Nat.reduceAdd]
    refine hQ _ _ _ ?_
    simp (maxSteps := 1000000) (disch := omega) only [hw, ho.row.tup, S, S1, S2, S3, S4, S5, ST, eq_self, reduceIte, reduceCtorEq, Nat.reduceEqDiff, Nat.reduceAdd]
    rw [← hend (by omega)]
    exact ⟨ho.base pA, pA.trans hp⟩
  simp (maxSteps := 1000000) (disch := omega) only [h1, h3, h8, hw, S, S1, S2, S3, S4, S5, ST, eq_self, reduceIte, reduceCtorEq, Nat.reduceEqDiff, Nat.reduceAdd]
  refine LoopH.by (fun m2 s H2 => ∃ j R2, m2 + j = set.length ∧ s 1 = w ∧ s 3 = .pointer (some ⟨H.length, 0, none⟩) ∧ s 8 = .int .i64 ((i : Nat) : Int) ∧ s 9 = .int .i64 ((j : Nat) : Int) ∧ Own 3 A H2 (s 7) R2 ∧ A <+: H2 ∧ Sm R2 ∧ (set.drop j).foldl (rcIn es) R2 = set.foldl (rcIn es) R) set.length ?_ ?_
  · refine ⟨0, R, by simp, h1, h3, h8, rfl, ?_, hp, hsm, by rw [List.drop_zero]⟩
    simp only [S, S1, S2, S3, S4, S5, ST, eq_self, reduceIte, reduceCtorEq, Nat.reduceEqDiff, Nat.reduceAdd, hw]
    exact ho
  rintro m2 s H2 ⟨j, R2, hm2, h1, h3, h8, h9, ho2, hp2, hsm2, hf⟩
  have hss2 := hs.pre (pA.trans hp2)
  generalize hw : s 7 = u2 at *
  simp (maxSteps := 1000000) (disch := omega) only [h1, h3, h8, h9, hw, hss2.len Try.underlying27, S, S1, S2, S3, S4, S5, ST, eq_self, reduceIte, reduceCtorEq, Nat.reduceEqDiff, Nat.reduceAdd]
  refine brD.intro (fun g2 => ?_) (fun g2 => ?_)
  rotate_left
  · simp (maxSteps := 1000000) (disch := omega) only [h1, h3, h8, h9, hw, wrap64, S, S1, S2, S3, S4, S5, ST, eq_self, reduceIte, reduceCtorEq, Nat.reduceEqDiff, Nat.reduceAdd]
    rw [List.drop_of_length_le (by omega), List.foldl_nil, ← hiter] at hf
    refine ⟨m - 1, by omega, i + 1, ?_⟩
    rw [← hf]
    (repeat' first | exact ho2 | exact hp2 | apply And.intro) <;> first | (simp only [Value.int.injEq, true_and]; omega) | omega | rfl | assumption | (simp; done) | (simp; omega)
  have hj : j < set.length := by omega
  rw [drop_fold _ set j hj] at hf
  have hym : set.getD j 0 ∈ set := by simp [hj]
  have hyr := hsr _ hym
  generalize hy : set.getD j 0 = y at *
  simp (maxSteps := 1000000) (disch := omega) only [h1, h3, h8, h9, hw, S, S1, S2, S3, S4, S5, ST, eq_self, reduceIte, reduceCtorEq, Nat.reduceEqDiff, Nat.reduceAdd]
  refine LoopH.by (fun m3 s H3 => ∃ k R3, m3 + k = 9 ∧ s 1 = w ∧ s 3 = .pointer (some ⟨H.length, 0, none⟩) ∧ s 8 = .int .i64 ((i : Nat) : Int) ∧ s 9 = .int .i64 ((j : Nat) : Int) ∧ s 10 = .int .i64 ((k : Nat) : Int) ∧ Own 3 A H3 (s 7) R3 ∧ A <+: H3 ∧ Sm R3 ∧ rcIn es R3 y = rcIn es R2 y ∧ (y ∉ R3 → ∀ l, l < k → l < R3.length → nearB es (R3.getD l 0) y = false)) 9 ?_ ?_
  · refine ⟨0, R2, by omega, h1, h3, h8, h9, rfl, ?_, hp2, hsm2, rfl, fun _ l hl => absurd hl (Nat.not_lt_zero l)⟩
    simp only [S, S1, S2, S3, S4, S5, ST, eq_self, reduceIte, reduceCtorEq, Nat.reduceEqDiff, Nat.reduceAdd, hw]
    exact ho2
  rintro m3 s H3 ⟨k, R3, hm3, h1, h3, h8, h9, h10, ho3, hp3, hsm3, hq, hno⟩
  have hss3 := hs.pre (pA.trans hp3)
  have hl3 := hsm3.len
  have hr3 := rA.pre hp3
  have c3 := pre_at hp3 cA
  generalize hw : s 7 = u3 at *
  have stay : ∀ (H4 : AH), A <+: H4 → Own 3 A H4 u3 R3 → (y ∈ R3 ∨ k ≥ R3.length) → rcIn es R2 y = R3 := by
    intro H4 _ _ hc
    rw [← hq]
    unfold rcIn
    split
    · rfl
    · rename_i hm
      rw [if_neg]
      intro e
      obtain ⟨o, hoo, hn⟩ := List.any_eq_true.1 e
      obtain ⟨l, hl, rfl⟩ := List.mem_iff_getElem.1 hoo
      have h5 := hno hm l (by rcases hc with h | h <;> first | exact absurd h hm | omega) hl
      have e5 : R3.getD l 0 = R3[l] := by simp [hl]
      rw [e5, hn] at h5
      exact absurd h5 (by decide)
  simp (maxSteps := 1000000) (disch := omega) only [h1, h3, h8, h9, h10, hw, ho3.row.len Try.underlying27, S, S1, S2, S3, S4, S5, ST, eq_self, reduceIte, reduceCtorEq, Nat.reduceEqDiff, Nat.reduceAdd]
  refine brD.intro (fun g3 => ?_) (fun g3 => ?_)
  rotate_left
  · simp (maxSteps := 1000000) (disch := omega) only [g3, h1, h3, h8, h9, h10, hw, wrap64, S, S1, S2, S3, S4, S5, ST, eq_self, reduceIte, reduceCtorEq, Nat.reduceEqDiff, Nat.reduceAdd]
    rw [stay H3 hp3 ho3 (.inr (by omega))] at hf
    refine ⟨m2 - 1, by omega, j + 1, R3, ?_⟩
    (repeat' first | exact ho3 | exact hp3 | exact hsm3 | exact hf | apply And.intro) <;> first | (simp only [Value.int.injEq, true_and]; omega) | omega | rfl | assumption | (simp; done) | (simp; omega)
  have hk : k < R3.length := by omega
  have hcy := hss3.cell hj
  rw [hy] at hcy
  simp (maxSteps := 1000000) (disch := omega) only [g3, h1, h3, h8, h9, h10, hw, hss3.ix Try.underlying27 cs3, hcy, Int.toNat_natCast, S, S1, S2, S3, S4, S5, ST, eq_self, reduceIte, reduceCtorEq, Nat.reduceEqDiff, Nat.reduceAdd]
  refine CallH.by (l1Has_c u3 R3 y H3 ho3.row (by omega)) ?_
  rintro _ _ ⟨rfl, rfl⟩
  simp (maxSteps := 1000000) (disch := omega) only [g3, S, S1, S2, S3, S4, S5, ST, eq_self, reduceIte, reduceCtorEq, Nat.reduceEqDiff, Nat.reduceAdd]
  refine brD.intro (fun g4 => ?_) (fun g4 => ?_)
  · simp (maxSteps := 1000000) (disch := omega) only [h1, h3, h8, h9, h10, hw, wrap64, S, S1, S2, S3, S4, S5, ST, eq_self, reduceIte, reduceCtorEq, Nat.reduceEqDiff, Nat.reduceAdd]
    rw [stay H3 hp3 ho3 (.inl g4)] at hf
    refine ⟨m2 - 1, by omega, j + 1, R3, ?_⟩
    (repeat' first | exact ho3 | exact hp3 | exact hsm3 | exact hf | apply And.intro) <;> first | (simp only [Value.int.injEq, true_and]; omega) | omega | rfl | assumption | (simp; done) | (simp; omega)
  simp (maxSteps := 1000000) (disch := omega) only [h1, h3, h8, h9, h10, hw, hss3.ix Try.underlying27 cs3, hcy, ho3.row.ix Try.underlying27 cs3, ho3.row.cell, Int.toNat_natCast, ld_agg ag26 cs26 c3, S, S1, S2, S3, S4, S5, ST, eq_self, reduceIte, reduceCtorEq, Nat.reduceEqDiff, Nat.reduceAdd]
  refine CallH.by (l2Near_c n v es _ y H3 hr3 hlen) ?_
  rintro _ H4 ⟨rfl, p4⟩
  have hss4 := hss3.pre p4
  have ho4 := ho3.pre p4
  have hp4 := hp3.trans p4
  have hcy4 := hss4.cell hj
  rw [hy] at hcy4
  simp (maxSteps := 1000000) (disch := omega) only [S, S1, S2, S3, S4, S5, ST, eq_self, reduceIte, reduceCtorEq, Nat.reduceEqDiff, Nat.reduceAdd]
  refine brH.intro (fun e => ?_) (fun e => ?_)
  · simp (maxSteps := 1000000) (disch := omega) only [e, h1, h3, h8, h9, h10, hw, hss4.ix Try.underlying27 cs3, hcy4, Int.toNat_natCast, S, S1, S2, S3, S4, S5, ST, eq_self, reduceIte, reduceCtorEq, Nat.reduceEqDiff, Nat.reduceAdd]
    refine CallH.by (l1Put_c u3 R3 y H4 ho4.row (by omega) g4) ?_
    rintro u5 H5 ⟨ho5, p5⟩
    have ho5' := ho5.base hp4
    have hp5 := hp4.trans p5
    have hsm5 := hsm3.put hyr
    have hmp : y ∈ put R3 y := (put_mem _ _ _).2 (.inl rfl)
    have hq5 : rcIn es (put R3 y) y = rcIn es R2 y := by
      rw [← hq]
      have e1 : rcIn es R3 y = put R3 y := by
        unfold rcIn
        rw [if_neg g4, if_pos]
        refine List.any_eq_true.2 ⟨R3.getD k 0, by simp [hk], e⟩
      rw [e1]
      unfold rcIn
      rw [if_pos hmp]
    have hno5 : y ∉ put R3 y → ∀ l, l < k + 1 → l < (put R3 y).length → nearB es ((put R3 y).getD l 0) y = false := fun h => absurd hmp h
    simp (maxSteps := 1000000) (disch := omega) only [h1, h3, h8, h9, h10, wrap64, S, S1, S2, S3, S4, S5, ST, eq_self, reduceIte, reduceCtorEq, Nat.reduceEqDiff, Nat.reduceAdd]
    refine ⟨m3 - 1, by omega, k + 1, put R3 y, ?_⟩
    (repeat' first | exact ho5' | exact hp5 | exact hsm5 | exact hq5 | exact hno5 | apply And.intro) <;> first | (simp only [Value.int.injEq, true_and]; omega) | omega | rfl | assumption | (simp; done) | (simp; omega)
  · have hno5 : y ∉ R3 → ∀ l, l < k + 1 → l < R3.length → nearB es (R3.getD l 0) y = false := by
      intro h l hl1 hl2
      by_cases el : l = k
      · subst el; exact e
      · exact hno h l (by omega) hl2
    simp (maxSteps := 1000000) (disch := omega) only [e, h1, h3, h8, h9, h10, hw, wrap64, S, S1, S2, S3, S4, S5, ST, eq_self, reduceIte, reduceCtorEq, Nat.reduceEqDiff, Nat.reduceAdd]
    refine ⟨m3 - 1, by omega, k + 1, R3, ?_⟩
    (repeat' first | exact ho4 | exact hp4 | exact hsm3 | exact hq | exact hno5 | apply And.intro) <;> first | (simp only [Value.int.injEq, true_and]; omega) | omega | rfl | assumption | (simp; done) | (simp; omega)
set_option maxRecDepth 20000 in
set_option maxHeartbeats 2000000 in
theorem l1PutW_c (v : Value) (l : List Int) (x : Int) (H : AH) (hr : Row 3 H v l) (hlen : l.length ≤ 1000000) (hso : l.Pairwise (· < ·)) :
    ACalls Try.prog 56 [v, .int .i64 x] H fun r H' => ((r = v ∧ put l x = l) ∨ Own 3 H H' r (put l x)) ∧ H <+: H' := by
  by_cases hx : x ∈ l
  rotate_left
  · exact (l1Put_c v l x H hr hlen hx).mono fun r H' h => ⟨.inr h.1, h.2⟩
  · refine in56 rfl ?_
    intro Q hQ
    obtain ⟨q, hq, hqe⟩ := List.mem_iff_getElem.1 hx
    have hqd : l.getD q 0 = x := by simp [hq, hqe]
    have hpt : put l x = l := by
      have hlt : ∀ j, j < q → l.getD j 0 < x := fun j hj => by
        have := List.pairwise_iff_getElem.1 hso j q (by omega) hq hj
        have e : l.getD j 0 = l[j] := by simp [show j < l.length by omega]
        rw [e]; omega
      rw [putAt_eq0 l x q (by omega) hlt (fun _ => by omega), if_pos ⟨hq, hqd⟩]
    simp (maxSteps := 1000000) (disch := omega) only [cd56, S, S1, S2, S3, S4, S5, ST, eq_self, reduceIte, reduceCtorEq, Nat.reduceEqDiff, Nat.reduceAdd]
    refine LoopH.by (fun m s H' => ∃ i, m + i = l.length ∧ s 0 = v ∧ s 1 = .int .i64 x ∧ s 5 = .int .i64 ((i : Nat) : Int) ∧ H = H' ∧ i ≤ q) l.length ?_ ?_
    · exact ⟨0, by simp, rfl, rfl, rfl, rfl, by omega⟩
    · rintro m s H' ⟨i, hm, h0, h1, h5, rfl, hiq⟩
      have hi : i < l.length := by omega
      have hle : l.getD i 0 ≤ x ∧ (i < q → l.getD i 0 < x) := by
        have e : l.getD i 0 = l[i] := by simp [hi]
        rw [e]
        by_cases e2 : i = q
        · subst e2; exact ⟨by omega, fun h => absurd h (by omega)⟩
        · have := List.pairwise_iff_getElem.1 hso i q hi hq (by omega)
          exact ⟨by omega, fun _ => by omega⟩
      simp (maxSteps := 1000000) (disch := omega) only [h0, h1, h5, hr.len Try.underlying27, S, S1, S2, S3, S4, S5, ST, eq_self, reduceIte, reduceCtorEq, Nat.reduceEqDiff, Nat.reduceAdd]
      refine brD.intro (fun g => ?_) (fun g => absurd (show (i : Int) < l.length by omega) g)
      simp (maxSteps := 1000000) (disch := omega) only [g, h0, h1, h5, hr.ix Try.underlying27 cs3, hr.cell, Int.toNat_natCast, S, S1, S2, S3, S4, S5, ST, eq_self, reduceIte, reduceCtorEq, Nat.reduceEqDiff, Nat.reduceAdd]
      refine brD.intro (fun e => ?_) (fun e => ?_)
      · simp (maxSteps := 1000000) (disch := omega) only [h0, h1, h5, wrap64, S, S1, S2, S3, S4, S5, ST, eq_self, reduceIte, reduceCtorEq, Nat.reduceEqDiff, Nat.reduceAdd]
        have fx : i + 1 ≤ q := by
          by_cases e2 : i = q
          · subst e2; omega
          · omega
        refine ⟨m - 1, by omega, i + 1, ?_⟩
        (repeat' apply And.intro) <;> first | exact fx | (simp only [Value.int.injEq, true_and]; omega) | omega | rfl | assumption | (simp; done) | (simp; omega)
      · have hee : l.getD i 0 = x := by
          by_cases e2 : i = q
          · subst e2; exact hqd
          · exact absurd (hle.2 (by omega)) e
        simp (maxSteps := 1000000) (disch := omega) only [g, h0, h1, h5, hr.len Try.underlying27, hr.ix Try.underlying27 cs3, hr.cell, Int.toNat_natCast, S, S1, S2, S3, S4, S5, ST, eq_self, reduceIte, reduceCtorEq, Nat.reduceEqDiff, Nat.reduceAdd]
        refine brD.intro (fun h => ?_) (fun h => absurd hee h)
        simp (maxSteps := 1000000) (disch := omega) only [h0, S, S1, S2, S3, S4, S5, ST, eq_self, reduceIte, reduceCtorEq, Nat.reduceEqDiff, Nat.reduceAdd]
        refine hQ _ _ _ ?_
        simp (maxSteps := 1000000) (disch := omega) only [h0, hr.tup, S, S1, S2, S3, S4, S5, ST, eq_self, reduceIte, reduceCtorEq, Nat.reduceEqDiff, Nat.reduceAdd]
        exact ⟨.inl hpt, List.prefix_refl _⟩
theorem Sm.reach {es : List (Int × Int)} {set : List Int} (hl : ∀ y ∈ set, 0 ≤ y ∧ y < 8) {x : Int} (hx : 0 ≤ x ∧ x < 8) : Sm (reachL es set x) := Sm.iter es set hl hx _
set_option maxRecDepth 20000 in
set_option maxHeartbeats 4000000 in
theorem l2Pieces_c (n : Int) (v w : Value) (es : List (Int × Int)) (set : List Int) (H : AH) (hr : RowP 71 H v es) (hlen : es.length ≤ 1099511627776) (hs : Row 3 H w set) (hsr : ∀ z ∈ set, 0 ≤ z ∧ z < 8) (hsl : set.length ≤ 8) :
    ACalls Try.prog 98 [.agg (List.toArray [.int .i64 n, v]), w] H fun r H' => InL H.length H'.length 27 3 H' r (piecesL es set) ∧ H <+: H' := by
  refine in98 rfl ?_
  intro Q hQ
  simp (maxSteps := 1000000) (disch := omega) only [cd98, hr.boxG, S, S1, S2, S3, S4, S5, ST, eq_self, reduceIte, reduceCtorEq, Nat.reduceEqDiff, Nat.reduceAdd]
  generalize hA : H ++ [AObj.cells [.int .i64 n, v] 26 false] = A
  have pA : H <+: A := by rw [← hA]; exact List.prefix_append _ _
  have cA : A[H.length]? = some (.cells [.int .i64 n, v] 26 false) := by rw [← hA]; exact at_new ..
  have rA := hr.pre pA
  try simp (maxSteps := 1000000) (disch := omega) only [S, S1, S2, S3, S4, S5, ST, eq_self, reduceIte, reduceCtorEq, Nat.reduceEqDiff, Nat.reduceAdd]
  have lA : A.length = H.length + 1 := by rw [← hA]; simp
  generalize hB : A ++ [AObj.cells [] 27 false] = B
  have pB : A <+: B := by rw [← hB]; exact List.prefix_append _ _
  have cB : B[A.length]? = some (.cells [] 27 false) := by rw [← hB]; exact at_new ..
  have lB : B.length = A.length + 1 := by rw [← hB]; simp
  have uB : InU H.length B.length 27 3 B A.length [] [] := ⟨by omega, by omega, cB, Nat.le_refl _, fun i hi => absurd hi (by simp), fun i j _ hi _ => absurd hi (by simp)⟩
  refine LoopH.by (fun m s H' => ∃ i st oo vs q, m + i = set.length ∧ s 1 = w ∧ s 2 = .pointer (some ⟨H.length, 0, none⟩) ∧ s 7 = .int .i64 ((i : Nat) : Int) ∧ s 5 = .slice (some ⟨oo, 0, none⟩) st.1.length st.1.length ∧ s 6 = .slice (some ⟨q, 0, none⟩) st.2.length st.2.length ∧ (set.drop i).foldl (pcS es set) st = pcK es set set ∧ InU H.length H'.length 27 3 H' oo vs st.1 ∧ H'[q]? = some (.cells (ints st.2) 3 false) ∧ q ≠ oo ∧ A.length ≤ oo ∧ A.length ≤ q ∧ A <+: H' ∧ Sm st.2 ∧ st.1.length ≤ i) set.length ?_ ?_
  · refine ⟨0, ([], []), A.length, [], B.length, by simp, ?_⟩
    simp only [S, S1, S2, S3, S4, S5, ST, eq_self, reduceIte, reduceCtorEq, Nat.reduceEqDiff, Nat.reduceAdd]
    have q1 := uB.pre (List.prefix_append B [AObj.cells [] 3 false])
    have q1' := q1.wide (Nat.le_refl _) (show B.length ≤ (B ++ [AObj.cells [] 3 false]).length by simp)
    have q2 : (B ++ [AObj.cells [] 3 false])[B.length]? = some (.cells (ints []) 3 false) := at_new ..
    have q3 := pre_app pB [AObj.cells [] 3 false]
    have q4 : (set.drop 0).foldl (pcS es set) ([], []) = pcK es set set := by rw [List.drop_zero]; rfl
    have q5 := Sm.nil
    (repeat' first | exact q1' | exact q2 | exact q3 | exact q4 | exact q5 | apply And.intro) <;> first | (simp only [Value.int.injEq, true_and]; omega) | omega | rfl | assumption | (simp; done) | (simp; omega)
  rintro m s H' ⟨i, st, oo, vs, q, hm, h1, h2, h7, h5, h6, hf, hu, hq, hqo, hAo, hAq, hp, hsm, hcn⟩
  have hss := hs.pre (pA.trans hp)
  have hsl6 := hsm.len
  have hlt := hp.length_le
  have hrq : Row 3 H' (.slice (some ⟨q, 0, none⟩) st.2.length st.2.length) st.2 := .inr ⟨q, 0, ints st.2, false, rfl, hq, by rw [ints_len]; omega, by rw [List.drop_zero, ← ints_len, List.take_length]⟩
  simp (maxSteps := 1000000) (disch := omega) only [h1, h2, h7, h5, h6, hss.len Try.underlying27, S, S1, S2, S3, S4, S5, ST, eq_self, reduceIte, reduceCtorEq, Nat.reduceEqDiff, Nat.reduceAdd]
  refine brD.intro (fun g => ?_) (fun g => ?_)
  rotate_left
  · simp (maxSteps := 1000000) (disch := omega) only [h5, S, S1, S2, S3, S4, S5, ST, eq_self, reduceIte, reduceCtorEq, Nat.reduceEqDiff, Nat.reduceAdd]
    refine hQ _ _ _ ?_
    simp (maxSteps := 1000000) (disch := omega) only [h5, S, S1, S2, S3, S4, S5, ST, eq_self, reduceIte, reduceCtorEq, Nat.reduceEqDiff, Nat.reduceAdd]
    rw [List.drop_of_length_le (by omega), List.foldl_nil] at hf
    have hP : piecesL es set = st.1 := by unfold piecesL; rw [← hf]
    rw [hP]
    exact ⟨hu.inl, pA.trans hp⟩
  have hi : i < set.length := by omega
  rw [drop_fold _ set i hi] at hf
  have hym : set.getD i 0 ∈ set := by simp [hi]
  have hyr := hsr _ hym
  have hcy := hss.cell hi
  generalize hy : set.getD i 0 = y at *
  simp (maxSteps := 1000000) (disch := omega) only [h1, h2, h7, h5, h6, hss.ix Try.underlying27 cs3, hcy, Int.toNat_natCast, S, S1, S2, S3, S4, S5, ST, eq_self, reduceIte, reduceCtorEq, Nat.reduceEqDiff, Nat.reduceAdd]
  refine CallH.by (l1Has_c _ st.2 y H' hrq (by omega)) ?_
  rintro _ _ ⟨rfl, rfl⟩
  simp (maxSteps := 1000000) (disch := omega) only [S, S1, S2, S3, S4, S5, ST, eq_self, reduceIte, reduceCtorEq, Nat.reduceEqDiff, Nat.reduceAdd]
  refine brD.intro (fun e => ?_) (fun e => ?_)
  · have hst : pcS es set st y = st := by unfold pcS; rw [if_pos e]
    rw [hst] at hf
    simp (maxSteps := 1000000) (disch := omega) only [h1, h2, h7, h5, h6, wrap64, S, S1, S2, S3, S4, S5, ST, eq_self, reduceIte, reduceCtorEq, Nat.reduceEqDiff, Nat.reduceAdd]
    refine ⟨m - 1, by omega, i + 1, st, oo, vs, q, ?_⟩
    (repeat' first | exact hf | exact hu | exact hq | exact hp | exact hsm | apply And.intro) <;> first | (simp only [Value.int.injEq, true_and]; omega) | omega | rfl | assumption | (simp; done) | (simp; omega)
  have hst : pcS es set st y = (st.1 ++ [reachL es set y], (reachL es set y).foldl put st.2) := by unfold pcS; rw [if_neg e]
  rw [hst] at hf
  have c3 := pre_at hp cA
  simp (maxSteps := 1000000) (disch := omega) only [h1, h2, h7, h5, h6, hss.ix Try.underlying27 cs3, hcy, Int.toNat_natCast, ld_agg ag26 cs26 c3, S, S1, S2, S3, S4, S5, ST, eq_self, reduceIte, reduceCtorEq, Nat.reduceEqDiff, Nat.reduceAdd]
  refine CallH.by (l2Reach_c n v w es set y H' (rA.pre hp) hlen hss hsr hsl hyr) ?_
  rintro pv H2 ⟨ho2, p2⟩
  have hpm := ho2.mine
  have hrs := Sm.reach (es := es) hsr hyr
  have hrl := hrs.len
  generalize hR : reachL es set y = R at *
  simp (maxSteps := 1000000) (disch := omega) only [h1, h2, h7, h5, h6, S, S1, S2, S3, S4, S5, ST, eq_self, reduceIte, reduceCtorEq, Nat.reduceEqDiff, Nat.reduceAdd]
  have hu2 := hu.pre p2
  have hl2 := p2.length_le
  refine LoopH.by (fun m2 s H3 => ∃ k sn q', m2 + k = R.length ∧ s 1 = w ∧ s 2 = .pointer (some ⟨H.length, 0, none⟩) ∧ s 7 = .int .i64 ((i : Nat) : Int) ∧ s 5 = .slice (some ⟨oo, 0, none⟩) st.1.length st.1.length ∧ s 6 = .slice (some ⟨q', 0, none⟩) sn.length sn.length ∧ s 8 = pv ∧ s 9 = .int .i64 ((k : Nat) : Int) ∧ H3[q']? = some (.cells (ints sn) 3 false) ∧ q' ≠ oo ∧ A.length ≤ q' ∧ H2 <+: H3 ∧ Sm sn ∧ (R.drop k).foldl put sn = R.foldl put st.2) R.length ?_ ?_
  · refine ⟨0, st.2, q, by simp, ?_⟩
    simp only [S, S1, S2, S3, S4, S5, ST, eq_self, reduceIte, reduceCtorEq, Nat.reduceEqDiff, Nat.reduceAdd, h1, h2, h7, h5, h6]
    have q2 := pre_at p2 hq
    have q3 := List.prefix_refl H2
    have q4 : (R.drop 0).foldl put st.2 = R.foldl put st.2 := by rw [List.drop_zero]
    (repeat' first | exact q2 | exact q3 | exact q4 | exact hsm | apply And.intro) <;> first | (simp only [Value.int.injEq, true_and]; omega) | omega | rfl | assumption | (simp; done) | (simp; omega)
  rintro m2 s H3 ⟨k, sn, q', hm2, h1, h2, h7, h5, h6, h8, h9, hq', hqo', hAq', hp3, hsn, hfo⟩
  have hpr := ho2.row.pre hp3
  have hsnl := hsn.len
  have hrq' : Row 3 H3 (.slice (some ⟨q', 0, none⟩) sn.length sn.length) sn := .inr ⟨q', 0, ints sn, false, rfl, hq', by rw [ints_len]; omega, by rw [List.drop_zero, ← ints_len, List.take_length]⟩
  have hl3 := hp3.length_le
  simp (maxSteps := 1000000) (disch := omega) only [h1, h2, h7, h5, h6, h8, h9, hpr.len Try.underlying27, S, S1, S2, S3, S4, S5, ST, eq_self, reduceIte, reduceCtorEq, Nat.reduceEqDiff, Nat.reduceAdd]
  refine brD.intro (fun g2 => ?_) (fun g2 => ?_)
  · have hk : k < R.length := by omega
    rw [drop_fold _ R k hk] at hfo
    have hzm : R.getD k 0 ∈ R := by simp [hk]
    have hzr := hrs.2 _ hzm
    have hcz := hpr.cell hk
    generalize hz : R.getD k 0 = z at *
    simp (maxSteps := 1000000) (disch := omega) only [h1, h2, h7, h5, h6, h8, h9, hpr.ix Try.underlying27 cs3, hcz, Int.toNat_natCast, S, S1, S2, S3, S4, S5, ST, eq_self, reduceIte, reduceCtorEq, Nat.reduceEqDiff, Nat.reduceAdd]
    refine CallH.by (l1PutW_c _ sn z H3 hrq' (by omega) hsn.1) ?_
    rintro r4 H4 ⟨hr4, p4⟩
    have hsn4 := hsn.put hzr
    have hp4 := hp3.trans p4
    have hq4 : ∃ q4, r4 = .slice (some ⟨q4, 0, none⟩) (put sn z).length (put sn z).length ∧ H4[q4]? = some (.cells (ints (put sn z)) 3 false) ∧ q4 ≠ oo ∧ A.length ≤ q4 := by
      rcases hr4 with ⟨rfl, e4⟩ | (⟨_, e4⟩ | ⟨q4, e4, g4, c4⟩)
      · rw [e4]
        exact ⟨q', rfl, pre_at p4 hq', hqo', hAq'⟩
      · have : z ∈ put sn z := (put_mem _ _ _).2 (.inl rfl)
        rw [e4] at this; simp at this
      · have := hu.2.1
        exact ⟨q4, e4, c4, by omega, by omega⟩
    obtain ⟨q4, rfl, c4, n4, l4⟩ := hq4
    simp (maxSteps := 1000000) (disch := omega) only [h1, h2, h7, h5, h6, h8, h9, wrap64, S, S1, S2, S3, S4, S5, ST, eq_self, reduceIte, reduceCtorEq, Nat.reduceEqDiff, Nat.reduceAdd]
    refine ⟨m2 - 1, by omega, k + 1, put sn z, q4, ?_⟩
    (repeat' first | exact c4 | exact hp4 | exact hsn4 | exact hfo | apply And.intro) <;> first | (simp only [Value.int.injEq, true_and]; omega) | omega | rfl | assumption | (simp; done) | (simp; omega)
  · rw [List.drop_of_length_le (by omega), List.foldl_nil] at hfo
    rw [← hfo] at hf
    have hu3 := hu2.pre hp3
    have hw3 : InI H'.length H3.length 3 H3 pv R := (InI.of (hpm.pre hp3)).wide (Nat.le_refl _) (Nat.le_refl _)
    have hHA := pA.length_le
    obtain ⟨K2, k1, k2, k3, k4⟩ := hu3.app1 (P := Try.prog) (t2 := 38) Try.underlying38 cs27 (by rw [by27]; decide) zk27 hw3 (by omega) (by omega) (Nat.le_refl _) (by omega)
    simp (maxSteps := 1000000) (disch := omega) only [h1, h2, h7, h5, h6, h8, h9, bsRow hpr H3, k1, wrap64, S, S1, S2, S3, S4, S5, ST, eq_self, reduceIte, reduceCtorEq, Nat.reduceEqDiff, Nat.reduceAdd]
    have g1 : (st.1 ++ [R]).length = st.1.length + 1 := by simp
    have c1 : InU H.length K2.length 27 3 K2 (H3.length + 1) (vs.take st.1.length ++ [pv]) (st.1 ++ [R]) := by rw [k3]; exact k2
    have c2 : K2[q']? = some (.cells (ints sn) 3 false) := k4 _ _ hqo' hq'
    have c5 : A <+: K2 := prefix_of fun o z hz => k4 o z (by have := at_lt hz; omega) (pre_at (hp.trans (p2.trans hp3)) hz)
    have n1 : q' ≠ H3.length + 1 := by have := at_lt hq'; omega
    have n2 : A.length ≤ H3.length + 1 := by omega
    refine ⟨m - 1, by omega, i + 1, (st.1 ++ [R], sn), H3.length + 1, vs.take st.1.length ++ [pv], q', ?_⟩
    simp only [g1]
    (repeat' first | exact hf | exact c1 | exact c2 | exact c5 | exact n1 | exact n2 | exact hsn | apply And.intro) <;> first | (simp only [Value.int.injEq, true_and]; omega) | omega | rfl | assumption | (simp; done) | (simp; omega)
end Go.Proofs.Ytldcbmmmheookaa.Ai
namespace Go.Proofs.Ytldcbmmmheookaa.Ai
open Go
def ords97 : List (Nat × List (Nat × Bool)) := [(4, [(0, false), (1, false), (2, false), (3, false), (4, false), (5, false), (6, true), (7, false), (8, false), (9, false), (10, false), (11, false), (12, false), (13, false), (14, false), (15, false), (16, false), (17, false), (18, false), (19, false), (20, false), (21, false), (22, false), (23, false)])]
def cd97 : Cd := (.seq (.reg [⟨⟨some 6, Op.assign (Operand.const (Value.bool false)), none⟩, []⟩]) (.seq (.seq (.reg [⟨⟨some 7, Op.assign (Operand.const (Value.int IntKind.i64 0)), none⟩, []⟩]) (.block 0 (.loop (.seq (.seq (.reg [⟨⟨some 8, Op.move (Operand.tmp 7), none⟩, []⟩,
  ⟨⟨some 9, Op.move (Operand.tmp 0), none⟩, []⟩,
  ⟨⟨some 10, Op.call { callee := (Callee.builtin Builtin.len), args := #[(Operand.tmp 9)], argTypes := #[27] }, none⟩, []⟩,
  ⟨⟨some 11, Op.binOp BinOp.lss 3 (Operand.tmp 8) (Operand.tmp 10) 3, none⟩, []⟩]) (.cond (Operand.tmp 11) .skip (.exit 0))) (.seq (.block 1 (.seq (.reg [⟨⟨some 14, Op.move (Operand.tmp 0), none⟩, []⟩,
  ⟨⟨some 15, Op.move (Operand.tmp 7), none⟩, []⟩,
  ⟨⟨some 16, Op.indexAddr 27 (Operand.tmp 14) (Operand.tmp 15), none⟩, []⟩,
  ⟨⟨some 17, Op.load 3 (Operand.tmp 16), none⟩, []⟩,
  ⟨⟨some 18, Op.move (Operand.tmp 1), none⟩, []⟩,
  ⟨⟨some 19, Op.move (Operand.tmp 2), none⟩, []⟩,
  ⟨⟨some 20, Op.call { callee := (Callee.value (Operand.func 89)), args := #[(Operand.tmp 17), (Operand.tmp 18), (Operand.tmp 19)], argTypes := #[3, 3, 3] }, none⟩, []⟩,
  ⟨⟨some 21, Op.unOp UnOp.not 4 (Operand.tmp 20), none⟩, []⟩,
  ⟨⟨some 22, Op.move (Operand.tmp 21), none⟩, []⟩,
  ⟨⟨some 23, Op.move (Operand.tmp 7), some (22, false)⟩, []⟩,
  ⟨⟨some 24, Op.binOp BinOp.gtr 3 (Operand.tmp 23) (Operand.const (Value.int IntKind.i64 0)) 3, some (22, false)⟩, []⟩,
  ⟨⟨some 25, Op.move (Operand.tmp 24), some (22, false)⟩, []⟩,
  ⟨⟨some 26, Op.move (Operand.tmp 0), some (25, true)⟩, []⟩,
  ⟨⟨some 27, Op.move (Operand.tmp 7), some (25, true)⟩, []⟩,
  ⟨⟨some 28, Op.binOp BinOp.sub 3 (Operand.tmp 27) (Operand.const (Value.int IntKind.i64 1)) 3, some (25, true)⟩, []⟩,
  ⟨⟨some 29, Op.indexAddr 27 (Operand.tmp 26) (Operand.tmp 28), some (25, true)⟩, []⟩,
  ⟨⟨some 30, Op.load 3 (Operand.tmp 29), some (25, true)⟩, []⟩,
  ⟨⟨some 31, Op.move (Operand.tmp 0), some (25, true)⟩, []⟩,
  ⟨⟨some 32, Op.move (Operand.tmp 7), some (25, true)⟩, []⟩,
  ⟨⟨some 33, Op.indexAddr 27 (Operand.tmp 31) (Operand.tmp 32), some (25, true)⟩, []⟩,
  ⟨⟨some 34, Op.load 3 (Operand.tmp 33), some (25, true)⟩, []⟩,
  ⟨⟨some 35, Op.binOp BinOp.geq 3 (Operand.tmp 30) (Operand.tmp 34) 3, some (25, true)⟩, []⟩,
  ⟨⟨some 36, Op.pick (Operand.tmp 25) (Operand.tmp 35) (Operand.const (Value.bool false)), some (22, false)⟩, []⟩,
  ⟨⟨some 37, Op.pick (Operand.tmp 22) (Operand.const (Value.bool true)) (Operand.tmp 36), none⟩, []⟩]) (.cond (Operand.tmp 37) (.seq (.reg [⟨⟨some 6, Op.assign (Operand.const (Value.bool false)), none⟩, []⟩]) .ret) .skip))) (.reg [⟨⟨some 12, Op.move (Operand.tmp 7), none⟩, []⟩,
  ⟨⟨some 13, Op.binOp BinOp.add 3 (Operand.tmp 12) (Operand.const (Value.int IntKind.i64 1)) 3, none⟩, []⟩,
  ⟨⟨some 7, Op.assign (Operand.tmp 13), none⟩, []⟩])))))) (.seq (.reg [⟨⟨some 6, Op.assign (Operand.const (Value.bool true)), none⟩, []⟩]) .ret)))
theorem sl97 : slim Try.f97.ntmps ords97 (Try.f97.body.getD .skip) = some cd97 := by kernel_rfl
theorem in97 {args : List Value} {H : AH} {R : Value → AH → Prop} (hl : args.length = 3) (h : ∀ (Q : Exit → Sl → AH → Prop), (∀ e s H, endA Try.prog [ResultVar.tmp 6] R e s H → Q e s H) → wpC Try.prog cd97 Q (enterA args) H) : ACalls Try.prog 97 args H R :=
  ACalls.intro (by kernel_rfl) Try.func97 rfl (by kernel_rfl) sl97 hl (of_decide_eq_true (by kernel_rfl)) (by kernel_rfl) h
def ords91 : List (Nat × List (Nat × Bool)) := [(5, [(0, false), (1, false), (2, false), (3, false), (4, false), (5, false), (6, false), (7, false), (8, false), (9, false), (10, false), (11, true), (12, false), (13, true)])]
def cd91 : Cd := (.seq (.reg [⟨⟨some 2, Op.box 26 (Operand.tmp 0), none⟩, []⟩,
  ⟨⟨some 4, Op.alloc 26, none⟩, []⟩]) (.seq (.reg [⟨⟨some 7, Op.fieldAddr 26 (Operand.tmp 2) 0, none⟩, []⟩,
  ⟨⟨some 8, Op.load 3 (Operand.tmp 7), none⟩, []⟩,
  ⟨⟨some 9, Op.buildSlice 24 0 #[], none⟩, []⟩,
  ⟨⟨some 10, Op.build 26 #[(0, (Operand.tmp 8)), (1, (Operand.tmp 9))], none⟩, []⟩,
  ⟨⟨some 5, Op.alloc 26, none⟩, []⟩,
  ⟨⟨none, Op.store 26 (Operand.tmp 5) (Operand.tmp 10), none⟩, []⟩]) (.seq (.seq (.reg [⟨⟨some 6, Op.assign (Operand.const (Value.int IntKind.i64 0)), none⟩, []⟩]) (.block 0 (.loop (.seq (.seq (.reg [⟨⟨some 11, Op.move (Operand.tmp 6), none⟩, []⟩,
  ⟨⟨some 12, Op.move (Operand.tmp 1), none⟩, []⟩,
  ⟨⟨some 13, Op.call { callee := (Callee.builtin Builtin.len), args := #[(Operand.tmp 12)], argTypes := #[27] }, none⟩, []⟩,
  ⟨⟨some 14, Op.binOp BinOp.lss 3 (Operand.tmp 11) (Operand.tmp 13) 3, none⟩, []⟩]) (.cond (Operand.tmp 14) .skip (.exit 0))) (.seq (.block 1 (.reg [⟨⟨some 17, Op.fieldAddr 26 (Operand.tmp 5) 1, none⟩, []⟩,
  ⟨⟨some 18, Op.load 24 (Operand.tmp 17), none⟩, []⟩,
  ⟨⟨some 19, Op.fieldAddr 26 (Operand.tmp 2) 1, none⟩, []⟩,
  ⟨⟨some 20, Op.load 24 (Operand.tmp 19), none⟩, []⟩,
  ⟨⟨some 21, Op.move (Operand.tmp 1), none⟩, []⟩,
  ⟨⟨some 22, Op.move (Operand.tmp 6), none⟩, []⟩,
  ⟨⟨some 23, Op.indexAddr 27 (Operand.tmp 21) (Operand.tmp 22), none⟩, []⟩,
  ⟨⟨some 24, Op.load 3 (Operand.tmp 23), none⟩, []⟩,
  ⟨⟨some 25, Op.indexAddr 24 (Operand.tmp 20) (Operand.tmp 24), none⟩, []⟩,
  ⟨⟨some 26, Op.load 71 (Operand.tmp 25), none⟩, []⟩,
  ⟨⟨some 27, Op.buildSlice 24 1 #[(0, (Operand.tmp 26))], none⟩, []⟩,
  ⟨⟨some 28, Op.call { callee := (Callee.builtin Builtin.append), args := #[(Operand.tmp 18), (Operand.tmp 27)], argTypes := #[24, 24] }, none⟩, []⟩,
  ⟨⟨some 29, Op.fieldAddr 26 (Operand.tmp 5) 1, none⟩, []⟩,
  ⟨⟨none, Op.store 24 (Operand.tmp 29) (Operand.tmp 28), none⟩, []⟩])) (.reg [⟨⟨some 15, Op.move (Operand.tmp 6), none⟩, []⟩,
  ⟨⟨some 16, Op.binOp BinOp.add 3 (Operand.tmp 15) (Operand.const (Value.int IntKind.i64 1)) 3, none⟩, []⟩,
  ⟨⟨some 6, Op.assign (Operand.tmp 16), none⟩, []⟩])))))) (.seq (.reg [⟨⟨some 30, Op.load 26 (Operand.tmp 5), none⟩, []⟩,
  ⟨⟨none, Op.store 26 (Operand.tmp 4) (Operand.tmp 30), none⟩, []⟩]) .ret))))
theorem sl91 : slim Try.f91.ntmps ords91 (Try.f91.body.getD .skip) = some cd91 := by kernel_rfl
set_option maxRecDepth 20000 in
theorem in91 {args : List Value} {H : AH} {R : Value → AH → Prop} (hl : args.length = 2) (h : ∀ (Q : Exit → Sl → AH → Prop), (∀ e s H, endA Try.prog [ResultVar.cell 4 26] R e s H → Q e s H) → wpC Try.prog cd91 Q (enterA args) H) : ACalls Try.prog 91 args H R :=
  ACalls.intro (by kernel_rfl) Try.func91 rfl (by kernel_rfl) sl91 hl (of_decide_eq_true (by kernel_rfl)) (by kernel_rfl) h
def ords52 : List (Nat × List (Nat × Bool)) := [(3, [(0, false), (1, false), (3, false), (4, false), (5, false), (6, false), (7, false), (8, false), (2, true), (9, true), (10, true), (11, false), (12, false), (13, false)])]
def cd52 : Cd := (.seq (.reg [⟨⟨some 2, Op.box 26 (Operand.tmp 0), none⟩, []⟩,
  ⟨⟨some 4, Op.assign (Operand.const (Value.bool false)), none⟩, []⟩]) (.seq (.seq (.reg [⟨⟨some 5, Op.move (Operand.tmp 1), none⟩, []⟩,
  ⟨⟨some 6, Op.call { callee := (Callee.builtin Builtin.len), args := #[(Operand.tmp 5)], argTypes := #[27] }, none⟩, []⟩,
  ⟨⟨some 7, Op.fieldAddr 26 (Operand.tmp 2) 0, none⟩, []⟩,
  ⟨⟨some 8, Op.load 3 (Operand.tmp 7), none⟩, []⟩,
  ⟨⟨some 9, Op.binOp BinOp.sub 3 (Operand.tmp 8) (Operand.const (Value.int IntKind.i64 1)) 3, none⟩, []⟩,
  ⟨⟨some 10, Op.binOp BinOp.neq 3 (Operand.tmp 6) (Operand.tmp 9) 3, none⟩, []⟩,
  ⟨⟨some 11, Op.move (Operand.tmp 10), none⟩, []⟩,
  ⟨⟨some 12, Op.move (Operand.tmp 1), some (11, false)⟩, []⟩,
  ⟨⟨some 13, Op.fieldAddr 26 (Operand.tmp 2) 1, some (11, false)⟩, []⟩,
  ⟨⟨some 14, Op.load 24 (Operand.tmp 13), some (11, false)⟩, []⟩,
  ⟨⟨some 15, Op.call { callee := (Callee.builtin Builtin.len), args := #[(Operand.tmp 14)], argTypes := #[24] }, some (11, false)⟩, []⟩,
  ⟨⟨some 16, Op.binOp BinOp.sub 3 (Operand.tmp 15) (Operand.const (Value.int IntKind.i64 1)) 3, some (11, false)⟩, []⟩,
  ⟨⟨some 17, Op.call { callee := (Callee.value (Operand.func 97)), args := #[(Operand.tmp 12), (Operand.const (Value.int IntKind.i64 0)), (Operand.tmp 16)], argTypes := #[27, 3, 3] }, some (11, false)⟩, []⟩,
  ⟨⟨some 18, Op.unOp UnOp.not 4 (Operand.tmp 17), some (11, false)⟩, []⟩,
  ⟨⟨some 19, Op.pick (Operand.tmp 11) (Operand.const (Value.bool true)) (Operand.tmp 18), none⟩, []⟩]) (.cond (Operand.tmp 19) (.seq (.reg [⟨⟨some 4, Op.assign (Operand.const (Value.bool false)), none⟩, []⟩]) .ret) .skip)) (.seq (.reg [⟨⟨some 20, Op.load 26 (Operand.tmp 2), none⟩, []⟩,
  ⟨⟨some 21, Op.move (Operand.tmp 1), none⟩, []⟩,
  ⟨⟨some 23, Op.fieldAddr 26 (Operand.tmp 2) 0, none⟩, []⟩,
  ⟨⟨some 24, Op.load 3 (Operand.tmp 23), none⟩, []⟩,
  ⟨⟨some 25, Op.fieldAddr 26 (Operand.tmp 2) 0, none⟩, []⟩,
  ⟨⟨some 26, Op.load 3 (Operand.tmp 25), none⟩, []⟩,
  ⟨⟨some 27, Op.binOp BinOp.shl 3 (Operand.const (Value.int IntKind.i64 1)) (Operand.tmp 26) 3, none⟩, []⟩,
  ⟨⟨some 28, Op.binOp BinOp.sub 3 (Operand.tmp 27) (Operand.const (Value.int IntKind.i64 1)) 3, none⟩, []⟩,
  ⟨⟨some 22, Op.call { callee := (Callee.value (Operand.func 91)), args := #[(Operand.tmp 20), (Operand.tmp 21)], argTypes := #[26, 27] }, none⟩, [⟨some 26, Op.load 3 (Operand.tmp 25), none⟩, ⟨some 24, Op.load 3 (Operand.tmp 23), none⟩]⟩,
  ⟨⟨some 29, Op.call { callee := (Callee.value (Operand.func 99)), args := #[(Operand.tmp 24), (Operand.tmp 28)], argTypes := #[3, 3] }, none⟩, []⟩,
  ⟨⟨some 30, Op.call { callee := (Callee.value (Operand.func 98)), args := #[(Operand.tmp 22), (Operand.tmp 29)], argTypes := #[26, 27] }, none⟩, []⟩,
  ⟨⟨some 31, Op.call { callee := (Callee.builtin Builtin.len), args := #[(Operand.tmp 30)], argTypes := #[38] }, none⟩, []⟩,
  ⟨⟨some 32, Op.binOp BinOp.eql 3 (Operand.tmp 31) (Operand.const (Value.int IntKind.i64 1)) 3, none⟩, []⟩,
  ⟨⟨some 4, Op.assign (Operand.tmp 32), none⟩, []⟩]) .ret)))
theorem sl52 : slim Try.f52.ntmps ords52 (Try.f52.body.getD .skip) = some cd52 := by kernel_rfl
theorem in52 {args : List Value} {H : AH} {R : Value → AH → Prop} (hl : args.length = 2) (h : ∀ (Q : Exit → Sl → AH → Prop), (∀ e s H, endA Try.prog [ResultVar.tmp 4] R e s H → Q e s H) → wpC Try.prog cd52 Q (enterA args) H) : ACalls Try.prog 52 args H R :=
  ACalls.intro (by kernel_rfl) Try.func52 rfl (by kernel_rfl) sl52 hl (of_decide_eq_true (by kernel_rfl)) (by kernel_rfl) h
def ords51 : List (Nat × List (Nat × Bool)) := []
def cd51 : Cd := (.seq (.reg [⟨⟨some 1, Op.box 26 (Operand.tmp 0), none⟩, []⟩,
  ⟨⟨some 2, Op.assign (Operand.const (Value.bool false)), none⟩, []⟩]) (.seq (.reg [⟨⟨some 3, Op.load 26 (Operand.tmp 1), none⟩, []⟩,
  ⟨⟨some 4, Op.call { callee := (Callee.value (Operand.func 96)), args := #[(Operand.tmp 3)], argTypes := #[26] }, none⟩, []⟩,
  ⟨⟨some 5, Op.move (Operand.tmp 4), none⟩, []⟩,
  ⟨⟨some 6, Op.fieldAddr 26 (Operand.tmp 1) 0, some (5, true)⟩, []⟩,
  ⟨⟨some 7, Op.load 3 (Operand.tmp 6), some (5, true)⟩, []⟩,
  ⟨⟨some 8, Op.binOp BinOp.gtr 3 (Operand.tmp 7) (Operand.const (Value.int IntKind.i64 0)) 3, some (5, true)⟩, []⟩,
  ⟨⟨some 9, Op.pick (Operand.tmp 5) (Operand.tmp 8) (Operand.const (Value.bool false)), none⟩, []⟩,
  ⟨⟨some 2, Op.assign (Operand.tmp 9), none⟩, []⟩]) .ret))
theorem sl51 : slim Try.f51.ntmps ords51 (Try.f51.body.getD .skip) = some cd51 := by kernel_rfl
theorem in51 {args : List Value} {H : AH} {R : Value → AH → Prop} (hl : args.length = 1) (h : ∀ (Q : Exit → Sl → AH → Prop), (∀ e s H, endA Try.prog [ResultVar.tmp 2] R e s H → Q e s H) → wpC Try.prog cd51 Q (enterA args) H) : ACalls Try.prog 51 args H R :=
  ACalls.intro (by kernel_rfl) Try.func51 rfl (by kernel_rfl) sl51 hl (of_decide_eq_true (by kernel_rfl)) (by kernel_rfl) h
end Go.Proofs.Ytldcbmmmheookaa.Ai
namespace Go.Proofs.Ytldcbmmmheookaa.Ai
open Go Go.RowKit
set_option linter.unusedVariables false
set_option linter.unusedSimpArgs false
theorem l1Rising_c (v : Value) (ys : List Int) (n : Int) (H : AH) (hn : 0 ≤ n ∧ n ≤ 1099511627776) (hr : Row 3 H v ys) (hlen : ys.length ≤ 1099511627776) :
    ACalls Try.prog 97 [v, .int .i64 0, .int .i64 (n - 1)] H fun r H' => r = .bool (decide (Rsg n ys)) ∧ H = H' := by
  refine in97 rfl ?_
  intro Q hQ
  simp (maxSteps := 1000000) (disch := omega) only [cd97, S, S1, S2, S3, S4, S5, ST, eq_self, reduceIte, reduceCtorEq, Nat.reduceEqDiff, Nat.reduceAdd]
  refine LoopH.by (fun m s H' => ∃ i, m + i = ys.length ∧ s 0 = v ∧ s 1 = .int .i64 0 ∧ s 2 = .int .i64 (n - 1) ∧ s 7 = .int .i64 ((i : Nat) : Int) ∧ H = H' ∧ ∀ j, j < i → (0 ≤ ys.getD j 0 ∧ ys.getD j 0 ≤ n - 1) ∧ (0 < j → ys.getD (j - 1) 0 < ys.getD j 0)) ys.length ?_ ?_
  · exact ⟨0, by simp, rfl, rfl, rfl, rfl, rfl, by omega⟩
  · rintro m s H' ⟨i, hm, h0, h1, h2, h7, rfl, hj⟩
    simp (maxSteps := 1000000) (disch := omega) only [h0, h1, h2, h7, hr.len Try.underlying27, S, S1, S2, S3, S4, S5, ST, eq_self, reduceIte, reduceCtorEq, Nat.reduceEqDiff, Nat.reduceAdd]
    refine brD.intro (fun g => ?_) (fun g => ?_)
    · have hi : i < ys.length := by omega
      have hp : ((i : Int) - 1).toNat = i - 1 := by omega
      have bad : ¬ ((0 ≤ ys.getD i 0 ∧ ys.getD i 0 ≤ n - 1) ∧ (0 < i → ys.getD (i - 1) 0 < ys.getD i 0)) → decide (Rsg n ys) = false := fun h => decide_eq_false fun hh => h (hh i hi)
      have nxt : ((0 ≤ ys.getD i 0 ∧ ys.getD i 0 ≤ n - 1) ∧ (0 < i → ys.getD (i - 1) 0 < ys.getD i 0)) → ∀ j, j < i + 1 → (0 ≤ ys.getD j 0 ∧ ys.getD j 0 ≤ n - 1) ∧ (0 < j → ys.getD (j - 1) 0 < ys.getD j 0) := by
        intro h j hjj
        by_cases e : j = i
        · subst e; exact h
        · exact hj j (by omega)
      simp (maxSteps := 1000000) (disch := omega) only [h0, h1, h2, h7, hr.ix Try.underlying27 cs3, hr.cell, Int.toNat_natCast, wrap64, S, S1, S2, S3, S4, S5, ST, eq_self, reduceIte, reduceCtorEq, Nat.reduceEqDiff, Nat.reduceAdd]
      refine CallH.by (l1In_c ..) ?_
      rintro _ _ ⟨rfl, rfl⟩
      by_cases e : 0 ≤ ys.getD i 0 ∧ ys.getD i 0 ≤ n - 1
      rotate_left
      · simp (maxSteps := 1000000) (disch := omega) only [decide_eq_false e, S, S1, S2, S3, S4, S5, ST, eq_self, reduceIte, reduceCtorEq, Nat.reduceEqDiff, Nat.reduceAdd]
        refine hQ _ _ _ ?_
        simp (maxSteps := 1000000) (disch := omega) only [S, S1, S2, S3, S4, S5, ST, eq_self, reduceIte, reduceCtorEq, Nat.reduceEqDiff, Nat.reduceAdd]
        rw [bad (fun h => e h.1)]
      simp (maxSteps := 1000000) (disch := omega) only [decide_eq_true e, h0, h1, h2, h7, S, S1, S2, S3, S4, S5, ST, eq_self, reduceIte, reduceCtorEq, Nat.reduceEqDiff, Nat.reduceAdd]
      refine brD.intro (fun q => ?_) (fun q => ?_) <;> simp (maxSteps := 1000000) (disch := omega) only [q, h0, h1, h2, h7, hr.ix Try.underlying27 cs3, hr.cell, hp, Int.toNat_natCast, wrap64, S, S1, S2, S3, S4, S5, ST, eq_self, reduceIte, reduceCtorEq, Nat.reduceEqDiff, Nat.reduceAdd]
      · refine brD.intro (fun z => ?_) (fun z => ?_) <;> simp (maxSteps := 1000000) (disch := omega) only [q, z, h0, h1, h2, h7, wrap64, S, S1, S2, S3, S4, S5, ST, eq_self, reduceIte, reduceCtorEq, Nat.reduceEqDiff, Nat.reduceAdd]
        · refine hQ _ _ _ ?_
          simp (maxSteps := 1000000) (disch := omega) only [S, S1, S2, S3, S4, S5, ST, eq_self, reduceIte, reduceCtorEq, Nat.reduceEqDiff, Nat.reduceAdd]
          rw [bad (fun h => by have := h.2 (by omega); omega)]
        · have fx := nxt ⟨e, fun _ => by omega⟩
          refine ⟨m - 1, by omega, i + 1, ?_⟩
          (repeat' apply And.intro) <;> first | exact fx | (simp only [Value.int.injEq, true_and]; omega) | omega | rfl | assumption | (simp; done) | (simp; omega)
      · have fx := nxt ⟨e, fun _ => by omega⟩
        refine ⟨m - 1, by omega, i + 1, ?_⟩
        (repeat' apply And.intro) <;> first | exact fx | (simp only [Value.int.injEq, true_and]; omega) | omega | rfl | assumption | (simp; done) | (simp; omega)
    · simp (maxSteps := 1000000) (disch := omega) only [S, S1, S2, S3, S4, S5, ST, eq_self, reduceIte, reduceCtorEq, Nat.reduceEqDiff, Nat.reduceAdd]
      refine hQ _ _ _ ?_
      simp (maxSteps := 1000000) (disch := omega) only [S, S1, S2, S3, S4, S5, ST, eq_self, reduceIte, reduceCtorEq, Nat.reduceEqDiff, Nat.reduceAdd]
      have : Rsg n ys := fun j hjj => hj j (by omega)
      simp [this]
theorem bld_gr (n : Int) (p : Option Addr) (k c : Nat) : buildA Try.prog 26 [(0, .int .i64 n), (1, .slice p k c)] = some (.agg (List.toArray [.int .i64 n, .slice p k c])) := by kernel_rfl
theorem prt_len (es : List (Int × Int)) (T : List Int) : (prtG es T).length = T.length := by simp [prtG]
set_option maxRecDepth 20000 in
set_option maxHeartbeats 4000000 in
theorem l7Part_c (n : Int) (v w : Value) (es : List (Int × Int)) (T : List Int) (H : AH) (hr : RowP 71 H v es) (hw : Row 3 H w T) (hT : EdIn es T) (hlen : T.length ≤ 1000000) :
    ACalls Try.prog 91 [.agg (List.toArray [.int .i64 n, v]), w] H fun r H' => ∃ b, r = .agg (List.toArray [.int .i64 n, b]) ∧ MineP 71 H H' b (prtG es T) ∧ H <+: H' := by
  refine in91 rfl ?_
  intro Q hQ
  simp (maxSteps := 1000000) (disch := omega) only [cd91, hr.boxG, S, S1, S2, S3, S4, S5, ST, eq_self, reduceIte, reduceCtorEq, Nat.reduceEqDiff, Nat.reduceAdd]
  generalize hB : H ++ [AObj.cells [.int .i64 n, v] 26 false] = B
  have pB : H <+: B := by rw [← hB]; exact List.prefix_append _ _
  have cB : B[H.length]? = some (.cells [.int .i64 n, v] 26 false) := by rw [← hB]; exact at_new ..
  have rB := hr.pre pB
  simp (maxSteps := 1000000) (disch := omega) only [alloc_G, cell_of cB, S, S1, S2, S3, S4, S5, ST, eq_self, reduceIte, reduceCtorEq, Nat.reduceEqDiff, Nat.reduceAdd]
  generalize hA : B ++ [AObj.cells [.int .i64 0, .slice none 0 0] 26 false] = A
  have pBA : B <+: A := by rw [← hA]; exact List.prefix_append _ _
  have cA : A[B.length]? = some (.cells [.int .i64 0, .slice none 0 0] 26 false) := by rw [← hA]; exact at_new ..
  have lA : A.length = B.length + 1 := by rw [← hA]; simp
  have gA := pre_at pBA cB
  simp (maxSteps := 1000000) (disch := omega) only [cell_of gA, S, S1, S2, S3, S4, S5, ST, eq_self, reduceIte, reduceCtorEq, Nat.reduceEqDiff, Nat.reduceAdd]
  generalize hE : A ++ [AObj.cells [] 71 false] = E
  have pE : A <+: E := by rw [← hE]; exact List.prefix_append _ _
  have lE : E.length = A.length + 1 := by rw [← hE]; simp
  have m0 : MineP 71 A E (.slice (some ⟨A.length, 0, none⟩) 0 0) [] := by rw [← hE]; exact MineP.nil0 (P := Try.prog) A A (Nat.le_refl _)
  have hb2 := bld_gr n (some ⟨A.length, 0, none⟩) 0 0
  have st1 := st_G m0.row (at_new E (.cells [.int .i64 0, .slice none 0 0] 26 false)) rfl n
  rw [set_new] at st1
  simp (maxSteps := 1000000) (disch := omega) only [hb2, alloc_G, st1, S, S1, S2, S3, S4, S5, ST, eq_self, reduceIte, reduceCtorEq, Nat.reduceEqDiff, Nat.reduceAdd]
  generalize hG : E ++ [AObj.cells [.int .i64 n, .slice (some ⟨A.length, 0, none⟩) 0 0] 26 false] = G
  have pG : E <+: G := by rw [← hG]; exact List.prefix_append _ _
  have cG : G[E.length]? = some (.cells [.int .i64 n, .slice (some ⟨A.length, 0, none⟩) 0 0] 26 false) := by rw [← hG]; exact at_new ..
  have lG : G.length = E.length + 1 := by rw [← hG]; simp
  have pAG := pE.trans pG
  have pHA := pB.trans pBA
  refine LoopH.by (fun m s H' => ∃ i st, m + i = T.length ∧ s 1 = w ∧ s 2 = .pointer (some ⟨H.length, 0, none⟩) ∧ s 4 = .pointer (some ⟨B.length, 0, none⟩) ∧ s 5 = .pointer (some ⟨E.length, 0, none⟩) ∧ s 6 = .int .i64 ((i : Nat) : Int) ∧ H'[E.length]? = some (.cells [.int .i64 n, st] 26 false) ∧ (rowO st = A.length ∨ G.length ≤ rowO st) ∧ st ≠ .slice none 0 0 ∧ MineP 71 A H' st (prtG es (T.take i)) ∧ A <+: H') T.length ?_ ?_
  · exact ⟨0, .slice (some ⟨A.length, 0, none⟩) 0 0, by simp, rfl, rfl, rfl, rfl, rfl, cG, .inl rfl, (by intro e; cases e), m0.pre pG, pAG⟩
  rintro m s H' ⟨i, st, hm, s1, s2, s4, s5, s6, hc5, hst, hsn, hmn, hpp⟩
  have wH := hw.pre (pHA.trans hpp)
  have rH := rB.pre (pBA.trans hpp)
  have gH := pre_at hpp gA
  simp (maxSteps := 1000000) (disch := omega) only [s1, s2, s4, s5, s6, wH.len Try.underlying27, S, S1, S2, S3, S4, S5, ST, eq_self, reduceIte, reduceCtorEq, Nat.reduceEqDiff, Nat.reduceAdd]
  refine brD.intro (fun g => ?_) (fun g => ?_)
  · have hi : i < T.length := by omega
    have hcw := wH.cell hi
    have hmem : T.getD i 0 ∈ T := by simp [hi]
    have her := hT _ hmem
    have htk : T.take (i + 1) = T.take i ++ [T.getD i 0] := by rw [List.take_succ_eq_append_getElem hi]; simp [hi]
    have hi2 : (T.getD i 0).toNat < es.length := by omega
    obtain ⟨st2, H3, k1, k2, k3, k4, k5, k6⟩ := own1_24 hmn hpp (by rw [prt_len, List.length_take]; omega) (es.getD (T.getD i 0).toNat (0, 0)).1 (es.getD (T.getD i 0).toNat (0, 0)).2
    have l5 := at_lt hc5
    have lH := hpp.length_le
    have hne : E.length ≠ rowO st := by omega
    have d5 : H3[E.length]? = some (.cells [.int .i64 n, st] 26 false) := k4 _ _ (.inr hne) hc5
    obtain ⟨q2, hq2⟩ := k2.row.shape
    have t2 : st2.cells.toList = [st2] := by rw [hq2]; rfl
    have hst3 := st_at (P := Try.prog) (t := 24) (i := 1) (y := st2) cs24 d5 (by show 1 < 2; decide) k6 t2
    simp (maxSteps := 1000000) (disch := omega) only [s1, s2, s4, s5, s6, cell_of hc5, cell_of gH, wH.ix Try.underlying27 cs3, hcw, Int.toNat_natCast, rH.ix Try.underlying24 cs71, rH.ld ag71 cs71 hi2, k1, hst3, wrap64, S, S1, S2, S3, S4, S5, ST, eq_self, reduceIte, reduceCtorEq, Nat.reduceEqDiff, Nat.reduceAdd]
    have f5 : (H3.set E.length (.cells ([.int .i64 n, st].set 1 st2) 26 false))[E.length]? = some (.cells [.int .i64 n, st2] 26 false) := by
      rw [List.getElem?_set_self (at_lt d5)]; rfl
    have fs1 : rowO st2 = A.length ∨ G.length ≤ rowO st2 := .inr (by omega)
    have fs2 : st2 ≠ .slice none 0 0 := by
      intro hh
      rw [hh] at k5
      have : rowO (Value.slice none 0 0) = 0 := rfl
      omega
    have fm : MineP 71 A (H3.set E.length (.cells ([.int .i64 n, st].set 1 st2) 26 false)) st2 (prtG es (T.take (i + 1))) := by
      have e1 : prtG es (T.take (i + 1)) = prtG es (T.take i) ++ [((es.getD (T.getD i 0).toNat (0, 0)).1, (es.getD (T.getD i 0).toNat (0, 0)).2)] := by rw [htk]; simp [prtG]
      rw [e1]
      exact k2.keepL fun hl y hy => by rw [List.getElem?_set_ne (by omega)]; exact hy
    have fp : A <+: H3.set E.length (.cells ([.int .i64 n, st].set 1 st2) 26 false) := pre_set k3 (by omega) _
    refine ⟨m - 1, by omega, i + 1, st2, ?_⟩
    (repeat' first | exact f5 | exact fs1 | exact fs2 | exact fm | exact fp | apply And.intro) <;> first | (simp only [Value.int.injEq, true_and]; omega) | omega | rfl | assumption | (simp; done) | (simp; omega)
  · have hi : i = T.length := by omega
    subst hi
    rw [List.take_length] at hmn
    have cAH := pre_at hpp cA
    have hstore := st_G hmn.row cAH rfl n
    simp (maxSteps := 1000000) (disch := omega) only [s1, s2, s4, s5, s6, ld_agg ag26 cs26 hc5, hstore, S, S1, S2, S3, S4, S5, ST, eq_self, reduceIte, reduceCtorEq, Nat.reduceEqDiff, Nat.reduceAdd]
    have d4 := at_set (d := .cells [.int .i64 n, st] 26 false) cAH
    have lH' := hpp.length_le
    refine hQ _ _ _ (end_cell _ _ _ _ _ _ (.agg (List.toArray [.int .i64 n, st])) ?_ rfl ⟨st, rfl, ?_, ?_⟩)
    · simp (maxSteps := 1000000) (disch := omega) only [s4, ld_agg ag26 cs26 d4, S, S1, S2, S3, S4, S5, ST, eq_self, reduceIte, reduceCtorEq, Nat.reduceEqDiff, Nat.reduceAdd]
    · refine (hmn.base pHA).keep fun y hy => ?_
      rw [List.getElem?_set_ne (by omega)]; exact hy
    · exact pre_set (pHA.trans hpp) (by have := pB.length_le; omega) _
set_option maxHeartbeats 2000000 in
theorem l7Tree_c (n : Nat) (hn : 1 ≤ n) (v w : Value) (es : List (Int × Int)) (T : List Int) (H : AH) (hr : RowP 71 H v es) (hg : Grd (n : Int) es) (hw : Row 3 H w T) (hlen : T.length ≤ 1099511627776) :
    ACalls Try.prog 52 [.agg (List.toArray [.int .i64 (n : Int), v]), w] H fun r H' => r = .bool (decide (TreL n es T)) ∧ H <+: H' := by
  have h28 : es.length ≤ 28 := grd_len hg
  have hn8 : n ≤ 8 := by have := hg.1; omega
  refine in52 rfl ?_
  intro Q hQ
  simp (maxSteps := 1000000) (disch := omega) only [cd52, hr.boxG, hw.len Try.underlying27, S, S1, S2, S3, S4, S5, ST, eq_self, reduceIte, reduceCtorEq, Nat.reduceEqDiff, Nat.reduceAdd]
  generalize hA : H ++ [AObj.cells [.int .i64 n, v] 26 false] = A
  have pA : H <+: A := by rw [← hA]; exact List.prefix_append _ _
  have cA : A[H.length]? = some (.cells [.int .i64 n, v] 26 false) := by rw [← hA]; exact at_new ..
  have rA := hr.pre pA
  have wA := hw.pre pA
  have hw1 : IntKind.i64.wrap ((n : Int) - 1) = (n : Int) - 1 := wrap64 (by omega) (by omega)
  have hw2 : IntKind.i64.wrap ((es.length : Int) - 1) = (es.length : Int) - 1 := wrap64 (by omega) (by omega)
  simp (maxSteps := 1000000) (disch := omega) only [cell_of cA, hw1, S, S1, S2, S3, S4, S5, ST, eq_self, reduceIte, reduceCtorEq, Nat.reduceEqDiff, Nat.reduceAdd]
  by_cases e1 : (T.length : Int) = (n : Int) - 1
  rotate_left
  · simp (maxSteps := 1000000) (disch := omega) only [decide_eq_true (show (T.length : Int) ≠ (n : Int) - 1 from e1), S, S1, S2, S3, S4, S5, ST, eq_self, reduceIte, reduceCtorEq, Nat.reduceEqDiff, Nat.reduceAdd]
    refine hQ _ _ _ ?_
    simp (maxSteps := 1000000) (disch := omega) only [S, S1, S2, S3, S4, S5, ST, eq_self, reduceIte, reduceCtorEq, Nat.reduceEqDiff, Nat.reduceAdd]
    refine ⟨?_, pA⟩
    rw [decide_eq_false fun h => e1 (by have := h.1; omega)]
  have e1' : ¬ ¬ (T.length : Int) = (n : Int) - 1 := fun h => h e1
  simp (maxSteps := 1000000) (disch := omega) only [decide_eq_false e1', cell_of cA, rA.len Try.underlying24, hw2, S, S1, S2, S3, S4, S5, ST, eq_self, reduceIte, reduceCtorEq, Nat.reduceEqDiff, Nat.reduceAdd]
  refine CallH.by (l1Rising_c w T es.length A (by omega) wA hlen) ?_
  rintro _ _ ⟨rfl, rfl⟩
  by_cases e2 : Rsg es.length T
  rotate_left
  · simp (maxSteps := 1000000) (disch := omega) only [decide_eq_false e2, S, S1, S2, S3, S4, S5, ST, eq_self, reduceIte, reduceCtorEq, Nat.reduceEqDiff, Nat.reduceAdd]
    refine hQ _ _ _ ?_
    simp (maxSteps := 1000000) (disch := omega) only [S, S1, S2, S3, S4, S5, ST, eq_self, reduceIte, reduceCtorEq, Nat.reduceEqDiff, Nat.reduceAdd]
    refine ⟨?_, pA⟩
    rw [decide_eq_false fun h => e2 ((rsg_asc _ _).2 ⟨h.2.1, h.2.2.1⟩)]
  obtain ⟨hasc, hin⟩ := (rsg_asc _ _).1 e2
  have hin : EdIn es T := hin
  have pw : 2 ^ n ≤ 2 ^ 8 := Nat.pow_le_pow_right (by decide) hn8
  have pw1 : 1 ≤ 2 ^ n := Nat.one_le_two_pow
  have hw3 : IntKind.i64.wrap (((2 ^ n : Nat) : Int) - 1) = ((2 ^ n : Nat) : Int) - 1 := wrap64 (by omega) (by omega)
  simp (maxSteps := 1000000) (disch := omega) only [decide_eq_true e2, cell_of cA, ld_agg ag26 cs26 cA, shl1 _ _ n hn8, hw3, S, S1, S2, S3, S4, S5, ST, eq_self, reduceIte, reduceCtorEq, Nat.reduceEqDiff, Nat.reduceAdd]
  refine CallH.by (l7Part_c n v w es T A rA wA hin (by omega)) ?_
  rintro _ B ⟨b, rfl, hb, pB⟩
  have cB := pre_at pB cA
  simp (maxSteps := 1000000) (disch := omega) only [cell_of cB, S, S1, S2, S3, S4, S5, ST, eq_self, reduceIte, reduceCtorEq, Nat.reduceEqDiff, Nat.reduceAdd]
  refine CallH.by (l2Bits_c n _ B hn8 rfl) ?_
  rintro u D ⟨hu, pD⟩
  simp (maxSteps := 1000000) (disch := omega) only [S, S1, S2, S3, S4, S5, ST, eq_self, reduceIte, reduceCtorEq, Nat.reduceEqDiff, Nat.reduceAdd]
  refine CallH.by (l2Pieces_c n b u (prtG es T) (alls n) D (hb.row.pre pD) (by rw [prt_len]; omega) hu.row (fun z hz => by have := (alls_mem _ _).1 hz; omega) (by rw [alls_len]; exact hn8)) ?_
  rintro x E ⟨hx, pE⟩
  obtain ⟨us, r1, r2, r3⟩ := hx.parts
  simp (maxSteps := 1000000) (disch := omega) only [r1.len Try.underlying38, S, S1, S2, S3, S4, S5, ST, eq_self, reduceIte, reduceCtorEq, Nat.reduceEqDiff, Nat.reduceAdd]
  refine hQ _ _ _ ?_
  simp (maxSteps := 1000000) (disch := omega) only [S, S1, S2, S3, S4, S5, ST, eq_self, reduceIte, reduceCtorEq, Nat.reduceEqDiff, Nat.reduceAdd]
  refine ⟨?_, pA.trans (pB.trans (pD.trans pE))⟩
  have := pieces_one hn hg hin
  rw [Value.bool.injEq, decide_eq_decide]
  have hl : T.length + 1 = n := by omega
  constructor
  · intro h
    exact ⟨hl, hasc, hin, this.1 (by omega)⟩
  · intro h
    have := this.2 h.2.2.2
    omega
theorem l7Some_c (n : Int) (v : Value) (es : List (Int × Int)) (H : AH) (hr : RowP 71 H v es) (hl : es.length ≤ 1099511627776) :
    ACalls Try.prog 51 [.agg (List.toArray [.int .i64 n, v])] H fun r H' => r = .bool (decide (Grd n es ∧ 0 < n)) ∧ H <+: H' := by
  refine in51 rfl ?_
  intro Q hQ
  simp (maxSteps := 1000000) (disch := omega) only [cd51, hr.boxG, S, S1, S2, S3, S4, S5, ST, eq_self, reduceIte, reduceCtorEq, Nat.reduceEqDiff, Nat.reduceAdd]
  generalize hA : H ++ [AObj.cells [.int .i64 n, v] 26 false] = A
  have pA : H <+: A := by rw [← hA]; exact List.prefix_append _ _
  have cA : A[H.length]? = some (.cells [.int .i64 n, v] 26 false) := by rw [← hA]; exact at_new ..
  have rA := hr.pre pA
  simp (maxSteps := 1000000) (disch := omega) only [ld_agg ag26 cs26 cA, S, S1, S2, S3, S4, S5, ST, eq_self, reduceIte, reduceCtorEq, Nat.reduceEqDiff, Nat.reduceAdd]
  refine CallH.by (l2Good_c n v es A rA hl) ?_
  rintro _ B ⟨rfl, pB⟩
  have cB := pre_at pB cA
  by_cases e : Grd n es
  rotate_left
  · simp (maxSteps := 1000000) (disch := omega) only [decide_eq_false e, S, S1, S2, S3, S4, S5, ST, eq_self, reduceIte, reduceCtorEq, Nat.reduceEqDiff, Nat.reduceAdd]
    refine hQ _ _ _ ?_
    simp (maxSteps := 1000000) (disch := omega) only [S, S1, S2, S3, S4, S5, ST, eq_self, reduceIte, reduceCtorEq, Nat.reduceEqDiff, Nat.reduceAdd]
    refine ⟨?_, pA.trans pB⟩
    rw [decide_eq_false fun h : Grd n es ∧ 0 < n => e h.1]
  simp (maxSteps := 1000000) (disch := omega) only [decide_eq_true e, cell_of cB, S, S1, S2, S3, S4, S5, ST, eq_self, reduceIte, reduceCtorEq, Nat.reduceEqDiff, Nat.reduceAdd]
  refine hQ _ _ _ ?_
  simp (maxSteps := 1000000) (disch := omega) only [S, S1, S2, S3, S4, S5, ST, eq_self, reduceIte, reduceCtorEq, Nat.reduceEqDiff, Nat.reduceAdd]
  refine ⟨?_, pA.trans pB⟩
  rw [Value.bool.injEq, decide_eq_decide]
  exact ⟨fun h => ⟨e, h⟩, fun h => h.2⟩
end Go.Proofs.Ytldcbmmmheookaa.Ai
namespace Go.Proofs.Ytldcbmmmheookaa.Ai
open Go
def ords88 : List (Nat × List (Nat × Bool)) := []
def cd88 : Cd := (.seq (.reg [⟨⟨some 4, Op.assign (Operand.const (Value.int IntKind.i64 0)), none⟩, []⟩]) (.seq (.seq (.reg [⟨⟨some 6, Op.move (Operand.tmp 0), none⟩, []⟩,
  ⟨⟨some 7, Op.call { callee := (Callee.builtin Builtin.len), args := #[(Operand.tmp 6)], argTypes := #[27] }, none⟩, []⟩,
  ⟨⟨some 8, Op.move (Operand.const (Value.int IntKind.i64 0)), none⟩, []⟩]) (.block 0 (.loop (.seq (.reg [⟨⟨some 9, Op.binOp BinOp.lss 3 (Operand.tmp 8) (Operand.tmp 7) 3, none⟩, []⟩]) (.seq (.cond (Operand.tmp 9) .skip (.exit 0)) (.seq (.block 1 (.seq (.reg [⟨⟨some 10, Op.move (Operand.tmp 8), none⟩, []⟩,
  ⟨⟨some 5, Op.assign (Operand.tmp 10), none⟩, []⟩]) (.seq (.reg [⟨⟨some 11, Op.move (Operand.tmp 1), none⟩, []⟩,
  ⟨⟨some 12, Op.move (Operand.tmp 0), none⟩, []⟩,
  ⟨⟨some 13, Op.move (Operand.tmp 5), none⟩, []⟩,
  ⟨⟨some 14, Op.indexAddr 27 (Operand.tmp 12) (Operand.tmp 13), none⟩, []⟩,
  ⟨⟨some 15, Op.load 3 (Operand.tmp 14), none⟩, []⟩,
  ⟨⟨some 16, Op.binOp BinOp.eql 3 (Operand.tmp 11) (Operand.tmp 15) 3, none⟩, []⟩]) (.cond (Operand.tmp 16) (.seq (.reg [⟨⟨some 17, Op.move (Operand.tmp 5), none⟩, []⟩,
  ⟨⟨some 4, Op.assign (Operand.tmp 17), none⟩, []⟩]) .ret) .skip)))) (.reg [⟨⟨some 18, Op.binOp BinOp.add 3 (Operand.tmp 8) (Operand.const (Value.int IntKind.i64 1)) 3, none⟩, []⟩,
  ⟨⟨some 8, Op.move (Operand.tmp 18), none⟩, []⟩]))))))) (.seq (.reg [⟨⟨some 4, Op.assign (Operand.const (Value.int IntKind.i64 (-1))), none⟩, []⟩]) .ret)))
theorem sl88 : slim Try.f88.ntmps ords88 (Try.f88.body.getD .skip) = some cd88 := by kernel_rfl
theorem in88 {args : List Value} {H : AH} {R : Value → AH → Prop} (hl : args.length = 2) (h : ∀ (Q : Exit → Sl → AH → Prop), (∀ e s H, endA Try.prog [ResultVar.tmp 4] R e s H → Q e s H) → wpC Try.prog cd88 Q (enterA args) H) : ACalls Try.prog 88 args H R :=
  ACalls.intro (by kernel_rfl) Try.func88 rfl (by kernel_rfl) sl88 hl (of_decide_eq_true (by kernel_rfl)) (by kernel_rfl) h
def ords39 : List (Nat × List (Nat × Bool)) := []
def cd39 : Cd := (.seq (.reg [⟨⟨some 4, Op.assign (Operand.const (Value.bool false)), none⟩, []⟩]) (.seq (.reg [⟨⟨some 5, Op.move (Operand.tmp 0), none⟩, []⟩,
  ⟨⟨some 6, Op.move (Operand.tmp 1), none⟩, []⟩,
  ⟨⟨some 7, Op.call { callee := (Callee.value (Operand.func 88)), args := #[(Operand.tmp 5), (Operand.tmp 6)], argTypes := #[27, 3] }, none⟩, []⟩,
  ⟨⟨some 8, Op.binOp BinOp.geq 3 (Operand.tmp 7) (Operand.const (Value.int IntKind.i64 0)) 3, none⟩, []⟩,
  ⟨⟨some 4, Op.assign (Operand.tmp 8), none⟩, []⟩]) .ret))
theorem sl39 : slim Try.f39.ntmps ords39 (Try.f39.body.getD .skip) = some cd39 := by kernel_rfl
theorem in39 {args : List Value} {H : AH} {R : Value → AH → Prop} (hl : args.length = 2) (h : ∀ (Q : Exit → Sl → AH → Prop), (∀ e s H, endA Try.prog [ResultVar.tmp 4] R e s H → Q e s H) → wpC Try.prog cd39 Q (enterA args) H) : ACalls Try.prog 39 args H R :=
  ACalls.intro (by kernel_rfl) Try.func39 rfl (by kernel_rfl) sl39 hl (of_decide_eq_true (by kernel_rfl)) (by kernel_rfl) h
end Go.Proofs.Ytldcbmmmheookaa.Ai
namespace Go.Proofs.Ytldcbmmmheookaa.Ai
open Go Go.RowKit
set_option linter.unusedVariables false
set_option linter.unusedSimpArgs false
/-- the place of a number, or -1 -/
theorem Index_c (v : Value) (xs : List Int) (x : Int) (H : AH) (hr : Row 3 H v xs) (hlen : xs.length ≤ 1099511627776) :
    ACalls Try.prog 88 [v, .int .i64 x] H fun r H' => r = .int .i64 (idxP (fun y => decide (x = y)) xs 0) ∧ H = H' := by
  refine in88 rfl ?_
  intro Q hQ
  simp (maxSteps := 1000000) (disch := omega) only [cd88, hr.len Try.underlying27, S, S1, S2, S3, S4, S5, ST, eq_self, reduceIte, reduceCtorEq, Nat.reduceEqDiff, Nat.reduceAdd]
  refine LoopH.by (fun m s H' => ∃ i, m + i = xs.length ∧ s 0 = v ∧ s 1 = .int .i64 x ∧ s 7 = .int .i64 (xs.length : Int) ∧ s 8 = .int .i64 ((i : Nat) : Int) ∧ H = H' ∧ idxP (fun y => decide (x = y)) xs 0 = idxP (fun y => decide (x = y)) (xs.drop i) i) xs.length ?_ ?_
  · exact ⟨0, by simp, rfl, rfl, rfl, rfl, rfl, by simp⟩
  · rintro m s H' ⟨i, hm, h0, h1, h7, h8, rfl, hn⟩
    simp (maxSteps := 1000000) (disch := omega) only [h0, h1, h7, h8, S, S1, S2, S3, S4, S5, ST, eq_self, reduceIte, reduceCtorEq, Nat.reduceEqDiff, Nat.reduceAdd]
    refine brD.intro (fun g => ?_) (fun g => ?_) <;> simp (maxSteps := 1000000) (disch := omega) only [h0, h1, h8, h7, hr.ix Try.underlying27 cs3, hr.cell, Int.toNat_natCast, S, S1, S2, S3, S4, S5, ST, eq_self, reduceIte, reduceCtorEq, Nat.reduceEqDiff, Nat.reduceAdd]
    · have hi : i < xs.length := by omega
      rw [idxP_step _ xs i hi] at hn
      refine brD.intro (fun e => ?_) (fun e => ?_) <;> simp (maxSteps := 1000000) (disch := omega) only [h0, h1, h7, h8, wrap64, S, S1, S2, S3, S4, S5, ST, eq_self, reduceIte, reduceCtorEq, Nat.reduceEqDiff, Nat.reduceAdd]
      · refine hQ _ _ _ ?_
        simp (maxSteps := 1000000) (disch := omega) only [S, S1, S2, S3, S4, S5, ST, eq_self, reduceIte, reduceCtorEq, Nat.reduceEqDiff, Nat.reduceAdd]
        rw [hn, if_pos (by simpa using e)]
      · rw [if_neg (by simpa using e)] at hn
        refine ⟨m - 1, by omega, i + 1, by omega, ?_⟩
        (repeat' apply And.intro) <;> first | exact hn | (simp only [Value.int.injEq, true_and]; omega) | omega | rfl | assumption | (simp; done) | (simp; omega)
    · refine hQ _ _ _ ?_
      simp (maxSteps := 1000000) (disch := omega) only [S, S1, S2, S3, S4, S5, ST, eq_self, reduceIte, reduceCtorEq, Nat.reduceEqDiff, Nat.reduceAdd]
      rw [hn, List.drop_of_length_le (by omega)]; rfl
theorem Contains_c (v : Value) (xs : List Int) (x : Int) (H : AH) (hr : Row 3 H v xs) (hlen : xs.length ≤ 1099511627776) :
    ACalls Try.prog 39 [v, .int .i64 x] H fun r H' => r = .bool (decide (x ∈ xs)) ∧ H = H' := by
  refine in39 rfl ?_
  intro Q hQ
  simp (maxSteps := 1000000) (disch := omega) only [cd39, S, S1, S2, S3, S4, S5, ST, eq_self, reduceIte, reduceCtorEq, Nat.reduceEqDiff, Nat.reduceAdd]
  refine CallH.by (Index_c v xs x H hr hlen) ?_
  rintro _ _ ⟨rfl, rfl⟩
  simp (maxSteps := 1000000) (disch := omega) only [S, S1, S2, S3, S4, S5, ST, eq_self, reduceIte, reduceCtorEq, Nat.reduceEqDiff, Nat.reduceAdd]
  refine hQ _ _ _ ?_
  simp (maxSteps := 1000000) (disch := omega) only [S, S1, S2, S3, S4, S5, ST, eq_self, reduceIte, reduceCtorEq, Nat.reduceEqDiff, Nat.reduceAdd]
  have h1 := idxP_any (fun y => decide (x = y)) xs 0
  have h2 : xs.any (fun y => decide (x = y)) = true ↔ x ∈ xs := by simp
  have : (0 ≤ idxP (fun y => decide (x = y)) xs 0) ↔ x ∈ xs := h1.trans h2
  simp only [this]
end Go.Proofs.Ytldcbmmmheookaa.Ai
namespace Go.Proofs.Ytldcbmmmheookaa.Ai
open Go Go.RowKit
set_option linter.unusedVariables false
set_option linter.unusedSimpArgs false
/-- what of a list another one does not have -/
def without (xs ys : List Int) : List Int := xs.filter fun x => decide (¬ x ∈ ys)
theorem without_step (xs ys : List Int) (i : Nat) (hi : i < xs.length) : without (xs.take (i + 1)) ys = without (xs.take i) ys ++ if xs.getD i 0 ∈ ys then [] else [xs.getD i 0] := by
  unfold without
  rw [List.take_add_one, List.getElem?_eq_getElem hi, List.filter_append]
  have hx : xs.getD i 0 = xs[i] := by simp [hi]
  rw [hx]
  by_cases h : xs[i] ∈ ys <;> simp [h]
end Go.Proofs.Ytldcbmmmheookaa.Ai
