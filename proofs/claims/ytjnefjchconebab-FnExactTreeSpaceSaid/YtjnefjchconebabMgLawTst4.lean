/- Texts of this claim, joined: Near, ReachP, BfsQ, Rep, Bfs, Roads, Bits, TreQ, TrbA, Pop, TrbB, TrbC, TrbD, MatP, MatA. -/
import Derived.Test.YtjnefjchconebabProg
import Derived.KernelRfl
import Derived.Test.YtjnefjchconebabMgLawTst3
namespace Go.Proofs.Ytjnefjchconebab.Ai
open Go
def ords80 : List (Nat × List (Nat × Bool)) := []
def cd80 : Cd := (.seq (.reg [⟨⟨some 3, Op.box 31 (Operand.tmp 0), none⟩, []⟩,
  ⟨⟨some 6, Op.assign (Operand.const (Value.bool false)), none⟩, []⟩]) (.seq (.seq (.reg [⟨⟨some 7, Op.assign (Operand.const (Value.int IntKind.i64 0)), none⟩, []⟩]) (.block 0 (.loop (.seq (.seq (.reg [⟨⟨some 9, Op.move (Operand.tmp 7), none⟩, []⟩,
  ⟨⟨some 10, Op.fieldAddr 31 (Operand.tmp 3) 1, none⟩, []⟩,
  ⟨⟨some 11, Op.load 22 (Operand.tmp 10), none⟩, []⟩,
  ⟨⟨some 12, Op.call { callee := (Callee.builtin Builtin.len), args := #[(Operand.tmp 11)], argTypes := #[22] }, none⟩, []⟩,
  ⟨⟨some 13, Op.binOp BinOp.lss 3 (Operand.tmp 9) (Operand.tmp 12) 3, none⟩, []⟩]) (.cond (Operand.tmp 13) .skip (.exit 0))) (.seq (.block 1 (.seq (.reg [⟨⟨some 16, Op.fieldAddr 31 (Operand.tmp 3) 1, none⟩, []⟩,
  ⟨⟨some 17, Op.load 22 (Operand.tmp 16), none⟩, []⟩,
  ⟨⟨some 18, Op.move (Operand.tmp 7), none⟩, []⟩,
  ⟨⟨some 19, Op.indexAddr 22 (Operand.tmp 17) (Operand.tmp 18), none⟩, []⟩,
  ⟨⟨some 20, Op.load 66 (Operand.tmp 19), none⟩, []⟩,
  ⟨⟨some 8, Op.alloc 66, none⟩, []⟩,
  ⟨⟨none, Op.store 66 (Operand.tmp 8) (Operand.tmp 20), none⟩, []⟩]) (.seq (.reg [⟨⟨some 21, Op.indexAddr 66 (Operand.tmp 8) (Operand.const (Value.int IntKind.i64 0)), none⟩, []⟩,
  ⟨⟨some 22, Op.load 3 (Operand.tmp 21), none⟩, []⟩,
  ⟨⟨some 23, Op.move (Operand.tmp 1), none⟩, []⟩,
  ⟨⟨some 24, Op.binOp BinOp.eql 3 (Operand.tmp 22) (Operand.tmp 23) 3, none⟩, []⟩,
  ⟨⟨some 25, Op.move (Operand.tmp 24), none⟩, []⟩,
  ⟨⟨some 26, Op.indexAddr 66 (Operand.tmp 8) (Operand.const (Value.int IntKind.i64 1)), some (25, true)⟩, []⟩,
  ⟨⟨some 27, Op.load 3 (Operand.tmp 26), some (25, true)⟩, []⟩,
  ⟨⟨some 28, Op.move (Operand.tmp 2), some (25, true)⟩, []⟩,
  ⟨⟨some 29, Op.binOp BinOp.eql 3 (Operand.tmp 27) (Operand.tmp 28) 3, some (25, true)⟩, []⟩,
  ⟨⟨some 30, Op.pick (Operand.tmp 25) (Operand.tmp 29) (Operand.const (Value.bool false)), none⟩, []⟩,
  ⟨⟨some 31, Op.move (Operand.tmp 30), none⟩, []⟩,
  ⟨⟨some 32, Op.indexAddr 66 (Operand.tmp 8) (Operand.const (Value.int IntKind.i64 0)), some (31, false)⟩, []⟩,
  ⟨⟨some 33, Op.load 3 (Operand.tmp 32), some (31, false)⟩, []⟩,
  ⟨⟨some 34, Op.move (Operand.tmp 2), some (31, false)⟩, []⟩,
  ⟨⟨some 35, Op.binOp BinOp.eql 3 (Operand.tmp 33) (Operand.tmp 34) 3, some (31, false)⟩, []⟩,
  ⟨⟨some 36, Op.move (Operand.tmp 35), some (31, false)⟩, []⟩,
  ⟨⟨some 37, Op.indexAddr 66 (Operand.tmp 8) (Operand.const (Value.int IntKind.i64 1)), some (36, true)⟩, []⟩,
  ⟨⟨some 38, Op.load 3 (Operand.tmp 37), some (36, true)⟩, []⟩,
  ⟨⟨some 39, Op.move (Operand.tmp 1), some (36, true)⟩, []⟩,
  ⟨⟨some 40, Op.binOp BinOp.eql 3 (Operand.tmp 38) (Operand.tmp 39) 3, some (36, true)⟩, []⟩,
  ⟨⟨some 41, Op.pick (Operand.tmp 36) (Operand.tmp 40) (Operand.const (Value.bool false)), some (31, false)⟩, []⟩,
  ⟨⟨some 42, Op.pick (Operand.tmp 31) (Operand.const (Value.bool true)) (Operand.tmp 41), none⟩, []⟩]) (.cond (Operand.tmp 42) (.seq (.reg [⟨⟨some 6, Op.assign (Operand.const (Value.bool true)), none⟩, []⟩]) .ret) .skip)))) (.reg [⟨⟨some 14, Op.move (Operand.tmp 7), none⟩, []⟩,
  ⟨⟨some 15, Op.binOp BinOp.add 3 (Operand.tmp 14) (Operand.const (Value.int IntKind.i64 1)) 3, none⟩, []⟩,
  ⟨⟨some 7, Op.assign (Operand.tmp 15), none⟩, []⟩])))))) (.seq (.reg [⟨⟨some 6, Op.assign (Operand.const (Value.bool false)), none⟩, []⟩]) .ret)))
theorem sl80 : slim Try.f80.ntmps ords80 (Try.f80.body.getD .skip) = some cd80 := by kernel_rfl
theorem in80 {args : List Value} {H : AH} {R : Value → AH → Prop} (hl : args.length = 3) (h : ∀ (Q : Exit → Sl → AH → Prop), (∀ e s H, endA Try.prog [ResultVar.tmp 6] R e s H → Q e s H) → wpC Try.prog cd80 Q (enterA args) H) : ACalls Try.prog 80 args H R :=
  ACalls.intro (by kernel_rfl) Try.func80 rfl (by kernel_rfl) sl80 hl (of_decide_eq_true (by kernel_rfl)) (by kernel_rfl) h
end Go.Proofs.Ytjnefjchconebab.Ai
namespace Go.Proofs.Ytjnefjchconebab.Ai
open Go Go.RowKit
set_option linter.unusedVariables false
set_option linter.unusedSimpArgs false
def hitB (a b : Int) (e : Int × Int) : Bool := decide (e.1 = a ∧ e.2 = b ∨ e.1 = b ∧ e.2 = a)
/-- are two nodes neighbors -/
def nearB (es : List (Int × Int)) (a b : Int) : Bool := es.any (hitB a b)
theorem any_step {α : Type} (p : α → Bool) (xs : List α) (d : α) (i : Nat) (hi : i < xs.length) : (xs.drop i).any p = (p (xs.getD i d) || (xs.drop (i + 1)).any p) := by
  have : xs.getD i d = xs[i] := by simp [hi]
  rw [List.drop_eq_getElem_cons hi, List.any_cons, this]
theorem nearB_comm (es : List (Int × Int)) (a b : Int) : nearB es a b = nearB es b a := by
  have : hitB a b = hitB b a := by
    funext e
    unfold hitB
    rw [decide_eq_decide]
    exact ⟨fun h => h.elim .inr .inl, fun h => h.elim .inr .inl⟩
  unfold nearB
  rw [this]
theorem nearB_iff (es : List (Int × Int)) (a b : Int) : nearB es a b = true ↔ ((a, b) ∈ es ∨ (b, a) ∈ es) := by
  unfold nearB hitB
  rw [List.any_eq_true]
  constructor
  · rintro ⟨⟨x, y⟩, hm, h⟩
    rcases of_decide_eq_true h with h | h
    · obtain ⟨h1, h2⟩ := h
      simp only at h1 h2
      subst h1; subst h2; exact .inl hm
    · obtain ⟨h1, h2⟩ := h
      simp only at h1 h2
      subst h1; subst h2; exact .inr hm
  · rintro (h | h)
    · exact ⟨_, h, by simp⟩
    · exact ⟨_, h, by simp⟩
theorem grd_mem {n : Int} {es : List (Int × Int)} (hg : Grd n es) {e : Int × Int} (he : e ∈ es) : 0 ≤ e.1 ∧ e.1 < e.2 ∧ e.2 < n := by
  obtain ⟨i, hi, rfl⟩ := List.mem_iff_getElem.1 he
  obtain ⟨h1, h2, h3, _⟩ := hg.2 i hi
  have : es.getD i (0, 0) = es[i] := by simp [hi]
  rw [this] at h1 h2 h3
  exact ⟨h1, h2, h3⟩
/-- the neighbors of a node below k -/
def nbsU (es : List (Int × Int)) (x : Int) : Nat → List Int
  | 0 => []
  | k + 1 => nbsU es x k ++ if nearB es x k = true then [(k : Int)] else []
theorem nbsU_len (es : List (Int × Int)) (x : Int) (k : Nat) : (nbsU es x k).length ≤ k := by
  induction k with
  | zero => simp [nbsU]
  | succ k ih => simp only [nbsU, List.length_append]; split <;> simp <;> omega
theorem nbsU_mem (es : List (Int × Int)) (x : Int) (k : Nat) (y : Int) : y ∈ nbsU es x k ↔ (0 ≤ y ∧ y < k) ∧ nearB es x y = true := by
  induction k with
  | zero => simp [nbsU]; intro h1 h2; omega
  | succ k ih =>
    simp only [nbsU, List.mem_append, ih]
    constructor
    · rintro (⟨h1, h2⟩ | h)
      · exact ⟨by omega, h2⟩
      · split at h
        · rename_i hn
          simp only [List.mem_cons, List.not_mem_nil, or_false] at h
          subst h; exact ⟨by omega, hn⟩
        · simp at h
    · rintro ⟨h1, h2⟩
      by_cases h : y < k
      · exact .inl ⟨by omega, h2⟩
      · obtain rfl : y = k := by omega
        right; rw [if_pos h2]; simp
set_option maxRecDepth 20000 in
set_option maxHeartbeats 1000000 in
theorem l2Near_c (n : Int) (v : Value) (es : List (Int × Int)) (a b : Int) (H : AH) (hr : RowP 66 H v es) (hlen : es.length ≤ 1099511627776) :
    ACalls Try.prog 80 [.agg (List.toArray [.int .i64 n, v]), .int .i64 a, .int .i64 b] H fun r H' => r = .bool (nearB es a b) ∧ H <+: H' := by
  refine in80 rfl ?_
  intro Q hQ
  simp (maxSteps := 1000000) (disch := omega) only [cd80, hr.boxG, S, S1, S2, S3, S4, S5, ST, eq_self, reduceIte, reduceCtorEq, Nat.reduceEqDiff, Nat.reduceAdd]
  generalize hA : H ++ [AObj.cells [.int .i64 n, v] 31 false] = A
  have pA : H <+: A := by rw [← hA]; exact List.prefix_append _ _
  have cA : A[H.length]? = some (.cells [.int .i64 n, v] 31 false) := by rw [← hA]; exact at_new ..
  have rA := hr.pre pA
  try simp (maxSteps := 1000000) (disch := omega) only [S, S1, S2, S3, S4, S5, ST, eq_self, reduceIte, reduceCtorEq, Nat.reduceEqDiff, Nat.reduceAdd]
  refine LoopH.by (fun m s H' => ∃ i, m + i = es.length ∧ s 1 = .int .i64 a ∧ s 2 = .int .i64 b ∧ s 3 = .pointer (some ⟨H.length, 0, none⟩) ∧ s 7 = .int .i64 ((i : Nat) : Int) ∧ nearB es a b = (es.drop i).any (hitB a b) ∧ A <+: H') es.length ?_ ?_
  · exact ⟨0, by simp, rfl, rfl, rfl, rfl, by rw [List.drop_zero]; rfl, List.prefix_refl _⟩
  · rintro m s H' ⟨i, hm, h1, h2, h3, h7, hn, hp⟩
    have hr' := rA.pre hp
    have cH := pre_at hp cA
    have hpp := pA.trans hp
    simp (maxSteps := 1000000) (disch := omega) only [h1, h2, h3, h7, cell_of cH, hr'.len Try.underlying22, S, S1, S2, S3, S4, S5, ST, eq_self, reduceIte, reduceCtorEq, Nat.reduceEqDiff, Nat.reduceAdd]
    refine brD.intro (fun g => ?_) (fun g => ?_)
    · have hi : i < es.length := by omega
      have hst0 := store_a2 H' [.int .i64 0, .int .i64 0] rfl
      rw [any_step _ es (0, 0) i hi] at hn
      simp (maxSteps := 1000000) (disch := omega) only [h1, h2, h3, h7, cell_of cH, hr'.ix Try.underlying22 cs66, Int.toNat_natCast, hr'.ld ag66 cs66 hi, alloc_a2, hst0, cell_new, wrap64, S, S1, S2, S3, S4, S5, ST, eq_self, reduceIte, reduceCtorEq, Nat.reduceEqDiff, Nat.reduceAdd]
      generalize hx : es.getD i (0, 0) = x at *
      have pB : A <+: H' ++ [AObj.cells [.int .i64 x.1, .int .i64 x.2] 66 false] := pre_app hp _
      have yes : hitB a b x = true → nearB es a b = true := fun h => by rw [hn, h]; rfl
      have no : hitB a b x = false → nearB es a b = (es.drop (i + 1)).any (hitB a b) := fun h => by rw [hn, h]; rfl
      unfold hitB at yes no
      rw [decide_eq_true_iff] at yes
      rw [decide_eq_false_iff_not] at no
      have second : ¬ (x.1 = a ∧ x.2 = b) → True := fun _ => trivial
      refine brD.intro (fun e1 => ?_) (fun e1 => ?_) <;> (first | have de1 := decide_eq_false e1 | have de1 := decide_eq_true e1) <;> simp (maxSteps := 1000000) (disch := omega) only [de1, h1, h2, h3, h7, cell_new, wrap64, S, S1, S2, S3, S4, S5, ST, eq_self, reduceIte, reduceCtorEq, Nat.reduceEqDiff, Nat.reduceAdd]
      · refine brD.intro (fun e2 => ?_) (fun e2 => ?_) <;> (first | have de2 := decide_eq_false e2 | have de2 := decide_eq_true e2) <;> simp (maxSteps := 1000000) (disch := omega) only [de1, de2, h1, h2, h3, h7, cell_new, wrap64, S, S1, S2, S3, S4, S5, ST, eq_self, reduceIte, reduceCtorEq, Nat.reduceEqDiff, Nat.reduceAdd]
        · refine hQ _ _ _ ?_
          simp (maxSteps := 1000000) (disch := omega) only [S, S1, S2, S3, S4, S5, ST, eq_self, reduceIte, reduceCtorEq, Nat.reduceEqDiff, Nat.reduceAdd]
          exact ⟨by rw [yes (by omega)], pA.trans pB⟩
        · refine brD.intro (fun e3 => ?_) (fun e3 => ?_) <;> (first | have de3 := decide_eq_false e3 | have de3 := decide_eq_true e3) <;> simp (maxSteps := 1000000) (disch := omega) only [de1, de2, de3, h1, h2, h3, h7, cell_new, wrap64, S, S1, S2, S3, S4, S5, ST, eq_self, reduceIte, reduceCtorEq, Nat.reduceEqDiff, Nat.reduceAdd]
          · refine brD.intro (fun e4 => ?_) (fun e4 => ?_) <;> (first | have de4 := decide_eq_false e4 | have de4 := decide_eq_true e4) <;> simp (maxSteps := 1000000) (disch := omega) only [de1, de2, de3, de4, h1, h2, h3, h7, cell_new, wrap64, S, S1, S2, S3, S4, S5, ST, eq_self, reduceIte, reduceCtorEq, Nat.reduceEqDiff, Nat.reduceAdd]
            · refine hQ _ _ _ ?_
              simp (maxSteps := 1000000) (disch := omega) only [S, S1, S2, S3, S4, S5, ST, eq_self, reduceIte, reduceCtorEq, Nat.reduceEqDiff, Nat.reduceAdd]
              exact ⟨by rw [yes (by omega)], pA.trans pB⟩
            · have f1 := no (by omega)
              refine ⟨m - 1, by omega, i + 1, ?_⟩
              (repeat' first | exact f1 | exact pB | apply And.intro) <;> first | (simp only [Value.int.injEq, true_and]; omega) | omega | rfl | assumption | (simp; done) | (simp; omega)
          · have f1 := no (by omega)
            refine ⟨m - 1, by omega, i + 1, ?_⟩
            (repeat' first | exact f1 | exact pB | apply And.intro) <;> first | (simp only [Value.int.injEq, true_and]; omega) | omega | rfl | assumption | (simp; done) | (simp; omega)
      · refine brD.intro (fun e3 => ?_) (fun e3 => ?_) <;> (first | have de3 := decide_eq_false e3 | have de3 := decide_eq_true e3) <;> simp (maxSteps := 1000000) (disch := omega) only [de1, de3, h1, h2, h3, h7, cell_new, wrap64, S, S1, S2, S3, S4, S5, ST, eq_self, reduceIte, reduceCtorEq, Nat.reduceEqDiff, Nat.reduceAdd]
        · refine brD.intro (fun e4 => ?_) (fun e4 => ?_) <;> (first | have de4 := decide_eq_false e4 | have de4 := decide_eq_true e4) <;> simp (maxSteps := 1000000) (disch := omega) only [de1, de3, de4, h1, h2, h3, h7, cell_new, wrap64, S, S1, S2, S3, S4, S5, ST, eq_self, reduceIte, reduceCtorEq, Nat.reduceEqDiff, Nat.reduceAdd]
          · refine hQ _ _ _ ?_
            simp (maxSteps := 1000000) (disch := omega) only [S, S1, S2, S3, S4, S5, ST, eq_self, reduceIte, reduceCtorEq, Nat.reduceEqDiff, Nat.reduceAdd]
            exact ⟨by rw [yes (by omega)], pA.trans pB⟩
          · have f1 := no (by omega)
            refine ⟨m - 1, by omega, i + 1, ?_⟩
            (repeat' first | exact f1 | exact pB | apply And.intro) <;> first | (simp only [Value.int.injEq, true_and]; omega) | omega | rfl | assumption | (simp; done) | (simp; omega)
        · have f1 := no (by omega)
          refine ⟨m - 1, by omega, i + 1, ?_⟩
          (repeat' first | exact f1 | exact pB | apply And.intro) <;> first | (simp only [Value.int.injEq, true_and]; omega) | omega | rfl | assumption | (simp; done) | (simp; omega)
    · simp (maxSteps := 1000000) (disch := omega) only [h1, h2, h3, h7, S, S1, S2, S3, S4, S5, ST, eq_self, reduceIte, reduceCtorEq, Nat.reduceEqDiff, Nat.reduceAdd]
      refine hQ _ _ _ ?_
      simp (maxSteps := 1000000) (disch := omega) only [S, S1, S2, S3, S4, S5, ST, eq_self, reduceIte, reduceCtorEq, Nat.reduceEqDiff, Nat.reduceAdd]
      rw [hn, List.drop_of_length_le (by omega)]
      exact ⟨rfl, hpp⟩
end Go.Proofs.Ytjnefjchconebab.Ai
namespace Go.Proofs.Ytjnefjchconebab.Ai
open Go
set_option linter.unusedVariables false
/-- reached by roads, all of them to places of a kind -/
inductive Rch (adj : Int → Int → Prop) (S : Int → Prop) (x : Int) : Int → Prop
  | refl : Rch adj S x x
  | step {y z : Int} : Rch adj S x y → adj y z → S z → Rch adj S x z
theorem Rch.mono {adj : Int → Int → Prop} {S T : Int → Prop} {x z : Int} (h : Rch adj S x z) (hs : ∀ y, S y → T y) : Rch adj T x z := by
  induction h with
  | refl => exact .refl
  | step _ h1 h2 ih => exact .step ih h1 (hs _ h2)
theorem Rch.in_ {adj : Int → Int → Prop} {S : Int → Prop} {x z : Int} (h : Rch adj S x z) (hx : S x) : S z := by
  cases h with
  | refl => exact hx
  | step _ _ h2 => exact h2
theorem nodup_le {a b : List Int} (ha : a.Nodup) (h : ∀ x ∈ a, x ∈ b) : a.length ≤ b.length := by
  induction a generalizing b with
  | nil => simp
  | cons x a ih =>
    have hx : x ∈ b := h x (by simp)
    rw [List.nodup_cons] at ha
    have hl := List.length_erase_of_mem hx
    have hp := List.length_pos_of_mem hx
    have := ih (b := b.erase x) ha.2 fun y hy => (List.mem_erase_of_ne (fun e : y = x => ha.1 (by rw [← e]; exact hy))).2 (h y (by simp [hy]))
    simp only [List.length_cons]
    omega
theorem lt_nodup {l : List Int} (h : l.Pairwise (· < ·)) : l.Nodup := h.imp fun h => by omega
theorem ptIn_seen {N C : Nat} (v : Nat) (hv : v < N) : ∀ (l : List Int) (st : List Bool × List Int), PI N C st → (∀ y ∈ l, 0 ≤ y ∧ y < N) → ((ptIn l st).1.getD v false = true ↔ (st.1.getD v false = true ∨ (v : Int) ∈ l))
  | [], st, h, _ => by simp [ptIn]
  | j :: r, st, h, hl => by
    have hj := hl j (by simp)
    simp only [ptIn]
    split
    · rename_i hs
      rw [ptIn_seen v hv r st h (fun y hy => hl y (by simp [hy])), List.mem_cons]
      constructor
      · rintro (h1 | h1)
        · exact .inl h1
        · exact .inr (.inr h1)
      · rintro (h1 | h1 | h1)
        · exact .inl h1
        · left; rw [← h1] at hs; simpa using hs
        · exact .inr h1
    · rename_i hn
      have hlen := h.len
      rw [ptIn_seen v hv r _ (h.put hj hn) (fun y hy => hl y (by simp [hy])), List.mem_cons]
      show ((st.1.set j.toNat true).getD v false = true ∨ _) ↔ _
      rw [getD_setBool _ _ _ _ (by omega)]
      by_cases e : j.toNat = v
      · rw [if_pos e]
        have : (v : Int) = j := by omega
        simp [this]
      · rw [if_neg e]
        have : ¬ (v : Int) = j := by omega
        simp [this]
theorem ptIn_q (z : Int) : ∀ (l : List Int) (st : List Bool × List Int), z ∈ (ptIn l st).2 → z ∈ st.2 ∨ (z ∈ l ∧ ¬ st.1.getD z.toNat false = true)
  | [], st, h => .inl h
  | j :: r, st, h => by
    simp only [ptIn] at h
    split at h
    · rcases ptIn_q z r st h with h | ⟨h, h2⟩
      · exact .inl h
      · exact .inr ⟨by simp [h], h2⟩
    · rename_i hn
      rcases ptIn_q z r _ h with h | ⟨h, h2⟩
      · simp only [List.mem_append, List.mem_cons, List.not_mem_nil, or_false] at h
        rcases h with h | rfl
        · exact .inl h
        · exact .inr ⟨by simp, hn⟩
      · refine .inr ⟨by simp [h], fun h3 => h2 ?_⟩
        show (st.1.set j.toNat true).getD z.toNat false = true
        rw [List.getD_eq_getElem?_getD, List.getElem?_set]
        rw [List.getD_eq_getElem?_getD] at h3
        split
        · split
          · rfl
          · rename_i e1 e2
            rw [← e1, List.getElem?_eq_none (by omega)] at h3
            exact h3
        · exact h3
/-- what holds of the queue from a place, all along: s is what was seen before -/
structure QI (L : List (List Int)) (s : List Bool) (x : Nat) (C : Nat) (st : List Bool × List Int) (k : Nat) : Prop where
  pi : PI L.length C st
  seen : ∀ v, v < L.length → (st.1.getD v false = true ↔ (s.getD v false = true ∨ (v : Int) ∈ st.2))
  rch : ∀ z ∈ st.2, Rch (fun a b => b ∈ L.getD a.toNat []) (fun z => 0 ≤ z ∧ z < L.length ∧ ¬ s.getD z.toNat false = true) x z
  cl : ∀ i, i < k → ∀ y ∈ L.getD (st.2.getD i 0).toNat [], st.1.getD y.toNat false = true
  le : k ≤ st.2.length
  x : (x : Int) ∈ st.2
theorem QI.step {L : List (List Int)} (hL : LOk L.length L) {s : List Bool} {x C : Nat} {st : List Bool × List Int} {k : Nat} (h : QI L s x C st k) (hk : k < st.2.length) : QI L s x C (ptIn (L.getD (st.2.getD k 0).toNat []) st) (k + 1) := by
  have hpre := ptIn_pre (L.getD (st.2.getD k 0).toNat []) st
  have hPI := PI.inn _ h.pi (hL (st.2.getD k 0).toNat)
  have hm : st.2.getD k 0 ∈ st.2 := by simp [hk]
  have hsn : ∀ v, v < L.length → _ := fun v hv => ptIn_seen v hv (L.getD (st.2.getD k 0).toNat []) st h.pi (hL _)
  refine ⟨hPI, ?_, ?_, ?_, ?_, hpre.subset h.x⟩
  · intro v hv
    constructor
    · intro hh
      rcases (hsn v hv).1 hh with h1 | h1
      · rcases (h.seen v hv).1 h1 with h2 | h2
        · exact .inl h2
        · exact .inr (hpre.subset h2)
      · by_cases h2 : st.1.getD v false = true
        · rcases (h.seen v hv).1 h2 with h2 | h2
          · exact .inl h2
          · exact .inr (hpre.subset h2)
        · right
          -- it is put into the queue
          have key : ∀ (l : List Int) (st : List Bool × List Int), PI L.length C st → (∀ y ∈ l, 0 ≤ y ∧ y < L.length) → (v : Int) ∈ l → ¬ st.1.getD v false = true → (v : Int) ∈ (ptIn l st).2 := by
            intro l
            induction l with
            | nil => intro st _ _ h3; simp at h3
            | cons j r ih =>
              intro st hp hl h3 h4
              have hj := hl j (by simp)
              simp only [ptIn]
              by_cases e : j = (v : Int)
              · subst e
                rw [Int.toNat_natCast, if_neg h4]
                exact (ptIn_pre r _).subset (by simp)
              · have h3' : (v : Int) ∈ r := by
                  rcases List.mem_cons.1 h3 with h | h
                  · exact absurd h.symm e
                  · exact h
                split
                · exact ih st hp (fun y hy => hl y (by simp [hy])) h3' h4
                · rename_i hn
                  refine ih _ (hp.put hj hn) (fun y hy => hl y (by simp [hy])) h3' ?_
                  show ¬ (st.1.set j.toNat true).getD v false = true
                  have := hp.len
                  rw [getD_setBool _ _ _ _ (by omega), if_neg (by omega)]
                  exact h4
          exact key _ st h.pi (hL _) h1 h2
    · rintro (h1 | h1)
      · exact (hsn v hv).2 (.inl ((h.seen v hv).2 (.inl h1)))
      · obtain ⟨_, h2⟩ := hPI.q _ h1
        simpa using h2
  · intro z hz
    rcases ptIn_q z _ st hz with h1 | ⟨h1, h2⟩
    · exact h.rch z h1
    · have hr := hL _ z h1
      refine .step (h.rch _ hm) h1 ⟨hr.1, hr.2, fun h3 => h2 ?_⟩
      exact (h.seen z.toNat (by omega)).2 (.inl h3)
  · intro i hi y hy
    have hg : (ptIn (L.getD (st.2.getD k 0).toNat []) st).2.getD i 0 = st.2.getD i 0 := by
      obtain ⟨t, ht⟩ := hpre
      rw [← ht, List.getD_eq_getElem?_getD, List.getElem?_append_left (by omega), ← List.getD_eq_getElem?_getD]
    rw [hg] at hy
    have hr := hL _ y hy
    refine (hsn y.toNat (by omega)).2 ?_
    by_cases e : i = k
    · subst e
      right
      rw [Int.toNat_of_nonneg hr.1]; exact hy
    · exact .inl (h.cl i (by omega) y hy)
  · have := hpre.length_le
    by_cases e : (ptIn (L.getD (st.2.getD k 0).toNat []) st).2.length = st.2.length <;> omega
theorem QI.run {L : List (List Int)} (hL : LOk L.length L) {s : List Bool} {x C : Nat} : ∀ (f : Nat) (st : List Bool × List Int) (k : Nat), f + k = L.length + 1 → QI L s x C st k → QI L s x C (ptF L f st k) (ptF L f st k).2.length
  | 0, st, k, hf, h => by have := h.pi.len_le; have := h.le; omega
  | f + 1, st, k, hf, h => by
    simp only [ptF]
    split
    · rename_i hk
      exact QI.run hL f _ _ (by omega) (h.step hL hk)
    · have : k = st.2.length := by have := h.le; omega
      rw [← this]; exact h
end Go.Proofs.Ytjnefjchconebab.Ai
namespace Go.Proofs.Ytjnefjchconebab.Ai
open Go
set_option linter.unusedVariables false
structure DI (L : List (List Int)) (i : Nat) (st : List Int × List Int) (k : Nat) : Prop where
  bi : BI L.length st
  iff : ∀ v, v < L.length → (0 ≤ st.1.getD v 0 ↔ (v : Int) ∈ st.2)
  src : ∀ v, v < L.length → 0 ≤ st.1.getD v 0 → (v = i ∧ st.1.getD v 0 = 0) ∨ ∃ u, u < L.length ∧ 0 ≤ st.1.getD u 0 ∧ (v : Int) ∈ L.getD u [] ∧ st.1.getD v 0 = st.1.getD u 0 + 1
  cl : ∀ j, j < k → ∀ y ∈ L.getD (st.2.getD j 0).toNat [], 0 ≤ st.1.getD y.toNat 0
  le : k ≤ st.2.length
  at_ : 0 ≤ st.1.getD i 0
theorem bfsIn_keep (d : Int) (v : Nat) : ∀ (l : List Int) (st : List Int × List Int), (∀ y ∈ l, 0 ≤ y ∧ y < st.1.length) → 0 ≤ st.1.getD v 0 → (bfsIn d l st).1.getD v 0 = st.1.getD v 0
  | [], st, _, _ => rfl
  | j :: r, st, hl, h => by
    simp only [bfsIn]
    have hj := hl j (by simp)
    split
    · rename_i hn
      have hvj : j.toNat ≠ v := fun e => by rw [e] at hn; omega
      have e1 : (st.1.set j.toNat d).getD v 0 = st.1.getD v 0 := by
        rw [List.getD_eq_getElem?_getD, List.getD_eq_getElem?_getD, List.getElem?_set_ne hvj]
      rw [bfsIn_keep d v r _ (fun y hy => by simpa using hl y (by simp [hy])) (by show 0 ≤ (st.1.set j.toNat d).getD v 0; rw [e1]; exact h)]
      exact e1
    · exact bfsIn_keep d v r st (fun y hy => hl y (by simp [hy])) h
theorem bfsIn_new (d : Int) (hd : 0 ≤ d) (v : Nat) : ∀ (l : List Int) (st : List Int × List Int), (∀ y ∈ l, 0 ≤ y ∧ y < st.1.length) → v < st.1.length → st.1.getD v 0 < 0 →
    (((v : Int) ∈ l ∧ (bfsIn d l st).1.getD v 0 = d ∧ (v : Int) ∈ (bfsIn d l st).2) ∨ ((v : Int) ∉ l ∧ (bfsIn d l st).1.getD v 0 = st.1.getD v 0 ∧ ((v : Int) ∈ (bfsIn d l st).2 → (v : Int) ∈ st.2)))
  | [], st, _, _, h => .inr ⟨by simp, rfl, id⟩
  | j :: r, st, hl, hv, h => by
    have hj := hl j (by simp)
    simp only [bfsIn]
    by_cases e : j = (v : Int)
    · subst e
      rw [Int.toNat_natCast, if_pos h]
      have e1 : (st.1.set v d).getD v 0 = d := by rw [getD_setB _ _ _ _ hv, if_pos rfl]
      refine .inl ⟨by simp, ?_, ?_⟩
      · rw [bfsIn_keep d v r _ (fun y hy => by simpa using hl y (by simp [hy])) (by show 0 ≤ (st.1.set v d).getD v 0; rw [e1]; exact hd)]
        exact e1
      · exact (bfsIn_pre d r _).subset (by simp)
    · have hne : ¬ (v : Int) = j := fun h => e h.symm
      split
      · rename_i hn
        have e1 : (st.1.set j.toNat d).getD v 0 = st.1.getD v 0 := by
          rw [getD_setB _ _ _ _ hv, if_neg (by omega)]
        rcases bfsIn_new d hd v r (st.1.set j.toNat d, st.2 ++ [j]) (fun y hy => by simpa using hl y (by simp [hy])) (by simpa using hv) (by show (st.1.set j.toNat d).getD v 0 < 0; rw [e1]; exact h) with ⟨h1, h2, h3⟩ | ⟨h1, h2, h3⟩
        · exact .inl ⟨by simp [h1], h2, h3⟩
        · refine .inr ⟨by simp [hne, h1], by rw [h2]; exact e1, fun h4 => ?_⟩
          have := h3 h4
          simpa [hne] using this
      · rcases bfsIn_new d hd v r st (fun y hy => hl y (by simp [hy])) hv h with ⟨h1, h2, h3⟩ | ⟨h1, h2, h3⟩
        · exact .inl ⟨by simp [h1], h2, h3⟩
        · exact .inr ⟨by simp [hne, h1], h2, h3⟩
theorem DI.step {L : List (List Int)} (hL : LOk L.length L) {i : Nat} {st : List Int × List Int} {k : Nat} (h : DI L i st k) (hk : k < st.2.length) :
    DI L i (bfsIn (st.1.getD (st.2.getD k 0).toNat 0 + 1) (L.getD (st.2.getD k 0).toNat []) st) (k + 1) := by
  have hm : st.2.getD k 0 ∈ st.2 := by simp [hk]
  obtain ⟨hxr, hx0⟩ := h.bi.q _ hm
  have hlo := h.bi.lo (st.2.getD k 0).toNat (by omega)
  have hlen := h.bi.len
  generalize hx : (st.2.getD k 0).toNat = x at *
  generalize hd : st.1.getD x 0 + 1 = d at *
  have hl := hL x
  have hl' : ∀ y ∈ L.getD x [], 0 ≤ y ∧ y < (st.1.length : Int) := by rw [hlen]; exact hl
  have hbi := BI.inn (d := d) _ h.bi hl (by omega)
  have hpre := bfsIn_pre d (L.getD x []) st
  have keep : ∀ v, 0 ≤ st.1.getD v 0 → _ := fun v hv => bfsIn_keep d v (L.getD x []) st hl' hv
  have new : ∀ v, v < L.length → st.1.getD v 0 < 0 → _ := fun v hv hn => bfsIn_new d (by omega) v (L.getD x []) st hl' (by omega) hn
  refine ⟨hbi, ?_, ?_, ?_, ?_, ?_⟩
  · intro v hv
    by_cases hn : 0 ≤ st.1.getD v 0
    · rw [keep v hn]
      exact ⟨fun _ => hpre.subset ((h.iff v hv).1 hn), fun _ => hn⟩
    · rcases new v hv (by omega) with ⟨h1, h2, h3⟩ | ⟨h1, h2, h3⟩
      · rw [h2]; exact ⟨fun _ => h3, fun _ => by omega⟩
      · rw [h2]; exact ⟨fun g => absurd g hn, fun g => (h.iff v hv).2 (h3 g)⟩
  · intro v hv hp
    by_cases hn : 0 ≤ st.1.getD v 0
    · rw [keep v hn]
      rcases h.src v hv hn with h1 | ⟨u, u1, u2, u3, u4⟩
      · exact .inl h1
      · exact .inr ⟨u, u1, by rw [keep u u2]; exact u2, u3, by rw [keep u u2]; exact u4⟩
    · rcases new v hv (by omega) with ⟨h1, h2, h3⟩ | ⟨h1, h2, h3⟩
      · refine .inr ⟨x, by omega, by rw [keep x hx0]; exact hx0, h1, ?_⟩
        rw [h2, keep x hx0, ← hd]
      · rw [h2] at hp; exact absurd hp hn
  · intro j hj y hy
    have hg : (bfsIn d (L.getD x []) st).2.getD j 0 = st.2.getD j 0 := by
      obtain ⟨t, ht⟩ := hpre
      rw [← ht, List.getD_eq_getElem?_getD, List.getElem?_append_left (by omega), ← List.getD_eq_getElem?_getD]
    rw [hg] at hy
    by_cases hn : 0 ≤ st.1.getD y.toNat 0
    · rw [keep _ hn]; exact hn
    · by_cases e : j = k
      · subst e
        rw [hx] at hy
        have hr := hl y hy
        rcases new y.toNat (by omega) (by omega) with ⟨h1, h2, h3⟩ | ⟨h1, h2, h3⟩
        · rw [h2]; omega
        · rw [Int.toNat_of_nonneg hr.1] at h1; exact absurd hy h1
      · exact absurd (h.cl j (by omega) y hy) hn
  · have := hpre.length_le
    omega
  · rw [keep i h.at_]; exact h.at_
theorem DI.run {L : List (List Int)} (hL : LOk L.length L) {i : Nat} : ∀ (f : Nat) (st : List Int × List Int) (k : Nat), f + k = L.length + 1 → DI L i st k → ∃ q, DI L i (bfsF L f st k, q) q.length
  | 0, st, k, hf, h => by have := h.bi.len_le; have := h.le; omega
  | f + 1, st, k, hf, h => by
    simp only [bfsF]
    split
    · rename_i hk
      exact DI.run hL f _ _ (by omega) (h.step hL hk)
    · have e : k = st.2.length := by have := h.le; omega
      exact ⟨st.2, by rw [← e]; exact h⟩
theorem DI.zero {L : List (List Int)} {i : Nat} (hi : i < L.length) : DI L i (bfs0 L.length i, [(i : Int)]) 0 := by
  have hat : ∀ v, v < L.length → (bfs0 L.length i).getD v 0 = if i = v then 0 else -1 := by
    intro v hv
    unfold bfs0
    rw [getD_setB _ _ _ _ (by simpa using hv)]
    split
    · rfl
    · rw [List.getD_eq_getElem?_getD, List.getElem?_replicate, if_pos hv]; rfl
  refine ⟨bfs0_BI _ i hi, ?_, ?_, fun j hj => absurd hj (Nat.not_lt_zero j), Nat.zero_le _, ?_⟩
  · intro v hv
    show 0 ≤ (bfs0 L.length i).getD v 0 ↔ (v : Int) ∈ [(i : Int)]
    rw [hat v hv, List.mem_singleton]
    split <;> omega
  · intro v hv h
    left
    have h' : 0 ≤ (bfs0 L.length i).getD v 0 := h
    rw [hat v hv] at h'
    show v = i ∧ (bfs0 L.length i).getD v 0 = 0
    rw [hat v hv]
    by_cases e : i = v
    · exact ⟨e.symm, by rw [if_pos e]⟩
    · rw [if_neg e] at h'; omega
  · show 0 ≤ (bfs0 L.length i).getD i 0
    rw [hat i hi, if_pos rfl]; omega
theorem bfs_DI {L : List (List Int)} (hL : LOk L.length L) {i : Nat} (hi : i < L.length) : ∃ q, DI L i (bfs L i, q) q.length := DI.run hL _ _ _ (by omega) (DI.zero hi)
/-- neighbors of what is met are met -/
theorem bfs_clo {L : List (List Int)} (hL : LOk L.length L) {i : Nat} (hi : i < L.length) {u : Nat} (hu : u < L.length) (h0 : 0 ≤ (bfs L i).getD u 0) {y : Int} (hy : y ∈ L.getD u []) : 0 ≤ (bfs L i).getD y.toNat 0 := by
  obtain ⟨q, h⟩ := bfs_DI hL hi
  obtain ⟨j, hj, e⟩ := List.mem_iff_getElem.1 ((h.iff u hu).1 h0)
  refine h.cl j hj y ?_
  have e2 : q.getD j 0 = (u : Int) := by simp [hj, e]
  show y ∈ L.getD (q.getD j 0).toNat []
  rw [e2, Int.toNat_natCast]; exact hy
/-- the distance of a place in the queue -/
def dq (st : List Int × List Int) (a : Nat) : Int := st.1.getD (st.2.getD a 0).toNat 0
theorem bfsIn_mono (d : Int) (hd : 0 ≤ d) : ∀ (l : List Int) (st : List Int × List Int), (∀ y ∈ l, 0 ≤ y ∧ y < st.1.length) → (∀ x ∈ st.2, (0 ≤ x ∧ x < st.1.length) ∧ 0 ≤ st.1.getD x.toNat 0) →
    (∀ a b, a ≤ b → b < st.2.length → dq st a ≤ dq st b) → (∀ b, b < st.2.length → dq st b ≤ d) →
    (∀ a b, a ≤ b → b < (bfsIn d l st).2.length → dq (bfsIn d l st) a ≤ dq (bfsIn d l st) b) ∧ ∀ b, b < (bfsIn d l st).2.length → dq (bfsIn d l st) b ≤ d
  | [], st, _, _, h1, h2 => ⟨h1, h2⟩
  | j :: r, st, hl, hq, h1, h2 => by
    have hj := hl j (by simp)
    simp only [bfsIn]
    split
    · rename_i hn
      have keep : ∀ a, a < st.2.length → dq (st.1.set j.toNat d, st.2 ++ [j]) a = dq st a := by
        intro a ha
        have hm : st.2.getD a 0 ∈ st.2 := by simp [ha]
        have hx := hq _ hm
        unfold dq
        have e1 : (st.2 ++ [j]).getD a 0 = st.2.getD a 0 := by
          rw [List.getD_eq_getElem?_getD, List.getElem?_append_left ha, ← List.getD_eq_getElem?_getD]
        show (st.1.set j.toNat d).getD ((st.2 ++ [j]).getD a 0).toNat 0 = _
        rw [e1, getD_setB _ _ _ _ (by omega), if_neg (fun e => by rw [e] at hn; omega)]
      have last : dq (st.1.set j.toNat d, st.2 ++ [j]) st.2.length = d := by
        unfold dq
        show (st.1.set j.toNat d).getD ((st.2 ++ [j]).getD st.2.length 0).toNat 0 = d
        rw [show (st.2 ++ [j]).getD st.2.length 0 = j by simp, getD_setB _ _ _ _ (by omega), if_pos rfl]
      refine bfsIn_mono d hd r _ (fun y hy => by simpa using hl y (by simp [hy])) ?_ ?_ ?_
      · intro x hx
        rcases List.mem_append.1 hx with hx | hx
        · have := hq x hx
          refine ⟨by simpa using this.1, ?_⟩
          show 0 ≤ (st.1.set j.toNat d).getD x.toNat 0
          rw [getD_setB _ _ _ _ (by omega)]
          split <;> omega
        · rw [List.mem_singleton] at hx; subst hx
          refine ⟨by simpa using hj, ?_⟩
          show 0 ≤ (st.1.set x.toNat d).getD x.toNat 0
          rw [getD_setB _ _ _ _ (by omega), if_pos rfl]; exact hd
      · intro a b hab hb
        have hb' : b < st.2.length + 1 := by simpa using hb
        by_cases eb : b = st.2.length
        · subst eb
          rw [last]
          by_cases ea : a = st.2.length
          · subst ea; rw [last]; exact Int.le_refl _
          · rw [keep a (by omega)]; exact h2 a (by omega)
        · rw [keep b (by omega), keep a (by omega)]; exact h1 a b hab (by omega)
      · intro b hb
        have hb' : b < st.2.length + 1 := by simpa using hb
        by_cases eb : b = st.2.length
        · subst eb; rw [last]; exact Int.le_refl _
        · rw [keep b (by omega)]; exact h2 b (by omega)
    · exact bfsIn_mono d hd r st (fun y hy => hl y (by simp [hy])) hq h1 h2
structure DS (L : List (List Int)) (i : Nat) (st : List Int × List Int) (k : Nat) : Prop where
  di : DI L i st k
  zero : st.1.getD i 0 = 0
  mono : ∀ a b, a ≤ b → b < st.2.length → dq st a ≤ dq st b
  near : ∀ a b, k ≤ a → a < st.2.length → b < st.2.length → dq st b ≤ dq st a + 1
  ed : ∀ a, a < k → ∀ y ∈ L.getD (st.2.getD a 0).toNat [], 0 ≤ st.1.getD y.toNat 0 ∧ st.1.getD y.toNat 0 ≤ dq st a + 1
theorem DS.step {L : List (List Int)} (hL : LOk L.length L) {i : Nat} (hi : i < L.length) {st : List Int × List Int} {k : Nat} (h : DS L i st k) (hk : k < st.2.length) :
    DS L i (bfsIn (st.1.getD (st.2.getD k 0).toNat 0 + 1) (L.getD (st.2.getD k 0).toNat []) st) (k + 1) := by
  have hd1 := h.di.step hL hk
  have hm : st.2.getD k 0 ∈ st.2 := by simp [hk]
  obtain ⟨hxr, hx0⟩ := h.di.bi.q _ hm
  have hlen := h.di.bi.len
  have hl := hL (st.2.getD k 0).toNat
  have hdk : dq st k + 1 = st.1.getD (st.2.getD k 0).toNat 0 + 1 := rfl
  have hl' : ∀ y ∈ L.getD (st.2.getD k 0).toNat [], 0 ≤ y ∧ y < (st.1.length : Int) := by rw [hlen]; exact hl
  have hmono := bfsIn_mono (dq st k + 1) (by unfold dq; omega) _ st hl' (fun x hx => by have := h.di.bi.q x hx; rw [hlen]; exact this) h.mono (fun b hb => h.near k b (Nat.le_refl _) hk hb)
  have hpre := bfsIn_pre (dq st k + 1) (L.getD (st.2.getD k 0).toNat []) st
  have keep : ∀ v, 0 ≤ st.1.getD v 0 → _ := fun v hv => bfsIn_keep (dq st k + 1) v (L.getD (st.2.getD k 0).toNat []) st hl' hv
  have gq : ∀ a, a < st.2.length → (bfsIn (dq st k + 1) (L.getD (st.2.getD k 0).toNat []) st).2.getD a 0 = st.2.getD a 0 := by
    intro a ha
    obtain ⟨t, ht⟩ := hpre
    rw [← ht, List.getD_eq_getElem?_getD, List.getElem?_append_left ha, ← List.getD_eq_getElem?_getD]
  have kq : ∀ a, a < st.2.length → dq (bfsIn (dq st k + 1) (L.getD (st.2.getD k 0).toNat []) st) a = dq st a := by
    intro a ha
    have hma : st.2.getD a 0 ∈ st.2 := by simp [ha]
    unfold dq at *
    rw [gq a ha]
    exact keep _ (h.di.bi.q _ hma).2
  have hpl := hpre.length_le
  rw [← hdk] at hd1 ⊢
  refine ⟨hd1, ?_, hmono.1, ?_, ?_⟩
  · rw [keep i (by rw [h.zero]; exact Int.le_refl _)]; exact h.zero
  · intro a b ha hal hb
    have h1 := hmono.2 b hb
    have h2 := hmono.1 k a (by omega) hal
    rw [kq k hk] at h2
    omega
  · intro a ha y hy
    rw [gq a (by omega)] at hy
    by_cases e : a = k
    · subst e
      rw [kq a hk]
      have hyr := hl y hy
      by_cases hn : 0 ≤ st.1.getD y.toNat 0
      · rw [keep _ hn]
        refine ⟨hn, ?_⟩
        have hin := (h.di.iff y.toNat (by omega)).1 hn
        rw [Int.toNat_of_nonneg hyr.1] at hin
        obtain ⟨b, hb, eb⟩ := List.mem_iff_getElem.1 hin
        have e2 : st.2.getD b 0 = y := by simp [hb, eb]
        have := h.near a b (Nat.le_refl _) hk hb
        have e3 : dq st b = st.1.getD y.toNat 0 := by unfold dq; rw [e2]
        rw [e3] at this; exact this
      · rcases bfsIn_new (dq st a + 1) (by unfold dq; omega) y.toNat _ st hl' (by omega) (by omega) with ⟨_, g2, _⟩ | ⟨g1, _⟩
        · rw [g2]; exact ⟨by unfold dq; omega, Int.le_refl _⟩
        · rw [Int.toNat_of_nonneg hyr.1] at g1; exact absurd hy g1
    · rw [kq a (by omega)]
      have h1 := h.ed a (by omega) y hy
      rw [keep _ h1.1]; exact h1
theorem DS.run {L : List (List Int)} (hL : LOk L.length L) {i : Nat} (hi : i < L.length) : ∀ (f : Nat) (st : List Int × List Int) (k : Nat), f + k = L.length + 1 → DS L i st k → ∃ q, DS L i (bfsF L f st k, q) q.length
  | 0, st, k, hf, h => by have := h.di.bi.len_le; have := h.di.le; omega
  | f + 1, st, k, hf, h => by
    simp only [bfsF]
    split
    · rename_i hk
      exact DS.run hL hi f _ _ (by omega) (h.step hL hi hk)
    · have e : k = st.2.length := by have := h.di.le; omega
      exact ⟨st.2, by rw [← e]; exact h⟩
theorem bfs_DS {L : List (List Int)} (hL : LOk L.length L) {i : Nat} (hi : i < L.length) : ∃ q, DS L i (bfs L i, q) q.length := by
  refine DS.run hL hi _ _ _ (by omega) ⟨DI.zero hi, ?_, ?_, ?_, fun a ha => absurd ha (Nat.not_lt_zero a)⟩
  · show (bfs0 L.length i).getD i 0 = 0
    unfold bfs0
    rw [getD_setB _ _ _ _ (by simpa using hi), if_pos rfl]
  · intro a b hab hb
    have hb' : b < 1 := hb
    have e1 : a = 0 := by omega
    have e2 : b = 0 := by omega
    rw [e1, e2]; exact Int.le_refl _
  · intro a b _ ha hb
    have ha' : a < 1 := ha
    have hb' : b < 1 := hb
    have e1 : a = 0 := by omega
    have e2 : b = 0 := by omega
    rw [e1, e2]; omega
theorem bfs_zero {L : List (List Int)} (hL : LOk L.length L) {i : Nat} (hi : i < L.length) : (bfs L i).getD i 0 = 0 := by
  obtain ⟨q, h⟩ := bfs_DS hL hi
  exact h.zero
end Go.Proofs.Ytjnefjchconebab.Ai
namespace Go.Proofs.Ytjnefjchconebab.Ai
open Go Go.RowKit
set_option linter.unusedVariables false
set_option linter.unusedSimpArgs false
/-- a part of an object -/
theorem sl_own {P : Program} {t e : TypeId} (hu : P.underlying t = some (.slice e)) (hc : P.cellsOf e = 1) {H : AH} {o k n c : Nat} {vs : List Value} {ro : Bool} (ho : H[o]? = some (.cells vs e ro)) {lo hi : Option Value} {l r : Nat} (h1 : boundA lo 0 = some l) (h2 : boundA hi n = some r) (hl : l ≤ r) (hr : r ≤ n) :
    sliceA P t (.slice (some ⟨o, k, none⟩) n c) lo hi none H = some (.slice (some ⟨o, k + l, none⟩) (r - l) (r - l)) := by
  simp only [sliceA, hu, h1, h2, ho, hc, Nat.mul_one]
  rw [if_pos ⟨hl, hr, trivial, Nat.one_pos⟩]
def rpN (N k : Nat) : List Int := List.replicate k (-1) ++ List.replicate (N - k) 0
theorem rpN_len (N k : Nat) (h : k ≤ N) : (rpN N k).length = N := by simp [rpN]; omega
theorem rpN_set (N j : Nat) (hj : j < N) : (rpN N j).set j (-1) = rpN N (j + 1) := by
  unfold rpN
  rw [List.set_append_right _ _ (by simp)]
  obtain ⟨n, hn⟩ : ∃ n, N - j = n + 1 := ⟨N - j - 1, by omega⟩
  rw [hn, List.length_replicate, Nat.sub_self, List.replicate_succ, List.set_cons_zero, List.replicate_succ', List.append_assoc]
  have : N - (j + 1) = n := by omega
  rw [this]; rfl
end Go.Proofs.Ytjnefjchconebab.Ai
namespace Go.Proofs.Ytjnefjchconebab.Ai
open Go
def ords96 : List (Nat × List (Nat × Bool)) := [(16, [(0, false), (1, false), (2, false), (3, false), (4, false), (5, false), (6, false), (7, false), (8, false), (9, false), (10, false), (11, false), (12, false), (13, false), (14, true)])]
def cd96 : Cd := (.seq (.reg [⟨⟨some 4, Op.assign (Operand.const (Value.slice none 0 0)), none⟩, []⟩]) (.seq (.reg [⟨⟨some 11, Op.move (Operand.tmp 0), none⟩, []⟩,
  ⟨⟨some 12, Op.call { callee := (Callee.builtin Builtin.len), args := #[(Operand.tmp 11)], argTypes := #[26] }, none⟩, []⟩,
  ⟨⟨some 13, Op.makeSlice 38 (Operand.tmp 12) (Operand.tmp 12), none⟩, []⟩,
  ⟨⟨some 5, Op.assign (Operand.tmp 13), none⟩, []⟩]) (.seq (.seq (.reg [⟨⟨some 6, Op.assign (Operand.const (Value.int IntKind.i64 0)), none⟩, []⟩]) (.block 0 (.loop (.seq (.seq (.reg [⟨⟨some 14, Op.move (Operand.tmp 6), none⟩, []⟩,
  ⟨⟨some 15, Op.move (Operand.tmp 5), none⟩, []⟩,
  ⟨⟨some 16, Op.call { callee := (Callee.builtin Builtin.len), args := #[(Operand.tmp 15)], argTypes := #[38] }, none⟩, []⟩,
  ⟨⟨some 17, Op.binOp BinOp.lss 3 (Operand.tmp 14) (Operand.tmp 16) 3, none⟩, []⟩]) (.cond (Operand.tmp 17) .skip (.exit 0))) (.seq (.block 1 (.reg [⟨⟨some 20, Op.move (Operand.tmp 5), none⟩, []⟩,
  ⟨⟨some 21, Op.move (Operand.tmp 6), none⟩, []⟩,
  ⟨⟨some 22, Op.indexAddr 38 (Operand.tmp 20) (Operand.tmp 21), none⟩, []⟩,
  ⟨⟨none, Op.store 3 (Operand.tmp 22) (Operand.const (Value.int IntKind.i64 (-1))), none⟩, []⟩])) (.reg [⟨⟨some 18, Op.move (Operand.tmp 6), none⟩, []⟩,
  ⟨⟨some 19, Op.binOp BinOp.add 3 (Operand.tmp 18) (Operand.const (Value.int IntKind.i64 1)) 3, none⟩, []⟩,
  ⟨⟨some 6, Op.assign (Operand.tmp 19), none⟩, []⟩])))))) (.seq (.reg [⟨⟨some 23, Op.move (Operand.tmp 1), none⟩, []⟩,
  ⟨⟨some 24, Op.buildSlice 38 1 #[(0, (Operand.tmp 23))], none⟩, []⟩,
  ⟨⟨some 7, Op.assign (Operand.tmp 24), none⟩, []⟩]) (.seq (.reg [⟨⟨some 25, Op.move (Operand.tmp 5), none⟩, []⟩,
  ⟨⟨some 26, Op.move (Operand.tmp 1), none⟩, []⟩,
  ⟨⟨some 27, Op.indexAddr 38 (Operand.tmp 25) (Operand.tmp 26), none⟩, []⟩,
  ⟨⟨none, Op.store 3 (Operand.tmp 27) (Operand.const (Value.int IntKind.i64 0)), none⟩, []⟩]) (.seq (.seq (.reg [⟨⟨some 8, Op.assign (Operand.const (Value.int IntKind.i64 0)), none⟩, []⟩]) (.block 2 (.loop (.seq (.seq (.reg [⟨⟨some 28, Op.move (Operand.tmp 8), none⟩, []⟩,
  ⟨⟨some 29, Op.move (Operand.tmp 7), none⟩, []⟩,
  ⟨⟨some 30, Op.call { callee := (Callee.builtin Builtin.len), args := #[(Operand.tmp 29)], argTypes := #[38] }, none⟩, []⟩,
  ⟨⟨some 31, Op.binOp BinOp.lss 3 (Operand.tmp 28) (Operand.tmp 30) 3, none⟩, []⟩]) (.cond (Operand.tmp 31) .skip (.exit 2))) (.seq (.block 3 (.seq (.reg [⟨⟨some 34, Op.move (Operand.tmp 0), none⟩, []⟩,
  ⟨⟨some 35, Op.move (Operand.tmp 7), none⟩, []⟩,
  ⟨⟨some 36, Op.move (Operand.tmp 8), none⟩, []⟩,
  ⟨⟨some 37, Op.indexAddr 38 (Operand.tmp 35) (Operand.tmp 36), none⟩, []⟩,
  ⟨⟨some 38, Op.load 3 (Operand.tmp 37), none⟩, []⟩,
  ⟨⟨some 39, Op.indexAddr 26 (Operand.tmp 34) (Operand.tmp 38), none⟩, []⟩,
  ⟨⟨some 40, Op.load 38 (Operand.tmp 39), none⟩, []⟩,
  ⟨⟨some 9, Op.assign (Operand.tmp 40), none⟩, []⟩]) (.seq (.reg [⟨⟨some 10, Op.assign (Operand.const (Value.int IntKind.i64 0)), none⟩, []⟩]) (.block 4 (.loop (.seq (.seq (.reg [⟨⟨some 41, Op.move (Operand.tmp 10), none⟩, []⟩,
  ⟨⟨some 42, Op.move (Operand.tmp 9), none⟩, []⟩,
  ⟨⟨some 43, Op.call { callee := (Callee.builtin Builtin.len), args := #[(Operand.tmp 42)], argTypes := #[38] }, none⟩, []⟩,
  ⟨⟨some 44, Op.binOp BinOp.lss 3 (Operand.tmp 41) (Operand.tmp 43) 3, none⟩, []⟩]) (.cond (Operand.tmp 44) .skip (.exit 4))) (.seq (.block 5 (.seq (.reg [⟨⟨some 47, Op.move (Operand.tmp 5), none⟩, []⟩,
  ⟨⟨some 48, Op.move (Operand.tmp 9), none⟩, []⟩,
  ⟨⟨some 49, Op.move (Operand.tmp 10), none⟩, []⟩,
  ⟨⟨some 50, Op.indexAddr 38 (Operand.tmp 48) (Operand.tmp 49), none⟩, []⟩,
  ⟨⟨some 51, Op.load 3 (Operand.tmp 50), none⟩, []⟩,
  ⟨⟨some 52, Op.indexAddr 38 (Operand.tmp 47) (Operand.tmp 51), none⟩, []⟩,
  ⟨⟨some 53, Op.load 3 (Operand.tmp 52), none⟩, []⟩,
  ⟨⟨some 54, Op.binOp BinOp.lss 3 (Operand.tmp 53) (Operand.const (Value.int IntKind.i64 0)) 3, none⟩, []⟩]) (.cond (Operand.tmp 54) (.seq (.reg [⟨⟨some 55, Op.move (Operand.tmp 5), none⟩, []⟩,
  ⟨⟨some 56, Op.move (Operand.tmp 9), none⟩, []⟩,
  ⟨⟨some 57, Op.move (Operand.tmp 10), none⟩, []⟩,
  ⟨⟨some 58, Op.indexAddr 38 (Operand.tmp 56) (Operand.tmp 57), none⟩, []⟩,
  ⟨⟨some 59, Op.load 3 (Operand.tmp 58), none⟩, []⟩,
  ⟨⟨some 60, Op.move (Operand.tmp 5), none⟩, []⟩,
  ⟨⟨some 61, Op.move (Operand.tmp 7), none⟩, []⟩,
  ⟨⟨some 62, Op.move (Operand.tmp 8), none⟩, []⟩,
  ⟨⟨some 63, Op.indexAddr 38 (Operand.tmp 61) (Operand.tmp 62), none⟩, []⟩,
  ⟨⟨some 64, Op.load 3 (Operand.tmp 63), none⟩, []⟩,
  ⟨⟨some 65, Op.indexAddr 38 (Operand.tmp 60) (Operand.tmp 64), none⟩, []⟩,
  ⟨⟨some 66, Op.load 3 (Operand.tmp 65), none⟩, []⟩,
  ⟨⟨some 67, Op.binOp BinOp.add 3 (Operand.tmp 66) (Operand.const (Value.int IntKind.i64 1)) 3, none⟩, []⟩,
  ⟨⟨some 68, Op.indexAddr 38 (Operand.tmp 55) (Operand.tmp 59), none⟩, []⟩,
  ⟨⟨none, Op.store 3 (Operand.tmp 68) (Operand.tmp 67), none⟩, []⟩]) (.reg [⟨⟨some 69, Op.move (Operand.tmp 7), none⟩, []⟩,
  ⟨⟨some 70, Op.move (Operand.tmp 9), none⟩, []⟩,
  ⟨⟨some 71, Op.move (Operand.tmp 10), none⟩, []⟩,
  ⟨⟨some 72, Op.indexAddr 38 (Operand.tmp 70) (Operand.tmp 71), none⟩, []⟩,
  ⟨⟨some 73, Op.load 3 (Operand.tmp 72), none⟩, []⟩,
  ⟨⟨some 74, Op.buildSlice 38 1 #[(0, (Operand.tmp 73))], none⟩, []⟩,
  ⟨⟨some 75, Op.call { callee := (Callee.builtin Builtin.append), args := #[(Operand.tmp 69), (Operand.tmp 74)], argTypes := #[38, 38] }, none⟩, []⟩,
  ⟨⟨some 7, Op.assign (Operand.tmp 75), none⟩, []⟩])) .skip))) (.reg [⟨⟨some 45, Op.move (Operand.tmp 10), none⟩, []⟩,
  ⟨⟨some 46, Op.binOp BinOp.add 3 (Operand.tmp 45) (Operand.const (Value.int IntKind.i64 1)) 3, none⟩, []⟩,
  ⟨⟨some 10, Op.assign (Operand.tmp 46), none⟩, []⟩])))))))) (.reg [⟨⟨some 32, Op.move (Operand.tmp 8), none⟩, []⟩,
  ⟨⟨some 33, Op.binOp BinOp.add 3 (Operand.tmp 32) (Operand.const (Value.int IntKind.i64 1)) 3, none⟩, []⟩,
  ⟨⟨some 8, Op.assign (Operand.tmp 33), none⟩, []⟩])))))) (.seq (.reg [⟨⟨some 76, Op.move (Operand.tmp 5), none⟩, []⟩,
  ⟨⟨some 4, Op.assign (Operand.tmp 76), none⟩, []⟩]) .ret)))))))
theorem sl96 : slim Try.f96.ntmps ords96 (Try.f96.body.getD .skip) = some cd96 := by kernel_rfl
theorem in96 {args : List Value} {H : AH} {R : Value → AH → Prop} (hl : args.length = 2) (h : ∀ (Q : Exit → Sl → AH → Prop), (∀ e s H, endA Try.prog [ResultVar.tmp 4] R e s H → Q e s H) → wpC Try.prog cd96 Q (enterA args) H) : ACalls Try.prog 96 args H R :=
  ACalls.intro (by kernel_rfl) Try.func96 rfl (by kernel_rfl) sl96 hl (of_decide_eq_true (by kernel_rfl)) (by kernel_rfl) h
end Go.Proofs.Ytjnefjchconebab.Ai
namespace Go.Proofs.Ytjnefjchconebab.Ai
open Go Go.RowKit
set_option linter.unusedVariables false
set_option linter.unusedSimpArgs false
/-- the list of distances and the queue in the heap -/
def QH (H0 H : AH) (oo : Nat) (out : List Int) (oq kq nq : Nat) (q : List Int) : Prop :=
  (∃ zs, H[oq]? = some (.cells (ints zs) 3 false) ∧ (zs.drop kq).take nq = q ∧ kq + nq ≤ zs.length) ∧ H[oo]? = some (.cells (ints out) 3 false) ∧ H0.length ≤ oo ∧ H0.length ≤ oq ∧ oq ≠ oo ∧ H0 <+: H
/-- appending to a part of an object of ints -/
theorem app_q {P : Program} {t e : TypeId} (hu : P.underlying t = some (.slice e)) (hc : P.cellsOf e = 1) (hby : P.bytesOf e ≤ 64) (hz : zeroOk P e = true) {H : AH} {o k n c : Nat} {zs : List Int} {x : Int} (ho : H[o]? = some (.cells (ints zs) e false)) (hn : k + n ≤ zs.length) (hb : n ≤ 1099511627775) :
    appendA P t t (.slice (some ⟨o, k, none⟩) n c) (.slice (some ⟨H.length, 0, none⟩) 1 1) (H ++ [.cells [.int .i64 x] e false]) = some (.slice (some ⟨H.length + 1, 0, none⟩) (n + 1) (n + 1), H.set o .dead ++ [.cells [.int .i64 x] e false, .cells (ints ((zs.drop k).take n ++ [x])) e false]) := by
  have hlt : o < H.length := at_lt ho
  have hb2 : (n + 1) * P.bytesOf e ≤ 140737488355328 := by
    refine Nat.le_trans (Nat.mul_le_mul_left _ hby) ?_
    omega
  have ho2 : (H ++ [AObj.cells [.int .i64 x] e false])[o]? = some (.cells (ints zs) e false) := at_app ho _
  have hsc : sliceCells P e (.slice (some ⟨H.length, 0, none⟩) 1 1) (H ++ [.cells [.int .i64 x] e false]) = some (1, [.int .i64 x]) := by
    simp only [sliceCells, at_new, hc]; simp
  simp only [appendA, hu, hc, hsc, ho2, hz]
  rw [if_pos (by simp), if_neg (by simp), if_pos ⟨trivial, by rw [ints_len]; omega, hb2, by omega, trivial⟩]
  have : List.take (n * 1) (List.drop k (ints zs)) ++ [Value.int .i64 x] = ints ((zs.drop k).take n ++ [x]) := by
    simp [ints, List.map_take, List.map_drop]
  rw [this, List.length_append, List.set_append_left _ _ hlt]
  simp
theorem QH.push {H0 H : AH} {oo : Nat} {out : List Int} {oq kq nq : Nat} {q : List Int} (h : QH H0 H oo out oq kq nq q) (y : Nat) (d x : Int) (hb : nq ≤ 1099511627775) :
    ∃ H2, appendA Try.prog 38 38 (.slice (some ⟨oq, kq, none⟩) nq nq) (.slice (some ⟨(H.set oo (.cells (ints (out.set y d)) 3 false)).length, 0, none⟩) 1 1) (H.set oo (.cells (ints (out.set y d)) 3 false) ++ [.cells [.int .i64 x] 3 false]) = some (.slice (some ⟨(H.set oo (.cells (ints (out.set y d)) 3 false)).length + 1, 0, none⟩) (nq + 1) (nq + 1), H2) ∧
      QH H0 H2 oo (out.set y d) ((H.set oo (.cells (ints (out.set y d)) 3 false)).length + 1) 0 (nq + 1) (q ++ [x]) := by
  obtain ⟨⟨zs, h1, h2, h3⟩, h4, h5, h6, h7, h8⟩ := h
  have hlt := at_lt h4
  generalize hH1 : H.set oo (.cells (ints (out.set y d)) 3 false) = H1
  have l1 : H1.length = H.length := by rw [← hH1]; simp
  have k1 : H1[oq]? = some (.cells (ints zs) 3 false) := by rw [← hH1, List.getElem?_set_ne (fun e => h7 e.symm)]; exact h1
  have k4 : H1[oo]? = some (.cells (ints (out.set y d)) 3 false) := by rw [← hH1]; exact at_set h4
  have hp1 : H0 <+: H1 := by rw [← hH1]; exact pre_set h8 h5 _
  refine ⟨_, app_q Try.underlying38 cs3 (by rw [by3]; decide) zk3 k1 h3 hb, ⟨(zs.drop kq).take nq ++ [x], ?_, ?_, ?_⟩, ?_, h5, ?_, ?_, ?_⟩
  · rw [List.getElem?_append_right (by simp)]
    simp
  · rw [List.drop_zero, h2, List.take_of_length_le]
    rw [← h2]; simp; omega
  · simp; omega
  · rw [List.getElem?_append_left (by simp; omega), List.getElem?_set_ne h7]
    exact k4
  · have := h8.length_le; omega
  · omega
  · exact pre_app (pre_set hp1 h6 _) _
theorem QH.tail {H0 H : AH} {oo : Nat} {out : List Int} {oq kq nq : Nat} {x : Int} {q : List Int} (h : QH H0 H oo out oq kq nq (x :: q)) : QH H0 H oo out oq (kq + 1) (nq - 1) q ∧ cellA H oq kq = some (.int .i64 x) ∧ 0 < nq := by
  obtain ⟨⟨zs, h1, h2, h3⟩, h4⟩ := h
  have hl := congrArg List.length h2
  simp only [List.length_take, List.length_drop, List.length_cons] at hl
  have hk : kq < zs.length := by omega
  obtain ⟨n, rfl⟩ : ∃ n, nq = n + 1 := ⟨nq - 1, by omega⟩
  rw [List.drop_eq_getElem_cons hk, List.take_succ_cons] at h2
  injection h2 with e1 e2
  refine ⟨⟨⟨zs, h1, by simpa using e2, by omega⟩, h4⟩, ?_, by omega⟩
  rw [cell_of h1, ints_at zs hk]
  congr 2
  simp [hk, e1]
theorem bfsIn_drop (d : Int) (l : List Int) (j : Nat) (hj : j < l.length) (st : List Int × List Int) : bfsIn d (l.drop j) st = if st.1.getD (l.getD j 0).toNat 0 < 0 then bfsIn d (l.drop (j + 1)) (st.1.set (l.getD j 0).toNat d, st.2 ++ [l.getD j 0]) else bfsIn d (l.drop (j + 1)) st := by
  have e : l.getD j 0 = l[j] := by simp [hj]
  rw [List.drop_eq_getElem_cons hj, e]
  rfl
theorem QH.at {H0 H : AH} {oo : Nat} {out : List Int} {oq kq nq : Nat} {q : List Int} (h : QH H0 H oo out oq kq nq q) {j : Nat} (hj : j < q.length) : cellA H oq (kq + j) = some (.int .i64 (q.getD j 0)) := by
  obtain ⟨⟨zs, h1, h2, h3⟩, _⟩ := h
  have hl := congrArg List.length h2
  simp only [List.length_take, List.length_drop] at hl
  have hk : kq + j < zs.length := by omega
  rw [cell_of h1, ints_at zs hk]
  congr 2
  rw [← h2, List.getD_eq_getElem?_getD, List.getD_eq_getElem?_getD, List.getElem?_take, if_pos (by omega), List.getElem?_drop]
set_option maxRecDepth 20000 in
set_option maxHeartbeats 4000000 in
theorem l2Spread_c (v : Value) (L : List (List Int)) (i : Nat) (H : AH) {b : Nat} (hr : RowLB b 38 3 H v L) (hL : LOk L.length L) (hN : L.length ≤ 1000000) (hi : i < L.length) (hls : ∀ x, (L.getD x []).length ≤ 1000000000) :
    ACalls Try.prog 96 [v, .int .i64 (i : Int)] H fun r H' => Own 3 H H' r (bfs L i) ∧ H <+: H' := by
  refine in96 rfl ?_
  intro Q hQ
  obtain ⟨us, hus, hvb, hul, hin⟩ := hr
  simp (maxSteps := 1000000) (disch := omega) only [cd96, hus.len Try.underlying26, hul, mks38, Int.toNat_natCast, S, S1, S2, S3, S4, S5, ST, eq_self, reduceIte, reduceCtorEq, Nat.reduceEqDiff, Nat.reduceAdd]
  generalize hZ : H ++ [AObj.cells (ints (List.replicate L.length 0)) 3 false] = Z
  have pZ : H <+: Z := by rw [← hZ]; exact List.prefix_append _ _
  have cZ : Z[H.length]? = some (.cells (ints (List.replicate L.length 0)) 3 false) := by rw [← hZ]; exact at_new ..
  refine LoopH.by (fun m s H' => ∃ j, m + j = L.length ∧ s 0 = v ∧ s 1 = .int .i64 (i : Int) ∧ s 5 = .slice (some ⟨H.length, 0, none⟩) L.length L.length ∧ s 6 = .int .i64 ((j : Nat) : Int) ∧ H' = Z.set H.length (.cells (ints (rpN L.length j)) 3 false)) L.length ?_ ?_
  · refine ⟨0, by omega, rfl, rfl, rfl, rfl, ?_⟩
    have : rpN L.length 0 = List.replicate L.length 0 := by simp [rpN]
    rw [this]
    apply List.ext_getElem?
    intro j
    rw [List.getElem?_set]
    by_cases hj : H.length = j
    · subst hj; rw [if_pos rfl, if_pos (at_lt cZ), cZ]
    · rw [if_neg hj]
  rintro m s H' ⟨j, hm, h0, h1, h5, h6, rfl⟩
  have cJ : (Z.set H.length (.cells (ints (rpN L.length j)) 3 false))[H.length]? = some (.cells (ints (rpN L.length j)) 3 false) := at_set cZ
  simp (maxSteps := 1000000) (disch := omega) only [h0, h1, h5, h6, S, S1, S2, S3, S4, S5, ST, eq_self, reduceIte, reduceCtorEq, Nat.reduceEqDiff, Nat.reduceAdd]
  refine brD.intro (fun g => ?_) (fun g => ?_)
  · have hj : j < (rpN L.length j).length := by rw [rpN_len _ _ (by omega)]; omega
    simp (maxSteps := 1000000) (disch := omega) only [h0, h1, h5, h6, Int.toNat_natCast, Nat.zero_add, st_ints cs3 cJ hj, wrap64, S, S1, S2, S3, S4, S5, ST, eq_self, reduceIte, reduceCtorEq, Nat.reduceEqDiff, Nat.reduceAdd]
    rw [List.set_set, rpN_set _ _ (by omega)]
    refine ⟨m - 1, by omega, j + 1, ?_⟩
    (repeat' apply And.intro) <;> first | (simp only [Value.int.injEq, true_and]; omega) | omega | rfl | assumption | (simp; done) | (simp; omega)
  have hjN : j = L.length := by omega
  subst hjN
  have e3 : rpN L.length L.length = List.replicate L.length (-1) := by simp [rpN]
  rw [e3] at cJ
  rw [e3]
  have pA : H <+: Z.set H.length (.cells (ints (List.replicate L.length (-1))) 3 false) := pre_set pZ (Nat.le_refl _) _
  simp (maxSteps := 1000000) (disch := omega) only [h0, h1, h5, h6, S, S1, S2, S3, S4, S5, ST, eq_self, reduceIte, reduceCtorEq, Nat.reduceEqDiff, Nat.reduceAdd]
  have hlr : i < (List.replicate L.length (-1 : Int)).length := by simpa using hi
  generalize hoo : H.length = oo at *
  generalize hA : Z.set oo (.cells (ints (List.replicate L.length (-1))) 3 false) = A at *
  have cA := at_app cJ [AObj.cells [.int .i64 (i : Int)] 3 false]
  simp (maxSteps := 1000000) (disch := omega) only [h0, h1, h5, h6, Int.toNat_natCast, Nat.zero_add, st_ints cs3 cA hlr, S, S1, S2, S3, S4, S5, ST, eq_self, reduceIte, reduceCtorEq, Nat.reduceEqDiff, Nat.reduceAdd]
  have hb0 : (List.replicate L.length (-1 : Int)).set i 0 = bfs0 L.length i := rfl
  rw [hb0]
  have hltA := at_lt cJ
  have q0 : QH H ((A ++ [AObj.cells [.int .i64 (i : Int)] 3 false]).set oo (.cells (ints (bfs0 L.length i)) 3 false)) oo (bfs0 L.length i) A.length 0 1 [(i : Int)] := by
    refine ⟨⟨[(i : Int)], ?_, rfl, by simp⟩, at_set cA, by omega, pA.length_le, by omega, pre_set (pre_app pA _) (by omega) _⟩
    rw [List.getElem?_set_ne (by omega)]
    exact at_new ..
  refine LoopH.by (fun m s H' => ∃ st k oq, m + k = L.length ∧ s 0 = v ∧ s 5 = .slice (some ⟨oo, 0, none⟩) L.length L.length ∧ s 7 = .slice (some ⟨oq, 0, none⟩) st.2.length st.2.length ∧ s 8 = .int .i64 ((k : Nat) : Int) ∧ k ≤ st.2.length ∧ QH H H' oo st.1 oq 0 st.2.length st.2 ∧ BI L.length st ∧ bfsF L (m + 1) st k = bfs L i) L.length ?_ ?_
  · refine ⟨(bfs0 L.length i, [(i : Int)]), 0, A.length, by omega, ?_⟩
    simp only [S, S1, S2, S3, S4, S5, ST, eq_self, reduceIte, reduceCtorEq, Nat.reduceEqDiff, Nat.reduceAdd, h0, h5]
    have hb0 := bfs0_BI _ i hi
    have hF0 : bfsF L (L.length + 1) (bfs0 L.length i, [(i : Int)]) 0 = bfs L i := rfl
    (repeat' first | exact q0 | exact hb0 | exact hF0 | apply And.intro) <;> first | (simp only [Value.int.injEq, true_and]; omega) | omega | rfl | assumption | (simp; done) | (simp; omega)
  · rintro m s H' ⟨st, k, oq, hm, h0, h5, h7, h8, hkl, hq, hb, hF⟩
    have hle := hb.len_le
    simp (maxSteps := 1000000) (disch := omega) only [h0, h5, h7, h8, S, S1, S2, S3, S4, S5, ST, eq_self, reduceIte, reduceCtorEq, Nat.reduceEqDiff, Nat.reduceAdd]
    refine brD.intro (fun g => ?_) (fun g => ?_)
    · have hk : k < st.2.length := by omega
      rw [bfsF_step L m st k hk] at hF
      have hqm : st.2.getD k 0 ∈ st.2 := by simp [hk]
      obtain ⟨hxr, hx0⟩ := hb.q _ hqm
      have hxl := hb.lo (st.2.getD k 0).toNat (by omega)
      have hcell := hq.at hk
      obtain ⟨x, hx⟩ : ∃ x : Nat, st.2.getD k 0 = x := ⟨(st.2.getD k 0).toNat, by omega⟩
      rw [hx] at hF hxr hx0 hxl hcell
      rw [Int.toNat_natCast] at hF hx0 hxl
      rw [Nat.zero_add] at hcell
      have hpp : H <+: H' := hq.2.2.2.2.2
      have hus' := hus.pre hpp
      have hxu : x < us.length := by omega
      have hinH := (hin x (by omega)).1
      have hlb := hls x
      have hLx := hL x
      simp (maxSteps := 1000000) (disch := omega) only [h0, h5, h7, h8, hcell, hus'.ix Try.underlying26 cs38, hus'.cell, Int.toNat_natCast, Nat.zero_add, S, S1, S2, S3, S4, S5, ST, eq_self, reduceIte, reduceCtorEq, Nat.reduceEqDiff, Nat.reduceAdd]
      generalize hw : us.getD x undef = w at *
      generalize hl : L.getD x [] = l at *
      generalize hd : st.1.getD x 0 + 1 = d at *
      refine LoopH.by (fun m' s' H'' => ∃ j st' oq', m' + j = l.length ∧ s' 0 = v ∧ s' 5 = .slice (some ⟨oo, 0, none⟩) L.length L.length ∧ s' 7 = .slice (some ⟨oq', 0, none⟩) st'.2.length st'.2.length ∧ s' 8 = .int .i64 ((k : Nat) : Int) ∧ s' 9 = w ∧ s' 10 = .int .i64 ((j : Nat) : Int) ∧ QH H H'' oo st'.1 oq' 0 st'.2.length st'.2 ∧ BI L.length st' ∧ st.2 <+: st'.2 ∧ st'.1.getD x 0 + 1 = d ∧ bfsIn d (l.drop j) st' = bfsIn d l st) l.length ?_ ?_
      · refine ⟨0, st, oq, by simp, ?_⟩
        simp only [S, S1, S2, S3, S4, S5, ST, eq_self, reduceIte, reduceCtorEq, Nat.reduceEqDiff, Nat.reduceAdd, h0, h5, h7, h8]
        have hd2 : bfsIn d (l.drop 0) st = bfsIn d l st := by rw [List.drop_zero]
        have hpr := List.prefix_refl st.2
        (repeat' first | exact hq | exact hb | exact hd | exact hd2 | exact hpr | apply And.intro) <;> first | (simp only [Value.int.injEq, true_and]; omega) | omega | rfl | assumption | (simp; done) | (simp; omega)
      · rintro m' s' H'' ⟨j, st', oq', hm', g0, g5, g7, g8, g9, g10, hq', hb', hpre, hd', hB⟩
        have hpp' : H <+: H'' := hq'.2.2.2.2.2
        have hw' := hinH.pre hpp'
        have hle' := hb'.len_le
        simp (maxSteps := 1000000) (disch := omega) only [g0, g5, g7, g8, g9, g10, hw'.len Try.underlying38, S, S1, S2, S3, S4, S5, ST, eq_self, reduceIte, reduceCtorEq, Nat.reduceEqDiff, Nat.reduceAdd]
        refine brD.intro (fun q => ?_) (fun q => ?_)
        · have hj : j < l.length := by omega
          rw [bfsIn_drop d l j hj] at hB
          have hym : l.getD j 0 ∈ l := by simp [hj]
          obtain ⟨y, hy⟩ : ∃ y : Nat, l.getD j 0 = y := ⟨(l.getD j 0).toNat, by have := hLx _ hym; omega⟩
          have hyr := hLx _ hym
          rw [hy] at hB hyr
          rw [Int.toNat_natCast] at hB
          have hoc' := hq'.2.1
          have hlen' := hb'.len
          have hyl : y < st'.1.length := by omega
          have hxl' : x < st'.1.length := by omega
          have hcw := hw'.cell hj
          rw [hy] at hcw
          have hkl' : k < st'.2.length := by have := hpre.length_le; omega
          have hck := hq'.at hkl'
          have hqk : st'.2.getD k 0 = (x : Int) := by
            obtain ⟨t, ht⟩ := hpre
            rw [← ht, List.getD_eq_getElem?_getD, List.getElem?_append_left hk, ← List.getD_eq_getElem?_getD]; exact hx
          rw [hqk, Nat.zero_add] at hck
          simp (maxSteps := 1000000) (disch := omega) only [g0, g5, g7, g8, g9, g10, hw'.ix Try.underlying38 cs3, hcw, Int.toNat_natCast, Nat.zero_add, cell_ints hoc' hyl, S, S1, S2, S3, S4, S5, ST, eq_self, reduceIte, reduceCtorEq, Nat.reduceEqDiff, Nat.reduceAdd]
          refine brD.intro (fun e => ?_) (fun e => ?_)
          · rw [if_pos e] at hB
            have hd0 : 0 ≤ d := by omega
            have hdl : d ≤ st'.2.length := by
              have := hb'.lo x (by omega)
              omega
            have hb2 := hb'.put (j := (y : Int)) (d := d) hyr (by rw [Int.toNat_natCast]; exact e) ⟨hd0, hdl⟩
            rw [Int.toNat_natCast] at hb2
            obtain ⟨H2, k1, k2⟩ := hq'.push y d (y : Int) (by omega)
            have hp2 : H <+: H''.set oo (AObj.cells (ints (st'.1.set y d)) 3 false) := pre_set hpp' (by omega) _
            have hw2 := hinH.pre hp2
            have hcw2 := hw2.cell hj
            rw [hy] at hcw2
            simp (maxSteps := 1000000) (disch := omega) only [g0, g5, g7, g8, g9, g10, hw'.ix Try.underlying38 cs3, hw2.ix Try.underlying38 cs3, hcw, hcw2, hck, Int.toNat_natCast, Nat.zero_add, cell_ints hoc' hxl', hd', st_ints cs3 hoc' hyl, k1, wrap64, S, S1, S2, S3, S4, S5, ST, eq_self, reduceIte, reduceCtorEq, Nat.reduceEqDiff, Nat.reduceAdd]
            have f1 : st.2 <+: st'.2 ++ [(y : Int)] := hpre.trans (List.prefix_append _ _)
            have f2 : (st'.1.set y d).getD x 0 + 1 = d := by
              rw [getD_setB _ _ _ _ hxl']
              split
              · rename_i e2
                subst e2
                have := hb'.lo y (by omega)
                omega
              · exact hd'
            have f3 : (st'.2 ++ [(y : Int)]).length = st'.2.length + 1 := by simp
            rw [← f3] at k2
            refine ⟨m' - 1, by omega, j + 1, (st'.1.set y d, st'.2 ++ [(y : Int)]), (H''.set oo (AObj.cells (ints (st'.1.set y d)) 3 false)).length + 1, ?_⟩
            simp only [f3]
            rw [f3] at k2
            (repeat' first | exact k2 | exact hb2 | exact f1 | exact f2 | exact hB | apply And.intro) <;> first | (simp only [Value.int.injEq, true_and]; omega) | omega | rfl | assumption | (simp; done) | (simp; omega)
          · rw [if_neg e] at hB
            simp (maxSteps := 1000000) (disch := omega) only [g0, g5, g7, g8, g9, g10, wrap64, S, S1, S2, S3, S4, S5, ST, eq_self, reduceIte, reduceCtorEq, Nat.reduceEqDiff, Nat.reduceAdd]
            refine ⟨m' - 1, by omega, j + 1, st', oq', ?_⟩
            (repeat' first | exact hq' | exact hb' | exact hpre | exact hd' | exact hB | apply And.intro) <;> first | (simp only [Value.int.injEq, true_and]; omega) | omega | rfl | assumption | (simp; done) | (simp; omega)
        · simp (maxSteps := 1000000) (disch := omega) only [g0, g5, g7, g8, g9, g10, wrap64, S, S1, S2, S3, S4, S5, ST, eq_self, reduceIte, reduceCtorEq, Nat.reduceEqDiff, Nat.reduceAdd]
          rw [List.drop_of_length_le (by omega)] at hB
          have hB' : st' = bfsIn d l st := hB
          rw [← hB'] at hF
          have hm1 : m - 1 + 1 = m := by omega
          rw [← hm1] at hF
          have hkl' : k + 1 ≤ st'.2.length := by have := hpre.length_le; omega
          refine ⟨m - 1, by omega, st', k + 1, oq', ?_⟩
          (repeat' first | exact hq' | exact hb' | exact hF | exact hkl' | apply And.intro) <;> first | (simp only [Value.int.injEq, true_and]; omega) | omega | rfl | assumption | (simp; done) | (simp; omega)
    · simp (maxSteps := 1000000) (disch := omega) only [h5, S, S1, S2, S3, S4, S5, ST, eq_self, reduceIte, reduceCtorEq, Nat.reduceEqDiff, Nat.reduceAdd]
      refine hQ _ _ _ ?_
      simp (maxSteps := 1000000) (disch := omega) only [h5, S, S1, S2, S3, S4, S5, ST, eq_self, reduceIte, reduceCtorEq, Nat.reduceEqDiff, Nat.reduceAdd]
      rw [bfsF_done L _ st k (by omega)] at hF
      rw [hF] at hq
      have hbl : (bfs L i).length = L.length := by rw [← hF]; exact hb.len
      exact ⟨.inr ⟨oo, by rw [hbl], hq.2.2.1, hq.2.1⟩, hq.2.2.2.2.2⟩
end Go.Proofs.Ytjnefjchconebab.Ai
namespace Go.Proofs.Ytjnefjchconebab.Ai
open Go
def ords95 : List (Nat × List (Nat × Bool)) := []
def cd95 : Cd := (.seq (.reg [⟨⟨some 2, Op.box 31 (Operand.tmp 0), none⟩, []⟩,
  ⟨⟨some 4, Op.assign (Operand.const (Value.slice none 0 0)), none⟩, []⟩]) (.seq (.reg [⟨⟨some 7, Op.buildSlice 38 0 #[], none⟩, []⟩,
  ⟨⟨some 5, Op.assign (Operand.tmp 7), none⟩, []⟩]) (.seq (.seq (.reg [⟨⟨some 6, Op.assign (Operand.const (Value.int IntKind.i64 0)), none⟩, []⟩]) (.block 0 (.loop (.seq (.seq (.reg [⟨⟨some 8, Op.move (Operand.tmp 6), none⟩, []⟩,
  ⟨⟨some 9, Op.fieldAddr 31 (Operand.tmp 2) 0, none⟩, []⟩,
  ⟨⟨some 10, Op.load 3 (Operand.tmp 9), none⟩, []⟩,
  ⟨⟨some 11, Op.binOp BinOp.lss 3 (Operand.tmp 8) (Operand.tmp 10) 3, none⟩, []⟩]) (.cond (Operand.tmp 11) .skip (.exit 0))) (.seq (.block 1 (.seq (.reg [⟨⟨some 14, Op.load 31 (Operand.tmp 2), none⟩, []⟩,
  ⟨⟨some 15, Op.move (Operand.tmp 1), none⟩, []⟩,
  ⟨⟨some 16, Op.move (Operand.tmp 6), none⟩, []⟩,
  ⟨⟨some 17, Op.call { callee := (Callee.value (Operand.func 80)), args := #[(Operand.tmp 14), (Operand.tmp 15), (Operand.tmp 16)], argTypes := #[31, 3, 3] }, none⟩, []⟩]) (.cond (Operand.tmp 17) (.reg [⟨⟨some 18, Op.move (Operand.tmp 5), none⟩, []⟩,
  ⟨⟨some 19, Op.move (Operand.tmp 6), none⟩, []⟩,
  ⟨⟨some 20, Op.buildSlice 38 1 #[(0, (Operand.tmp 19))], none⟩, []⟩,
  ⟨⟨some 21, Op.call { callee := (Callee.builtin Builtin.append), args := #[(Operand.tmp 18), (Operand.tmp 20)], argTypes := #[38, 38] }, none⟩, []⟩,
  ⟨⟨some 5, Op.assign (Operand.tmp 21), none⟩, []⟩]) .skip))) (.reg [⟨⟨some 12, Op.move (Operand.tmp 6), none⟩, []⟩,
  ⟨⟨some 13, Op.binOp BinOp.add 3 (Operand.tmp 12) (Operand.const (Value.int IntKind.i64 1)) 3, none⟩, []⟩,
  ⟨⟨some 6, Op.assign (Operand.tmp 13), none⟩, []⟩])))))) (.seq (.reg [⟨⟨some 22, Op.move (Operand.tmp 5), none⟩, []⟩,
  ⟨⟨some 4, Op.assign (Operand.tmp 22), none⟩, []⟩]) .ret))))
theorem sl95 : slim Try.f95.ntmps ords95 (Try.f95.body.getD .skip) = some cd95 := by kernel_rfl
theorem in95 {args : List Value} {H : AH} {R : Value → AH → Prop} (hl : args.length = 2) (h : ∀ (Q : Exit → Sl → AH → Prop), (∀ e s H, endA Try.prog [ResultVar.tmp 4] R e s H → Q e s H) → wpC Try.prog cd95 Q (enterA args) H) : ACalls Try.prog 95 args H R :=
  ACalls.intro (by kernel_rfl) Try.func95 rfl (by kernel_rfl) sl95 hl (of_decide_eq_true (by kernel_rfl)) (by kernel_rfl) h
def ords74 : List (Nat × List (Nat × Bool)) := []
def cd74 : Cd := (.seq (.reg [⟨⟨some 2, Op.box 31 (Operand.tmp 0), none⟩, []⟩,
  ⟨⟨some 4, Op.assign (Operand.const (Value.slice none 0 0)), none⟩, []⟩]) (.seq (.reg [⟨⟨some 7, Op.fieldAddr 31 (Operand.tmp 2) 0, none⟩, []⟩,
  ⟨⟨some 8, Op.load 3 (Operand.tmp 7), none⟩, []⟩,
  ⟨⟨some 9, Op.makeSlice 26 (Operand.tmp 8) (Operand.tmp 8), none⟩, []⟩,
  ⟨⟨some 5, Op.assign (Operand.tmp 9), none⟩, []⟩]) (.seq (.seq (.reg [⟨⟨some 6, Op.assign (Operand.const (Value.int IntKind.i64 0)), none⟩, []⟩]) (.block 0 (.loop (.seq (.seq (.reg [⟨⟨some 10, Op.move (Operand.tmp 6), none⟩, []⟩,
  ⟨⟨some 11, Op.fieldAddr 31 (Operand.tmp 2) 0, none⟩, []⟩,
  ⟨⟨some 12, Op.load 3 (Operand.tmp 11), none⟩, []⟩,
  ⟨⟨some 13, Op.binOp BinOp.lss 3 (Operand.tmp 10) (Operand.tmp 12) 3, none⟩, []⟩]) (.cond (Operand.tmp 13) .skip (.exit 0))) (.seq (.block 1 (.reg [⟨⟨some 16, Op.move (Operand.tmp 5), none⟩, []⟩,
  ⟨⟨some 17, Op.move (Operand.tmp 6), none⟩, []⟩,
  ⟨⟨some 18, Op.load 31 (Operand.tmp 2), none⟩, []⟩,
  ⟨⟨some 19, Op.move (Operand.tmp 6), none⟩, []⟩,
  ⟨⟨some 20, Op.call { callee := (Callee.value (Operand.func 95)), args := #[(Operand.tmp 18), (Operand.tmp 19)], argTypes := #[31, 3] }, none⟩, []⟩,
  ⟨⟨some 21, Op.indexAddr 26 (Operand.tmp 16) (Operand.tmp 17), none⟩, []⟩,
  ⟨⟨none, Op.store 38 (Operand.tmp 21) (Operand.tmp 20), none⟩, []⟩])) (.reg [⟨⟨some 14, Op.move (Operand.tmp 6), none⟩, []⟩,
  ⟨⟨some 15, Op.binOp BinOp.add 3 (Operand.tmp 14) (Operand.const (Value.int IntKind.i64 1)) 3, none⟩, []⟩,
  ⟨⟨some 6, Op.assign (Operand.tmp 15), none⟩, []⟩])))))) (.seq (.reg [⟨⟨some 22, Op.move (Operand.tmp 5), none⟩, []⟩,
  ⟨⟨some 23, Op.move (Operand.tmp 1), none⟩, []⟩,
  ⟨⟨some 24, Op.call { callee := (Callee.value (Operand.func 96)), args := #[(Operand.tmp 22), (Operand.tmp 23)], argTypes := #[26, 3] }, none⟩, []⟩,
  ⟨⟨some 4, Op.assign (Operand.tmp 24), none⟩, []⟩]) .ret))))
theorem sl74 : slim Try.f74.ntmps ords74 (Try.f74.body.getD .skip) = some cd74 := by kernel_rfl
theorem in74 {args : List Value} {H : AH} {R : Value → AH → Prop} (hl : args.length = 2) (h : ∀ (Q : Exit → Sl → AH → Prop), (∀ e s H, endA Try.prog [ResultVar.tmp 4] R e s H → Q e s H) → wpC Try.prog cd74 Q (enterA args) H) : ACalls Try.prog 74 args H R :=
  ACalls.intro (by kernel_rfl) Try.func74 rfl (by kernel_rfl) sl74 hl (of_decide_eq_true (by kernel_rfl)) (by kernel_rfl) h
end Go.Proofs.Ytjnefjchconebab.Ai
namespace Go.Proofs.Ytjnefjchconebab.Ai
open Go Go.RowKit
set_option linter.unusedVariables false
set_option linter.unusedSimpArgs false
theorem mk_nils {P : Program} {t e : TypeId} (hu : P.underlying t = some (.slice e)) (hc : P.cellsOf e = 1) (hby : P.bytesOf e ≤ 64) (hz : zeroA P e = some (.slice none 0 0)) {n : Int} (h0 : 0 ≤ n) (h1 : n ≤ 1099511627776) (H : AH) :
    makeSliceA P t (.int .i64 n) (.int .i64 n) H = some (.slice (some ⟨H.length, 0, none⟩) n.toNat n.toNat, H ++ [.cells (List.replicate n.toNat (.slice none 0 0)) e false]) := by
  have hb2 : n.toNat * P.bytesOf e ≤ 281474976710656 := by
    refine Nat.le_trans (Nat.mul_le_mul_left _ hby) ?_
    omega
  have hzc : (Value.slice none 0 0).cells = #[.slice none 0 0] := rfl
  have hzs : zerosA (.slice none 0 0) (n.toNat * 1) = List.replicate n.toNat (.slice none 0 0) := by
    unfold zerosA
    rw [hzc, Nat.mul_one]
    apply List.ext_getElem
    · simp
    · intro i h1 h2
      simp [Nat.mod_one]
  simp only [makeSliceA, hu, hc, hz]
  rw [if_pos ⟨trivial, h0, by omega, hb2, by omega⟩, if_pos ⟨by simp [plainCs, hzc, plainC], by simp [hzc]⟩, hzs]
/-- the lists of neighbors -/
def roadsL (n : Nat) (es : List (Int × Int)) : List (List Int) := (List.range n).map fun x : Nat => nbsU es (x : Int) n
theorem roadsL_len (n : Nat) (es : List (Int × Int)) : (roadsL n es).length = n := by simp [roadsL]
theorem roadsL_at (n : Nat) (es : List (Int × Int)) (i : Nat) (hi : i < n) : (roadsL n es).getD i [] = nbsU es i n := by
  unfold roadsL
  rw [List.getD_eq_getElem?_getD, List.getElem?_map, List.getElem?_range hi]; rfl
theorem roadsL_out (n : Nat) (es : List (Int × Int)) (i : Nat) (hi : ¬ i < n) : (roadsL n es).getD i [] = [] := by
  rw [List.getD_eq_getElem?_getD, List.getElem?_eq_none (by rw [roadsL_len]; omega)]; rfl
theorem roadsL_ok (n : Nat) (es : List (Int × Int)) : LOk (roadsL n es).length (roadsL n es) := by
  intro i y hy
  rw [roadsL_len]
  by_cases hi : i < n
  · rw [roadsL_at n es i hi] at hy
    exact ((nbsU_mem es i n y).1 hy).1
  · rw [roadsL_out n es i hi] at hy
    simp at hy
theorem roadsL_small (n : Nat) (es : List (Int × Int)) (hn : n ≤ 1000000000) (x : Nat) : ((roadsL n es).getD x []).length ≤ 1000000000 := by
  by_cases hi : x < n
  · rw [roadsL_at n es x hi]
    have := nbsU_len es x n
    omega
  · rw [roadsL_out n es x hi]; simp
set_option maxRecDepth 20000 in
set_option maxHeartbeats 1000000 in
theorem l2Neighbors_c (n : Int) (v : Value) (es : List (Int × Int)) (x : Int) (H : AH) (hr : RowP 66 H v es) (hlen : es.length ≤ 1099511627776) (hn : 0 ≤ n ∧ n ≤ 8) :
    ACalls Try.prog 95 [.agg (List.toArray [.int .i64 n, v]), .int .i64 x] H fun r H' => Own 3 H H' r (nbsU es x n.toNat) ∧ H <+: H' := by
  refine in95 rfl ?_
  intro Q hQ
  simp (maxSteps := 1000000) (disch := omega) only [cd95, hr.boxG, S, S1, S2, S3, S4, S5, ST, eq_self, reduceIte, reduceCtorEq, Nat.reduceEqDiff, Nat.reduceAdd]
  generalize hA : H ++ [AObj.cells [.int .i64 n, v] 31 false] = A
  have pA : H <+: A := by rw [← hA]; exact List.prefix_append _ _
  have cA : A[H.length]? = some (.cells [.int .i64 n, v] 31 false) := by rw [← hA]; exact at_new ..
  have rA := hr.pre pA
  try simp (maxSteps := 1000000) (disch := omega) only [S, S1, S2, S3, S4, S5, ST, eq_self, reduceIte, reduceCtorEq, Nat.reduceEqDiff, Nat.reduceAdd]
  refine LoopH.by (fun m s H' => ∃ i, m + i = n.toNat ∧ s 1 = .int .i64 x ∧ s 2 = .pointer (some ⟨H.length, 0, none⟩) ∧ s 6 = .int .i64 ((i : Nat) : Int) ∧ Own 3 A H' (s 5) (nbsU es x i) ∧ A <+: H') n.toNat ?_ ?_
  · exact ⟨0, by simp, rfl, rfl, rfl, .inr ⟨A.length, rfl, Nat.le_refl _, at_new ..⟩, List.prefix_append _ _⟩
  · rintro m s H' ⟨i, hm, h1, h2, h6, ho, hp⟩
    have hr' := rA.pre hp
    have cH := pre_at hp cA
    have hl := nbsU_len es x i
    have hst : nbsU es x (i + 1) = nbsU es x i ++ if nearB es x i = true then [(i : Int)] else [] := rfl
    generalize hw : s 5 = w at *
    simp (maxSteps := 1000000) (disch := omega) only [h1, h2, h6, hw, cell_of cH, S, S1, S2, S3, S4, S5, ST, eq_self, reduceIte, reduceCtorEq, Nat.reduceEqDiff, Nat.reduceAdd]
    refine brD.intro (fun g => ?_) (fun g => ?_)
    · simp (maxSteps := 1000000) (disch := omega) only [h1, h2, h6, hw, ld_agg ag31 cs31 cH, S, S1, S2, S3, S4, S5, ST, eq_self, reduceIte, reduceCtorEq, Nat.reduceEqDiff, Nat.reduceAdd]
      refine CallH.by (l2Near_c n v es x i H' hr' hlen) ?_
      rintro _ B ⟨rfl, pB⟩
      have hoB := ho.pre pB
      have hpB := hp.trans pB
      simp (maxSteps := 1000000) (disch := omega) only [S, S1, S2, S3, S4, S5, ST, eq_self, reduceIte, reduceCtorEq, Nat.reduceEqDiff, Nat.reduceAdd]
      refine brH.intro (fun e2 => ?_) (fun e2 => ?_)
      · obtain ⟨w', H2, k1, k2, k3, k4, k5, k6⟩ := own1_38 hoB hpB (by omega) (i : Int)
        simp (maxSteps := 1000000) (disch := omega) only [e2, h1, h2, h6, hw, k1, wrap64, S, S1, S2, S3, S4, S5, ST, eq_self, reduceIte, reduceCtorEq, Nat.reduceEqDiff, Nat.reduceAdd]
        rw [if_pos e2] at hst
        rw [← hst] at k2
        refine ⟨m - 1, by omega, i + 1, ?_⟩
        (repeat' first | exact k2 | exact k3 | apply And.intro) <;> first | (simp only [Value.int.injEq, true_and]; omega) | omega | rfl | assumption | (simp; done) | (simp; omega)
      · simp (maxSteps := 1000000) (disch := omega) only [e2, h1, h2, h6, hw, wrap64, S, S1, S2, S3, S4, S5, ST, eq_self, reduceIte, reduceCtorEq, Nat.reduceEqDiff, Nat.reduceAdd]
        rw [if_neg (by simpa using e2), List.append_nil] at hst
        rw [← hst] at hoB
        refine ⟨m - 1, by omega, i + 1, ?_⟩
        (repeat' first | exact hoB | exact hpB | apply And.intro) <;> first | (simp only [Value.int.injEq, true_and]; omega) | omega | rfl | assumption | (simp; done) | (simp; omega)
    · simp (maxSteps := 1000000) (disch := omega) only [hw, S, S1, S2, S3, S4, S5, ST, eq_self, reduceIte, reduceCtorEq, Nat.reduceEqDiff, Nat.reduceAdd]
      refine hQ _ _ _ ?_
      simp (maxSteps := 1000000) (disch := omega) only [hw, ho.row.tup, S, S1, S2, S3, S4, S5, ST, eq_self, reduceIte, reduceCtorEq, Nat.reduceEqDiff, Nat.reduceAdd]
      have : i = n.toNat := by omega
      subst this
      exact ⟨ho.base pA, pA.trans hp⟩
set_option maxRecDepth 20000 in
set_option maxHeartbeats 2000000 in
theorem l3Far_c (n : Int) (v : Value) (es : List (Int × Int)) (i : Nat) (H : AH) (hr : RowP 66 H v es) (hlen : es.length ≤ 1099511627776) (hn : 0 ≤ n ∧ n ≤ 8) (hi : (i : Int) < n) :
    ACalls Try.prog 74 [.agg (List.toArray [.int .i64 n, v]), .int .i64 (i : Int)] H fun r H' => Own 3 H H' r (bfs (roadsL n.toNat es) i) ∧ H <+: H' := by
  refine in74 rfl ?_
  intro Q hQ
  simp (maxSteps := 1000000) (disch := omega) only [cd74, hr.boxG, S, S1, S2, S3, S4, S5, ST, eq_self, reduceIte, reduceCtorEq, Nat.reduceEqDiff, Nat.reduceAdd]
  generalize hA : H ++ [AObj.cells [.int .i64 n, v] 31 false] = A
  have pA : H <+: A := by rw [← hA]; exact List.prefix_append _ _
  have cA : A[H.length]? = some (.cells [.int .i64 n, v] 31 false) := by rw [← hA]; exact at_new ..
  have rA := hr.pre pA
  have mk := mk_nils (P := Try.prog) (t := 26) Try.underlying26 cs38 (by rw [by38]; decide) ze38 hn.1 (by omega)
  simp (maxSteps := 1000000) (disch := omega) only [cell_of cA, mk, S, S1, S2, S3, S4, S5, ST, eq_self, reduceIte, reduceCtorEq, Nat.reduceEqDiff, Nat.reduceAdd]
  have z0 := at_new A (.cells (List.replicate n.toNat (.slice none 0 0)) 38 false)
  refine LoopH.by (fun m s H' => ∃ j us, m + j = n.toNat ∧ s 1 = .int .i64 (i : Int) ∧ s 2 = .pointer (some ⟨H.length, 0, none⟩) ∧ s 5 = .slice (some ⟨A.length, 0, none⟩) n.toNat n.toNat ∧ s 6 = .int .i64 ((j : Nat) : Int) ∧ us.length = n.toNat ∧ H'[A.length]? = some (.cells us 38 false) ∧ (∀ x, x < j → Row 3 H' (us.getD x undef) (nbsU es x n.toNat) ∧ (us.getD x undef = .slice none 0 0 ∨ A.length < rowO (us.getD x undef))) ∧ A <+: H') n.toNat ?_ ?_
  · exact ⟨0, List.replicate n.toNat (.slice none 0 0), by simp, rfl, rfl, rfl, rfl, by simp, z0, fun x hx => absurd hx (Nat.not_lt_zero x), List.prefix_append _ _⟩
  · rintro m s H' ⟨j, us, hm, h1, h2, h5, h6, hul, hc, hrows, hp⟩
    have hr' := rA.pre hp
    have cH := pre_at hp cA
    simp (maxSteps := 1000000) (disch := omega) only [h1, h2, h5, h6, cell_of cH, S, S1, S2, S3, S4, S5, ST, eq_self, reduceIte, reduceCtorEq, Nat.reduceEqDiff, Nat.reduceAdd]
    refine brD.intro (fun g => ?_) (fun g => ?_)
    · simp (maxSteps := 1000000) (disch := omega) only [h1, h2, h5, h6, ld_agg ag31 cs31 cH, S, S1, S2, S3, S4, S5, ST, eq_self, reduceIte, reduceCtorEq, Nat.reduceEqDiff, Nat.reduceAdd]
      refine CallH.by (l2Neighbors_c n v es j H' hr' hlen hn) ?_
      rintro b D ⟨hb, pD⟩
      have hcD := pre_at pD hc
      have hju : j < us.length := by omega
      have hsh := hb.row.shape
      obtain ⟨q, eq⟩ := hsh
      have t1 : isTup b = false := by rw [eq]; rfl
      have t2 : b.cells.toList = [b] := by rw [eq]; rfl
      have hst := st_at (P := Try.prog) (t := 38) cs38 hcD hju t1 t2
      simp (maxSteps := 1000000) (disch := omega) only [h1, h2, h5, h6, Int.toNat_natCast, Nat.zero_add, hst, wrap64, S, S1, S2, S3, S4, S5, ST, eq_self, reduceIte, reduceCtorEq, Nat.reduceEqDiff, Nat.reduceAdd]
      have hlt := at_lt hc
      have f0 := at_set (d := .cells (us.set j b) 38 false) hcD
      have f1 : A <+: D.set A.length (.cells (us.set j b) 38 false) := pre_set (hp.trans pD) (Nat.le_refl _) _
      have keep : ∀ {w : Value} {l : List Int}, Row 3 D w l → (w = .slice none 0 0 ∨ A.length < rowO w) → Row 3 (D.set A.length (.cells (us.set j b) 38 false)) w l := by
        intro w l hw ha
        rcases ha with ha | ha
        · rcases hw with hw | ⟨o, k, vs, ro, e1, _⟩
          · exact .inl hw
          · rw [e1] at ha; cases ha
        · exact hw.mono fun y hy => by rw [List.getElem?_set_ne (by omega)]; exact hy
      have hbo : b = .slice none 0 0 ∨ A.length < rowO b := by
        rcases hb with ⟨q, _⟩ | ⟨o, q, ho, _⟩
        · exact .inl q
        · refine .inr ?_
          rw [q]
          show A.length < o
          omega
      have f2 : ∀ x, x < j + 1 → Row 3 (D.set A.length (.cells (us.set j b) 38 false)) ((us.set j b).getD x undef) (nbsU es x n.toNat) ∧ ((us.set j b).getD x undef = .slice none 0 0 ∨ A.length < rowO ((us.set j b).getD x undef)) := by
        intro x hx
        have hsx : (us.set j b).getD x undef = if j = x then b else us.getD x undef := by
          rw [List.getD_eq_getElem?_getD, List.getD_eq_getElem?_getD, List.getElem?_set]
          by_cases h : j = x
          · subst h; rw [if_pos rfl, if_pos rfl, if_pos hju]; rfl
          · rw [if_neg h, if_neg h]
        rw [hsx]
        split
        · rename_i e
          subst e
          exact ⟨keep hb.row hbo, hbo⟩
        · rename_i e
          obtain ⟨q1, q2⟩ := hrows x (by omega)
          exact ⟨keep (q1.pre pD) q2, q2⟩
      have f3 : (us.set j b).length = n.toNat := by simp [hul]
      refine ⟨m - 1, by omega, j + 1, us.set j b, ?_⟩
      (repeat' first | exact f0 | exact f1 | exact f2 | exact f3 | apply And.intro) <;> first | (simp only [Value.int.injEq, true_and]; omega) | omega | rfl | assumption | (simp; done) | (simp; omega)
    · have hj : j = n.toNat := by omega
      have hrow : RowLB H'.length 38 3 H' (.slice (some ⟨A.length, 0, none⟩) n.toNat n.toNat) (roadsL n.toNat es) := by
        refine ⟨us, .inr ⟨A.length, 0, us, false, by rw [hul], hc, by omega, by rw [List.drop_zero, List.take_of_length_le (Nat.le_refl _)]⟩, .inr (at_lt hc), by rw [roadsL_len, hul], fun x hx => ?_⟩
        rw [roadsL_len] at hx
        obtain ⟨q1, q2⟩ := hrows x (by omega)
        rw [roadsL_at _ _ _ hx]
        refine ⟨q1, ?_⟩
        rcases q1.nil with q | q
        · exact .inl q.1
        · exact .inr q
      simp (maxSteps := 1000000) (disch := omega) only [h1, h2, h5, h6, S, S1, S2, S3, S4, S5, ST, eq_self, reduceIte, reduceCtorEq, Nat.reduceEqDiff, Nat.reduceAdd]
      refine CallH.by (l2Spread_c _ (roadsL n.toNat es) i H' hrow (roadsL_ok _ _) (by rw [roadsL_len]; omega) (by rw [roadsL_len]; omega) (roadsL_small _ _ (by omega))) ?_
      rintro u E ⟨hu, pE⟩
      have hpp := pA.trans hp
      simp (maxSteps := 1000000) (disch := omega) only [S, S1, S2, S3, S4, S5, ST, eq_self, reduceIte, reduceCtorEq, Nat.reduceEqDiff, Nat.reduceAdd]
      refine hQ _ _ _ ?_
      simp (maxSteps := 1000000) (disch := omega) only [hu.row.tup, S, S1, S2, S3, S4, S5, ST, eq_self, reduceIte, reduceCtorEq, Nat.reduceEqDiff, Nat.reduceAdd]
      exact ⟨hu.base hpp, hpp.trans pE⟩
end Go.Proofs.Ytjnefjchconebab.Ai
namespace Go.Proofs.Ytjnefjchconebab.Ai
open Go Go.RowKit
set_option linter.unusedVariables false
set_option linter.unusedSimpArgs false
/-- all numbers below one -/
def alls (n : Nat) : List Int := (List.range n).map fun z : Nat => (z : Int)
theorem alls_mem (n : Nat) (z : Int) : z ∈ alls n ↔ 0 ≤ z ∧ z < n := by
  unfold alls
  rw [List.mem_map]
  constructor
  · rintro ⟨a, ha, rfl⟩
    have := List.mem_range.1 ha
    omega
  · rintro ⟨h1, h2⟩
    exact ⟨z.toNat, List.mem_range.2 (by omega), by omega⟩
end Go.Proofs.Ytjnefjchconebab.Ai
namespace Go.Proofs.Ytjnefjchconebab.Ai
open Go
set_option linter.unusedVariables false
/-- the edges with some numbers -/
def prtG (es : List (Int × Int)) (T : List Int) : List (Int × Int) := T.map fun e => es.getD e.toNat (0, 0)
/-- numbers of edges -/
def EdIn (es : List (Int × Int)) (T : List Int) : Prop := ∀ e ∈ T, 0 ≤ e ∧ e < es.length
theorem EdIn.sub {es : List (Int × Int)} {T U : List Int} (h : EdIn es T) (hs : ∀ x ∈ U, x ∈ T) : EdIn es U := fun e he => h e (hs e he)
theorem en_eq {n : Int} {es : List (Int × Int)} (hg : Grd n es) {e : Int} (h : 0 ≤ e ∧ e < es.length) : es.getD e.toNat (0, 0) = ((enA es e : Int), (enB es e : Int)) ∧ enA es e < enB es e ∧ (enB es e : Int) < n := by
  have hl : e.toNat < es.length := by omega
  have hm : es.getD e.toNat (0, 0) ∈ es := by simp [hl]
  have := grd_mem hg hm
  unfold enA enB
  refine ⟨Prod.ext ?_ ?_, ?_, ?_⟩
  · show _ = (((es.getD e.toNat (0, 0)).1.toNat : Nat) : Int); omega
  · show _ = (((es.getD e.toNat (0, 0)).2.toNat : Nat) : Int); omega
  · omega
  · omega
theorem EdIn.ends {n : Nat} {es : List (Int × Int)} (hg : Grd (n : Int) es) {T : List Int} (h : EdIn es T) : EndsIn es T n := fun e he => by
  have := en_eq hg (h e he)
  omega
theorem prt_near {n : Int} {es : List (Int × Int)} (hg : Grd n es) {T : List Int} (hT : EdIn es T) (a b : Int) : nearB (prtG es T) a b = true ↔ ∃ e ∈ T, (a = enA es e ∧ b = enB es e) ∨ (b = enA es e ∧ a = enB es e) := by
  rw [nearB_iff]
  unfold prtG
  rw [List.mem_map, List.mem_map]
  constructor
  · rintro (⟨e, he, q⟩ | ⟨e, he, q⟩)
    · rw [(en_eq hg (hT e he)).1, Prod.mk.injEq] at q
      exact ⟨e, he, .inl ⟨q.1.symm, q.2.symm⟩⟩
    · rw [(en_eq hg (hT e he)).1, Prod.mk.injEq] at q
      exact ⟨e, he, .inr ⟨q.1.symm, q.2.symm⟩⟩
  · rintro ⟨e, he, ⟨q1, q2⟩ | ⟨q1, q2⟩⟩
    · exact .inl ⟨e, he, by rw [(en_eq hg (hT e he)).1, q1, q2]⟩
    · exact .inr ⟨e, he, by rw [(en_eq hg (hT e he)).1, q1, q2]⟩
theorem Rch.trans {adj : Int → Int → Prop} {S : Int → Prop} {x y z : Int} (h : Rch adj S x y) (k : Rch adj S y z) : Rch adj S x z := by
  induction k with
  | refl => exact h
  | step _ h1 h2 ih => exact .step ih h1 h2
theorem Rch.back {adj : Int → Int → Prop} {S : Int → Prop} (hs : ∀ a b, adj a b → adj b a) {x z : Int} (h : Rch adj S x z) (hx : S x) : Rch adj S z x := by
  induction h with
  | refl => exact .refl
  | step h0 h1 h2 ih => exact (Rch.step .refl (hs _ _ h1) (h0.in_ hx)).trans ih
theorem jn_rch {n : Nat} {es : List (Int × Int)} (hg : Grd (n : Int) es) {T : List Int} (hT : EdIn es T) {x : Nat} (hx : x < n) (z' : Int) :
    Rch (fun a b => nearB (prtG es T) a b = true) (· ∈ alls n) (x : Int) z' ↔ ∃ z : Nat, z' = z ∧ z < n ∧ Jn es T x z := by
  have ends := hT.ends hg
  constructor
  · intro h
    induction h with
    | refl => exact ⟨x, rfl, hx, .refl x⟩
    | step _ h1 h2 ih =>
      obtain ⟨z, rfl, hz, hj⟩ := ih
      obtain ⟨e, he, q⟩ := (prt_near hg hT _ _).1 h1
      have hm := ends e he
      rcases q with ⟨q1, q2⟩ | ⟨q1, q2⟩
      · have : z = enA es e := by omega
        subst this
        exact ⟨enB es e, q2, hm.2, hj.trans (.edge e he)⟩
      · have : z = enB es e := by omega
        subst this
        exact ⟨enA es e, q1, hm.1, hj.trans (.symm (.edge e he))⟩
  · rintro ⟨z, rfl, hz, hj⟩
    have key : ∀ {u v : Nat}, Jn es T u v → u < n → Rch (fun a b => nearB (prtG es T) a b = true) (· ∈ alls n) (u : Int) (v : Int) := by
      intro u v h
      induction h with
      | refl y => intro _; exact .refl
      | edge e he => intro _; exact .step .refl ((prt_near hg hT _ _).2 ⟨e, he, .inl ⟨rfl, rfl⟩⟩) ((alls_mem _ _).2 (by have := ends e he; omega))
      | symm h ih => intro hu; exact (ih ((Jn.in_ ends h).2 hu)).back (fun a b hab => by rw [nearB_comm]; exact hab) ((alls_mem _ _).2 (by have := (Jn.in_ ends h).2 hu; omega))
      | trans h1 h2 i1 i2 => intro hu; exact (i1 hu).trans (i2 ((Jn.in_ ends h1).1 hu))
    exact key hj hx
/-- joined, as the search tells -/
def jnB (es : List (Int × Int)) (n : Nat) (T : List Int) (a b : Nat) : Bool := decide (0 ≤ (bfs (roadsL n (prtG es T)) a).getD b 0)
theorem jnB_iff {n : Nat} {es : List (Int × Int)} (hg : Grd (n : Int) es) {T : List Int} (hT : EdIn es T) {i j : Nat} (hi : i < n) (hj : j < n) : jnB es n T i j = true ↔ Jn es T i j := by
  have hL := roadsL_ok n (prtG es T)
  have hl := roadsL_len n (prtG es T)
  have hi' : i < (roadsL n (prtG es T)).length := by omega
  unfold jnB
  rw [decide_eq_true_eq]
  have hadj : ∀ u, u < n → ∀ y, y ∈ (roadsL n (prtG es T)).getD u [] ↔ ((0 ≤ y ∧ y < n) ∧ nearB (prtG es T) u y = true) := fun u hu y => by rw [roadsL_at _ _ _ hu, nbsU_mem]
  constructor
  · obtain ⟨q, h⟩ := bfs_DS hL hi'
    have key : ∀ (d v : Nat), v < n → (bfs (roadsL n (prtG es T)) i).getD v 0 = d → Jn es T i v := by
      intro d
      induction d with
      | zero =>
        intro v hv hd
        rcases h.di.src v (by omega) (show 0 ≤ (bfs (roadsL n (prtG es T)) i).getD v 0 by omega) with ⟨e, _⟩ | ⟨u, u1, u2, u3, u4⟩
        · subst e; exact .refl _
        · have u2' : 0 ≤ (bfs (roadsL n (prtG es T)) i).getD u 0 := u2
          have u4' : (bfs (roadsL n (prtG es T)) i).getD v 0 = (bfs (roadsL n (prtG es T)) i).getD u 0 + 1 := u4
          omega
      | succ d ih =>
        intro v hv hd
        rcases h.di.src v (by omega) (show 0 ≤ (bfs (roadsL n (prtG es T)) i).getD v 0 by omega) with ⟨_, e⟩ | ⟨u, u1, u2, u3, u4⟩
        · have e' : (bfs (roadsL n (prtG es T)) i).getD v 0 = 0 := e
          omega
        · have u4' : (bfs (roadsL n (prtG es T)) i).getD v 0 = (bfs (roadsL n (prtG es T)) i).getD u 0 + 1 := u4
          have hu : u < n := by omega
          have hj := ih u hu (by omega)
          obtain ⟨e, he, c⟩ := (prt_near hg hT _ _).1 ((hadj u hu _).1 u3).2
          rcases c with ⟨c1, c2⟩ | ⟨c1, c2⟩
          · have e1 : u = enA es e := by omega
            have e2 : v = enB es e := by omega
            rw [e2]; exact (e1 ▸ hj).trans (.edge e he)
          · have e1 : u = enB es e := by omega
            have e2 : v = enA es e := by omega
            rw [e2]; exact (e1 ▸ hj).trans (.symm (.edge e he))
    intro h0
    exact key _ j hj (Int.toNat_of_nonneg h0).symm
  · intro hjn
    have hr := (jn_rch hg hT hi (j : Int)).2 ⟨j, rfl, hj, hjn⟩
    have key : ∀ z : Int, Rch (fun a b => nearB (prtG es T) a b = true) (· ∈ alls n) (i : Int) z → (0 ≤ z ∧ z < n) ∧ 0 ≤ (bfs (roadsL n (prtG es T)) i).getD z.toNat 0 := by
      intro z h
      induction h with
      | refl => refine ⟨by omega, ?_⟩; rw [Int.toNat_natCast, bfs_zero hL hi']; omega
      | step _ h1 h2 ih =>
        have hz := (alls_mem _ _).1 h2
        refine ⟨hz, bfs_clo hL hi' (by omega) ih.2 ((hadj _ (by omega) _).2 ⟨hz, ?_⟩)⟩
        rw [Int.toNat_of_nonneg ih.1.1]; exact h1
    have := (key _ hr).2
    rwa [Int.toNat_natCast] at this
/-- a tree, as the programs tell -/
def TreL (n : Nat) (es : List (Int × Int)) (T : List Int) : Prop := T.length + 1 = n ∧ T.Pairwise (· < ·) ∧ EdIn es T ∧ Conn es T n
theorem TreL.tree {n : Nat} {es : List (Int × Int)} {T : List Int} (hg : Grd (n : Int) es) (h : TreL n es T) : Tree es T n :=
  ⟨h.2.1.imp fun q e => by omega, h.1, h.2.2.2, h.2.2.1.ends hg⟩
end Go.Proofs.Ytjnefjchconebab.Ai
namespace Go.Proofs.Ytjnefjchconebab.Ai
open Go
set_option linter.unusedVariables false
theorem nodup_leB {α : Type} [DecidableEq α] : ∀ (l m : List α), l.Nodup → (∀ x ∈ l, x ∈ m) → l.length ≤ m.length
  | [], m, _, _ => by simp
  | x :: l, m, hn, h => by
    have hn' := List.nodup_cons.1 hn
    have hx := h x (by simp)
    have := nodup_leB l (m.erase x) hn'.2 fun y hy => by
      exact (List.mem_erase_of_ne (fun e => by subst e; exact hn'.1 hy)).2 (h y (by simp [hy]))
    have h2 := List.length_erase_of_mem hx
    have h3 := List.length_pos_of_mem hx
    simp only [List.length_cons]; omega
theorem nodup_back {α : Type} [DecidableEq α] {l m : List α} (hn : l.Nodup) (h : ∀ x ∈ l, x ∈ m) (hl : m.length ≤ l.length) : ∀ x ∈ m, x ∈ l := by
  intro x hx
  refine Classical.byContradiction fun q => ?_
  have := nodup_leB (x :: l) m (List.nodup_cons.2 ⟨q, hn⟩) (fun y hy => by
    rcases List.mem_cons.1 hy with rfl | hy
    · exact hx
    · exact h y hy)
  simp only [List.length_cons] at this; omega
/-- is it so -/
noncomputable def pdc (p : Prop) : Bool := @decide p (Classical.propDecidable p)
theorem pdc_iff {p : Prop} : pdc p = true ↔ p := ⟨fun h => @of_decide_eq_true p (Classical.propDecidable p) h, fun h => @decide_eq_true p (Classical.propDecidable p) h⟩
theorem pdc_no {p : Prop} (h : ¬ p) : pdc p = false := by
  rw [← Bool.not_eq_true, pdc_iff]; exact h
/-- how many edges lie between two nodes -/
noncomputable def sepC (es : List (Int × Int)) (E : List Int) (x y : Nat) : Nat := E.countP fun e => pdc (¬ Jn es (wo1 E e) x y)
theorem sepC_le (es : List (Int × Int)) (E : List Int) (x y : Nat) : sepC es E x y ≤ E.length := List.countP_le_length
theorem sepC_symm (es : List (Int × Int)) (E : List Int) (x y : Nat) : sepC es E x y = sepC es E y x := by
  unfold sepC
  congr 1
  funext e
  have : (¬ Jn es (wo1 E e) x y) = ¬ Jn es (wo1 E e) y x := propext ⟨fun h q => h q.symm, fun h q => h q.symm⟩
  rw [this]
theorem sepC_self (es : List (Int × Int)) (E : List Int) (x : Nat) : sepC es E x x = 0 := by
  unfold sepC
  rw [List.countP_eq_zero]
  intro e _ h
  exact pdc_iff.1 h (.refl x)
theorem wo1_cons_self {E : List Int} {e : Int} (h : e ∉ E) : wo1 (e :: E) e = E := by
  unfold wo1
  rw [List.filter_cons]
  simp only [ne_eq, not_true_eq_false, decide_false, Bool.false_eq_true, if_false]
  rw [List.filter_eq_self]
  intro y hy
  simp only [decide_eq_true_eq]
  exact fun q => h (q ▸ hy)
/-- one more edge, at a new node -/
theorem sepC_old {es : List (Int × Int)} {E : List Int} {e0 : Int} (h0 : e0 ∉ E) {x y : Nat} (hj : Jn es E x y) : sepC es (e0 :: E) x y ≤ sepC es E x y := by
  unfold sepC
  rw [List.countP_cons, wo1_cons_self h0]
  have : pdc (¬ Jn es E x y) = false := by
    exact pdc_no fun q => q hj
  rw [this]
  simp only [Bool.false_eq_true, if_false, Nat.add_zero]
  refine List.countP_mono_left fun e he h => ?_
  rw [pdc_iff] at h ⊢
  exact fun q => h (q.mono fun z hz => wo1_mem.2 ⟨List.mem_cons_of_mem _ (wo1_mem.1 hz).1, (wo1_mem.1 hz).2⟩)
theorem sepC_new {es : List (Int × Int)} {E : List Int} {e0 : Int} (h0 : e0 ∉ E) {w z : Nat} (hj : Jn es [e0] w z) (y : Nat) : sepC es (e0 :: E) z y ≤ sepC es E w y + 1 := by
  unfold sepC
  rw [List.countP_cons]
  have h1 : (E.countP fun e => pdc (¬ Jn es (wo1 (e0 :: E) e) z y)) ≤ E.countP fun e => pdc (¬ Jn es (wo1 E e) w y) := by
    refine List.countP_mono_left fun e he h => ?_
    rw [pdc_iff] at h ⊢
    intro q
    have hne : e0 ≠ e := fun q => h0 (q ▸ he)
    have a : Jn es (wo1 (e0 :: E) e) w z := hj.mono fun x hx => by
      rw [List.mem_singleton] at hx
      subst hx
      exact wo1_mem.2 ⟨by simp, hne⟩
    exact h (a.symm.trans (q.mono fun z hz => wo1_mem.2 ⟨List.mem_cons_of_mem _ (wo1_mem.1 hz).1, (wo1_mem.1 hz).2⟩))
  split <;> omega
/-- pairs of a list, each once -/
def prL : List Nat → List (Nat × Nat)
  | [] => []
  | x :: l => l.map (fun y => (x, y)) ++ prL l
theorem prL_mem {x y : Nat} : ∀ {l : List Nat}, x ∈ l → y ∈ l → x ≠ y → (x, y) ∈ prL l ∨ (y, x) ∈ prL l
  | [], h, _, _ => by simp at h
  | z :: l, hx, hy, hne => by
    unfold prL
    rcases List.mem_cons.1 hx with h1 | h1
    · rcases List.mem_cons.1 hy with h2 | h2
      · exact absurd (h1.trans h2.symm) hne
      · left; rw [List.mem_append]; left; exact List.mem_map.2 ⟨y, h2, by rw [h1]⟩
    · rcases List.mem_cons.1 hy with h2 | h2
      · right; rw [List.mem_append]; left; exact List.mem_map.2 ⟨x, h1, by rw [h2]⟩
      · rcases prL_mem h1 h2 hne with q | q
        · left; exact List.mem_append_right _ q
        · right; exact List.mem_append_right _ q
theorem prL_in {x y : Nat} : ∀ {l : List Nat}, (x, y) ∈ prL l → x ∈ l ∧ y ∈ l
  | [], h => by simp [prL] at h
  | z :: l, h => by
    unfold prL at h
    rcases List.mem_append.1 h with q | q
    · obtain ⟨w, h1, h2⟩ := List.mem_map.1 q
      rw [Prod.mk.injEq] at h2
      obtain ⟨rfl, rfl⟩ := h2
      exact ⟨by simp, by simp [h1]⟩
    · obtain ⟨h1, h2⟩ := prL_in q
      exact ⟨by simp [h1], by simp [h2]⟩
def triN (j : Nat) : Nat := j * (j - 1) / 2
theorem triN_succ (j : Nat) : triN (j + 1) = triN j + j := by
  unfold triN
  cases j with
  | zero => rfl
  | succ j =>
    simp only [Nat.add_sub_cancel]
    rw [Nat.succ_mul (j + 1) (j + 1), Nat.mul_succ (j + 1) j]
    generalize (j + 1) * j = z
    omega
/-- a part of a tree, with its nodes -/
structure Grow (es : List (Int × Int)) (T : List Int) (n : Nat) (vs : List Nat) (E : List Int) : Prop where
  nd : vs.Nodup
  lt : ∀ x ∈ vs, x < n
  nde : E.Nodup
  sub : ∀ e ∈ E, e ∈ T
  len : E.length + 1 = vs.length
  con : ∀ x ∈ vs, ∀ y ∈ vs, Jn es E x y
  ends : ∀ e ∈ E, enA es e ∈ vs ∧ enB es e ∈ vs
  row : ∀ x ∈ vs, ∀ k, (vs.countP fun y => decide (k ≤ sepC es E x y)) ≤ vs.length - k
  pr : ∀ k, 1 ≤ k → ((prL vs).countP fun p => decide (k ≤ sepC es E p.1 p.2)) ≤ triN (vs.length + 1 - k)
theorem Grow.one (es : List (Int × Int)) (T : List Int) {n : Nat} (hn : 0 < n) : Grow es T n [0] [] := by
  refine ⟨by simp, fun x hx => by rw [List.mem_singleton] at hx; omega, .nil, by simp, rfl, fun x hx y hy => ?_, by simp, fun x hx k => ?_, fun k hk => by simp [prL]⟩
  · rw [List.mem_singleton] at hx hy
    subst hx; subst hy; exact .refl 0
  · rw [List.mem_singleton] at hx
    subst hx
    rw [List.countP_cons, List.countP_nil, sepC_self]
    cases k <;> simp
theorem Grow.step {es : List (Int × Int)} {T : List Int} {n : Nat} {vs : List Nat} {E : List Int} (g : Grow es T n vs E) {e0 : Int} {w z : Nat} (he : e0 ∈ T) (hw : w ∈ vs) (hz : z ∉ vs) (hzn : z < n) (hj : Jn es [e0] w z) (hz' : (enA es e0 = w ∧ enB es e0 = z) ∨ (enA es e0 = z ∧ enB es e0 = w)) : Grow es T n (z :: vs) (e0 :: E) := by
  have h0 : e0 ∉ E := fun q => by
    have := g.ends e0 q
    rcases hz' with ⟨_, q2⟩ | ⟨q1, _⟩
    · rw [q2] at this; exact hz this.2
    · rw [q1] at this; exact hz this.1
  have up : ∀ {x y}, Jn es E x y → Jn es (e0 :: E) x y := fun h => h.mono fun e he => List.mem_cons_of_mem _ he
  have hwz : Jn es (e0 :: E) w z := hj.mono fun e he => by rw [List.mem_singleton] at he; simp [he]
  have old : ∀ x ∈ vs, ∀ y ∈ vs, sepC es (e0 :: E) x y ≤ sepC es E x y := fun x hx y hy => sepC_old h0 (g.con x hx y hy)
  have new : ∀ y, sepC es (e0 :: E) z y ≤ sepC es E w y + 1 := fun y => sepC_new h0 hj y
  have toz : ∀ x ∈ vs, Jn es (e0 :: E) x z := fun x hx => (up (g.con x hx w hw)).trans hwz
  have hlen := g.len
  have zrow : ∀ k, 1 ≤ k → (vs.countP fun y => decide (k ≤ sepC es (e0 :: E) z y)) ≤ vs.length - (k - 1) := by
    intro k hk
    refine Nat.le_trans (List.countP_mono_left fun y hy h => ?_) (g.row w hw (k - 1))
    rw [decide_eq_true_eq] at h ⊢
    have := new y
    omega
  refine ⟨List.nodup_cons.2 ⟨hz, g.nd⟩, fun x hx => ?_, List.nodup_cons.2 ⟨h0, g.nde⟩, fun e h => ?_, by simp only [List.length_cons]; omega, fun x hx y hy => ?_, fun e h => ?_, fun x hx k => ?_, fun k hk => ?_⟩
  · rcases List.mem_cons.1 hx with rfl | hx
    · exact hzn
    · exact g.lt x hx
  · rcases List.mem_cons.1 h with rfl | h
    · exact he
    · exact g.sub e h
  · rcases List.mem_cons.1 hx with h1 | h1 <;> rcases List.mem_cons.1 hy with h2 | h2
    · rw [h1, h2]; exact .refl _
    · rw [h1]; exact (toz y h2).symm
    · rw [h2]; exact toz x h1
    · exact up (g.con x h1 y h2)
  · rcases List.mem_cons.1 h with rfl | h
    · rcases hz' with ⟨q1, q2⟩ | ⟨q1, q2⟩
      · rw [q1, q2]; exact ⟨by simp [hw], by simp⟩
      · rw [q1, q2]; exact ⟨by simp, by simp [hw]⟩
    · have := g.ends e h
      exact ⟨by simp [this.1], by simp [this.2]⟩
  · rw [List.countP_cons, List.length_cons]
    rcases List.mem_cons.1 hx with rfl | hx
    · rw [sepC_self]
      by_cases hk : k = 0
      · subst hk
        have := List.countP_le_length (p := fun y => decide (0 ≤ sepC es (e0 :: E) x y)) (l := vs)
        simp only [Nat.le_refl, decide_true, if_true]; omega
      · have := zrow k (by omega)
        have h2 : decide (k ≤ 0) = false := decide_eq_false (by omega)
        rw [h2]
        simp only [Bool.false_eq_true, if_false]; omega
    · have h1 : (vs.countP fun y => decide (k ≤ sepC es (e0 :: E) x y)) ≤ vs.length - k := by
        refine Nat.le_trans (List.countP_mono_left fun y hy h => ?_) (g.row x hx k)
        rw [decide_eq_true_eq] at h ⊢
        have := old x hx y hy
        omega
      by_cases hk : k ≤ vs.length
      · split <;> omega
      · have h2 : decide (k ≤ sepC es (e0 :: E) x z) = false := by
          refine decide_eq_false ?_
          have := sepC_le es (e0 :: E) x z
          simp only [List.length_cons] at this
          omega
        rw [h2]
        simp only [Bool.false_eq_true, if_false]; omega
  · unfold prL
    rw [List.countP_append, List.countP_map]
    have h1 : vs.countP ((fun p : Nat × Nat => decide (k ≤ sepC es (e0 :: E) p.1 p.2)) ∘ fun y => (z, y)) ≤ vs.length - (k - 1) := zrow k hk
    have h2 : ((prL vs).countP fun p => decide (k ≤ sepC es (e0 :: E) p.1 p.2)) ≤ triN (vs.length + 1 - k) := by
      refine Nat.le_trans (List.countP_mono_left fun p hp h => ?_) (g.pr k hk)
      rw [decide_eq_true_eq] at h ⊢
      have hi := prL_in (x := p.1) (y := p.2) hp
      have := old p.1 hi.1 p.2 hi.2
      omega
    rw [List.length_cons]
    by_cases hk2 : k ≤ vs.length + 1
    · have e : vs.length + 1 + 1 - k = (vs.length + 1 - k) + 1 := by omega
      rw [e, triN_succ]; omega
    · have hz0 : vs.length - (k - 1) = 0 := by omega
      have e : vs.length + 1 + 1 - k = vs.length + 1 - k := by omega
      rw [e]; omega
theorem jn_inv {es : List (Int × Int)} {T : List Int} {p : Nat → Prop} (h : ∀ e ∈ T, p (enA es e) ↔ p (enB es e)) {x y : Nat} (hj : Jn es T x y) : p x ↔ p y := by
  induction hj with
  | refl => exact Iff.rfl
  | edge e he => exact h e he
  | symm _ ih => exact ih.symm
  | trans _ _ i1 i2 => exact i1.trans i2
theorem grow_all {es : List (Int × Int)} {T : List Int} {n : Nat} (h : Tree es T n) (hn : 0 < n) : ∀ m, m + 1 ≤ n → ∃ vs E, Grow es T n vs E ∧ vs.length = m + 1
  | 0, _ => ⟨[0], [], .one es T hn, rfl⟩
  | m + 1, hm => by
    obtain ⟨vs, E, g, hl⟩ := grow_all h hn m (by omega)
    obtain ⟨y, hy, hyv⟩ : ∃ y, y < n ∧ y ∉ vs := by
      refine Classical.byContradiction fun q => ?_
      have := nodup_leB (List.range n) vs List.nodup_range fun x hx => Classical.byContradiction fun q2 => q ⟨x, List.mem_range.1 hx, q2⟩
      rw [List.length_range] at this; omega
    obtain ⟨v, hv⟩ : ∃ v, v ∈ vs := by
      cases vs with
      | nil => simp at hl
      | cons v vs => exact ⟨v, by simp⟩
    have hj := h.conn v y (g.lt v hv) hy
    obtain ⟨e, he, hne⟩ : ∃ e, e ∈ T ∧ ¬ (enA es e ∈ vs ↔ enB es e ∈ vs) := by
      refine Classical.byContradiction fun q => ?_
      have := jn_inv (p := fun x => x ∈ vs) (fun e he => Classical.byContradiction fun q2 => q ⟨e, he, q2⟩) hj
      exact hyv (this.1 hv)
    have hen := h.ends e he
    by_cases ha : enA es e ∈ vs
    · have hb : enB es e ∉ vs := fun q => hne ⟨fun _ => q, fun _ => ha⟩
      exact ⟨_, _, g.step he ha hb hen.2 (.edge e (by simp)) (.inl ⟨rfl, rfl⟩), by simp [hl]⟩
    · have hb : enB es e ∈ vs := Classical.byContradiction fun q => hne ⟨fun r => absurd r ha, fun r => absurd r q⟩
      exact ⟨_, _, g.step he hb ha hen.1 (.symm (.edge e (by simp))) (.inr ⟨rfl, rfl⟩), by simp [hl]⟩
/-- at most so many pairs of ends are so far -/
theorem far_few {es : List (Int × Int)} {T : List Int} {n : Nat} (h : Tree es T n) (hn : 0 < n) {F : List Int} (hF : F.Nodup) (hfe : ∀ f ∈ F, enA es f < enB es f ∧ enB es f < n) (hinj : ∀ f ∈ F, ∀ g ∈ F, enA es f = enA es g → enB es f = enB es g → f = g) (k : Nat) (hk : 1 ≤ k) :
    (F.countP fun f => decide (k ≤ sepC es T (enA es f) (enB es f))) ≤ triN (n + 1 - k) := by
  obtain ⟨vs, E, g, hl⟩ := grow_all h hn (n - 1) (by omega)
  have hl : vs.length = n := by omega
  have hET := nodup_back g.nde g.sub (by have := h.len; have := g.len; omega)
  have hsame : ∀ x y, sepC es T x y ≤ sepC es E x y := by
    intro x y
    unfold sepC
    rw [List.countP_eq_length_filter, List.countP_eq_length_filter]
    refine nodup_leB _ _ (h.nd.sublist List.filter_sublist) fun e he => ?_
    rw [List.mem_filter, pdc_iff] at he ⊢
    exact ⟨hET e he.1, fun q => he.2 (q.mono fun z hz => wo1_mem.2 ⟨g.sub z (wo1_mem.1 hz).1, (wo1_mem.1 hz).2⟩)⟩
  have hvs : ∀ x, x < n → x ∈ vs := fun x hx => nodup_back g.nd (m := List.range n) (fun y hy => List.mem_range.2 (g.lt y hy)) (by rw [List.length_range]; omega) x (List.mem_range.2 hx)
  have hp := g.pr k hk
  rw [hl] at hp
  refine Nat.le_trans ?_ hp
  rw [List.countP_eq_length_filter, List.countP_eq_length_filter]
  let m : Int → Nat × Nat := fun f => if (enA es f, enB es f) ∈ prL vs then (enA es f, enB es f) else (enB es f, enA es f)
  have hm : ∀ f, m f = (enA es f, enB es f) ∨ m f = (enB es f, enA es f) := by
    intro f
    show (if _ then _ else _) = _ ∨ (if _ then _ else _) = _
    split
    · exact .inl rfl
    · exact .inr rfl
  have := nodup_leB ((F.filter fun f => decide (k ≤ sepC es T (enA es f) (enB es f))).map m) ((prL vs).filter fun p => decide (k ≤ sepC es E p.1 p.2)) ?_ ?_
  · rw [List.length_map] at this; exact this
  · rw [List.Nodup, List.pairwise_map]
    refine List.Pairwise.imp_of_mem ?_ (hF.sublist List.filter_sublist)
    intro f f' h1 h2 hne heq
    have h1 := (List.mem_filter.1 h1).1
    have h2 := (List.mem_filter.1 h2).1
    have a1 := hfe f h1
    have a2 := hfe f' h2
    rcases hm f with q | q <;> rcases hm f' with q2 | q2 <;> rw [q, q2, Prod.mk.injEq] at heq
    · exact hne (hinj f h1 f' h2 heq.1 heq.2)
    · omega
    · omega
    · exact hne (hinj f h1 f' h2 heq.2 heq.1)
  · intro p hp
    obtain ⟨f, hf, rfl⟩ := List.mem_map.1 hp
    rw [List.mem_filter, decide_eq_true_eq] at hf
    obtain ⟨hf, hk⟩ := hf
    have a := hfe f hf
    have hs := hsame (enA es f) (enB es f)
    rw [List.mem_filter, decide_eq_true_eq]
    show (if _ then _ else _) ∈ _ ∧ k ≤ sepC es E (if _ then _ else _ : Nat × Nat).1 (if _ then _ else _ : Nat × Nat).2
    split
    · rename_i q; exact ⟨q, by simp only; omega⟩
    · rename_i q
      refine ⟨(prL_mem (hvs _ (by omega)) (hvs _ a.2) (by omega)).resolve_left q, ?_⟩
      simp only
      rw [sepC_symm]; omega
def farS (n m : Nat) : Nat := ((List.range 7).map fun k => min m (triN (n - k))).foldl (· + ·) 0
theorem sum_cnt {α : Type} (c : α → Nat) : ∀ (F : List α), (∀ f ∈ F, c f ≤ 7) → (F.map c).foldr (· + ·) 0 = F.countP (fun f => decide (1 ≤ c f)) + F.countP (fun f => decide (2 ≤ c f)) + F.countP (fun f => decide (3 ≤ c f)) + F.countP (fun f => decide (4 ≤ c f)) + F.countP (fun f => decide (5 ≤ c f)) + F.countP (fun f => decide (6 ≤ c f)) + F.countP (fun f => decide (7 ≤ c f))
  | [], _ => rfl
  | f :: F, h => by
    have ih := sum_cnt c F fun g hg => h g (by simp [hg])
    have hf := h f (by simp)
    rw [List.map_cons, List.foldr_cons, ih]
    simp only [List.countP_cons, decide_eq_true_eq]
    generalize c f = m at *
    have : m = 0 ∨ m = 1 ∨ m = 2 ∨ m = 3 ∨ m = 4 ∨ m = 5 ∨ m = 6 ∨ m = 7 := by omega
    rcases this with rfl | rfl | rfl | rfl | rfl | rfl | rfl | rfl <;> simp <;> omega
theorem far_sum {es : List (Int × Int)} {T : List Int} {n : Nat} (h : Tree es T n) (hn : 0 < n) (h8 : n ≤ 8) {F : List Int} (hF : F.Nodup) (hfe : ∀ f ∈ F, enA es f < enB es f ∧ enB es f < n) (hinj : ∀ f ∈ F, ∀ g ∈ F, enA es f = enA es g → enB es f = enB es g → f = g) :
    (F.map fun f => sepC es T (enA es f) (enB es f)).foldr (· + ·) 0 ≤ farS n F.length := by
  rw [sum_cnt _ F fun f _ => by have := sepC_le es T (enA es f) (enB es f); have := h.len; omega]
  have key := far_few h hn hF hfe hinj
  have b : ∀ k, (F.countP fun f => decide (k ≤ sepC es T (enA es f) (enB es f))) ≤ F.length := fun k => List.countP_le_length
  have m : ∀ k, 1 ≤ k → (F.countP fun f => decide (k ≤ sepC es T (enA es f) (enB es f))) ≤ min F.length (triN (n + 1 - k)) := fun k hk => Nat.le_min.2 ⟨b k, key k hk⟩
  have e : farS n F.length = min F.length (triN (n + 1 - 1)) + min F.length (triN (n + 1 - 2)) + min F.length (triN (n + 1 - 3)) + min F.length (triN (n + 1 - 4)) + min F.length (triN (n + 1 - 5)) + min F.length (triN (n + 1 - 6)) + min F.length (triN (n + 1 - 7)) := by
    unfold farS
    simp only [List.range, List.range.loop, List.map_cons, List.map_nil, List.foldl_cons, List.foldl_nil]
    have : ∀ k, n + 1 - (k + 1) = n - k := fun k => by omega
    rw [this 0, this 1, this 2, this 3, this 4, this 5, this 6]
    omega
  rw [e]
  have m1 := m 1 (by omega)
  have m2 := m 2 (by omega)
  have m3 := m 3 (by omega)
  have m4 := m 4 (by omega)
  have m5 := m 5 (by omega)
  have m6 := m 6 (by omega)
  have m7 := m 7 (by omega)
  omega
end Go.Proofs.Ytjnefjchconebab.Ai
namespace Go.Proofs.Ytjnefjchconebab.Ai
open Go Go.RowKit
set_option linter.unusedVariables false
theorem and_split (k : Nat) {x m : Nat} (y n : Nat) (hx : x < 2 ^ k) (hm : m < 2 ^ k) : (2 ^ k * y + x) &&& (2 ^ k * n + m) = 2 ^ k * (y &&& n) + (x &&& m) := by
  refine Nat.eq_of_testBit_eq fun j => ?_
  rw [Nat.testBit_and, Nat.testBit_two_pow_mul_add _ hx, Nat.testBit_two_pow_mul_add _ hm, Nat.testBit_two_pow_mul_add _ (Nat.lt_of_le_of_lt Nat.and_le_left hx)]
  split
  · rw [Nat.testBit_and]
  · rw [Nat.testBit_and]
/-- a mask that repeats after a byte -/
theorem and_top (k : Nat) {y : Nat} (n m : Nat) (hy : y < 2 ^ k) (hm : m < 2 ^ k) : y &&& (2 ^ k * n + m) = y &&& m := by
  have := and_split k 0 n hy hm
  rw [Nat.mul_zero, Nat.zero_add, Nat.zero_and, Nat.mul_zero, Nat.zero_add] at this
  exact this
theorem pc1_split {x y : Nat} (hx : x < 256) (hy : y < 2 ^ 48) : pc1 (256 * y + x) = 256 * pc1 y + pc1 x := by
  unfold pc1
  have e1 : (256 * y + x) / 2 ^ 1 = 2 ^ 8 * (y / 2) + (128 * (y % 2) + x / 2) := by omega
  have e2 : 256 * y + x = 2 ^ 8 * y + x := by omega
  have eM : 6148914691236517205 = 2 ^ 8 * 24019198012642645 + 85 := by decide
  have eM2 : 6148914691236517205 = 2 ^ 56 * 85 + 24019198012642645 := by decide
  rw [e1, e2]
  conv => lhs; rw [eM]
  rw [and_split 8 _ _ (by omega) (by decide), and_split 8 _ _ (by omega) (by decide)]
  have t1 := and_top 56 (y := y / 2) 85 24019198012642645 (by omega) (by decide)
  have t2 := and_top 56 (y := y) 85 24019198012642645 (by omega) (by decide)
  have t3 := and_top 8 (y := x / 2) 24019198012642645 85 (by omega) (by decide)
  have t4 := and_top 8 (y := x) 24019198012642645 85 (by omega) (by decide)
  have t5 := and_split 7 (x := x / 2) (m := 85) (y % 2) 0 (by omega) (by decide)
  have e5 : 128 * (y % 2) + x / 2 = 2 ^ 7 * (y % 2) + x / 2 := by omega
  rw [← eM2] at t1 t2
  rw [← eM] at t3 t4
  rw [Nat.and_zero, Nat.mul_zero, Nat.zero_add, Nat.zero_add] at t5
  have e6 : y / 2 ^ 1 = y / 2 := by omega
  have e7 : x / 2 ^ 1 = x / 2 := by omega
  rw [e5, t5, e6, e7, t1, t2, t3, t4]
  omega
theorem pc2_split {x y : Nat} (hx : x < 256) (hy : y < 2 ^ 48) : pc2 (256 * y + x) = 256 * pc2 y + pc2 x := by
  unfold pc2
  have e1 : (256 * y + x) / 2 ^ 2 = 2 ^ 8 * (y / 4) + (64 * (y % 4) + x / 4) := by omega
  have e2 : 256 * y + x = 2 ^ 8 * y + x := by omega
  have eM : 3689348814741910323 = 2 ^ 8 * 14411518807585587 + 51 := by decide
  have eM2 : 3689348814741910323 = 2 ^ 56 * 51 + 14411518807585587 := by decide
  rw [e1, e2]
  conv => lhs; rw [eM]
  rw [and_split 8 _ _ (by omega) (by decide), and_split 8 _ _ (by omega) (by decide)]
  have t1 := and_top 56 (y := y / 4) 51 14411518807585587 (by omega) (by decide)
  have t2 := and_top 56 (y := y) 51 14411518807585587 (by omega) (by decide)
  have t3 := and_top 8 (y := x / 4) 14411518807585587 51 (by omega) (by decide)
  have t4 := and_top 8 (y := x) 14411518807585587 51 (by omega) (by decide)
  have t5 := and_split 6 (x := x / 4) (m := 51) (y % 4) 0 (by omega) (by decide)
  have e5 : 64 * (y % 4) + x / 4 = 2 ^ 6 * (y % 4) + x / 4 := by omega
  rw [← eM2] at t1 t2
  rw [← eM] at t3 t4
  rw [Nat.and_zero, Nat.mul_zero, Nat.zero_add, Nat.zero_add] at t5
  have e6 : y / 2 ^ 2 = y / 4 := by omega
  have e7 : x / 2 ^ 2 = x / 4 := by omega
  rw [e5, t5, e6, e7, t1, t2, t3, t4]
  omega
theorem pc3_split {x y : Nat} (hx : x ≤ 68) (hy : y < 2 ^ 40) (hy16 : y % 16 ≤ 4) : pc3 (256 * y + x) = 256 * pc3 y + pc3 x := by
  unfold pc3
  have e1 : (256 * y + x) / 2 ^ 4 + (256 * y + x) = 2 ^ 8 * (y / 16 + y) + (16 * (y % 16) + x / 16 + x) := by omega
  have eM : 1085102592571150095 = 2 ^ 8 * 4238682002231055 + 15 := by decide
  have eM2 : 1085102592571150095 = 2 ^ 56 * 15 + 4238682002231055 := by decide
  rw [e1]
  conv => lhs; rw [eM]
  rw [and_split 8 _ _ (by omega) (by decide)]
  have t1 := and_top 56 (y := y / 16 + y) 15 4238682002231055 (by omega) (by decide)
  have t3 := and_top 8 (y := x / 16 + x) 4238682002231055 15 (by omega) (by decide)
  rw [← eM2] at t1
  rw [← eM] at t3
  have m1 : (16 * (y % 16) + x / 16 + x) &&& 15 = (16 * (y % 16) + x / 16 + x) % 16 := Nat.and_two_pow_sub_one_eq_mod _ 4
  have m2 : (x / 16 + x) &&& 15 = (x / 16 + x) % 16 := Nat.and_two_pow_sub_one_eq_mod _ 4
  have e6 : y / 2 ^ 4 = y / 16 := by omega
  have e7 : x / 2 ^ 4 = x / 16 := by omega
  rw [e6, e7, t1, t3, m1, m2]
  omega
/-- a byte's own count -/
def cb8 (x : Nat) : Nat := pc3 (pc2 (pc1 x))
def byteOk : Bool := (List.range 256).all fun x => decide (cb8 x = (List.range 8).countP fun j => x.testBit j) && (Nat.ble (pc1 x) 170 && (Nat.ble (pc2 (pc1 x)) 68 && Nat.ble (pc2 (pc1 x) % 16) 4))
theorem byteOk_ok : byteOk = true := by decide +kernel
theorem byte_ok {x : Nat} (h : x < 256) : cb8 x = ((List.range 8).countP fun j => x.testBit j) ∧ pc1 x ≤ 170 ∧ pc2 (pc1 x) ≤ 68 ∧ pc2 (pc1 x) % 16 ≤ 4 := by
  have := byteOk_ok
  unfold byteOk at this
  rw [List.all_eq_true] at this
  have := this x (List.mem_range.2 h)
  simp only [Bool.and_eq_true, decide_eq_true_eq] at this
  exact ⟨this.1, Nat.le_of_ble_eq_true this.2.1, Nat.le_of_ble_eq_true this.2.2.1, Nat.le_of_ble_eq_true this.2.2.2⟩
theorem popc_bytes {a b c d : Nat} (ha : a < 256) (hb : b < 256) (hc : c < 256) (hd : d < 256) : popc (a + 256 * (b + 256 * (c + 256 * d))) = cb8 a + cb8 b + cb8 c + cb8 d := by
  obtain ⟨a0, a1, a2, a3⟩ := byte_ok ha
  obtain ⟨b0, b1, b2, b3⟩ := byte_ok hb
  obtain ⟨c0, c1, c2, c3⟩ := byte_ok hc
  obtain ⟨d0, d1, d2, d3⟩ := byte_ok hd
  have le8 : ∀ x : Nat, ((List.range 8).countP fun j => x.testBit j) ≤ 8 := fun x => by
    have := List.countP_le_length (p := fun j => x.testBit j) (l := List.range 8)
    rw [List.length_range] at this
    exact this
  have a8 := le8 a
  have b8 := le8 b
  have c8 := le8 c
  have d8 := le8 d
  have e : a + 256 * (b + 256 * (c + 256 * d)) = 256 * (256 * (256 * d + c) + b) + a := by omega
  rw [e]
  have p1 : pc1 (256 * (256 * (256 * d + c) + b) + a) = 256 * (256 * (256 * pc1 d + pc1 c) + pc1 b) + pc1 a := by
    rw [pc1_split ha (by omega), pc1_split hb (by omega), pc1_split hc (by omega)]
  have p2 : pc2 (256 * (256 * (256 * pc1 d + pc1 c) + pc1 b) + pc1 a) = 256 * (256 * (256 * pc2 (pc1 d) + pc2 (pc1 c)) + pc2 (pc1 b)) + pc2 (pc1 a) := by
    rw [pc2_split (by omega) (by omega), pc2_split (by omega) (by omega), pc2_split (by omega) (by omega)]
  have p3 : pc3 (256 * (256 * (256 * pc2 (pc1 d) + pc2 (pc1 c)) + pc2 (pc1 b)) + pc2 (pc1 a)) = 256 * (256 * (256 * cb8 d + cb8 c) + cb8 b) + cb8 a := by
    rw [pc3_split (by omega) (by omega) (by omega), pc3_split (by omega) (by omega) (by omega), pc3_split (by omega) (by omega) (by omega)]
    rfl
  unfold popc
  rw [p1, p2, p3]
  rw [← a0] at a8
  rw [← b0] at b8
  rw [← c0] at c8
  rw [← d0] at d8
  have m : ∀ z : Nat, z &&& 127 = z % 128 := fun z => Nat.and_two_pow_sub_one_eq_mod z 7
  rw [m]
  unfold pcS32 pcS16 pcS8
  generalize cb8 a = A at *
  generalize cb8 b = B at *
  generalize cb8 c = C at *
  generalize cb8 d = D at *
  clear p1 p2 p3 a0 a1 a2 a3 b0 b1 b2 b3 c0 c1 c2 c3 d0 d1 d2 d3 e
  have s1 : (256 * (256 * (256 * D + C) + B) + A) / 2 ^ 8 = 256 * (256 * D + C) + B := by omega
  rw [s1]
  have s2 : (256 * (256 * (256 * D + C) + B) + A + (256 * (256 * D + C) + B)) / 2 ^ 16 = 256 * D + (C + D) := by omega
  rw [s2]
  have s3 : (256 * (256 * (256 * D + C) + B) + A + (256 * (256 * D + C) + B) + (256 * D + (C + D))) / 2 ^ 32 = 0 := by omega
  rw [s3]
  omega
/-- the count is that of the bits -/
theorem popc_cnt {b : Nat} (h : b < 2 ^ 32) : popc b = (List.range 32).countP fun z => b.testBit z := by
  have e : b = b % 256 + 256 * (b / 256 % 256 + 256 * (b / 65536 % 256 + 256 * (b / 16777216))) := by omega
  have hp := popc_bytes (a := b % 256) (b := b / 256 % 256) (c := b / 65536 % 256) (d := b / 16777216) (by omega) (by omega) (by omega) (by omega)
  rw [← e] at hp
  rw [hp, (byte_ok (x := b % 256) (by omega)).1, (byte_ok (x := b / 256 % 256) (by omega)).1, (byte_ok (x := b / 65536 % 256) (by omega)).1, (byte_ok (x := b / 16777216) (by omega)).1]
  have r32 : List.range 32 = List.range 8 ++ ((List.range 8).map (· + 8) ++ ((List.range 8).map (· + 16) ++ (List.range 8).map (· + 24))) := by decide
  rw [r32, List.countP_append, List.countP_append, List.countP_append, List.countP_map, List.countP_map, List.countP_map]
  have tb : ∀ (x j : Nat), x.testBit j = decide (x / 2 ^ j % 2 = 1) := fun x j => Nat.testBit_eq_decide_div_mod_eq
  have k0 : ((List.range 8).countP fun j => (b % 256).testBit j) = (List.range 8).countP fun z => b.testBit z := List.countP_congr fun j hj => by
    rw [show (256 : Nat) = 2 ^ 8 from rfl, Nat.testBit_mod_two_pow, decide_eq_true (List.mem_range.1 hj), Bool.true_and]
  have kk : ∀ s : Nat, ((List.range 8).countP fun j => (b / 2 ^ s % 256).testBit j) = (List.range 8).countP ((fun z => b.testBit z) ∘ (· + s)) := fun s => List.countP_congr fun j hj => by
    rw [show (256 : Nat) = 2 ^ 8 from rfl, Nat.testBit_mod_two_pow, decide_eq_true (List.mem_range.1 hj), Bool.true_and, Nat.testBit_div_two_pow]
    show _ ↔ b.testBit (j + s) = true
    exact Iff.rfl
  have k1 := kk 8
  have k2 := kk 16
  have k3 := kk 24
  rw [k0]
  have e1 : b / 2 ^ 8 = b / 256 := rfl
  have e2 : b / 2 ^ 16 = b / 65536 := rfl
  have e3 : b / 2 ^ 24 % 256 = b / 16777216 := by omega
  rw [e1] at k1
  rw [e2] at k2
  rw [e3] at k3
  rw [k1, k2, k3]
  omega
theorem popc_len2 {b : Nat} {s : List Int} (hb : b < 2 ^ 64 ∧ ∀ z, z < 64 → b.testBit z = decide ((z : Int) ∈ s)) (hs : s.Pairwise (· < ·)) (hr : ∀ x ∈ s, 0 ≤ x ∧ x < 28) : popc b = s.length := by
  have h28 : b < 2 ^ 32 := by
    refine Nat.lt_pow_two_of_testBit b fun i hi => ?_
    by_cases q : i < 64
    · rw [hb.2 i q, decide_eq_false_iff_not]
      intro w
      have := hr _ w
      omega
    · exact Nat.testBit_lt_two_pow (Nat.lt_of_lt_of_le hb.1 (Nat.pow_le_pow_right (by omega) (by omega)))
  rw [popc_cnt h28, List.countP_eq_length_filter]
  have h1 := nodup_leB (((List.range 32).filter fun z => b.testBit z).map fun z : Nat => (z : Int)) s (by
    rw [List.Nodup, List.pairwise_map]
    exact (List.nodup_range.sublist List.filter_sublist).imp fun q e => q (by omega)) fun x hx => by
      obtain ⟨z, hz, rfl⟩ := List.mem_map.1 hx
      obtain ⟨z1, z2⟩ := List.mem_filter.1 hz
      have := List.mem_range.1 z1
      rw [hb.2 z (by omega)] at z2
      exact of_decide_eq_true z2
  have h2 := nodup_leB s (((List.range 32).filter fun z => b.testBit z).map fun z : Nat => (z : Int)) (hs.imp fun q e => by omega) fun x hx => by
    have := hr x hx
    refine List.mem_map.2 ⟨x.toNat, List.mem_filter.2 ⟨List.mem_range.2 (by omega), ?_⟩, by omega⟩
    rw [hb.2 _ (by omega), decide_eq_true_eq]
    have e : ((x.toNat : Nat) : Int) = x := by omega
    rw [e]; exact hx
  rw [List.length_map] at h1 h2
  omega
end Go.Proofs.Ytjnefjchconebab.Ai
namespace Go.Proofs.Ytjnefjchconebab.Ai
open Go
set_option linter.unusedVariables false
def pr6 : List (Nat × Nat) := [(0, 1), (0, 2), (1, 2), (0, 3), (1, 3), (2, 3), (0, 4), (1, 4), (2, 4), (3, 4), (0, 5), (1, 5), (2, 5), (3, 5), (4, 5)]
def pid (i j : Nat) : Nat := j * (j - 1) / 2 + i
/-- all trees of six nodes, by the greatest node that is joined to the last one -/
def sg1 : List Nat := [1099, 1101, 1102, 1107, 1109, 1110, 1114, 1116, 1123, 1125, 1126, 1129, 1132, 1137, 1138, 1144, 1163, 1165, 1166, 1171, 1173, 1174, 1178, 1180,
  1187, 1189, 1190, 1193, 1196, 1201, 1202, 1208, 1226, 1228, 1234, 1236, 1250, 1252, 1256, 1264, 1291, 1293, 1294, 1299, 1301, 1302, 1306, 1308,
  1315, 1317, 1318, 1321, 1324, 1329, 1330, 1336, 1353, 1356, 1361, 1364, 1368, 1377, 1380, 1392, 1417, 1418, 1425, 1426, 1432, 1441, 1442, 1448,
  1480, 1488, 1504, 1547, 1549, 1550, 1555, 1557, 1558, 1562, 1564, 1571, 1573, 1574, 1577, 1580, 1585, 1586, 1592, 1603, 1605, 1606, 1618, 1620,
  1633, 1636, 1648, 1667, 1669, 1670, 1674, 1676, 1697, 1698, 1704, 1730, 1732, 1760, 1795, 1797, 1798, 1801, 1804, 1809, 1810, 1816, 1857, 1860,
  1872, 1921, 1922, 1928, 1984]
def sg2 : List Nat := [2123, 2125, 2126, 2131, 2133, 2134, 2138, 2140, 2147, 2149, 2150, 2153, 2156, 2161, 2162, 2168, 2187, 2189, 2190, 2195, 2197, 2198, 2202, 2204,
  2211, 2213, 2214, 2217, 2220, 2225, 2226, 2232, 2250, 2252, 2258, 2260, 2274, 2276, 2280, 2288, 2315, 2317, 2318, 2323, 2325, 2326, 2330, 2332,
  2339, 2341, 2342, 2345, 2348, 2353, 2354, 2360, 2377, 2380, 2385, 2388, 2392, 2401, 2404, 2416, 2441, 2442, 2449, 2450, 2456, 2465, 2466, 2472,
  2504, 2512, 2528, 2571, 2573, 2574, 2579, 2581, 2582, 2586, 2588, 2595, 2597, 2598, 2601, 2604, 2609, 2610, 2616, 2627, 2629, 2630, 2642, 2644,
  2657, 2660, 2672, 2691, 2693, 2694, 2698, 2700, 2721, 2722, 2728, 2754, 2756, 2784, 2819, 2821, 2822, 2825, 2828, 2833, 2834, 2840, 2881, 2884,
  2896, 2945, 2946, 2952, 3008, 3146, 3148, 3154, 3156, 3170, 3172, 3176, 3184, 3210, 3212, 3218, 3220, 3234, 3236, 3240, 3248, 3338, 3340, 3346,
  3348, 3362, 3364, 3368, 3376, 3400, 3408, 3424, 3464, 3472, 3488, 3594, 3596, 3602, 3604, 3618, 3620, 3624, 3632, 3650, 3652, 3680, 3714, 3716,
  3744, 3842, 3844, 3848, 3856, 3904, 3968]
def sg3 : List Nat := [4171, 4173, 4174, 4179, 4181, 4182, 4186, 4188, 4195, 4197, 4198, 4201, 4204, 4209, 4210, 4216, 4235, 4237, 4238, 4243, 4245, 4246, 4250, 4252,
  4259, 4261, 4262, 4265, 4268, 4273, 4274, 4280, 4298, 4300, 4306, 4308, 4322, 4324, 4328, 4336, 4363, 4365, 4366, 4371, 4373, 4374, 4378, 4380,
  4387, 4389, 4390, 4393, 4396, 4401, 4402, 4408, 4425, 4428, 4433, 4436, 4440, 4449, 4452, 4464, 4489, 4490, 4497, 4498, 4504, 4513, 4514, 4520,
  4552, 4560, 4576, 4619, 4621, 4622, 4627, 4629, 4630, 4634, 4636, 4643, 4645, 4646, 4649, 4652, 4657, 4658, 4664, 4675, 4677, 4678, 4690, 4692,
  4705, 4708, 4720, 4739, 4741, 4742, 4746, 4748, 4769, 4770, 4776, 4802, 4804, 4832, 4867, 4869, 4870, 4873, 4876, 4881, 4882, 4888, 4929, 4932,
  4944, 4993, 4994, 5000, 5056, 5193, 5196, 5201, 5204, 5208, 5217, 5220, 5232, 5257, 5260, 5265, 5268, 5272, 5281, 5284, 5296, 5320, 5328, 5344,
  5385, 5388, 5393, 5396, 5400, 5409, 5412, 5424, 5512, 5520, 5536, 5641, 5644, 5649, 5652, 5656, 5665, 5668, 5680, 5697, 5700, 5712, 5761, 5764,
  5768, 5792, 5824, 5889, 5892, 5904, 6016, 6217, 6218, 6225, 6226, 6232, 6241, 6242, 6248, 6281, 6282, 6289, 6290, 6296, 6305, 6306, 6312, 6344,
  6352, 6368, 6409, 6410, 6417, 6418, 6424, 6433, 6434, 6440, 6472, 6480, 6496, 6665, 6666, 6673, 6674, 6680, 6689, 6690, 6696, 6721, 6722, 6736,
  6752, 6785, 6786, 6792, 6848, 6913, 6914, 6920, 6976, 7240, 7248, 7264, 7304, 7312, 7328, 7432, 7440, 7456, 7688, 7696, 7712, 7744, 7808, 7936]
def sg4 : List Nat := [8267, 8269, 8270, 8275, 8277, 8278, 8282, 8284, 8291, 8293, 8294, 8297, 8300, 8305, 8306, 8312, 8331, 8333, 8334, 8339, 8341, 8342, 8346, 8348,
  8355, 8357, 8358, 8361, 8364, 8369, 8370, 8376, 8394, 8396, 8402, 8404, 8418, 8420, 8424, 8432, 8459, 8461, 8462, 8467, 8469, 8470, 8474, 8476,
  8483, 8485, 8486, 8489, 8492, 8497, 8498, 8504, 8521, 8524, 8529, 8532, 8536, 8545, 8548, 8560, 8585, 8586, 8593, 8594, 8600, 8609, 8610, 8616,
  8648, 8656, 8672, 8715, 8717, 8718, 8723, 8725, 8726, 8730, 8732, 8739, 8741, 8742, 8745, 8748, 8753, 8754, 8760, 8771, 8773, 8774, 8786, 8788,
  8801, 8804, 8816, 8835, 8837, 8838, 8842, 8844, 8865, 8866, 8872, 8898, 8900, 8928, 8963, 8965, 8966, 8969, 8972, 8977, 8978, 8984, 9025, 9028,
  9040, 9089, 9090, 9096, 9152, 9283, 9285, 9286, 9298, 9300, 9313, 9316, 9328, 9347, 9349, 9350, 9362, 9364, 9377, 9380, 9392, 9410, 9412, 9440,
  9475, 9477, 9478, 9490, 9492, 9505, 9508, 9520, 9537, 9540, 9552, 9601, 9602, 9616, 9632, 9664, 9731, 9733, 9734, 9746, 9748, 9761, 9764, 9776,
  9858, 9860, 9888, 9985, 9988, 10000, 10112, 10307, 10309, 10310, 10314, 10316, 10337, 10338, 10344, 10371, 10373, 10374, 10378, 10380, 10401, 10402, 10408, 10434,
  10436, 10464, 10499, 10501, 10502, 10506, 10508, 10529, 10530, 10536, 10561, 10564, 10568, 10592, 10625, 10626, 10632, 10688, 10755, 10757, 10758, 10762, 10764, 10785,
  10786, 10792, 10818, 10820, 10848, 11009, 11010, 11016, 11072, 11330, 11332, 11360, 11394, 11396, 11424, 11522, 11524, 11552, 11584, 11648, 11778, 11780, 11808, 12032,
  12355, 12357, 12358, 12361, 12364, 12369, 12370, 12376, 12419, 12421, 12422, 12425, 12428, 12433, 12434, 12440, 12482, 12484, 12488, 12496, 12547, 12549, 12550, 12553,
  12556, 12561, 12562, 12568, 12609, 12612, 12624, 12673, 12674, 12680, 12736, 12803, 12805, 12806, 12809, 12812, 12817, 12818, 12824, 12865, 12868, 12880, 12929, 12930,
  12936, 12992, 13377, 13380, 13392, 13441, 13444, 13456, 13504, 13569, 13572, 13584, 13696, 13825, 13828, 13840, 13952, 14401, 14402, 14408, 14465, 14466, 14472, 14528,
  14593, 14594, 14600, 14656, 14849, 14850, 14856, 14912, 15424, 15488, 15616, 15872]
def sg5 : List Nat := [16459, 16461, 16462, 16467, 16469, 16470, 16474, 16476, 16483, 16485, 16486, 16489, 16492, 16497, 16498, 16504, 16523, 16525, 16526, 16531, 16533, 16534, 16538, 16540,
  16547, 16549, 16550, 16553, 16556, 16561, 16562, 16568, 16586, 16588, 16594, 16596, 16610, 16612, 16616, 16624, 16651, 16653, 16654, 16659, 16661, 16662, 16666, 16668,
  16675, 16677, 16678, 16681, 16684, 16689, 16690, 16696, 16713, 16716, 16721, 16724, 16728, 16737, 16740, 16752, 16777, 16778, 16785, 16786, 16792, 16801, 16802, 16808,
  16840, 16848, 16864, 16907, 16909, 16910, 16915, 16917, 16918, 16922, 16924, 16931, 16933, 16934, 16937, 16940, 16945, 16946, 16952, 16963, 16965, 16966, 16978, 16980,
  16993, 16996, 17008, 17027, 17029, 17030, 17034, 17036, 17057, 17058, 17064, 17090, 17092, 17120, 17155, 17157, 17158, 17161, 17164, 17169, 17170, 17176, 17217, 17220,
  17232, 17281, 17282, 17288, 17344, 17419, 17421, 17422, 17427, 17429, 17430, 17434, 17436, 17443, 17445, 17446, 17449, 17452, 17457, 17458, 17464, 17546, 17548, 17554,
  17556, 17570, 17572, 17576, 17584, 17673, 17676, 17681, 17684, 17688, 17697, 17700, 17712, 17800, 17808, 17824, 17923, 17925, 17926, 17938, 17940, 17953, 17956, 17968,
  18050, 18052, 18080, 18177, 18180, 18192, 18304, 18443, 18445, 18446, 18451, 18453, 18454, 18458, 18460, 18467, 18469, 18470, 18473, 18476, 18481, 18482, 18488, 18506,
  18508, 18514, 18516, 18530, 18532, 18536, 18544, 18697, 18698, 18705, 18706, 18712, 18721, 18722, 18728, 18760, 18768, 18784, 18947, 18949, 18950, 18954, 18956, 18977,
  18978, 18984, 19010, 19012, 19040, 19201, 19202, 19208, 19264, 19466, 19468, 19474, 19476, 19490, 19492, 19496, 19504, 19720, 19728, 19744, 19970, 19972, 20000, 20224,
  20491, 20493, 20494, 20499, 20501, 20502, 20506, 20508, 20515, 20517, 20518, 20521, 20524, 20529, 20530, 20536, 20553, 20556, 20561, 20564, 20568, 20577, 20580, 20592,
  20617, 20618, 20625, 20626, 20632, 20641, 20642, 20648, 20680, 20688, 20704, 20995, 20997, 20998, 21001, 21004, 21009, 21010, 21016, 21057, 21060, 21072, 21121, 21122,
  21128, 21184, 21513, 21516, 21521, 21524, 21528, 21537, 21540, 21552, 21640, 21648, 21664, 22017, 22020, 22032, 22144, 22537, 22538, 22545, 22546, 22552, 22561, 22562,
  22568, 22600, 22608, 22624, 23041, 23042, 23048, 23104, 23560, 23568, 23584, 24064, 24587, 24589, 24590, 24595, 24597, 24598, 24602, 24604, 24611, 24613, 24614, 24617,
  24620, 24625, 24626, 24632, 24643, 24645, 24646, 24658, 24660, 24673, 24676, 24688, 24707, 24709, 24710, 24714, 24716, 24737, 24738, 24744, 24770, 24772, 24800, 24835,
  24837, 24838, 24841, 24844, 24849, 24850, 24856, 24897, 24900, 24912, 24961, 24962, 24968, 25024, 25603, 25605, 25606, 25618, 25620, 25633, 25636, 25648, 25730, 25732,
  25760, 25857, 25860, 25872, 25984, 26627, 26629, 26630, 26634, 26636, 26657, 26658, 26664, 26690, 26692, 26720, 26881, 26882, 26888, 26944, 27650, 27652, 27680, 27904,
  28675, 28677, 28678, 28681, 28684, 28689, 28690, 28696, 28737, 28740, 28752, 28801, 28802, 28808, 28864, 29697, 29700, 29712, 29824, 30721, 30722, 30728, 30784, 31744]
def pat6 : Nat → List Nat
  | 0 => []
  | 1 => sg1
  | 2 => sg1 ++ sg2
  | 3 => sg1 ++ (sg2 ++ sg3)
  | 4 => sg1 ++ (sg2 ++ (sg3 ++ sg4))
  | _ => sg1 ++ (sg2 ++ (sg3 ++ (sg4 ++ sg5)))
def bt (p i : Nat) : Bool := Nat.beq ((p >>> i) % 2) 1
/-- what is reached by some pairs -/
def cl6 (p : Nat) (r : Nat) : Nat := (List.range 15).foldl (fun r i => if bt p i && (bt r (pr6.getD i (0, 0)).1 || bt r (pr6.getD i (0, 0)).2) then r ||| (1 <<< (pr6.getD i (0, 0)).1 ||| 1 <<< (pr6.getD i (0, 0)).2) else r) r
def con6 (p : Nat) : Bool := Nat.beq (cl6 p (cl6 p (cl6 p (cl6 p (cl6 p 1))))) 63
def cnt6 (p : Nat) : Nat := (List.range 15).countP (bt p)
def asc6 : List Nat → Bool
  | [] => true
  | [_] => true
  | a :: b :: l => Nat.blt a b && asc6 (b :: l)
set_option maxRecDepth 100000 in
theorem pat6_ok : ((pat6 5).all fun p => con6 p && (Nat.beq (cnt6 p) 5 && Nat.blt p 32768)) = true := by decide +kernel
set_option maxRecDepth 100000 in
theorem pat6_asc : asc6 (pat6 5) = true := by decide +kernel
def toN : List Bool → Nat
  | [] => 0
  | b :: l => (if b then 1 else 0) + 2 * toN l
def allB : Nat → List (List Bool)
  | 0 => [[]]
  | n + 1 => (allB n).flatMap fun l => [false :: l, true :: l]
def F6 (m d : Nat) : Nat :=
  if m = 9 then (if 2 ≤ d then 48 else 0) else
  if m = 10 then (if d = 0 then 0 else if d = 1 then 75 else if d = 2 then 96 else 121) else
  if m = 11 then 125 else if m = 12 then 300 else if m = 13 then 540 else if m = 14 then 864 else if m = 15 then 1296 else 0
def tch (u i : Nat) : Bool := Nat.beq (pr6.getD i (0, 0)).1 u || Nat.beq (pr6.getD i (0, 0)).2 u
def deg6 (p u : Nat) : Nat := (List.range 15).countP fun i => bt p i && tch u i
def b6 (m i : Nat) : Nat := (m >>> i) % 2
/-- the degrees, and the number of pairs, quick to compute -/
def dq6 (m : Nat) : Nat → Nat
  | 0 => b6 m 0 + b6 m 1 + b6 m 3 + b6 m 6 + b6 m 10
  | 1 => b6 m 0 + b6 m 2 + b6 m 4 + b6 m 7 + b6 m 11
  | 2 => b6 m 1 + b6 m 2 + b6 m 5 + b6 m 8 + b6 m 12
  | 3 => b6 m 3 + b6 m 4 + b6 m 5 + b6 m 9 + b6 m 13
  | 4 => b6 m 6 + b6 m 7 + b6 m 8 + b6 m 9 + b6 m 14
  | _ => 0
def cq6 (m : Nat) : Nat := b6 m 0 + b6 m 1 + b6 m 2 + b6 m 3 + b6 m 4 + b6 m 5 + b6 m 6 + b6 m 7 + b6 m 8 + b6 m 9 + b6 m 10 + b6 m 11 + b6 m 12 + b6 m 13 + b6 m 14
/-- at least so many of a list lie in a word -/
def atL (m : Nat) : List Nat → Nat → Bool
  | _, 0 => true
  | [], _ + 1 => false
  | p :: l, k + 1 => cond (Nat.beq (Nat.land p m) p) (atL m l k) (atL m l (k + 1))
/-- the pairs of the first five nodes, and those of the last one with the first d -/
def msk (d : Nat) (bs : List Bool) : Nat := toN bs + (2 ^ d - 1) * 1024
def chk6 (d : Nat) (bs : List Bool) : Bool :=
  !(Nat.ble d (dq6 (msk d bs) 0) && (Nat.ble d (dq6 (msk d bs) 1) && (Nat.ble d (dq6 (msk d bs) 2) && (Nat.ble d (dq6 (msk d bs) 3) && Nat.ble d (dq6 (msk d bs) 4))))) || atL (msk d bs) (pat6 d) (F6 (cq6 (msk d bs)) d)
set_option maxRecDepth 100000 in
theorem chk6_0 : (allB 10).all (chk6 0) = true := by decide +kernel
set_option maxRecDepth 100000 in
theorem chk6_1 : (allB 10).all (chk6 1) = true := by decide +kernel
set_option maxRecDepth 100000 in
theorem chk6_2 : (allB 10).all (chk6 2) = true := by decide +kernel
set_option maxRecDepth 100000 in
theorem chk6_3 : (allB 10).all (chk6 3) = true := by decide +kernel
set_option maxRecDepth 100000 in
theorem chk6_4 : (allB 10).all (chk6 4) = true := by decide +kernel
set_option maxRecDepth 100000 in
theorem chk6_5 : (allB 10).all (chk6 5) = true := by decide +kernel
theorem chk6_ok {d : Nat} (h : d ≤ 5) : (allB 10).all (chk6 d) = true := by
  have : d = 0 ∨ d = 1 ∨ d = 2 ∨ d = 3 ∨ d = 4 ∨ d = 5 := by omega
  rcases this with rfl | rfl | rfl | rfl | rfl | rfl
  · exact chk6_0
  · exact chk6_1
  · exact chk6_2
  · exact chk6_3
  · exact chk6_4
  · exact chk6_5
theorem atL_ok (m : Nat) : ∀ (l : List Nat) (k : Nat), atL m l k = true → k ≤ l.countP fun p => decide (p &&& m = p)
  | _, 0, _ => Nat.zero_le _
  | [], k + 1, h => by simp [atL] at h
  | p :: l, k + 1, h => by
    unfold atL at h
    rw [List.countP_cons]
    by_cases e : p &&& m = p
    · have e2 : Nat.beq (Nat.land p m) p = true := by rw [Nat.beq_eq]; exact e
      rw [e2, cond_true] at h
      have := atL_ok m l k h
      rw [decide_eq_true e, if_pos rfl]; omega
    · have e2 : Nat.beq (Nat.land p m) p = false := by
        rw [← Bool.not_eq_true, Nat.beq_eq]; exact e
      rw [e2, cond_false] at h
      have := atL_ok m l (k + 1) h
      rw [decide_eq_false e]; simp only [Bool.false_eq_true, if_false]; omega
theorem pat6_sub {d : Nat} (h : d ≤ 5) : (pat6 d).Sublist (pat6 5) := by
  have a : ∀ (l m n : List Nat), m.Sublist n → (l ++ m).Sublist (l ++ n) := fun l m n q => (List.append_sublist_append_left l).2 q
  have hd : d = 0 ∨ d = 1 ∨ d = 2 ∨ d = 3 ∨ d = 4 ∨ d = 5 := by omega
  rcases hd with rfl | rfl | rfl | rfl | rfl | rfl
  · exact List.nil_sublist _
  · exact List.sublist_append_left _ _
  · exact a _ _ _ (List.sublist_append_left _ _)
  · exact a _ _ _ (a _ _ _ (List.sublist_append_left _ _))
  · exact a _ _ _ (a _ _ _ (a _ _ _ (List.sublist_append_left _ _)))
  · exact List.Sublist.refl _
theorem allB_mem : ∀ (n : Nat) (bs : List Bool), bs.length = n → bs ∈ allB n
  | 0, bs, h => by rw [List.eq_nil_of_length_eq_zero h]; simp [allB]
  | n + 1, [], h => by simp at h
  | n + 1, b :: bs, h => by
    unfold allB
    rw [List.mem_flatMap]
    exact ⟨bs, allB_mem n bs (by simpa using h), by cases b <;> simp⟩
theorem b6_bt (m i : Nat) : b6 m i = if bt m i = true then 1 else 0 := by
  unfold b6 bt
  have h : (m >>> i) % 2 = 0 ∨ (m >>> i) % 2 = 1 := by omega
  rcases h with h | h <;> rw [h] <;> rfl
theorem cq6_ok (m : Nat) : cnt6 m = cq6 m := by
  unfold cnt6 cq6
  simp only [b6_bt, List.range, List.range.loop, List.countP_cons, List.countP_nil]
  omega
theorem dq6_ok (m : Nat) {u : Nat} (hu : u < 5) : deg6 m u = dq6 m u := by
  have h : ∀ i, (if (bt m i && true) = true then 1 else 0) = b6 m i := fun i => by rw [b6_bt, Bool.and_true]
  have h0 : ∀ i, (if (bt m i && false) = true then 1 else 0) = 0 := fun i => by rw [Bool.and_false]; rfl
  have hc : u = 0 ∨ u = 1 ∨ u = 2 ∨ u = 3 ∨ u = 4 := by omega
  rcases hc with rfl | rfl | rfl | rfl | rfl
  · have t : (List.range 15).map (tch 0) = [true, true, false, true, false, false, true, false, false, false, true, false, false, false, false] := by decide
    simp only [List.range, List.range.loop, List.map_cons, List.map_nil, List.cons.injEq, and_true] at t
    obtain ⟨t0, t1, t2, t3, t4, t5, t6, t7, t8, t9, t10, t11, t12, t13, t14⟩ := t
    unfold deg6
    simp only [List.range, List.range.loop, List.countP_cons, List.countP_nil, t0, t1, t2, t3, t4, t5, t6, t7, t8, t9, t10, t11, t12, t13, t14, h, h0, dq6]
    omega
  · have t : (List.range 15).map (tch 1) = [true, false, true, false, true, false, false, true, false, false, false, true, false, false, false] := by decide
    simp only [List.range, List.range.loop, List.map_cons, List.map_nil, List.cons.injEq, and_true] at t
    obtain ⟨t0, t1, t2, t3, t4, t5, t6, t7, t8, t9, t10, t11, t12, t13, t14⟩ := t
    unfold deg6
    simp only [List.range, List.range.loop, List.countP_cons, List.countP_nil, t0, t1, t2, t3, t4, t5, t6, t7, t8, t9, t10, t11, t12, t13, t14, h, h0, dq6]
    omega
  · have t : (List.range 15).map (tch 2) = [false, true, true, false, false, true, false, false, true, false, false, false, true, false, false] := by decide
    simp only [List.range, List.range.loop, List.map_cons, List.map_nil, List.cons.injEq, and_true] at t
    obtain ⟨t0, t1, t2, t3, t4, t5, t6, t7, t8, t9, t10, t11, t12, t13, t14⟩ := t
    unfold deg6
    simp only [List.range, List.range.loop, List.countP_cons, List.countP_nil, t0, t1, t2, t3, t4, t5, t6, t7, t8, t9, t10, t11, t12, t13, t14, h, h0, dq6]
    omega
  · have t : (List.range 15).map (tch 3) = [false, false, false, true, true, true, false, false, false, true, false, false, false, true, false] := by decide
    simp only [List.range, List.range.loop, List.map_cons, List.map_nil, List.cons.injEq, and_true] at t
    obtain ⟨t0, t1, t2, t3, t4, t5, t6, t7, t8, t9, t10, t11, t12, t13, t14⟩ := t
    unfold deg6
    simp only [List.range, List.range.loop, List.countP_cons, List.countP_nil, t0, t1, t2, t3, t4, t5, t6, t7, t8, t9, t10, t11, t12, t13, t14, h, h0, dq6]
    omega
  · have t : (List.range 15).map (tch 4) = [false, false, false, false, false, false, true, true, true, true, false, false, false, false, true] := by decide
    simp only [List.range, List.range.loop, List.map_cons, List.map_nil, List.cons.injEq, and_true] at t
    obtain ⟨t0, t1, t2, t3, t4, t5, t6, t7, t8, t9, t10, t11, t12, t13, t14⟩ := t
    unfold deg6
    simp only [List.range, List.range.loop, List.countP_cons, List.countP_nil, t0, t1, t2, t3, t4, t5, t6, t7, t8, t9, t10, t11, t12, t13, t14, h, h0, dq6]
    omega
theorem bt_iff (p i : Nat) : bt p i = p.testBit i := by
  unfold bt
  rw [Nat.testBit_eq_decide_div_mod_eq, ← Nat.shiftRight_eq_div_pow, Bool.eq_iff_iff, Nat.beq_eq, decide_eq_true_eq]
theorem toN_bit : ∀ (bs : List Bool) (i : Nat), (toN bs).testBit i = bs.getD i false
  | [], i => by simp [toN]
  | b :: bs, 0 => by
    rw [Nat.testBit_zero]
    simp only [toN]
    cases b <;> simp <;> omega
  | b :: bs, i + 1 => by
    rw [Nat.testBit_succ]
    have : toN (b :: bs) / 2 = toN bs := by simp only [toN]; cases b <;> simp <;> omega
    rw [this, toN_bit bs i]; rfl
theorem toN_lt : ∀ (bs : List Bool), toN bs < 2 ^ bs.length
  | [] => by simp [toN]
  | b :: bs => by
    have := toN_lt bs
    simp only [toN]
    rw [List.length_cons, Nat.pow_succ]
    cases b <;> simp <;> omega
theorem msk_bit {d : Nat} {bs : List Bool} (hb : bs.length = 10) (hd : d ≤ 5) (i : Nat) : (msk d bs).testBit i = if i < 10 then bs.getD i false else decide (i < 10 + d) := by
  have h1 := toN_lt bs
  rw [hb] at h1
  unfold msk
  rw [show (1024 : Nat) = 2 ^ 10 from rfl, Nat.add_comm, Nat.mul_comm, Nat.testBit_two_pow_mul_add _ h1]
  split
  · exact toN_bit bs i
  · rw [Nat.testBit_two_pow_sub_one, decide_eq_decide]; omega
theorem asc6_ok : ∀ (l : List Nat), asc6 l = true → l.Pairwise (· < ·)
  | [], _ => .nil
  | [a], _ => by simp
  | a :: b :: l, h => by
    unfold asc6 at h
    rw [Bool.and_eq_true] at h
    have ih := asc6_ok (b :: l) h.2
    have hab : a < b := by have := h.1; unfold Nat.blt at this; exact Nat.le_of_ble_eq_true this
    refine List.pairwise_cons.2 ⟨fun x hx => ?_, ih⟩
    rcases List.mem_cons.1 hx with rfl | hx
    · exact hab
    · have := (List.pairwise_cons.1 ih).1 x hx; omega
/-- what is reached is joined -/
theorem cl6_ok {R : Nat → Nat → Prop} (rr : R 0 0) (rs : ∀ {a b}, R a b → R b a) (rt : ∀ {a b c}, R a b → R b c → R a c) {p : Nat} (hp : ∀ i, i < 15 → p.testBit i = true → R (pr6.getD i (0, 0)).1 (pr6.getD i (0, 0)).2)
    {r : Nat} (h : ∀ x, r.testBit x = true → R 0 x) : ∀ x, (cl6 p r).testBit x = true → R 0 x := by
  unfold cl6
  have key : ∀ (l : List Nat) (r : Nat), (∀ i ∈ l, i < 15) → (∀ x, r.testBit x = true → R 0 x) → ∀ x, (l.foldl (fun r i => if bt p i && (bt r (pr6.getD i (0, 0)).1 || bt r (pr6.getD i (0, 0)).2) then r ||| (1 <<< (pr6.getD i (0, 0)).1 ||| 1 <<< (pr6.getD i (0, 0)).2) else r) r).testBit x = true → R 0 x := by
    intro l
    induction l with
    | nil => intro r _ h x hx; exact h x hx
    | cons i l ih =>
      intro r hl h
      rw [List.foldl_cons]
      refine ih _ (fun j hj => hl j (by simp [hj])) ?_
      intro x hx
      split at hx
      · rename_i g
        rw [Bool.and_eq_true, Bool.or_eq_true, bt_iff, bt_iff, bt_iff] at g
        have e := hp i (hl i (by simp)) g.1
        have both : R 0 (pr6.getD i (0, 0)).1 ∧ R 0 (pr6.getD i (0, 0)).2 := by
          rcases g.2 with q | q
          · exact ⟨h _ q, rt (h _ q) e⟩
          · exact ⟨rt (h _ q) (rs e), h _ q⟩
        rw [Nat.testBit_or, Nat.testBit_or, Nat.one_shiftLeft, Nat.one_shiftLeft, Nat.testBit_two_pow, Nat.testBit_two_pow, Bool.or_eq_true, Bool.or_eq_true, decide_eq_true_eq, decide_eq_true_eq] at hx
        rcases hx with q | q | q
        · exact h x q
        · rw [← q]; exact both.1
        · rw [← q]; exact both.2
      · exact h x hx
  exact key _ r (fun i hi => List.mem_range.1 hi) h
theorem con6_ok {R : Nat → Nat → Prop} (rr : R 0 0) (rs : ∀ {a b}, R a b → R b a) (rt : ∀ {a b c}, R a b → R b c → R a c) {p : Nat} (hc : con6 p = true) (hp : ∀ i, i < 15 → p.testBit i = true → R (pr6.getD i (0, 0)).1 (pr6.getD i (0, 0)).2) : ∀ x, x < 6 → R 0 x := by
  intro x hx
  have h0 : ∀ x, (1 : Nat).testBit x = true → R 0 x := by
    intro x hx
    have : x = 0 := by
      rw [show (1 : Nat) = 2 ^ 0 from rfl, Nat.testBit_two_pow, decide_eq_true_eq] at hx
      exact hx.symm
    subst this; exact rr
  have h5 := cl6_ok rr rs rt hp (cl6_ok rr rs rt hp (cl6_ok rr rs rt hp (cl6_ok rr rs rt hp (cl6_ok rr rs rt hp h0))))
  have e := Nat.eq_of_beq_eq_true hc
  refine h5 x ?_
  rw [e, show (63 : Nat) = 2 ^ 6 - 1 from rfl, Nat.testBit_two_pow_sub_one]
  exact decide_eq_true hx
end Go.Proofs.Ytjnefjchconebab.Ai
namespace Go.Proofs.Ytjnefjchconebab.Ai
open Go
set_option linter.unusedVariables false
theorem asc_ext : ∀ {l m : List Int}, l.Pairwise (· < ·) → m.Pairwise (· < ·) → (∀ x, x ∈ l ↔ x ∈ m) → l = m
  | [], [], _, _, _ => rfl
  | [], b :: m, _, _, h => by have := (h b).2 (by simp); simp at this
  | a :: l, [], _, _, h => by have := (h a).1 (by simp); simp at this
  | a :: l, b :: m, hl, hm, h => by
    have hl' := List.pairwise_cons.1 hl
    have hm' := List.pairwise_cons.1 hm
    have e : a = b := by
      have h1 := (h a).1 (by simp)
      have h2 := (h b).2 (by simp)
      rcases List.mem_cons.1 h1 with q | q
      · exact q
      · rcases List.mem_cons.1 h2 with p | p
        · exact p.symm
        · have := hm'.1 a q
          have := hl'.1 b p
          omega
    subst e
    rw [asc_ext hl'.2 hm'.2 fun x => ?_]
    have := h x
    constructor
    · intro hx
      rcases List.mem_cons.1 (this.1 (by simp [hx])) with q | q
      · have := hl'.1 x hx; omega
      · exact q
    · intro hx
      rcases List.mem_cons.1 (this.2 (by simp [hx])) with q | q
      · have := hm'.1 x hx; omega
      · exact q
def inc (es : List (Int × Int)) (v : Nat) (e : Int) : Bool := decide (enA es e = v ∨ enB es e = v)
theorem inc_iff {es : List (Int × Int)} {v : Nat} {e : Int} : inc es v e = true ↔ enA es e = v ∨ enB es e = v := by unfold inc; exact decide_eq_true_iff
/-- some edges with all their ends among some nodes -/
structure SG (es : List (Int × Int)) (A : List Int) (V : List Nat) : Prop where
  asc : A.Pairwise (· < ·)
  nd : V.Nodup
  ends : ∀ e ∈ A, (enA es e ∈ V ∧ enB es e ∈ V) ∧ enA es e < enB es e
  inj : ∀ e ∈ A, ∀ f ∈ A, enA es e = enA es f → enB es e = enB es f → e = f
def dgA (es : List (Int × Int)) (A : List Int) (v : Nat) : Nat := A.countP (inc es v)
def cutV (es : List (Int × Int)) (A : List Int) (v : Nat) : List Int := A.filter fun e => !inc es v e
theorem cutV_mem {es : List (Int × Int)} {A : List Int} {v : Nat} {e : Int} : e ∈ cutV es A v ↔ e ∈ A ∧ ¬ (enA es e = v ∨ enB es e = v) := by
  unfold cutV
  rw [List.mem_filter, Bool.not_eq_true', ← Bool.not_eq_true, inc_iff]
theorem SG.ndA {es : List (Int × Int)} {A : List Int} {V : List Nat} (h : SG es A V) : A.Nodup := h.asc.imp fun q e => by omega
theorem SG.cut {es : List (Int × Int)} {A : List Int} {V : List Nat} (h : SG es A V) (v : Nat) : SG es (cutV es A v) (V.erase v) := by
  refine ⟨h.asc.sublist List.filter_sublist, h.nd.sublist List.erase_sublist, fun e he => ?_, fun e he f hf => h.inj e (cutV_mem.1 he).1 f (cutV_mem.1 hf).1⟩
  obtain ⟨h1, h2⟩ := cutV_mem.1 he
  obtain ⟨⟨h3, h4⟩, h5⟩ := h.ends e h1
  exact ⟨⟨(List.mem_erase_of_ne fun q => h2 (.inl q)).2 h3, (List.mem_erase_of_ne fun q => h2 (.inr q)).2 h4⟩, h5⟩
theorem cut_len (es : List (Int × Int)) (v : Nat) : ∀ A : List Int, (cutV es A v).length + dgA es A v = A.length
  | [] => rfl
  | e :: A => by
    have := cut_len es v A
    unfold cutV dgA at *
    rw [List.filter_cons, List.countP_cons]
    cases inc es v e <;> simp <;> omega
theorem SG.cut_dg {es : List (Int × Int)} {A : List Int} {V : List Nat} (h : SG es A V) {u v : Nat} (hne : u ≠ v) : dgA es A u ≤ dgA es (cutV es A v) u + 1 := by
  have h1 : ∀ B : List Int, dgA es B u = dgA es (cutV es B v) u + B.countP fun e => inc es u e && inc es v e := by
    intro B
    induction B with
    | nil => rfl
    | cons e B ih =>
      unfold dgA cutV at *
      rw [List.countP_cons, List.filter_cons, List.countP_cons]
      cases hu : inc es u e <;> cases hv : inc es v e <;> simp [hu] <;> omega
  have h2 : (A.countP fun e => inc es u e && inc es v e) ≤ 1 := by
    rw [List.countP_eq_length_filter]
    have hn := (h.ndA.sublist (List.filter_sublist (p := fun e => inc es u e && inc es v e)))
    have hall : ∀ e ∈ A.filter (fun e => inc es u e && inc es v e), ∀ f ∈ A.filter (fun e => inc es u e && inc es v e), e = f := by
      intro e he f hf
      rw [List.mem_filter, Bool.and_eq_true, inc_iff, inc_iff] at he hf
      have l1 := (h.ends e he.1).2
      have l2 := (h.ends f hf.1).2
      refine h.inj e he.1 f hf.1 ?_ ?_ <;> omega
    generalize A.filter (fun e => inc es u e && inc es v e) = l at *
    match l, hn, hall with
    | [], _, _ => simp
    | [a], _, _ => simp
    | a :: b :: l, hn, hall =>
      have := hall a (by simp) b (by simp)
      subst this
      simp at hn
  have := h1 A
  omega
def sumL (f : Nat → Nat) (V : List Nat) : Nat := (V.map f).foldr (· + ·) 0
theorem sumL_add (f g : Nat → Nat) : ∀ V, sumL (fun v => f v + g v) V = sumL f V + sumL g V
  | [] => rfl
  | v :: V => by
    have := sumL_add f g V
    unfold sumL at *
    simp only [List.map_cons, List.foldr_cons]; omega
theorem sumL_cnt (p : Nat → Bool) : ∀ V, sumL (fun v => if p v = true then 1 else 0) V = V.countP p
  | [] => rfl
  | v :: V => by
    have := sumL_cnt p V
    unfold sumL at *
    rw [List.map_cons, List.foldr_cons, List.countP_cons, this]; omega
theorem sumL_ge (f : Nat → Nat) (m : Nat) : ∀ V, (∀ v ∈ V, m ≤ f v) → m * V.length ≤ sumL f V
  | [], _ => by simp [sumL]
  | v :: V, h => by
    have := sumL_ge f m V fun x hx => h x (by simp [hx])
    have := h v (by simp)
    unfold sumL at *
    rw [List.map_cons, List.foldr_cons, List.length_cons, Nat.mul_succ]; omega
theorem two_ends {V : List Nat} (hn : V.Nodup) {a b : Nat} (ha : a ∈ V) (hb : b ∈ V) (hne : a ≠ b) : (V.countP fun v => decide (a = v ∨ b = v)) = 2 := by
  rw [List.countP_eq_length_filter]
  have h1 := nodup_leB (V.filter fun v => decide (a = v ∨ b = v)) [a, b] (hn.sublist List.filter_sublist) fun x hx => by
    rw [List.mem_filter, decide_eq_true_eq] at hx
    rcases hx.2 with q | q <;> simp [q]
  have h2 := nodup_leB [a, b] (V.filter fun v => decide (a = v ∨ b = v)) (by simp [hne]) fun x hx => by
    rw [List.mem_filter, decide_eq_true_eq]
    simp only [List.mem_cons, List.not_mem_nil, or_false] at hx
    rcases hx with rfl | rfl
    · exact ⟨ha, .inl rfl⟩
    · exact ⟨hb, .inr rfl⟩
  simp only [List.length_cons, List.length_nil] at h1 h2
  omega
theorem handshake {es : List (Int × Int)} {V : List Nat} (hn : V.Nodup) : ∀ A : List Int, (∀ e ∈ A, (enA es e ∈ V ∧ enB es e ∈ V) ∧ enA es e < enB es e) → sumL (dgA es A) V = 2 * A.length
  | [], _ => by
    have := sumL_cnt (fun _ => false) V
    have e : (dgA es []) = fun v => if (fun _ : Nat => false) v = true then 1 else 0 := by funext v; rfl
    rw [e, this, List.countP_eq_zero.2 (by simp)]; rfl
  | e :: A, h => by
    have ih := handshake hn A fun f hf => h f (by simp [hf])
    obtain ⟨⟨h1, h2⟩, h3⟩ := h e (by simp)
    have hd : dgA es (e :: A) = fun v => dgA es A v + if (fun v => decide (enA es e = v ∨ enB es e = v)) v = true then 1 else 0 := by
      funext v
      unfold dgA
      rw [List.countP_cons]; rfl
    rw [hd, sumL_add, ih, sumL_cnt, two_ends hn h1 h2 (by omega), List.length_cons]; omega
theorem exists_min (f : Nat → Nat) : ∀ V : List Nat, V ≠ [] → ∃ v ∈ V, ∀ u ∈ V, f v ≤ f u
  | [], h => absurd rfl h
  | [v], _ => ⟨v, by simp, by simp⟩
  | v :: w :: V, _ => by
    obtain ⟨x, h1, h2⟩ := exists_min f (w :: V) (by simp)
    by_cases g : f v ≤ f x
    · refine ⟨v, by simp, fun u hu => ?_⟩
      rcases List.mem_cons.1 hu with rfl | hu
      · exact Nat.le_refl _
      · exact Nat.le_trans g (h2 u hu)
    · refine ⟨x, List.mem_cons_of_mem _ h1, fun u hu => ?_⟩
      rcases List.mem_cons.1 hu with rfl | hu
      · omega
      · exact h2 u hu
theorem SG.min {es : List (Int × Int)} {A : List Int} {V : List Nat} (h : SG es A V) (hV : V ≠ []) : ∃ v ∈ V, (∀ u ∈ V, dgA es A v ≤ dgA es A u) ∧ dgA es A v * V.length ≤ 2 * A.length := by
  obtain ⟨v, h1, h2⟩ := exists_min (dgA es A) V hV
  refine ⟨v, h1, h2, ?_⟩
  rw [← handshake h.nd A h.ends]
  exact sumL_ge _ _ _ h2
/-- a tree of some nodes by some edges -/
structure STr (es : List (Int × Int)) (A : List Int) (V : List Nat) (T : List Int) : Prop where
  asc : T.Pairwise (· < ·)
  sub : ∀ e ∈ T, e ∈ A
  len : T.length + 1 = V.length
  con : ∀ x ∈ V, ∀ y ∈ V, Jn es T x y
/-- so many trees at least -/
def LB (es : List (Int × Int)) (A : List Int) (V : List Nat) (k : Nat) : Prop := ∃ L : List (List Int), L.Nodup ∧ k ≤ L.length ∧ ∀ T ∈ L, STr es A V T
theorem LB.mono {es : List (Int × Int)} {A B : List Int} {V : List Nat} {k m : Nat} (h : LB es A V k) (hs : ∀ e ∈ A, e ∈ B) (hm : m ≤ k) : LB es B V m := by
  obtain ⟨L, h1, h2, h3⟩ := h
  exact ⟨L, h1, by omega, fun T hT => ⟨(h3 T hT).asc, fun e he => hs e ((h3 T hT).sub e he), (h3 T hT).len, (h3 T hT).con⟩⟩
theorem LB.leaf {es : List (Int × Int)} {A : List Int} {V : List Nat} (h : SG es A V) {v : Nat} (hv : v ∈ V) {k : Nat} (hL : LB es (cutV es A v) (V.erase v) k) : LB es A V (dgA es A v * k) := by
  obtain ⟨L, l1, l2, l3⟩ := hL
  have hlen := List.length_erase_of_mem hv
  have hpos := List.length_pos_of_mem hv
  have key : ∀ I : List Int, I.Nodup → (∀ e ∈ I, e ∈ A ∧ inc es v e = true) → ∃ M : List (List Int), M.Nodup ∧ I.length * k ≤ M.length ∧ ∀ U ∈ M, STr es A V U ∧ ∃ e ∈ I, e ∈ U ∧ ∀ f ∈ U, inc es v f = true → f = e := by
    intro I
    induction I with
    | nil => intro _ _; exact ⟨[], .nil, by simp, by simp⟩
    | cons e I ih =>
      intro hn hI
      have hn' := List.nodup_cons.1 hn
      obtain ⟨M, m1, m2, m3⟩ := ih hn'.2 fun f hf => hI f (by simp [hf])
      obtain ⟨heA, hev⟩ := hI e (by simp)
      have notin : ∀ T ∈ L, ∀ f ∈ T, inc es v f = false := by
        intro T hT f hf
        have := (cutV_mem.1 ((l3 T hT).sub f hf)).2
        rw [← Bool.not_eq_true, inc_iff]; exact this
      have heT : ∀ T ∈ L, e ∉ T := fun T hT q => by have := notin T hT e q; rw [hev] at this; cases this
      have hput : ∀ T ∈ L, STr es A V (put T e) := by
        intro T hT
        have t := l3 T hT
        have up : ∀ {x y}, Jn es T x y → Jn es (put T e) x y := fun q => q.mono fun f hf => (put_mem _ _ _).2 (.inr hf)
        have hE : Jn es (put T e) (enA es e) (enB es e) := .edge e ((put_mem _ _ _).2 (.inl rfl))
        obtain ⟨w, hw, hwv, hjw⟩ : ∃ w, w ∈ V ∧ w ≠ v ∧ Jn es (put T e) v w := by
          have hen := h.ends e heA
          rcases inc_iff.1 hev with q | q
          · exact ⟨enB es e, hen.1.2, by omega, by rw [q] at hE; exact hE⟩
          · exact ⟨enA es e, hen.1.1, by omega, by rw [q] at hE; exact hE.symm⟩
        have hall : ∀ x ∈ V, Jn es (put T e) x w := by
          intro x hx
          by_cases g : x = v
          · subst g; exact hjw
          · exact up (t.con x ((List.mem_erase_of_ne g).2 hx) w ((List.mem_erase_of_ne hwv).2 hw))
        refine ⟨put_sorted _ _ t.asc, fun f hf => ?_, ?_, fun x hx y hy => (hall x hx).trans (hall y hy).symm⟩
        · rcases (put_mem _ _ _).1 hf with rfl | q
          · exact heA
          · exact (cutV_mem.1 (t.sub f q)).1
        · have := (put_perm T e (heT T hT)).length_eq
          rw [List.length_cons] at this
          have := t.len
          omega
      refine ⟨L.map (fun T => put T e) ++ M, ?_, ?_, ?_⟩
      · rw [List.nodup_append]
        refine ⟨?_, m1, ?_⟩
        · rw [List.Nodup, List.pairwise_map]
          refine List.Pairwise.imp_of_mem ?_ l1
          intro T U hT hU hne heq
          refine hne (asc_ext (l3 T hT).asc (l3 U hU).asc fun x => ?_)
          have hx : x ∈ put T e ↔ x ∈ put U e := by rw [heq]
          rw [put_mem, put_mem] at hx
          constructor
          · intro q
            rcases hx.1 (.inr q) with r | r
            · subst r; exact absurd q (heT T hT)
            · exact r
          · intro q
            rcases hx.2 (.inr q) with r | r
            · subst r; exact absurd q (heT U hU)
            · exact r
        · intro U hU W hW heq
          subst heq
          obtain ⟨T, hT, rfl⟩ := List.mem_map.1 hU
          obtain ⟨f, f1, f2, f3⟩ := (m3 _ hW).2
          have := f3 e ((put_mem _ _ _).2 (.inl rfl)) hev
          subst this
          exact hn'.1 f1
      · rw [List.length_append, List.length_map, List.length_cons, Nat.succ_mul]; omega
      · intro U hU
        rcases List.mem_append.1 hU with q | q
        · obtain ⟨T, hT, rfl⟩ := List.mem_map.1 q
          refine ⟨hput T hT, e, by simp, (put_mem _ _ _).2 (.inl rfl), fun f hf hi => ?_⟩
          rcases (put_mem _ _ _).1 hf with r | r
          · exact r
          · have := notin T hT f r; rw [hi] at this; cases this
        · obtain ⟨s, f, f1, f2, f3⟩ := m3 U q
          exact ⟨s, f, by simp [f1], f2, f3⟩
  obtain ⟨M, m1, m2, m3⟩ := key (A.filter (inc es v)) (h.ndA.sublist List.filter_sublist) fun e he => List.mem_filter.1 he
  refine ⟨M, m1, ?_, fun U hU => (m3 U hU).1⟩
  have : dgA es A v = (A.filter (inc es v)).length := List.countP_eq_length_filter ..
  rw [this]; exact m2
end Go.Proofs.Ytjnefjchconebab.Ai
namespace Go.Proofs.Ytjnefjchconebab.Ai
open Go
set_option linter.unusedVariables false
theorem flt_len {α : Type} (p : α → Bool) : ∀ l : List α, (l.filter p).length + (l.filter fun x => !p x).length = l.length
  | [] => rfl
  | x :: l => by
    have := flt_len p l
    rw [List.filter_cons, List.filter_cons]
    cases p x <;> simp <;> omega
theorem nodup_at {l : List Nat} (h : l.Nodup) {i j : Nat} (hi : i < l.length) (hj : j < l.length) (e : l.getD i 0 = l.getD j 0) : i = j := by
  have e1 : l.getD i 0 = l[i] := by simp [hi]
  have e2 : l.getD j 0 = l[j] := by simp [hj]
  rw [e1, e2] at e
  have hp := List.pairwise_iff_getElem.1 h
  rcases Nat.lt_trichotomy i j with q | q | q
  · exact absurd e (hp i j hi hj q)
  · exact q
  · exact absurd e.symm (hp j i hj hi q)
theorem idx_at {l : List Nat} {x : Nat} (hx : x ∈ l) : l.idxOf x < l.length ∧ l.getD (l.idxOf x) 0 = x := by
  have h1 := List.idxOf_lt_length_iff.2 hx
  refine ⟨h1, ?_⟩
  rw [List.getD_eq_getElem?_getD, List.getElem?_eq_getElem h1, Option.getD_some]
  exact List.getElem_idxOf h1
theorem pid_ok : ∀ j : Fin 6, ∀ i : Fin 6, i.val < j.val → pid i.val j.val < 15 ∧ pr6.getD (pid i.val j.val) (0, 0) = (i.val, j.val) := by decide
theorem tch_last : ∀ i : Fin 10, tch 5 i.val = false := by decide
theorem tch_star : ∀ u : Fin 5, tch 5 (10 + u.val) = true ∧ pr6.getD (10 + u.val) (0, 0) = (u.val, 5) ∧ pid u.val 5 = 10 + u.val := by decide
theorem star_cnt : ∀ d : Fin 6, (List.range 15).countP (fun i => decide (10 ≤ i ∧ i < 10 + d.val)) = d.val := by decide
theorem pr6_lt : ∀ i : Fin 15, (pr6.getD i.val (0, 0)).1 < (pr6.getD i.val (0, 0)).2 ∧ (pr6.getD i.val (0, 0)).2 < 6 := by decide
/-- the place of an edge among the pairs of six nodes in some order -/
def pix (es : List (Int × Int)) (ord : List Nat) (e : Int) : Nat :=
  if ord.idxOf (enA es e) < ord.idxOf (enB es e) then pid (ord.idxOf (enA es e)) (ord.idxOf (enB es e)) else pid (ord.idxOf (enB es e)) (ord.idxOf (enA es e))
structure Or6 (es : List (Int × Int)) (A : List Int) (V ord : List Nat) : Prop where
  sg : SG es A V
  nd : ord.Nodup
  len : ord.length = 6
  mem : ∀ x, x ∈ ord ↔ x ∈ V
theorem Or6.pix {es : List (Int × Int)} {A : List Int} {V ord : List Nat} (h : Or6 es A V ord) {e : Int} (he : e ∈ A) :
    pix es ord e < 15 ∧ ((ord.getD (pr6.getD (pix es ord e) (0, 0)).1 0 = enA es e ∧ ord.getD (pr6.getD (pix es ord e) (0, 0)).2 0 = enB es e) ∨ (ord.getD (pr6.getD (pix es ord e) (0, 0)).1 0 = enB es e ∧ ord.getD (pr6.getD (pix es ord e) (0, 0)).2 0 = enA es e)) := by
  obtain ⟨⟨h1, h2⟩, h3⟩ := h.sg.ends e he
  obtain ⟨a1, a2⟩ := idx_at ((h.mem _).2 h1)
  obtain ⟨b1, b2⟩ := idx_at ((h.mem _).2 h2)
  have hl := h.len
  have hne : ord.idxOf (enA es e) ≠ ord.idxOf (enB es e) := fun q => by rw [q, b2] at a2; omega
  unfold Ai.pix
  split
  · rename_i q
    have := pid_ok ⟨ord.idxOf (enB es e), by omega⟩ ⟨ord.idxOf (enA es e), by omega⟩ q
    simp only at this
    rw [this.2]
    exact ⟨this.1, .inl ⟨a2, b2⟩⟩
  · rename_i q
    have := pid_ok ⟨ord.idxOf (enA es e), by omega⟩ ⟨ord.idxOf (enB es e), by omega⟩ (show ord.idxOf (enB es e) < ord.idxOf (enA es e) by omega)
    simp only at this
    rw [this.2]
    exact ⟨this.1, .inr ⟨b2, a2⟩⟩
theorem Or6.inj {es : List (Int × Int)} {A : List Int} {V ord : List Nat} (h : Or6 es A V ord) {e f : Int} (he : e ∈ A) (hf : f ∈ A) (hp : Ai.pix es ord e = Ai.pix es ord f) : e = f := by
  have h1 := (h.pix he).2
  have h2 := (h.pix hf).2
  rw [hp] at h1
  have l1 := (h.sg.ends e he).2
  have l2 := (h.sg.ends f hf).2
  refine h.sg.inj e he f hf ?_ ?_ <;> omega
/-- is there an edge at a place -/
def bb6 (es : List (Int × Int)) (A : List Int) (ord : List Nat) (i : Nat) : Bool := A.any fun e => decide (pix es ord e = i)
theorem bb6_iff {es : List (Int × Int)} {A : List Int} {ord : List Nat} {i : Nat} : bb6 es A ord i = true ↔ ∃ e ∈ A, pix es ord e = i := by
  unfold bb6
  rw [List.any_eq_true]
  simp only [decide_eq_true_eq]
theorem Or6.cnt {es : List (Int × Int)} {A : List Int} {V ord : List Nat} (h : Or6 es A V ord) (q : Nat → Bool) : (A.countP fun e => q (Ai.pix es ord e)) = (List.range 15).countP fun i => bb6 es A ord i && q i := by
  rw [List.countP_eq_length_filter, List.countP_eq_length_filter]
  have hn : ((A.filter fun e => q (Ai.pix es ord e)).map (Ai.pix es ord)).Nodup := by
    rw [List.Nodup, List.pairwise_map]
    refine List.Pairwise.imp_of_mem ?_ (h.sg.ndA.sublist List.filter_sublist)
    intro e f he hf hne heq
    exact hne (h.inj (List.mem_filter.1 he).1 (List.mem_filter.1 hf).1 heq)
  have h1 := nodup_leB _ ((List.range 15).filter fun i => bb6 es A ord i && q i) hn fun i hi => by
    obtain ⟨e, he, rfl⟩ := List.mem_map.1 hi
    obtain ⟨he, hq⟩ := List.mem_filter.1 he
    rw [List.mem_filter, List.mem_range, Bool.and_eq_true]
    exact ⟨(h.pix he).1, bb6_iff.2 ⟨e, he, rfl⟩, hq⟩
  have h2 := nodup_leB ((List.range 15).filter fun i => bb6 es A ord i && q i) ((A.filter fun e => q (Ai.pix es ord e)).map (Ai.pix es ord)) (List.nodup_range.sublist List.filter_sublist) fun i hi => by
    rw [List.mem_filter, Bool.and_eq_true] at hi
    obtain ⟨e, he, rfl⟩ := bb6_iff.1 hi.2.1
    exact List.mem_map.2 ⟨e, List.mem_filter.2 ⟨he, hi.2.2⟩, rfl⟩
  rw [List.length_map] at h1 h2
  omega
theorem Or6.deg {es : List (Int × Int)} {A : List Int} {V ord : List Nat} (h : Or6 es A V ord) {u : Nat} (hu : u < 6) : dgA es A (ord.getD u 0) = (List.range 15).countP fun i => bb6 es A ord i && tch u i := by
  rw [← h.cnt]
  unfold dgA
  refine List.countP_congr fun e he => ?_
  obtain ⟨p1, p2⟩ := h.pix he
  have hr := pr6_lt ⟨Ai.pix es ord e, p1⟩
  simp only at hr
  have hl := h.len
  rw [inc_iff]
  unfold tch
  rw [Bool.or_eq_true, Nat.beq_eq, Nat.beq_eq]
  have key : ∀ k, k < 6 → (ord.getD k 0 = ord.getD u 0 ↔ k = u) := fun k hk => ⟨fun q => nodup_at h.nd (by omega) (by omega) q, fun q => by rw [q]⟩
  rw [← key _ (by omega), ← key _ hr.2]
  rcases p2 with ⟨q1, q2⟩ | ⟨q1, q2⟩ <;> rw [q1, q2]
  exact Or.comm
/-- the trees that patterns tell -/
theorem Or6.lb {es : List (Int × Int)} {A : List Int} {V ord : List Nat} (h : Or6 es A V ord) {m : Nat} (hm : ∀ i, i < 15 → m.testBit i = bb6 es A ord i) {d : Nat} (hd : d ≤ 5) : LB es A V ((pat6 d).countP fun p => decide (p &&& m = p)) := by
  let Tp : Nat → List Int := fun p => A.filter fun e => p.testBit (Ai.pix es ord e)
  have hVl : V.length = 6 := by
    have h1 := nodup_leB ord V h.nd fun x hx => (h.mem x).1 hx
    have h2 := nodup_leB V ord h.sg.nd fun x hx => (h.mem x).2 hx
    have := h.len
    omega
  have hsub : ∀ p, p &&& m = p → ∀ i, p.testBit i = true → m.testBit i = true := by
    intro p hp i hi
    have : (p &&& m).testBit i = true := by rw [hp]; exact hi
    rw [Nat.testBit_and, Bool.and_eq_true] at this
    exact this.2
  have hpat : ∀ p ∈ pat6 d, con6 p = true ∧ cnt6 p = 5 ∧ p < 32768 := by
    intro p hp
    have := pat6_ok
    rw [List.all_eq_true] at this
    have := this p ((pat6_sub hd).subset hp)
    rw [Bool.and_eq_true, Bool.and_eq_true] at this
    refine ⟨this.1, Nat.eq_of_beq_eq_true this.2.1, ?_⟩
    have := this.2.2
    unfold Nat.blt at this
    exact Nat.le_of_ble_eq_true this
  have h15 : ∀ p, p < 32768 → ∀ i, p.testBit i = true → i < 15 := by
    intro p hp i hi
    refine Nat.lt_of_not_le fun q => ?_
    have : p.testBit i = false := Nat.testBit_lt_two_pow (Nat.lt_of_lt_of_le hp (by
      rw [show (32768 : Nat) = 2 ^ 15 from rfl]
      exact Nat.pow_le_pow_right (by omega) q))
    rw [hi] at this
    cases this
  refine ⟨((pat6 d).filter fun p => decide (p &&& m = p)).map Tp, ?_, ?_, ?_⟩
  · rw [List.Nodup, List.pairwise_map]
    have hnd : (pat6 d).Pairwise (· ≠ ·) := ((asc6_ok _ pat6_asc).sublist (pat6_sub hd)).imp fun q => by omega
    refine List.Pairwise.imp_of_mem ?_ (hnd.sublist List.filter_sublist)
    intro p p' hp hp' hne heq
    obtain ⟨hp, hpm⟩ := List.mem_filter.1 hp
    obtain ⟨hp', hpm'⟩ := List.mem_filter.1 hp'
    rw [decide_eq_true_eq] at hpm hpm'
    refine hne (Nat.eq_of_testBit_eq fun i => ?_)
    have key : ∀ p p' : Nat, p &&& m = p → p < 32768 → Tp p = Tp p' → p.testBit i = true → p'.testBit i = true := by
      intro p p' hpm hlt heq hi
      have hi15 := h15 p hlt i hi
      have := hsub p hpm i hi
      rw [hm i hi15] at this
      obtain ⟨e, he, hpe⟩ := bb6_iff.1 this
      have h1 : e ∈ Tp p := List.mem_filter.2 ⟨he, by show p.testBit (Ai.pix es ord e) = true; rw [hpe]; exact hi⟩
      rw [heq] at h1
      have := (List.mem_filter.1 h1).2
      rw [hpe] at this
      exact this
    rw [Bool.eq_iff_iff]
    exact ⟨key p p' hpm (hpat p hp).2.2 heq, key p' p hpm' (hpat p' hp').2.2 heq.symm⟩
  · rw [List.length_map, List.countP_eq_length_filter]
    exact Nat.le_refl _
  · intro T hT
    obtain ⟨p, hp, rfl⟩ := List.mem_map.1 hT
    obtain ⟨hp, hpm⟩ := List.mem_filter.1 hp
    rw [decide_eq_true_eq] at hpm
    obtain ⟨c1, c2, c3⟩ := hpat p hp
    refine ⟨h.sg.asc.sublist List.filter_sublist, fun e he => (List.mem_filter.1 he).1, ?_, ?_⟩
    · have := h.cnt fun i => p.testBit i
      rw [List.countP_eq_length_filter] at this
      have e2 : ((List.range 15).countP fun i => bb6 es A ord i && p.testBit i) = cnt6 p := by
        unfold cnt6
        refine List.countP_congr fun i hi => ?_
        rw [bt_iff, Bool.and_eq_true]
        refine ⟨fun q => q.2, fun q => ⟨?_, q⟩⟩
        rw [← hm i (List.mem_range.1 hi)]
        exact hsub p hpm i q
      show (A.filter fun e => p.testBit (Ai.pix es ord e)).length + 1 = V.length
      omega
    · have hcon := con6_ok (R := fun x y => Jn es (Tp p) (ord.getD x 0) (ord.getD y 0)) (.refl _) (fun q => q.symm) (fun q r => q.trans r) c1 fun i hi15 hi => by
        have := hsub p hpm i hi
        rw [hm i hi15] at this
        obtain ⟨e, he, hpe⟩ := bb6_iff.1 this
        have h1 : e ∈ Tp p := List.mem_filter.2 ⟨he, by show p.testBit (Ai.pix es ord e) = true; rw [hpe]; exact hi⟩
        have h2 := (h.pix he).2
        rw [hpe] at h2
        rcases h2 with ⟨q1, q2⟩ | ⟨q1, q2⟩
        · rw [q1, q2]; exact .edge e h1
        · rw [q1, q2]; exact .symm (.edge e h1)
      intro x hx y hy
      obtain ⟨x1, x2⟩ := idx_at ((h.mem x).2 hx)
      obtain ⟨y1, y2⟩ := idx_at ((h.mem y).2 hy)
      have hl := h.len
      have a := hcon (ord.idxOf x) (by omega)
      have b := hcon (ord.idxOf y) (by omega)
      rw [x2] at a
      rw [y2] at b
      exact a.symm.trans b
theorem base6 {es : List (Int × Int)} {A : List Int} {V : List Nat} (h : SG es A V) (hV : V.length = 6) : ∃ d, (∃ v ∈ V, dgA es A v = d) ∧ (∀ u ∈ V, d ≤ dgA es A u) ∧ A.length ≤ 15 ∧ LB es A V (F6 A.length d) := by
  obtain ⟨v, hv, hmin, _⟩ := h.min (fun q => by rw [q] at hV; simp at hV)
  let adj : Nat → Bool := fun u => A.any fun e => inc es u e && inc es v e
  have hadj : ∀ u, adj u = true ↔ ∃ e ∈ A, inc es u e = true ∧ inc es v e = true := by
    intro u
    show (A.any fun e => inc es u e && inc es v e) = true ↔ _
    rw [List.any_eq_true]
    simp only [Bool.and_eq_true]
  have hWl := List.length_erase_of_mem hv
  have hWn : (V.erase v).Nodup := h.nd.sublist List.erase_sublist
  have hWv : ∀ x, x ∈ V.erase v ↔ x ∈ V ∧ x ≠ v := by
    intro x
    by_cases q : x = v
    · subst q
      refine ⟨fun r => ?_, fun r => absurd rfl r.2⟩
      exfalso
      have h1 := nodup_leB (x :: (V.erase x).erase x) (V.erase x) (List.nodup_cons.2 ⟨fun w => ?_, hWn.sublist List.erase_sublist⟩) (fun y hy => by
        rcases List.mem_cons.1 hy with rfl | hy
        · exact r
        · exact List.mem_of_mem_erase hy)
      · have h2 := (List.Nodup.mem_erase_iff h.nd).1 r
        exact h2.1 rfl
      · have h2 := (List.Nodup.mem_erase_iff h.nd).1 r
        exact h2.1 rfl
    · rw [List.mem_erase_of_ne q]
      exact ⟨fun r => ⟨r, q⟩, fun r => r.1⟩
  generalize hW : V.erase v = W at *
  have hsp := flt_len adj W
  generalize hNs : W.filter adj = Ns at *
  generalize hOs : (W.filter fun x => !adj x) = Os at *
  have nsm : ∀ x, x ∈ Ns ↔ x ∈ W ∧ adj x = true := fun x => by rw [← hNs, List.mem_filter]
  have osm : ∀ x, x ∈ Os ↔ x ∈ W ∧ adj x = false := fun x => by rw [← hOs, List.mem_filter, Bool.not_eq_true']
  have nsn : Ns.Nodup := by rw [← hNs]; exact hWn.sublist List.filter_sublist
  have osn : Os.Nodup := by rw [← hOs]; exact hWn.sublist List.filter_sublist
  have ho : Or6 es A V (Ns ++ (Os ++ [v])) := by
    refine ⟨h, ?_, by simp only [List.length_append, List.length_singleton]; omega, fun x => ?_⟩
    · rw [List.nodup_append, List.nodup_append]
      refine ⟨nsn, ⟨osn, by simp, fun a ha b hb => ?_⟩, fun a ha b hb => ?_⟩
      · rw [List.mem_singleton] at hb
        subst hb
        exact ((hWv a).1 ((osm a).1 ha).1).2
      · rintro rfl
        rcases List.mem_append.1 hb with q | q
        · have h1 := ((nsm a).1 ha).2
          have h2 := ((osm a).1 q).2
          rw [h1] at h2; cases h2
        · rw [List.mem_singleton] at q
          exact ((hWv a).1 ((nsm a).1 ha).1).2 q
    · rw [List.mem_append, List.mem_append, List.mem_singleton, nsm, osm, hWv]
      constructor
      · rintro (q | q | q)
        · exact q.1.1
        · exact q.1.1
        · rw [q]; exact hv
      · intro q
        by_cases e : x = v
        · exact .inr (.inr e)
        · cases hb : adj x with
          | true => exact .inl ⟨⟨q, e⟩, rfl⟩
          | false => exact .inr (.inl ⟨⟨q, e⟩, rfl⟩)
  have hlenO := ho.len
  have hd5 : Ns.length ≤ 5 := by omega
  have at5 : (Ns ++ (Os ++ [v])).getD 5 0 = v := by
    rw [List.getD_eq_getElem?_getD, List.getElem?_append_right (by omega), List.getElem?_append_right (by omega)]
    have : 5 - Ns.length - Os.length = 0 := by omega
    rw [this]; rfl
  have atN : ∀ u, u < 5 → ((Ns ++ (Os ++ [v])).getD u 0 ∈ W ∧ (adj ((Ns ++ (Os ++ [v])).getD u 0) = true ↔ u < Ns.length)) := by
    intro u hu
    by_cases q : u < Ns.length
    · have e : (Ns ++ (Os ++ [v])).getD u 0 = Ns.getD u 0 := by
        rw [List.getD_eq_getElem?_getD, List.getElem?_append_left q, ← List.getD_eq_getElem?_getD]
      have hm : Ns.getD u 0 ∈ Ns := by simp [q]
      rw [e]
      exact ⟨((nsm _).1 hm).1, ⟨fun _ => q, fun _ => ((nsm _).1 hm).2⟩⟩
    · have e : (Ns ++ (Os ++ [v])).getD u 0 = Os.getD (u - Ns.length) 0 := by
        rw [List.getD_eq_getElem?_getD, List.getElem?_append_right (by omega), List.getElem?_append_left (by omega), ← List.getD_eq_getElem?_getD]
      have hm : Os.getD (u - Ns.length) 0 ∈ Os := by simp [show u - Ns.length < Os.length by omega]
      rw [e]
      refine ⟨((osm _).1 hm).1, ⟨fun w => ?_, fun w => absurd w q⟩⟩
      have := ((osm _).1 hm).2
      rw [w] at this; cases this
  generalize hor : Ns ++ (Os ++ [v]) = ord at *
  have star : ∀ u, u < 5 → bb6 es A ord (10 + u) = decide (10 + u < 10 + Ns.length) := by
    intro u hu
    obtain ⟨t1, t2, t3⟩ := tch_star ⟨u, hu⟩
    simp only at t1 t2 t3
    rw [Bool.eq_iff_iff, decide_eq_true_eq]
    have hiff := (atN u hu).2
    rw [hadj] at hiff
    constructor
    · intro hb
      obtain ⟨e, he, hp⟩ := bb6_iff.1 hb
      have h2 := (ho.pix he).2
      rw [hp, t2] at h2
      simp only [at5] at h2
      have : u < Ns.length := hiff.1 ⟨e, he, by
        rw [inc_iff, inc_iff]
        rcases h2 with ⟨q1, q2⟩ | ⟨q1, q2⟩
        · exact ⟨.inl q1.symm, .inr q2.symm⟩
        · exact ⟨.inr q1.symm, .inl q2.symm⟩⟩
      omega
    · intro hlt
      obtain ⟨e, he, i1, i2⟩ := hiff.2 (by omega)
      rw [inc_iff] at i1 i2
      have hne : ord.getD u 0 ≠ v := ((hWv _).1 (atN u hu).1).2
      have iu : ord.idxOf (ord.getD u 0) = u := by
        have hm : ord.getD u 0 ∈ ord := by simp [show u < ord.length by omega]
        obtain ⟨x1, x2⟩ := idx_at hm
        exact nodup_at ho.nd x1 (by omega) x2
      have iv : ord.idxOf v = 5 := by
        have hm : v ∈ ord := (ho.mem v).2 hv
        obtain ⟨x1, x2⟩ := idx_at hm
        exact nodup_at ho.nd x1 (by omega) (by rw [x2, at5])
      refine bb6_iff.2 ⟨e, he, ?_⟩
      rw [← t3]
      unfold Ai.pix
      have hends : (enA es e = ord.getD u 0 ∧ enB es e = v) ∨ (enA es e = v ∧ enB es e = ord.getD u 0) := by omega
      rcases hends with ⟨q1, q2⟩ | ⟨q1, q2⟩
      · rw [q1, q2, iu, iv, if_pos hu]
      · rw [q1, q2, iu, iv, if_neg (by omega)]
  have hdv : dgA es A v = Ns.length := by
    have h1 := ho.deg (u := 5) (by omega)
    rw [at5] at h1
    rw [h1]
    refine Eq.trans ?_ (star_cnt ⟨Ns.length, by omega⟩)
    refine List.countP_congr fun i hi => ?_
    have hi := List.mem_range.1 hi
    rw [Bool.and_eq_true, decide_eq_true_eq]
    by_cases q : i < 10
    · have := tch_last ⟨i, q⟩
      simp only at this
      rw [this]
      exact ⟨fun w => absurd w.2 (by simp), fun w => by omega⟩
    · have e : 10 + (i - 10) = i := by omega
      have h2 := star (i - 10) (by omega)
      have h3 := (tch_star ⟨i - 10, by omega⟩).1
      simp only at h3
      rw [e] at h2 h3
      rw [h2, h3, decide_eq_true_eq]
      exact ⟨fun w => ⟨by omega, w.1⟩, fun w => ⟨w.2, rfl⟩⟩
  let bs : List Bool := (List.range 10).map (bb6 es A ord)
  have hbs : bs.length = 10 := by simp [bs]
  have hmask : ∀ i, i < 15 → (msk Ns.length bs).testBit i = bb6 es A ord i := by
    intro i hi
    rw [msk_bit hbs hd5]
    split
    · rename_i q
      simp [bs, q]
    · rename_i q
      have e : 10 + (i - 10) = i := by omega
      have h2 := star (i - 10) (by omega)
      rw [e] at h2
      rw [h2]
  have hcnt : cnt6 (msk Ns.length bs) = A.length := by
    have h1 := ho.cnt fun _ => true
    rw [List.countP_eq_length.2 (fun _ _ => rfl)] at h1
    rw [h1]
    unfold cnt6
    refine List.countP_congr fun i hi => ?_
    rw [bt_iff, hmask i (List.mem_range.1 hi), Bool.and_true]
  have hdeg : ∀ u, u < 5 → deg6 (msk Ns.length bs) u = dgA es A (ord.getD u 0) := by
    intro u hu
    rw [ho.deg (by omega)]
    unfold deg6
    refine List.countP_congr fun i hi => ?_
    rw [bt_iff, hmask i (List.mem_range.1 hi)]
  have hge : ∀ u, u < 5 → Nat.ble Ns.length (dq6 (msk Ns.length bs) u) = true := by
    intro u hu
    refine Nat.ble_eq_true_of_le ?_
    rw [← dq6_ok _ hu, hdeg u hu, ← hdv]
    exact hmin _ ((hWv _).1 (atN u hu).1).1
  have hck := chk6_ok hd5
  rw [List.all_eq_true] at hck
  have hck := hck bs (allB_mem 10 bs hbs)
  unfold chk6 at hck
  rw [hge 0 (by omega), hge 1 (by omega), hge 2 (by omega), hge 3 (by omega), hge 4 (by omega)] at hck
  simp only [Bool.and_self, Bool.not_true, Bool.false_or] at hck
  have hfin := atL_ok _ _ _ hck
  rw [← cq6_ok, hcnt] at hfin
  refine ⟨Ns.length, ⟨v, hv, hdv⟩, fun u hu => by rw [← hdv]; exact hmin u hu, ?_, (ho.lb hmask hd5).mono (fun _ q => q) hfin⟩
  rw [← hcnt]
  unfold cnt6
  have := List.countP_le_length (p := bt (msk Ns.length bs)) (l := List.range 15)
  rw [List.length_range] at this
  exact this
theorem SG.cut_len {es : List (Int × Int)} {A : List Int} {V : List Nat} (h : SG es A V) {v : Nat} (hv : v ∈ V) : (V.erase v).length + 1 = V.length := by
  have := List.length_erase_of_mem hv
  have := List.length_pos_of_mem hv
  omega
theorem SG.low {es : List (Int × Int)} {A : List Int} {V : List Nat} (h : SG es A V) {v : Nat} {k : Nat} (hk : ∀ u ∈ V, k ≤ dgA es A u) : ∀ u ∈ V.erase v, k - 1 ≤ dgA es (cutV es A v) u := by
  intro u hu
  have h1 := (List.Nodup.mem_erase_iff h.nd).1 hu
  have := h.cut_dg h1.1
  have := hk u h1.2
  omega
theorem lb7 {es : List (Int × Int)} {A : List Int} {V : List Nat} (h : SG es A V) (hV : V.length = 7) :
    (A.length = 14 → (∀ u ∈ V, 1 ≤ dgA es A u) → LB es A V 301) ∧ (A.length = 13 → (∀ u ∈ V, 1 ≤ dgA es A u) → LB es A V 151) ∧ (A.length = 12 → (∀ u ∈ V, 2 ≤ dgA es A u) → LB es A V 101) ∧ (A.length = 17 → LB es A V 301) := by
  obtain ⟨v, hv, hmin, hle⟩ := h.min (fun q => by rw [q] at hV; simp at hV)
  have hl := h.cut_len hv
  have hcl := Ai.cut_len es v A
  obtain ⟨d, ⟨w, hw, hwd⟩, hd, h15, hLB⟩ := base6 (h.cut v) (by omega)
  have hlow := h.low (v := v) (k := dgA es A v) hmin
  have hlw := hlow w hw
  rw [hwd] at hlw
  rw [hV] at hle
  have key : ∀ k, k ≤ dgA es A v * F6 (cutV es A v).length d → LB es A V k := fun k hk => (LB.leaf h hv hLB).mono (fun _ q => q) hk
  generalize hDe : dgA es A v = D at *
  generalize (cutV es A v).length = m at *
  refine ⟨fun hA h1 => ?_, fun hA h1 => ?_, fun hA h1 => ?_, fun hA => ?_⟩
  · have hD1 : 1 ≤ D := by have := h1 v hv; omega
    refine key _ ?_
    have : D = 1 ∨ D = 2 ∨ D = 3 ∨ D = 4 := by omega
    rcases this with rfl | rfl | rfl | rfl
    · have : m = 13 := by omega
      subst this; simp [F6]
    · have : m = 12 := by omega
      subst this; simp [F6]
    · have : m = 11 := by omega
      subst this; simp [F6]
    · have : m = 10 := by omega
      subst this
      unfold F6
      rw [if_neg (by omega), if_pos rfl, if_neg (by omega), if_neg (by omega), if_neg (by omega)]; omega
  · have hD1 : 1 ≤ D := by have := h1 v hv; omega
    refine key _ ?_
    have : D = 1 ∨ D = 2 ∨ D = 3 := by omega
    rcases this with rfl | rfl | rfl
    · have : m = 12 := by omega
      subst this; simp [F6]
    · have : m = 11 := by omega
      subst this; simp [F6]
    · have : m = 10 := by omega
      subst this
      unfold F6
      rw [if_neg (by omega), if_pos rfl, if_neg (by omega), if_neg (by omega)]
      split <;> omega
  · have hD1 : 2 ≤ D := by have := h1 v hv; omega
    refine key _ ?_
    have : D = 2 ∨ D = 3 := by omega
    rcases this with rfl | rfl
    · have : m = 10 := by omega
      subst this
      unfold F6
      rw [if_neg (by omega), if_pos rfl, if_neg (by omega)]
      repeat' split
      all_goals omega
    · have : m = 9 := by omega
      subst this
      unfold F6
      rw [if_pos rfl, if_pos (by omega)]; omega
  · refine key _ ?_
    have : D = 2 ∨ D = 3 ∨ D = 4 := by omega
    rcases this with rfl | rfl | rfl
    · have : m = 15 := by omega
      subst this; simp [F6]
    · have : m = 14 := by omega
      subst this; simp [F6]
    · have : m = 13 := by omega
      subst this; simp [F6]
/-- eight nodes, joined by fifteen edges -/
theorem lb8 {es : List (Int × Int)} {A : List Int} {V : List Nat} (h : SG es A V) (hV : V.length = 8) (hA : A.length = 15) (hc : ∀ x ∈ V, ∀ y ∈ V, Jn es A x y) : LB es A V 301 := by
  obtain ⟨v, hv, hmin, hle⟩ := h.min (fun q => by rw [q] at hV; simp at hV)
  have hl := h.cut_len hv
  have hcl := Ai.cut_len es v A
  rw [hV, hA] at hle
  have closed : ∀ (S : List Nat), S.length < 8 → (∃ x, x ∈ V ∧ x ∈ S) → ¬ ∀ e ∈ A, (enA es e ∈ S ↔ enB es e ∈ S) := by
    rintro S hS ⟨x, hx, hxS⟩ hall
    obtain ⟨y, hy, hyS⟩ : ∃ y, y ∈ V ∧ y ∉ S := by
      refine Classical.byContradiction fun q => ?_
      have := nodup_leB V S h.nd fun z hz => Classical.byContradiction fun q2 => q ⟨z, hz, q2⟩
      omega
    exact hyS ((jn_inv (p := fun z => z ∈ S) hall (hc x hx y hy)).1 hxS)
  have pos : ∀ u ∈ V, 1 ≤ dgA es A u := by
    intro u hu
    refine Nat.pos_of_ne_zero fun q => ?_
    unfold dgA at q
    rw [List.countP_eq_zero] at q
    refine closed [u] (by simp) ⟨u, hu, by simp⟩ fun e he => ?_
    have := q e he
    rw [inc_iff] at this
    simp only [List.mem_singleton]
    exact ⟨fun w => absurd (.inl w) this, fun w => absurd (.inr w) this⟩
  have low := h.low (v := v) (k := dgA es A v) hmin
  obtain ⟨l1, l2, l3, _⟩ := lb7 (h.cut v) (by omega)
  have hD1 := pos v hv
  have hD : dgA es A v = 1 ∨ dgA es A v = 2 ∨ dgA es A v = 3 := by omega
  rcases hD with hD | hD | hD
  · -- the only neighbour of v has another one
    have h14 : LB es (cutV es A v) (V.erase v) 301 := by
      refine l1 (by omega) fun u hu => Nat.pos_of_ne_zero fun q => ?_
      have hu' := (List.Nodup.mem_erase_iff h.nd).1 hu
      unfold dgA at q
      rw [List.countP_eq_zero] at q
      have onlyv : ∀ e ∈ A, inc es u e = true → inc es v e = true := by
        intro e he hi
        refine Classical.byContradiction fun w => ?_
        exact q e (cutV_mem.2 ⟨he, fun r => w (inc_iff.2 r)⟩) hi
      obtain ⟨e0, he0, hi0⟩ : ∃ e, e ∈ A ∧ inc es u e = true := by
        have := pos u hu'.2
        unfold dgA at this
        exact List.countP_pos_iff.1 this
      have one : ∀ e ∈ A, inc es v e = true → e = e0 := by
        intro e he hi
        unfold dgA at hD
        rw [List.countP_eq_length_filter] at hD
        have m1 : e ∈ A.filter (inc es v) := List.mem_filter.2 ⟨he, hi⟩
        have m2 : e0 ∈ A.filter (inc es v) := List.mem_filter.2 ⟨he0, onlyv e0 he0 hi0⟩
        match hL : A.filter (inc es v), hD with
        | [x], _ =>
          rw [hL, List.mem_singleton] at m1 m2
          rw [m1, m2]
      have i0 := inc_iff.1 hi0
      have iv := inc_iff.1 (onlyv e0 he0 hi0)
      have ne := hu'.1
      refine closed [u, v] (by simp) ⟨u, hu'.2, by simp⟩ fun e he => ?_
      simp only [List.mem_cons, List.not_mem_nil, or_false]
      by_cases q0 : e = e0
      · subst q0; omega
      · have n1 : ¬ (enA es e = v ∨ enB es e = v) := fun w => q0 (one e he (inc_iff.2 w))
        have n2 : ¬ (enA es e = u ∨ enB es e = u) := fun w => q0 (one e he (onlyv e he (inc_iff.2 w)))
        omega
    have := LB.leaf h hv h14
    rw [hD] at this
    exact this.mono (fun _ q => q) (by omega)
  · have := LB.leaf h hv (l2 (by omega) fun u hu => by have := low u hu; omega)
    rw [hD] at this
    exact this.mono (fun _ q => q) (by omega)
  · have := LB.leaf h hv (l3 (by omega) fun u hu => by have := low u hu; omega)
    rw [hD] at this
    exact this.mono (fun _ q => q) (by omega)
end Go.Proofs.Ytjnefjchconebab.Ai
namespace Go.Proofs.Ytjnefjchconebab.Ai
open Go Go.RowKit
set_option linter.unusedVariables false
/-- both nodes of an edge -/
abbrev ed1 (es : List (Int × Int)) (e : Int) : Int := (es.getD e.toNat (0, 0)).1
abbrev ed2 (es : List (Int × Int)) (e : Int) : Int := (es.getD e.toNat (0, 0)).2
def seenL (es : List (Int × Int)) (xs : List Int) : List Int := xs.flatMap fun e => [ed1 es e, ed2 es e]
theorem seenL_snoc (es : List (Int × Int)) (xs : List Int) (e : Int) : seenL es (xs ++ [e]) = seenL es xs ++ [ed1 es e, ed2 es e] := by simp [seenL]
theorem seenL_len (es : List (Int × Int)) (xs : List Int) : (seenL es xs).length = 2 * xs.length := by
  induction xs with
  | nil => rfl
  | cons a xs ih => simp only [seenL, List.flatMap_cons, List.length_append] at ih ⊢; simp only [List.length_cons, List.length_nil, ih]; omega
def rsOk (n : Int) (xs : List Int) (i : Nat) : Prop := (0 ≤ xs.getD i 0 ∧ xs.getD i 0 ≤ n - 1) ∧ (0 < i → xs.getD (i - 1) 0 < xs.getD i 0)
instance (n : Int) (xs : List Int) (i : Nat) : Decidable (rsOk n xs i) := by unfold rsOk; infer_instance
def frOk (es : List (Int × Int)) (xs : List Int) (i : Nat) : Prop := ed1 es (xs.getD i 0) ∉ seenL es (xs.take i) ∧ ed2 es (xs.getD i 0) ∉ seenL es (xs.take i)
instance (es : List (Int × Int)) (xs : List Int) (i : Nat) : Decidable (frOk es xs i) := by unfold frOk; infer_instance
def MtU (es : List (Int × Int)) (xs : List Int) (k : Nat) : Prop := ∀ i, i < k → rsOk es.length xs i ∧ frOk es xs i
instance (es : List (Int × Int)) (xs : List Int) (k : Nat) : Decidable (MtU es xs k) := by unfold MtU; infer_instance
theorem MtU.zero (es : List (Int × Int)) (xs : List Int) : MtU es xs 0 := fun i h => absurd h (Nat.not_lt_zero i)
theorem MtU.succ {es : List (Int × Int)} {xs : List Int} {k : Nat} (h : MtU es xs k) (h1 : rsOk es.length xs k) (h2 : frOk es xs k) : MtU es xs (k + 1) := by
  intro i hi
  rcases Nat.lt_succ_iff_lt_or_eq.1 hi with g | g
  · exact h i g
  · rw [g]; exact ⟨h1, h2⟩
theorem MtU.no {es : List (Int × Int)} {xs : List Int} {k i : Nat} (hi : i < k) (h : ¬ (rsOk es.length xs i ∧ frOk es xs i)) : ¬ MtU es xs k := fun g => h (g i hi)
end Go.Proofs.Ytjnefjchconebab.Ai
namespace Go.Proofs.Ytjnefjchconebab.Ai
open Go
set_option linter.unusedVariables false
/-- an edge that meets none of some -/
def frE (es : List (Int × Int)) (ed : List Int) (e : Int) : Prop := ed1 es e ∉ seenL es ed ∧ ed2 es e ∉ seenL es ed
instance (es : List (Int × Int)) (ed : List Int) (e : Int) : Decidable (frE es ed e) := by unfold frE; infer_instance
/-- all matchings that begin with some edges and have more, of the last k edges; in order -/
def mall (es : List (Int × Int)) : Nat → List Int → List (List Int)
  | 0, _ => []
  | k + 1, ed => (if frE es ed ((es.length - (k + 1) : Nat) : Int) then (ed ++ [((es.length - (k + 1) : Nat) : Int)]) :: mall es k (ed ++ [((es.length - (k + 1) : Nat) : Int)]) else []) ++ mall es k ed
/-- numbers of a range, each once -/
theorem nodupM_le : ∀ (n : Nat) (l : List Int), l.Nodup → (∀ x ∈ l, 0 ≤ x ∧ x < n) → l.length ≤ n
  | 0, l, _, h => by
    cases l with
    | nil => simp
    | cons x l => have := h x (by simp); omega
  | n + 1, l, hd, h => by
    have h1 := nodupM_le n (l.erase (n : Int)) (hd.erase _) (fun x hx => by
      have := (hd.mem_erase_iff).1 hx
      have h2 := h x this.2
      have : x ≠ (n : Int) := this.1
      omega)
    have : l.length ≤ (l.erase (n : Int)).length + 1 := by
      rw [List.length_erase]
      split <;> omega
    omega
/-- nodes of different edges, each once -/
def Mgo (n : Int) (es : List (Int × Int)) (ed : List Int) : Prop := (seenL es ed).Nodup ∧ ∀ z ∈ seenL es ed, 0 ≤ z ∧ z < n
theorem Mgo.nil (n : Int) (es : List (Int × Int)) : Mgo n es [] := ⟨by simp [seenL], fun z hz => by simp [seenL] at hz⟩
theorem Mgo.snoc {n : Int} {es : List (Int × Int)} {ed : List Int} {e : Int} (hg : Grd n es) (h : Mgo n es ed) (he : e.toNat < es.length) (hf : frE es ed e) : Mgo n es (ed ++ [e]) := by
  obtain ⟨a1, a2, a3, _⟩ := hg.2 e.toNat he
  have b1 : ed1 es e < ed2 es e := a2
  have b2 : 0 ≤ ed1 es e := a1
  have b3 : ed2 es e < n := a3
  refine ⟨?_, ?_⟩
  · rw [seenL_snoc, List.nodup_append]
    refine ⟨h.1, ?_, ?_⟩
    · simp; omega
    · intro x hx y hy hxy
      subst hxy
      simp only [List.mem_cons, List.not_mem_nil, or_false] at hy
      rcases hy with rfl | rfl
      · exact hf.1 hx
      · exact hf.2 hx
  · intro z hz
    rw [seenL_snoc, List.mem_append] at hz
    rcases hz with hz | hz
    · exact h.2 z hz
    · simp only [List.mem_cons, List.not_mem_nil, or_false] at hz
      omega
theorem Mgo.all {n : Int} {es : List (Int × Int)} (hg : Grd n es) : ∀ (k : Nat) (ed : List Int), k ≤ es.length → Mgo n es ed → ∀ x ∈ mall es k ed, Mgo n es x
  | 0, ed, _, h, x, hx => by simp [mall] at hx
  | k + 1, ed, hk, h, x, hx => by
    simp only [mall, List.mem_append] at hx
    rcases hx with hx | hx
    · split at hx
      · rename_i hf
        have h2 := h.snoc hg (by rw [Int.toNat_natCast]; omega) hf
        simp only [List.mem_cons] at hx
        rcases hx with rfl | hx
        · exact h2
        · exact Mgo.all hg k _ (by omega) h2 x hx
      · simp at hx
    · exact Mgo.all hg k ed (by omega) h x hx
theorem Mgo.len {n : Int} {es : List (Int × Int)} {ed : List Int} (hn : 0 ≤ n) (h : Mgo n es ed) : 2 * ed.length ≤ n.toNat := by
  have := nodupM_le n.toNat (seenL es ed) h.1 (fun z hz => by have := h.2 z hz; omega)
  rw [seenL_len] at this
  exact this
/-- a graph has at most 28 edges -/
def rnkE (a b : Nat) : Nat := a * (15 - a) / 2 + (b - a - 1)
theorem rnkE_lt : ∀ a b c d : Fin 8, a.1 < b.1 → c.1 < d.1 → (a.1 < c.1 ∨ a.1 = c.1 ∧ b.1 < d.1) → rnkE a.1 b.1 + 1 ≤ rnkE c.1 d.1 := by decide +kernel
theorem rnkE_le : ∀ a b : Fin 8, a.1 < b.1 → rnkE a.1 b.1 ≤ 27 := by decide +kernel
theorem grd_nat {n : Int} {es : List (Int × Int)} (hg : Grd n es) {i : Nat} (hi : i < es.length) : ∃ a b : Fin 8, a.1 < b.1 ∧ es.getD i (0, 0) = ((a.1 : Int), (b.1 : Int)) := by
  obtain ⟨h1, h2, h3, _⟩ := hg.2 i hi
  have := hg.1
  refine ⟨⟨(es.getD i (0, 0)).1.toNat, by omega⟩, ⟨(es.getD i (0, 0)).2.toNat, by omega⟩, by show (es.getD i (0, 0)).1.toNat < (es.getD i (0, 0)).2.toNat; omega, ?_⟩
  apply Prod.ext
  · show _ = (((es.getD i (0, 0)).1.toNat : Nat) : Int); omega
  · show _ = (((es.getD i (0, 0)).2.toNat : Nat) : Int); omega
theorem grd_len {n : Int} {es : List (Int × Int)} (hg : Grd n es) : es.length ≤ 28 := by
  have key : ∀ i, i < es.length → ∃ a b : Fin 8, a.1 < b.1 ∧ es.getD i (0, 0) = ((a.1 : Int), (b.1 : Int)) ∧ i ≤ rnkE a.1 b.1 := by
    intro i
    induction i with
    | zero => intro hi; obtain ⟨a, b, h1, h2⟩ := grd_nat hg hi; exact ⟨a, b, h1, h2, Nat.zero_le _⟩
    | succ i ih =>
      intro hi
      obtain ⟨a, b, h1, h2, h3⟩ := ih (by omega)
      obtain ⟨c, d, k1, k2⟩ := grd_nat hg hi
      have hlt := (hg.2 (i + 1) hi).2.2.2 (by omega)
      rw [Nat.add_sub_cancel, h2, k2] at hlt
      unfold pairLt at hlt
      simp only at hlt
      have := rnkE_lt a b c d h1 k1 (by omega)
      exact ⟨c, d, k1, k2, by omega⟩
  apply Decidable.byContradiction
  intro hc
  obtain ⟨a, b, h1, _, h3⟩ := key 28 (by omega)
  have := rnkE_le a b h1
  omega
end Go.Proofs.Ytjnefjchconebab.Ai
