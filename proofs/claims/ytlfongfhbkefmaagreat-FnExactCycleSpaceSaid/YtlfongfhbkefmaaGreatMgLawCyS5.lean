/- Texts of this claim, joined: Match, DfB, IdxL, DelL, PcI, PcS, AltP, MatA, MatW, OfSz, MatN, Ext, Perf. -/
import Derived.Test.YtlfongfhbkefmaaGreatProg
import Derived.KernelRfl
import Derived.Test.YtlfongfhbkefmaaGreatMgLawCyS4
namespace Go.Proofs.YtlfongfhbkefmaaGreat.Ai
open Go
def ords152 : List (Nat × List (Nat × Bool)) := [(5, [(0, false), (1, false), (2, false), (3, false), (4, false), (5, false), (6, false), (7, false), (8, true), (9, false), (10, false), (11, false), (12, false), (13, false), (14, false), (15, false), (16, false), (17, false), (18, false), (19, false), (20, false), (21, false), (22, false), (23, false), (24, false), (25, false)]), (7, [(0, false), (1, false), (2, false), (3, false), (4, false), (5, false), (6, false), (7, false), (8, false), (9, true)]), (10, [(0, false), (1, false), (2, false), (3, false), (5, false), (6, false), (7, false), (4, true), (8, true), (9, true)])]
def cd152 : Cd := (.seq (.reg [⟨⟨some 2, Op.box 31 (Operand.tmp 0), none⟩, []⟩,
  ⟨⟨some 4, Op.assign (Operand.const (Value.bool false)), none⟩, []⟩]) (.seq (.reg [⟨⟨some 8, Op.buildSlice 38 0 #[], none⟩, []⟩,
  ⟨⟨some 5, Op.assign (Operand.tmp 8), none⟩, []⟩]) (.seq (.seq (.reg [⟨⟨some 6, Op.assign (Operand.const (Value.int IntKind.i64 0)), none⟩, []⟩]) (.block 0 (.loop (.seq (.seq (.reg [⟨⟨some 9, Op.move (Operand.tmp 6), none⟩, []⟩,
  ⟨⟨some 10, Op.move (Operand.tmp 1), none⟩, []⟩,
  ⟨⟨some 11, Op.call { callee := (Callee.builtin Builtin.len), args := #[(Operand.tmp 10)], argTypes := #[38] }, none⟩, []⟩,
  ⟨⟨some 12, Op.binOp BinOp.lss 3 (Operand.tmp 9) (Operand.tmp 11) 3, none⟩, []⟩]) (.cond (Operand.tmp 12) .skip (.exit 0))) (.seq (.block 1 (.seq (.seq (.reg [⟨⟨some 15, Op.move (Operand.tmp 1), none⟩, []⟩,
  ⟨⟨some 16, Op.move (Operand.tmp 6), none⟩, []⟩,
  ⟨⟨some 17, Op.indexAddr 38 (Operand.tmp 15) (Operand.tmp 16), none⟩, []⟩,
  ⟨⟨some 18, Op.load 3 (Operand.tmp 17), none⟩, []⟩,
  ⟨⟨some 19, Op.fieldAddr 31 (Operand.tmp 2) 1, none⟩, []⟩,
  ⟨⟨some 20, Op.load 22 (Operand.tmp 19), none⟩, []⟩,
  ⟨⟨some 21, Op.call { callee := (Callee.builtin Builtin.len), args := #[(Operand.tmp 20)], argTypes := #[22] }, none⟩, []⟩,
  ⟨⟨some 22, Op.binOp BinOp.sub 3 (Operand.tmp 21) (Operand.const (Value.int IntKind.i64 1)) 3, none⟩, []⟩,
  ⟨⟨some 23, Op.call { callee := (Callee.value (Operand.func 83)), args := #[(Operand.tmp 18), (Operand.const (Value.int IntKind.i64 0)), (Operand.tmp 22)], argTypes := #[3, 3, 3] }, none⟩, []⟩,
  ⟨⟨some 24, Op.unOp UnOp.not 4 (Operand.tmp 23), none⟩, []⟩,
  ⟨⟨some 25, Op.move (Operand.tmp 24), none⟩, []⟩,
  ⟨⟨some 26, Op.move (Operand.tmp 6), some (25, false)⟩, []⟩,
  ⟨⟨some 27, Op.binOp BinOp.gtr 3 (Operand.tmp 26) (Operand.const (Value.int IntKind.i64 0)) 3, some (25, false)⟩, []⟩,
  ⟨⟨some 28, Op.move (Operand.tmp 27), some (25, false)⟩, []⟩,
  ⟨⟨some 29, Op.move (Operand.tmp 1), some (28, true)⟩, []⟩,
  ⟨⟨some 30, Op.move (Operand.tmp 6), some (28, true)⟩, []⟩,
  ⟨⟨some 31, Op.binOp BinOp.sub 3 (Operand.tmp 30) (Operand.const (Value.int IntKind.i64 1)) 3, some (28, true)⟩, []⟩,
  ⟨⟨some 32, Op.indexAddr 38 (Operand.tmp 29) (Operand.tmp 31), some (28, true)⟩, []⟩,
  ⟨⟨some 33, Op.load 3 (Operand.tmp 32), some (28, true)⟩, []⟩,
  ⟨⟨some 34, Op.move (Operand.tmp 1), some (28, true)⟩, []⟩,
  ⟨⟨some 35, Op.move (Operand.tmp 6), some (28, true)⟩, []⟩,
  ⟨⟨some 36, Op.indexAddr 38 (Operand.tmp 34) (Operand.tmp 35), some (28, true)⟩, []⟩,
  ⟨⟨some 37, Op.load 3 (Operand.tmp 36), some (28, true)⟩, []⟩,
  ⟨⟨some 38, Op.binOp BinOp.geq 3 (Operand.tmp 33) (Operand.tmp 37) 3, some (28, true)⟩, []⟩,
  ⟨⟨some 39, Op.pick (Operand.tmp 28) (Operand.tmp 38) (Operand.const (Value.bool false)), some (25, false)⟩, []⟩,
  ⟨⟨some 40, Op.pick (Operand.tmp 25) (Operand.const (Value.bool true)) (Operand.tmp 39), none⟩, []⟩]) (.cond (Operand.tmp 40) (.seq (.reg [⟨⟨some 4, Op.assign (Operand.const (Value.bool false)), none⟩, []⟩]) .ret) .skip)) (.seq (.reg [⟨⟨some 41, Op.fieldAddr 31 (Operand.tmp 2) 1, none⟩, []⟩,
  ⟨⟨some 42, Op.load 22 (Operand.tmp 41), none⟩, []⟩,
  ⟨⟨some 43, Op.move (Operand.tmp 1), none⟩, []⟩,
  ⟨⟨some 44, Op.move (Operand.tmp 6), none⟩, []⟩,
  ⟨⟨some 45, Op.indexAddr 38 (Operand.tmp 43) (Operand.tmp 44), none⟩, []⟩,
  ⟨⟨some 46, Op.load 3 (Operand.tmp 45), none⟩, []⟩,
  ⟨⟨some 47, Op.indexAddr 22 (Operand.tmp 42) (Operand.tmp 46), none⟩, []⟩,
  ⟨⟨some 48, Op.load 83 (Operand.tmp 47), none⟩, []⟩,
  ⟨⟨some 7, Op.alloc 83, none⟩, []⟩,
  ⟨⟨none, Op.store 83 (Operand.tmp 7) (Operand.tmp 48), none⟩, []⟩]) (.seq (.seq (.reg [⟨⟨some 49, Op.move (Operand.tmp 5), none⟩, []⟩,
  ⟨⟨some 50, Op.indexAddr 83 (Operand.tmp 7) (Operand.const (Value.int IntKind.i64 0)), none⟩, []⟩,
  ⟨⟨some 51, Op.load 3 (Operand.tmp 50), none⟩, []⟩,
  ⟨⟨some 52, Op.call { callee := (Callee.value (Operand.func 153)), args := #[(Operand.tmp 49), (Operand.tmp 51)], argTypes := #[38, 3] }, none⟩, []⟩,
  ⟨⟨some 53, Op.move (Operand.tmp 52), none⟩, []⟩,
  ⟨⟨some 54, Op.move (Operand.tmp 5), some (53, false)⟩, []⟩,
  ⟨⟨some 55, Op.indexAddr 83 (Operand.tmp 7) (Operand.const (Value.int IntKind.i64 1)), some (53, false)⟩, []⟩,
  ⟨⟨some 56, Op.load 3 (Operand.tmp 55), some (53, false)⟩, []⟩,
  ⟨⟨some 57, Op.call { callee := (Callee.value (Operand.func 153)), args := #[(Operand.tmp 54), (Operand.tmp 56)], argTypes := #[38, 3] }, some (53, false)⟩, []⟩,
  ⟨⟨some 58, Op.pick (Operand.tmp 53) (Operand.const (Value.bool true)) (Operand.tmp 57), none⟩, []⟩]) (.cond (Operand.tmp 58) (.seq (.reg [⟨⟨some 4, Op.assign (Operand.const (Value.bool false)), none⟩, []⟩]) .ret) .skip)) (.reg [⟨⟨some 59, Op.move (Operand.tmp 5), none⟩, []⟩,
  ⟨⟨some 60, Op.indexAddr 83 (Operand.tmp 7) (Operand.const (Value.int IntKind.i64 0)), none⟩, []⟩,
  ⟨⟨some 61, Op.load 3 (Operand.tmp 60), none⟩, []⟩,
  ⟨⟨some 62, Op.buildSlice 38 1 #[(0, (Operand.tmp 61))], none⟩, []⟩,
  ⟨⟨some 64, Op.indexAddr 83 (Operand.tmp 7) (Operand.const (Value.int IntKind.i64 1)), none⟩, []⟩,
  ⟨⟨some 65, Op.load 3 (Operand.tmp 64), none⟩, []⟩,
  ⟨⟨some 66, Op.buildSlice 38 1 #[(0, (Operand.tmp 65))], none⟩, []⟩,
  ⟨⟨some 63, Op.call { callee := (Callee.builtin Builtin.append), args := #[(Operand.tmp 59), (Operand.tmp 62)], argTypes := #[38, 38] }, none⟩, [⟨some 66, Op.buildSlice 38 1 #[(0, (Operand.tmp 65))], none⟩, ⟨some 65, Op.load 3 (Operand.tmp 64), none⟩]⟩,
  ⟨⟨some 67, Op.call { callee := (Callee.builtin Builtin.append), args := #[(Operand.tmp 63), (Operand.tmp 66)], argTypes := #[38, 38] }, none⟩, []⟩,
  ⟨⟨some 5, Op.assign (Operand.tmp 67), none⟩, []⟩]))))) (.reg [⟨⟨some 13, Op.move (Operand.tmp 6), none⟩, []⟩,
  ⟨⟨some 14, Op.binOp BinOp.add 3 (Operand.tmp 13) (Operand.const (Value.int IntKind.i64 1)) 3, none⟩, []⟩,
  ⟨⟨some 6, Op.assign (Operand.tmp 14), none⟩, []⟩])))))) (.seq (.reg [⟨⟨some 4, Op.assign (Operand.const (Value.bool true)), none⟩, []⟩]) .ret))))
theorem sl152 : slim Tryz.f152.ntmps ords152 (Tryz.f152.body.getD .skip) = some cd152 := by kernel_rfl
theorem in152 {args : List Value} {H : AH} {R : Value → AH → Prop} (hl : args.length = 2) (h : ∀ (Q : Exit → Sl → AH → Prop), (∀ e s H, endA Tryz.prog [ResultVar.tmp 4] R e s H → Q e s H) → wpC Tryz.prog cd152 Q (enterA args) H) : ACalls Tryz.prog 152 args H R :=
  ACalls.intro (by kernel_rfl) Tryz.func152 rfl (by kernel_rfl) sl152 hl (of_decide_eq_true (by kernel_rfl)) (by kernel_rfl) h
end Go.Proofs.YtlfongfhbkefmaaGreat.Ai
namespace Go.Proofs.YtlfongfhbkefmaaGreat.Ai
open Go Go.RowKit
set_option linter.unusedVariables false
set_option linter.unusedSimpArgs false
/-- two numbers, appended one after the other -/
theorem Own.app2 {P : Program} {t e : TypeId} (hu : P.underlying t = some (.slice e)) (hc : P.cellsOf e = 1) (hby : P.bytesOf e ≤ 64) (hz : zeroOk P e = true) {H0 B : AH} {v : Value} {ys : List Int} (h : Own e H0 B v ys) (hp : H0 <+: B) (hb : ys.length ≤ 1099511627774) (a b : Int) :
    ∃ v1 H1, appendA P t t v (.slice (some ⟨B.length, 0, none⟩) 1 1) (B ++ [.cells [.int .i64 a] e false] ++ [.cells [.int .i64 b] e false]) = some (v1, H1) ∧ isTup v1 = false ∧ H1[(B ++ [AObj.cells [.int .i64 a] e false]).length]? = some (.cells [.int .i64 b] e false) ∧ Kept v B H1 ∧
      ∃ v2 H2, appendA P t t v1 (.slice (some ⟨(B ++ [AObj.cells [.int .i64 a] e false]).length, 0, none⟩) 1 1) H1 = some (v2, H2) ∧ Own e H0 H2 v2 (ys ++ [a, b]) ∧ H0 <+: H2 ∧ Kept v B H2 ∧ isTup v2 = false := by
  have hx : Row e (B ++ [.cells [.int .i64 a] e false] ++ [.cells [.int .i64 b] e false]) (.slice (some ⟨B.length, 0, none⟩) 1 1) [a] := .inr ⟨B.length, 0, [.int .i64 a], false, rfl, at_app (at_new ..) _, by simp, rfl⟩
  have p2 : B <+: B ++ [AObj.cells [.int .i64 a] e false] ++ [.cells [.int .i64 b] e false] := pre_app (List.prefix_append _ _) _
  obtain ⟨v1, H1, h1, h2, h3, h4, h5⟩ := (h.pre p2).app hu hc hby hz hx (hp.trans p2) (by simp; omega)
  have hY : H1[(B ++ [AObj.cells [.int .i64 a] e false]).length]? = some (.cells [.int .i64 b] e false) := by
    refine h4 _ _ ?_ (at_new ..)
    rcases h.row.nil with g | g
    · exact .inl g.1
    · right; simp; omega
  have hy : Row e H1 (.slice (some ⟨(B ++ [AObj.cells [.int .i64 a] e false]).length, 0, none⟩) 1 1) [b] :=
    .inr ⟨_, 0, [.int .i64 b], false, rfl, hY, by simp, rfl⟩
  obtain ⟨v2, H2, k1, k2, k3, k4, k5⟩ := h2.app hu hc hby hz hy h3 (by simp; omega)
  refine ⟨v1, H1, h1, h2.row.tup, hY, fun o y ho hoy => h4 o y ho (pre_at p2 hoy), v2, H2, k1, by simpa using k2, k3, fun o y ho hoy => k4 o y ?_ (h4 o y ho (pre_at p2 hoy)), k2.row.tup⟩
  rcases h5 with h5 | ⟨h5, h6⟩
  · right
    have := at_lt hoy
    simp only [List.length_append, List.length_cons, List.length_nil] at h5; omega
  · subst h5; exact ho
set_option maxRecDepth 20000 in
set_option maxHeartbeats 4000000 in
theorem l8Matches_c (n : Int) (v w : Value) (es : List (Int × Int)) (xs : List Int) (H : AH) (hr : RowP 83 H v es) (hx : Row 3 H w xs) (hlen : es.length ≤ 1099511627776) (hlx : xs.length ≤ 1048576) :
    ACalls Tryz.prog 152 [.agg (List.toArray [.int .i64 n, v]), w] H fun r H' => r = .bool (decide (Mtc es xs)) ∧ H <+: H' := by
  refine in152 rfl ?_
  intro Q hQ
  simp (maxSteps := 1000000) (disch := omega) only [cd152, hr.boxG, S, S1, S2, S3, S4, S5, ST, eq_self, reduceIte, reduceCtorEq, Nat.reduceEqDiff, Nat.reduceAdd]
  generalize hA : H ++ [AObj.cells [.int .i64 n, v] 31 false] = A
  have pA : H <+: A := by rw [← hA]; exact List.prefix_append _ _
  have cA : A[H.length]? = some (.cells [.int .i64 n, v] 31 false) := by rw [← hA]; exact at_new ..
  have rA := hr.pre pA
  try simp (maxSteps := 1000000) (disch := omega) only [S, S1, S2, S3, S4, S5, ST, eq_self, reduceIte, reduceCtorEq, Nat.reduceEqDiff, Nat.reduceAdd]
  have xA := hx.pre pA
  refine LoopH.by (fun m s H' => ∃ i, m + i = xs.length ∧ s 1 = w ∧ s 2 = .pointer (some ⟨H.length, 0, none⟩) ∧ s 6 = .int .i64 ((i : Nat) : Int) ∧ MtU es xs i ∧ Own 3 A H' (s 5) (seenL es (xs.take i)) ∧ A <+: H') xs.length ?_ ?_
  · refine ⟨0, by simp, rfl, rfl, rfl, MtU.zero _ _, .inr ⟨A.length, rfl, Nat.le_refl _, at_new ..⟩, List.prefix_append _ _⟩
  · rintro m s H' ⟨i, hm, h1, h2, h6, hu, ho, hp⟩
    have hr' := rA.pre hp
    have hx' := xA.pre hp
    have cH := pre_at hp cA
    generalize hw : s 5 = u at *
    simp (maxSteps := 1000000) (disch := omega) only [h1, h2, h6, hw, hx'.len Tryz.underlying38, S, S1, S2, S3, S4, S5, ST, eq_self, reduceIte, reduceCtorEq, Nat.reduceEqDiff, Nat.reduceAdd]
    refine brD.intro (fun g => ?_) (fun g => ?_)
    · have hi : i < xs.length := by omega
      have e0 : ((i : Int) - 1).toNat = i - 1 := by omega
      have hsl : (seenL es (xs.take i)).length ≤ 2097152 := by rw [seenL_len, List.length_take]; omega
      have hst := seenL_take es xs i hi
      have bad : ¬ (rsOk es.length xs i ∧ frOk es xs i) → decide (Mtc es xs) = false := fun h => decide_eq_false (MtU.no hi h)
      have nxt : rsOk es.length xs i → frOk es xs i → MtU es xs (i + 1) := hu.succ
      have hpp := pA.trans hp
      simp (maxSteps := 1000000) (disch := omega) only [h1, h2, h6, hw, cell_of cH, hr'.len Tryz.underlying22, hx'.ix Tryz.underlying38 cs3, hx'.cell, Int.toNat_natCast, wrap64, S, S1, S2, S3, S4, S5, ST, eq_self, reduceIte, reduceCtorEq, Nat.reduceEqDiff, Nat.reduceAdd]
      refine CallH.by (l1In_c _ _ _ H') ?_
      rintro _ _ ⟨rfl, rfl⟩
      simp (maxSteps := 1000000) (disch := omega) only [h1, h2, h6, hw, S, S1, S2, S3, S4, S5, ST, eq_self, reduceIte, reduceCtorEq, Nat.reduceEqDiff, Nat.reduceAdd]
      refine brD.intro (fun e1 => ?_) (fun e1 => ?_) <;> simp (maxSteps := 1000000) (disch := omega) only [e1, h1, h2, h6, hw, S, S1, S2, S3, S4, S5, ST, eq_self, reduceIte, reduceCtorEq, Nat.reduceEqDiff, Nat.reduceAdd]
      · have hei : (xs.getD i 0).toNat < es.length := by omega
        refine brD.intro (fun e2 => ?_) (fun e2 => ?_) <;> simp (maxSteps := 1000000) (disch := omega) only [e1, e2, e0, h1, h2, h6, hw, hx'.ix Tryz.underlying38 cs3, hx'.cell, cell_of cH, Int.toNat_natCast, wrap64, S, S1, S2, S3, S4, S5, ST, eq_self, reduceIte, reduceCtorEq, Nat.reduceEqDiff, Nat.reduceAdd]
        · refine brD.intro (fun e3 => ?_) (fun e3 => ?_) <;> simp (maxSteps := 1000000) (disch := omega) only [e1, e2, e3, h1, h2, h6, hw, S, S1, S2, S3, S4, S5, ST, eq_self, reduceIte, reduceCtorEq, Nat.reduceEqDiff, Nat.reduceAdd]
          · refine hQ _ _ _ ?_
            simp (maxSteps := 1000000) (disch := omega) only [S, S1, S2, S3, S4, S5, ST, eq_self, reduceIte, reduceCtorEq, Nat.reduceEqDiff, Nat.reduceAdd]
            exact ⟨by rw [bad (fun h => by have := h.1.2 (by omega); omega)], hpp⟩
          · have hrs : rsOk es.length xs i := ⟨e1, fun h => by omega⟩
            have hst0 := store_a2 H' [.int .i64 0, .int .i64 0] rfl
            have hld := hr'.ld ag83 cs83 hei
            have hfr : frOk es xs i ↔ ((es.getD (xs.getD i 0).toNat (0, 0)).1 ∉ seenL es (xs.take i) ∧ (es.getD (xs.getD i 0).toNat (0, 0)).2 ∉ seenL es (xs.take i)) := Iff.rfl
            have hst' : seenL es (xs.take (i + 1)) = seenL es (xs.take i) ++ [(es.getD (xs.getD i 0).toNat (0, 0)).1, (es.getD (xs.getD i 0).toNat (0, 0)).2] := hst
            simp (maxSteps := 1000000) (disch := omega) only [e1, e2, e3, h1, h2, h6, hw, cell_of cH, hx'.ix Tryz.underlying38 cs3, hx'.cell, hr'.ix Tryz.underlying22 cs83, Int.toNat_natCast, hld, alloc_a2, hst0, cell_new, wrap64, S, S1, S2, S3, S4, S5, ST, eq_self, reduceIte, reduceCtorEq, Nat.reduceEqDiff, Nat.reduceAdd]
            generalize hy : es.getD (xs.getD i 0).toNat (0, 0) = y at *
            generalize hB : H' ++ [AObj.cells [.int .i64 y.1, .int .i64 y.2] 83 false] = B
            have pB : H' <+: B := by rw [← hB]; exact List.prefix_append _ _
            have b0 : B[H'.length]? = some (.cells [.int .i64 y.1, .int .i64 y.2] 83 false) := by rw [← hB]; exact at_new ..
            have hoB := ho.pre pB
            have hpB := hp.trans pB
            refine CallH.by (l1Has_c u (seenL es (xs.take i)) y.1 B hoB.row (by omega)) ?_
            rintro _ _ ⟨rfl, rfl⟩
            simp (maxSteps := 1000000) (disch := omega) only [e1, e2, e3, cell_of b0, S, S1, S2, S3, S4, S5, ST, eq_self, reduceIte, reduceCtorEq, Nat.reduceEqDiff, Nat.reduceAdd]
            refine brD.intro (fun e4 => ?_) (fun e4 => ?_) <;> simp (maxSteps := 1000000) (disch := omega) only [e1, e2, e3, e4, h1, h2, h6, hw, cell_of b0, S, S1, S2, S3, S4, S5, ST, eq_self, reduceIte, reduceCtorEq, Nat.reduceEqDiff, Nat.reduceAdd]
            · refine hQ _ _ _ ?_
              simp (maxSteps := 1000000) (disch := omega) only [S, S1, S2, S3, S4, S5, ST, eq_self, reduceIte, reduceCtorEq, Nat.reduceEqDiff, Nat.reduceAdd]
              exact ⟨by rw [bad (fun h => (hfr.1 h.2).1 e4)], hpp.trans pB⟩
            · refine CallH.by (l1Has_c u (seenL es (xs.take i)) y.2 B hoB.row (by omega)) ?_
              rintro _ _ ⟨rfl, rfl⟩
              simp (maxSteps := 1000000) (disch := omega) only [e1, e2, e3, e4, cell_of b0, S, S1, S2, S3, S4, S5, ST, eq_self, reduceIte, reduceCtorEq, Nat.reduceEqDiff, Nat.reduceAdd]
              refine brD.intro (fun e5 => ?_) (fun e5 => ?_) <;> simp (maxSteps := 1000000) (disch := omega) only [e1, e2, e3, e4, e5, h1, h2, h6, hw, cell_of b0, wrap64, S, S1, S2, S3, S4, S5, ST, eq_self, reduceIte, reduceCtorEq, Nat.reduceEqDiff, Nat.reduceAdd]
              · refine hQ _ _ _ ?_
                simp (maxSteps := 1000000) (disch := omega) only [S, S1, S2, S3, S4, S5, ST, eq_self, reduceIte, reduceCtorEq, Nat.reduceEqDiff, Nat.reduceAdd]
                exact ⟨by rw [bad (fun h => (hfr.1 h.2).2 e5)], hpp.trans pB⟩
              · obtain ⟨v1, H1, k1, k2, kY, kB, v2, H2, k3, k4, k5, k6, k7⟩ := hoB.app2 (P := Tryz.prog) Tryz.underlying38 cs3 (by rw [by3]; decide) zk3 hpB (by omega) y.1 y.2
                have b1 : H1[H'.length]? = some (.cells [.int .i64 y.1, .int .i64 y.2] 83 false) := kB _ _ (by
                  rcases ho.row.nil with q | q
                  · exact .inl q.1
                  · right; omega) b0
                simp (maxSteps := 1000000) (disch := omega) only [h1, h2, h6, hw, cell_of (at_app b0 _), k1, k3, kY, at_new, cell_of b1, wrap64, S, S1, S2, S3, S4, S5, ST, eq_self, reduceIte, reduceCtorEq, Nat.reduceEqDiff, Nat.reduceAdd]
                rw [← hst'] at k4
                have f1 := nxt hrs (hfr.2 ⟨e4, e5⟩)
                refine ⟨m - 1, by omega, i + 1, ?_⟩
                (repeat' first | exact f1 | exact k4 | exact k5 | apply And.intro) <;> first | (simp only [Value.int.injEq, true_and]; omega) | omega | rfl | assumption | (simp; done) | (simp; omega)
        · have hrs : rsOk es.length xs i := ⟨e1, fun h => by omega⟩
          have hst0 := store_a2 H' [.int .i64 0, .int .i64 0] rfl
          have hld := hr'.ld ag83 cs83 hei
          have hfr : frOk es xs i ↔ ((es.getD (xs.getD i 0).toNat (0, 0)).1 ∉ seenL es (xs.take i) ∧ (es.getD (xs.getD i 0).toNat (0, 0)).2 ∉ seenL es (xs.take i)) := Iff.rfl
          have hst' : seenL es (xs.take (i + 1)) = seenL es (xs.take i) ++ [(es.getD (xs.getD i 0).toNat (0, 0)).1, (es.getD (xs.getD i 0).toNat (0, 0)).2] := hst
          simp (maxSteps := 1000000) (disch := omega) only [e1, e2, h1, h2, h6, hw, cell_of cH, hx'.ix Tryz.underlying38 cs3, hx'.cell, hr'.ix Tryz.underlying22 cs83, Int.toNat_natCast, hld, alloc_a2, hst0, cell_new, wrap64, S, S1, S2, S3, S4, S5, ST, eq_self, reduceIte, reduceCtorEq, Nat.reduceEqDiff, Nat.reduceAdd]
          generalize hy : es.getD (xs.getD i 0).toNat (0, 0) = y at *
          generalize hB : H' ++ [AObj.cells [.int .i64 y.1, .int .i64 y.2] 83 false] = B
          have pB : H' <+: B := by rw [← hB]; exact List.prefix_append _ _
          have b0 : B[H'.length]? = some (.cells [.int .i64 y.1, .int .i64 y.2] 83 false) := by rw [← hB]; exact at_new ..
          have hoB := ho.pre pB
          have hpB := hp.trans pB
          refine CallH.by (l1Has_c u (seenL es (xs.take i)) y.1 B hoB.row (by omega)) ?_
          rintro _ _ ⟨rfl, rfl⟩
          simp (maxSteps := 1000000) (disch := omega) only [e1, e2, cell_of b0, S, S1, S2, S3, S4, S5, ST, eq_self, reduceIte, reduceCtorEq, Nat.reduceEqDiff, Nat.reduceAdd]
          refine brD.intro (fun e4 => ?_) (fun e4 => ?_) <;> simp (maxSteps := 1000000) (disch := omega) only [e1, e2, e4, h1, h2, h6, hw, cell_of b0, S, S1, S2, S3, S4, S5, ST, eq_self, reduceIte, reduceCtorEq, Nat.reduceEqDiff, Nat.reduceAdd]
          · refine hQ _ _ _ ?_
            simp (maxSteps := 1000000) (disch := omega) only [S, S1, S2, S3, S4, S5, ST, eq_self, reduceIte, reduceCtorEq, Nat.reduceEqDiff, Nat.reduceAdd]
            exact ⟨by rw [bad (fun h => (hfr.1 h.2).1 e4)], hpp.trans pB⟩
          · refine CallH.by (l1Has_c u (seenL es (xs.take i)) y.2 B hoB.row (by omega)) ?_
            rintro _ _ ⟨rfl, rfl⟩
            simp (maxSteps := 1000000) (disch := omega) only [e1, e2, e4, cell_of b0, S, S1, S2, S3, S4, S5, ST, eq_self, reduceIte, reduceCtorEq, Nat.reduceEqDiff, Nat.reduceAdd]
            refine brD.intro (fun e5 => ?_) (fun e5 => ?_) <;> simp (maxSteps := 1000000) (disch := omega) only [e1, e2, e4, e5, h1, h2, h6, hw, cell_of b0, wrap64, S, S1, S2, S3, S4, S5, ST, eq_self, reduceIte, reduceCtorEq, Nat.reduceEqDiff, Nat.reduceAdd]
            · refine hQ _ _ _ ?_
              simp (maxSteps := 1000000) (disch := omega) only [S, S1, S2, S3, S4, S5, ST, eq_self, reduceIte, reduceCtorEq, Nat.reduceEqDiff, Nat.reduceAdd]
              exact ⟨by rw [bad (fun h => (hfr.1 h.2).2 e5)], hpp.trans pB⟩
            · obtain ⟨v1, H1, k1, k2, kY, kB, v2, H2, k3, k4, k5, k6, k7⟩ := hoB.app2 (P := Tryz.prog) Tryz.underlying38 cs3 (by rw [by3]; decide) zk3 hpB (by omega) y.1 y.2
              have b1 : H1[H'.length]? = some (.cells [.int .i64 y.1, .int .i64 y.2] 83 false) := kB _ _ (by
                rcases ho.row.nil with q | q
                · exact .inl q.1
                · right; omega) b0
              simp (maxSteps := 1000000) (disch := omega) only [h1, h2, h6, hw, cell_of (at_app b0 _), k1, k3, kY, at_new, cell_of b1, wrap64, S, S1, S2, S3, S4, S5, ST, eq_self, reduceIte, reduceCtorEq, Nat.reduceEqDiff, Nat.reduceAdd]
              rw [← hst'] at k4
              have f1 := nxt hrs (hfr.2 ⟨e4, e5⟩)
              refine ⟨m - 1, by omega, i + 1, ?_⟩
              (repeat' first | exact f1 | exact k4 | exact k5 | apply And.intro) <;> first | (simp only [Value.int.injEq, true_and]; omega) | omega | rfl | assumption | (simp; done) | (simp; omega)
      · refine hQ _ _ _ ?_
        simp (maxSteps := 1000000) (disch := omega) only [S, S1, S2, S3, S4, S5, ST, eq_self, reduceIte, reduceCtorEq, Nat.reduceEqDiff, Nat.reduceAdd]
        exact ⟨by rw [bad (fun h => e1 h.1.1)], hpp⟩
    · simp (maxSteps := 1000000) (disch := omega) only [h1, h2, h6, hw, S, S1, S2, S3, S4, S5, ST, eq_self, reduceIte, reduceCtorEq, Nat.reduceEqDiff, Nat.reduceAdd]
      refine hQ _ _ _ ?_
      simp (maxSteps := 1000000) (disch := omega) only [S, S1, S2, S3, S4, S5, ST, eq_self, reduceIte, reduceCtorEq, Nat.reduceEqDiff, Nat.reduceAdd]
      have : i = xs.length := by omega
      subst this
      simp [hu, pA.trans hp]
theorem grd_ed {n : Int} {es : List (Int × Int)} (h : Grd n es) {k : Nat} (hk : k < es.length) : ∃ x y : Nat, (es.getD k (0, 0)).1 = x ∧ (es.getD k (0, 0)).2 = y ∧ x < y ∧ (y : Int) < n ∧ y < 8 := by
  obtain ⟨h1, h2⟩ := h
  obtain ⟨a1, a2, a3, _⟩ := h2 k hk
  exact ⟨(es.getD k (0, 0)).1.toNat, (es.getD k (0, 0)).2.toNat, by omega, by omega, by omega, by omega, by omega⟩
end Go.Proofs.YtlfongfhbkefmaaGreat.Ai
namespace Go.Proofs.YtlfongfhbkefmaaGreat.Ai
open Go
def ords169 : List (Nat × List (Nat × Bool)) := []
def cd169 : Cd := (.seq (.reg [⟨⟨some 2, Op.assign (Operand.const (Value.int IntKind.u64 0)), none⟩, []⟩]) (.seq (.reg [⟨⟨some 3, Op.assign (Operand.const (Value.int IntKind.u64 0)), none⟩, []⟩]) (.seq (.seq (.reg [⟨⟨some 6, Op.move (Operand.tmp 0), none⟩, []⟩,
  ⟨⟨some 7, Op.call { callee := (Callee.builtin Builtin.len), args := #[(Operand.tmp 6)], argTypes := #[38] }, none⟩, []⟩,
  ⟨⟨some 8, Op.move (Operand.const (Value.int IntKind.i64 0)), none⟩, []⟩]) (.block 0 (.loop (.seq (.reg [⟨⟨some 9, Op.binOp BinOp.lss 3 (Operand.tmp 8) (Operand.tmp 7) 3, none⟩, []⟩]) (.seq (.cond (Operand.tmp 9) .skip (.exit 0)) (.seq (.block 1 (.seq (.reg [⟨⟨some 10, Op.indexAddr 38 (Operand.tmp 6) (Operand.tmp 8), none⟩, []⟩,
  ⟨⟨some 11, Op.load 3 (Operand.tmp 10), none⟩, []⟩,
  ⟨⟨some 5, Op.assign (Operand.tmp 11), none⟩, []⟩]) (.reg [⟨⟨some 12, Op.move (Operand.tmp 3), none⟩, []⟩,
  ⟨⟨some 13, Op.move (Operand.tmp 5), none⟩, []⟩,
  ⟨⟨some 14, Op.binOp BinOp.shl 109 (Operand.const (Value.int IntKind.u64 1)) (Operand.tmp 13) 3, none⟩, []⟩,
  ⟨⟨some 15, Op.binOp BinOp.or 109 (Operand.tmp 12) (Operand.tmp 14) 109, none⟩, []⟩,
  ⟨⟨some 3, Op.assign (Operand.tmp 15), none⟩, []⟩]))) (.reg [⟨⟨some 16, Op.binOp BinOp.add 3 (Operand.tmp 8) (Operand.const (Value.int IntKind.i64 1)) 3, none⟩, []⟩,
  ⟨⟨some 8, Op.move (Operand.tmp 16), none⟩, []⟩]))))))) (.seq (.reg [⟨⟨some 17, Op.move (Operand.tmp 3), none⟩, []⟩,
  ⟨⟨some 2, Op.assign (Operand.tmp 17), none⟩, []⟩]) .ret))))
theorem sl169 : slim Tryz.f169.ntmps ords169 (Tryz.f169.body.getD .skip) = some cd169 := by kernel_rfl
theorem in169 {args : List Value} {H : AH} {R : Value → AH → Prop} (hl : args.length = 1) (h : ∀ (Q : Exit → Sl → AH → Prop), (∀ e s H, endA Tryz.prog [ResultVar.tmp 2] R e s H → Q e s H) → wpC Tryz.prog cd169 Q (enterA args) H) : ACalls Tryz.prog 169 args H R :=
  ACalls.intro (by kernel_rfl) Tryz.func169 rfl (by kernel_rfl) sl169 hl (of_decide_eq_true (by kernel_rfl)) (by kernel_rfl) h
def ords133 : List (Nat × List (Nat × Bool)) := []
def cd133 : Cd := (.seq (.reg [⟨⟨some 4, Op.assign (Operand.const (Value.int IntKind.u64 0)), none⟩, []⟩,
  ⟨⟨some 5, Op.assign (Operand.const (Value.int IntKind.u64 0)), none⟩, []⟩]) (.seq (.reg [⟨⟨some 8, Op.move (Operand.tmp 0), none⟩, []⟩,
  ⟨⟨some 9, Op.call { callee := (Callee.value (Operand.func 169)), args := #[(Operand.tmp 8)], argTypes := #[38] }, none⟩, []⟩,
  ⟨⟨some 10, Op.move (Operand.tmp 1), none⟩, []⟩,
  ⟨⟨some 11, Op.call { callee := (Callee.value (Operand.func 169)), args := #[(Operand.tmp 10)], argTypes := #[38] }, none⟩, []⟩,
  ⟨⟨some 6, Op.assign (Operand.tmp 9), none⟩, []⟩,
  ⟨⟨some 7, Op.assign (Operand.tmp 11), none⟩, []⟩]) (.seq (.reg [⟨⟨some 12, Op.move (Operand.tmp 6), none⟩, []⟩,
  ⟨⟨some 13, Op.move (Operand.tmp 7), none⟩, []⟩,
  ⟨⟨some 14, Op.binOp BinOp.andNot 109 (Operand.tmp 12) (Operand.tmp 13) 109, none⟩, []⟩,
  ⟨⟨some 15, Op.move (Operand.tmp 7), none⟩, []⟩,
  ⟨⟨some 16, Op.move (Operand.tmp 6), none⟩, []⟩,
  ⟨⟨some 17, Op.binOp BinOp.andNot 109 (Operand.tmp 15) (Operand.tmp 16) 109, none⟩, []⟩,
  ⟨⟨some 4, Op.assign (Operand.tmp 14), none⟩, []⟩,
  ⟨⟨some 5, Op.assign (Operand.tmp 17), none⟩, []⟩]) .ret)))
theorem sl133 : slim Tryz.f133.ntmps ords133 (Tryz.f133.body.getD .skip) = some cd133 := by kernel_rfl
theorem in133 {args : List Value} {H : AH} {R : Value → AH → Prop} (hl : args.length = 2) (h : ∀ (Q : Exit → Sl → AH → Prop), (∀ e s H, endA Tryz.prog [ResultVar.tmp 4, ResultVar.tmp 5] R e s H → Q e s H) → wpC Tryz.prog cd133 Q (enterA args) H) : ACalls Tryz.prog 133 args H R :=
  ACalls.intro (by kernel_rfl) Tryz.func133 rfl (by kernel_rfl) sl133 hl (of_decide_eq_true (by kernel_rfl)) (by kernel_rfl) h
def ords93 : List (Nat × List (Nat × Bool)) := []
def cd93 : Cd := (.seq (.reg [⟨⟨some 4, Op.assign (Operand.const (Value.slice none 0 0)), none⟩, []⟩]) (.seq (.reg [⟨⟨some 10, Op.move (Operand.tmp 0), none⟩, []⟩,
  ⟨⟨some 11, Op.move (Operand.tmp 1), none⟩, []⟩,
  ⟨⟨some 12, Op.call { callee := (Callee.value (Operand.func 133)), args := #[(Operand.tmp 10), (Operand.tmp 11)], argTypes := #[38, 38] }, none⟩, []⟩,
  ⟨⟨some 9, Op.move (Operand.tmp 12), none⟩, []⟩,
  ⟨⟨some 13, Op.extract (Operand.tmp 9) 0, none⟩, []⟩,
  ⟨⟨some 14, Op.extract (Operand.tmp 9) 1, none⟩, []⟩,
  ⟨⟨some 5, Op.assign (Operand.tmp 13), none⟩, []⟩,
  ⟨⟨some 6, Op.assign (Operand.tmp 14), none⟩, []⟩]) (.seq (.reg [⟨⟨some 15, Op.buildSlice 38 0 #[], none⟩, []⟩,
  ⟨⟨some 7, Op.assign (Operand.tmp 15), none⟩, []⟩]) (.seq (.seq (.reg [⟨⟨some 16, Op.move (Operand.const (Value.int IntKind.i64 0)), none⟩, []⟩]) (.block 0 (.loop (.seq (.reg [⟨⟨some 17, Op.binOp BinOp.lss 3 (Operand.tmp 16) (Operand.const (Value.int IntKind.i64 32)) 3, none⟩, []⟩]) (.seq (.cond (Operand.tmp 17) .skip (.exit 0)) (.seq (.block 1 (.seq (.reg [⟨⟨some 18, Op.move (Operand.tmp 16), none⟩, []⟩,
  ⟨⟨some 8, Op.assign (Operand.tmp 18), none⟩, []⟩]) (.seq (.reg [⟨⟨some 19, Op.move (Operand.tmp 5), none⟩, []⟩,
  ⟨⟨some 20, Op.move (Operand.tmp 6), none⟩, []⟩,
  ⟨⟨some 21, Op.binOp BinOp.or 109 (Operand.tmp 19) (Operand.tmp 20) 109, none⟩, []⟩,
  ⟨⟨some 22, Op.move (Operand.tmp 8), none⟩, []⟩,
  ⟨⟨some 23, Op.call { callee := (Callee.value (Operand.func 98)), args := #[(Operand.tmp 21), (Operand.tmp 22)], argTypes := #[109, 3] }, none⟩, []⟩]) (.cond (Operand.tmp 23) (.reg [⟨⟨some 24, Op.move (Operand.tmp 7), none⟩, []⟩,
  ⟨⟨some 25, Op.move (Operand.tmp 8), none⟩, []⟩,
  ⟨⟨some 26, Op.buildSlice 38 1 #[(0, (Operand.tmp 25))], none⟩, []⟩,
  ⟨⟨some 27, Op.call { callee := (Callee.builtin Builtin.append), args := #[(Operand.tmp 24), (Operand.tmp 26)], argTypes := #[38, 38] }, none⟩, []⟩,
  ⟨⟨some 7, Op.assign (Operand.tmp 27), none⟩, []⟩]) .skip)))) (.reg [⟨⟨some 28, Op.binOp BinOp.add 3 (Operand.tmp 16) (Operand.const (Value.int IntKind.i64 1)) 3, none⟩, []⟩,
  ⟨⟨some 16, Op.move (Operand.tmp 28), none⟩, []⟩]))))))) (.seq (.reg [⟨⟨some 29, Op.move (Operand.tmp 7), none⟩, []⟩,
  ⟨⟨some 4, Op.assign (Operand.tmp 29), none⟩, []⟩]) .ret)))))
theorem sl93 : slim Tryz.f93.ntmps ords93 (Tryz.f93.body.getD .skip) = some cd93 := by kernel_rfl
theorem in93 {args : List Value} {H : AH} {R : Value → AH → Prop} (hl : args.length = 2) (h : ∀ (Q : Exit → Sl → AH → Prop), (∀ e s H, endA Tryz.prog [ResultVar.tmp 4] R e s H → Q e s H) → wpC Tryz.prog cd93 Q (enterA args) H) : ACalls Tryz.prog 93 args H R :=
  ACalls.intro (by kernel_rfl) Tryz.func93 rfl (by kernel_rfl) sl93 hl (of_decide_eq_true (by kernel_rfl)) (by kernel_rfl) h
def ords94 : List (Nat × List (Nat × Bool)) := [(5, [(0, false), (1, false), (2, false), (3, false), (4, false), (5, false), (6, false), (7, false), (8, false), (9, false), (10, false), (11, false), (12, false), (13, false), (14, false), (15, false), (16, false), (17, true)])]
def cd94 : Cd := (.seq (.reg [⟨⟨some 2, Op.box 31 (Operand.tmp 0), none⟩, []⟩,
  ⟨⟨some 4, Op.assign (Operand.const (Value.int IntKind.u64 0)), none⟩, []⟩]) (.seq (.reg [⟨⟨some 5, Op.assign (Operand.const (Value.int IntKind.u64 0)), none⟩, []⟩]) (.seq (.seq (.reg [⟨⟨some 8, Op.move (Operand.tmp 1), none⟩, []⟩,
  ⟨⟨some 9, Op.call { callee := (Callee.builtin Builtin.len), args := #[(Operand.tmp 8)], argTypes := #[38] }, none⟩, []⟩,
  ⟨⟨some 10, Op.move (Operand.const (Value.int IntKind.i64 0)), none⟩, []⟩]) (.block 0 (.loop (.seq (.reg [⟨⟨some 11, Op.binOp BinOp.lss 3 (Operand.tmp 10) (Operand.tmp 9) 3, none⟩, []⟩]) (.seq (.cond (Operand.tmp 11) .skip (.exit 0)) (.seq (.block 1 (.seq (.reg [⟨⟨some 12, Op.indexAddr 38 (Operand.tmp 8) (Operand.tmp 10), none⟩, []⟩,
  ⟨⟨some 13, Op.load 3 (Operand.tmp 12), none⟩, []⟩,
  ⟨⟨some 7, Op.assign (Operand.tmp 13), none⟩, []⟩]) (.reg [⟨⟨some 14, Op.move (Operand.tmp 5), none⟩, []⟩,
  ⟨⟨some 15, Op.fieldAddr 31 (Operand.tmp 2) 1, none⟩, []⟩,
  ⟨⟨some 16, Op.load 22 (Operand.tmp 15), none⟩, []⟩,
  ⟨⟨some 17, Op.move (Operand.tmp 7), none⟩, []⟩,
  ⟨⟨some 18, Op.indexAddr 22 (Operand.tmp 16) (Operand.tmp 17), none⟩, []⟩,
  ⟨⟨some 19, Op.indexAddr 83 (Operand.tmp 18) (Operand.const (Value.int IntKind.i64 0)), none⟩, []⟩,
  ⟨⟨some 20, Op.load 3 (Operand.tmp 19), none⟩, []⟩,
  ⟨⟨some 21, Op.binOp BinOp.shl 109 (Operand.const (Value.int IntKind.u64 1)) (Operand.tmp 20) 3, none⟩, []⟩,
  ⟨⟨some 22, Op.fieldAddr 31 (Operand.tmp 2) 1, none⟩, []⟩,
  ⟨⟨some 23, Op.load 22 (Operand.tmp 22), none⟩, []⟩,
  ⟨⟨some 24, Op.move (Operand.tmp 7), none⟩, []⟩,
  ⟨⟨some 25, Op.indexAddr 22 (Operand.tmp 23) (Operand.tmp 24), none⟩, []⟩,
  ⟨⟨some 26, Op.indexAddr 83 (Operand.tmp 25) (Operand.const (Value.int IntKind.i64 1)), none⟩, []⟩,
  ⟨⟨some 27, Op.load 3 (Operand.tmp 26), none⟩, []⟩,
  ⟨⟨some 28, Op.binOp BinOp.shl 109 (Operand.const (Value.int IntKind.u64 1)) (Operand.tmp 27) 3, none⟩, []⟩,
  ⟨⟨some 29, Op.binOp BinOp.or 109 (Operand.tmp 21) (Operand.tmp 28) 109, none⟩, []⟩,
  ⟨⟨some 30, Op.binOp BinOp.or 109 (Operand.tmp 14) (Operand.tmp 29) 109, none⟩, []⟩,
  ⟨⟨some 5, Op.assign (Operand.tmp 30), none⟩, []⟩]))) (.reg [⟨⟨some 31, Op.binOp BinOp.add 3 (Operand.tmp 10) (Operand.const (Value.int IntKind.i64 1)) 3, none⟩, []⟩,
  ⟨⟨some 10, Op.move (Operand.tmp 31), none⟩, []⟩]))))))) (.seq (.reg [⟨⟨some 32, Op.move (Operand.tmp 5), none⟩, []⟩,
  ⟨⟨some 4, Op.assign (Operand.tmp 32), none⟩, []⟩]) .ret))))
theorem sl94 : slim Tryz.f94.ntmps ords94 (Tryz.f94.body.getD .skip) = some cd94 := by kernel_rfl
theorem in94 {args : List Value} {H : AH} {R : Value → AH → Prop} (hl : args.length = 2) (h : ∀ (Q : Exit → Sl → AH → Prop), (∀ e s H, endA Tryz.prog [ResultVar.tmp 4] R e s H → Q e s H) → wpC Tryz.prog cd94 Q (enterA args) H) : ACalls Tryz.prog 94 args H R :=
  ACalls.intro (by kernel_rfl) Tryz.func94 rfl (by kernel_rfl) sl94 hl (of_decide_eq_true (by kernel_rfl)) (by kernel_rfl) h
end Go.Proofs.YtlfongfhbkefmaaGreat.Ai
namespace Go.Proofs.YtlfongfhbkefmaaGreat.Ai
open Go Go.RowKit
set_option linter.unusedVariables false
set_option linter.unusedSimpArgs false
/-- one without another -/
def anN (a b : Nat) : Nat := (BitVec.ofNat 64 a &&& ~~~ BitVec.ofNat 64 b).toNat
theorem anN_bit (a b z : Nat) (hz : z < 64) : (anN a b).testBit z = (a.testBit z && !b.testBit z) := by
  unfold anN
  rw [BitVec.testBit_toNat, BitVec.getLsbD_and, BitVec.getLsbD_not, BitVec.getLsbD_ofNat, BitVec.getLsbD_ofNat]
  simp [hz]
theorem anN_le (a b : Nat) : anN a b ≤ a := by
  unfold anN
  rw [BitVec.toNat_and]
  refine Nat.le_trans Nat.and_le_left ?_
  rw [BitVec.toNat_ofNat]
  exact Nat.mod_le _ _
theorem bin_andNot (P : Program) (t : TypeId) (a b : Nat) (ha : a < 2 ^ 64) : binA P .andNot t (.int .u64 (a : Int)) (.int .u64 (b : Int)) = some (.int .u64 ((anN a b : Nat) : Int)) := by
  have e : bitsA .andNot .u64 (a : Int) (b : Int) = ((anN a b : Nat) : Int) := by
    show IntKind.u64.wrap (((BitVec.ofInt 64 (a : Int) &&& ~~~ BitVec.ofInt 64 (b : Int)).toNat : Nat) : Int) = _
    rw [BitVec.ofInt_natCast, BitVec.ofInt_natCast]
    show IntKind.u64.wrap ((anN a b : Nat) : Int) = _
    have := anN_le a b
    rw [IntKind.wrap_u64]; omega
  simp only [binA, intA, e]
  simp
set_option maxHeartbeats 1000000 in
theorem bagOf_c (w : Value) (xs : List Int) (H : AH) (hr : Row 3 H w xs) (hlen : xs.length ≤ 1048576) (hx : ∀ x ∈ xs, 0 ≤ x ∧ x < 32) :
    ACalls Tryz.prog 169 [w] H fun r H' => ∃ b : Nat, r = .int .u64 (b : Int) ∧ BagI b xs ∧ H = H' := by
  refine in169 rfl ?_
  intro Q hQ
  simp (maxSteps := 1000000) (disch := omega) only [cd169, hr.len Tryz.underlying38, S, S1, S2, S3, S4, S5, ST, eq_self, reduceIte, reduceCtorEq, Nat.reduceEqDiff, Nat.reduceAdd]
  refine LoopH.by (fun m s H' => ∃ (i b : Nat), m + i = xs.length ∧ s 3 = .int .u64 (b : Int) ∧ s 6 = w ∧ s 7 = .int .i64 (xs.length : Int) ∧ s 8 = .int .i64 ((i : Nat) : Int) ∧ BagI b (xs.take i) ∧ H' = H) xs.length ?_ ?_
  · exact ⟨0, 0, by simp, rfl, rfl, rfl, rfl, by simpa using BagI.zero, rfl⟩
  rintro m s H' ⟨i, b, hm, h3, h6, h7, h8, hb, rfl⟩
  simp (maxSteps := 1000000) (disch := omega) only [h3, h6, h7, h8, S, S1, S2, S3, S4, S5, ST, eq_self, reduceIte, reduceCtorEq, Nat.reduceEqDiff, Nat.reduceAdd]
  refine brD.intro (fun g => ?_) (fun g => ?_)
  · have hi : i < xs.length := by omega
    have hxm : xs.getD i 0 ∈ xs := by simp [hi]
    have hxr := hx _ hxm
    obtain ⟨x, hxe⟩ : ∃ x : Nat, xs.getD i 0 = x := ⟨(xs.getD i 0).toNat, by omega⟩
    have hc := hr.cell hi
    rw [hxe] at hc
    have hb64 : b < 2 ^ 64 := Nat.lt_of_lt_of_le hb.1 (by decide)
    have hx64 : 2 ^ x < 2 ^ 64 := Nat.pow_lt_pow_right (by decide) (by omega)
    have k1 := bin_shl Tryz.prog 109 x (by omega)
    have k2 := bin_or Tryz.prog 109 b (2 ^ x) hb64 hx64
    have f1 : BagI (b ||| 2 ^ x) (xs.take (i + 1)) := by
      have e : xs.take (i + 1) = xs.take i ++ [(x : Int)] := by
        rw [List.take_add_one, List.getElem?_eq_getElem hi, ← hxe]
        simp [hi]
      rw [e]; exact hb.or (by omega)
    simp (maxSteps := 1000000) (disch := omega) only [h3, h6, h7, h8, hr.ix Tryz.underlying38 cs3, Int.toNat_natCast, hc, k1, k2, wrap64, S, S1, S2, S3, S4, S5, ST, eq_self, reduceIte, reduceCtorEq, Nat.reduceEqDiff, Nat.reduceAdd]
    refine ⟨m - 1, by omega, i + 1, b ||| 2 ^ x, ?_⟩
    (repeat' first | exact f1 | apply And.intro) <;> first | (simp only [Value.int.injEq, true_and]; omega) | omega | rfl | assumption | (simp; done) | (simp; omega)
  · simp (maxSteps := 1000000) (disch := omega) only [h3, S, S1, S2, S3, S4, S5, ST, eq_self, reduceIte, reduceCtorEq, Nat.reduceEqDiff, Nat.reduceAdd]
    refine hQ _ _ _ ?_
    simp (maxSteps := 1000000) (disch := omega) only [S, S1, S2, S3, S4, S5, ST, eq_self, reduceIte, reduceCtorEq, Nat.reduceEqDiff, Nat.reduceAdd]
    rw [List.take_of_length_le (by omega)] at hb
    exact ⟨b, rfl, hb⟩
theorem moves_c (v w : Value) (xs ys : List Int) (H : AH) (hr : Row 3 H v xs) (hs : Row 3 H w ys) (hlx : xs.length ≤ 1048576) (hly : ys.length ≤ 1048576) (hx : ∀ x ∈ xs, 0 ≤ x ∧ x < 32) (hy : ∀ x ∈ ys, 0 ≤ x ∧ x < 32) :
    ACalls Tryz.prog 133 [v, w] H fun r H' => ∃ a b : Nat, r = .tuple (List.toArray [.int .u64 (a : Int), .int .u64 (b : Int)]) ∧ BagI a (xs.filter fun x => !decide (x ∈ ys)) ∧ BagI b (ys.filter fun x => !decide (x ∈ xs)) ∧ H = H' := by
  refine in133 rfl ?_
  intro Q hQ
  simp (maxSteps := 1000000) (disch := omega) only [cd133, S, S1, S2, S3, S4, S5, ST, eq_self, reduceIte, reduceCtorEq, Nat.reduceEqDiff, Nat.reduceAdd]
  refine CallH.by (bagOf_c v xs H hr hlx hx) ?_
  rintro _ _ ⟨a, rfl, ha, rfl⟩
  simp (maxSteps := 1000000) (disch := omega) only [S, S1, S2, S3, S4, S5, ST, eq_self, reduceIte, reduceCtorEq, Nat.reduceEqDiff, Nat.reduceAdd]
  refine CallH.by (bagOf_c w ys H hs hly hy) ?_
  rintro _ _ ⟨b, rfl, hb, rfl⟩
  have ha64 : a < 2 ^ 64 := Nat.lt_of_lt_of_le ha.1 (by decide)
  have hb64 : b < 2 ^ 64 := Nat.lt_of_lt_of_le hb.1 (by decide)
  have k1 := bin_andNot Tryz.prog 109 a b ha64
  have k2 := bin_andNot Tryz.prog 109 b a hb64
  simp (maxSteps := 1000000) (disch := omega) only [k1, k2, S, S1, S2, S3, S4, S5, ST, eq_self, reduceIte, reduceCtorEq, Nat.reduceEqDiff, Nat.reduceAdd]
  refine hQ _ _ _ ?_
  simp (maxSteps := 1000000) (disch := omega) only [S, S1, S2, S3, S4, S5, ST, eq_self, reduceIte, reduceCtorEq, Nat.reduceEqDiff, Nat.reduceAdd]
  refine ⟨_, _, rfl, ⟨Nat.lt_of_le_of_lt (anN_le a b) ha.1, fun z hz => ?_⟩, ⟨Nat.lt_of_le_of_lt (anN_le b a) hb.1, fun z hz => ?_⟩⟩
  · rw [anN_bit a b z hz, ha.2 z hz, hb.2 z hz]
    by_cases h1 : (z : Int) ∈ xs <;> by_cases h2 : (z : Int) ∈ ys <;> simp [h1, h2]
  · rw [anN_bit b a z hz, ha.2 z hz, hb.2 z hz]
    by_cases h1 : (z : Int) ∈ xs <;> by_cases h2 : (z : Int) ∈ ys <;> simp [h1, h2]
set_option maxHeartbeats 1000000 in
theorem difference_c (v w : Value) (xs ys : List Int) (H : AH) (hr : Row 3 H v xs) (hs : Row 3 H w ys) (hlx : xs.length ≤ 1048576) (hly : ys.length ≤ 1048576) (hx : ∀ x ∈ xs, 0 ≤ x ∧ x < 32) (hy : ∀ x ∈ ys, 0 ≤ x ∧ x < 32) :
    ACalls Tryz.prog 93 [v, w] H fun r H' => Own 3 H H' r (dix xs ys 32) ∧ H <+: H' := by
  refine in93 rfl ?_
  intro Q hQ
  simp (maxSteps := 1000000) (disch := omega) only [cd93, S, S1, S2, S3, S4, S5, ST, eq_self, reduceIte, reduceCtorEq, Nat.reduceEqDiff, Nat.reduceAdd]
  refine CallH.by (moves_c v w xs ys H hr hs hlx hly hx hy) ?_
  rintro _ _ ⟨a, b, rfl, ha, hb, rfl⟩
  simp (maxSteps := 1000000) (disch := omega) only [S, S1, S2, S3, S4, S5, ST, eq_self, reduceIte, reduceCtorEq, Nat.reduceEqDiff, Nat.reduceAdd]
  generalize hA : H ++ [AObj.cells [] 3 false] = A
  have pA : H <+: A := by rw [← hA]; exact List.prefix_append _ _
  have cA : A[H.length]? = some (.cells (ints []) 3 false) := by rw [← hA]; exact at_new ..
  have own0 : Own 3 H A (.slice (some ⟨H.length, 0, none⟩) 0 0) (dix xs ys 0) := .inr ⟨H.length, rfl, Nat.le_refl _, cA⟩
  have ha64 : a < 2 ^ 64 := Nat.lt_of_lt_of_le ha.1 (by decide)
  have hb64 : b < 2 ^ 64 := Nat.lt_of_lt_of_le hb.1 (by decide)
  have k1 := bin_or Tryz.prog 109 a b ha64 hb64
  refine LoopH.by (fun m s H' => ∃ (i : Nat), m + i = 32 ∧ s 5 = .int .u64 (a : Int) ∧ s 6 = .int .u64 (b : Int) ∧ s 16 = .int .i64 ((i : Nat) : Int) ∧ Own 3 H H' (s 7) (dix xs ys i) ∧ H <+: H') 32 ?_ ?_
  · refine ⟨0, ?_⟩
    simp (maxSteps := 1000000) (disch := omega) only [S, S1, S2, S3, S4, S5, ST, eq_self, reduceIte, reduceCtorEq, Nat.reduceEqDiff, Nat.reduceAdd]
    (repeat' first | exact own0 | exact pA | apply And.intro) <;> first | (simp only [Value.int.injEq, true_and]; omega) | omega | rfl | assumption | (simp; done) | (simp; omega)
  rintro m s H' ⟨i, hm, h5, h6, h16, ho, hp⟩
  generalize hU : s 7 = U at *
  simp (maxSteps := 1000000) (disch := omega) only [h5, h6, h16, hU, S, S1, S2, S3, S4, S5, ST, eq_self, reduceIte, reduceCtorEq, Nat.reduceEqDiff, Nat.reduceAdd]
  refine brD.intro (fun g => ?_) (fun g => ?_)
  · have hi : i < 32 := by omega
    simp (maxSteps := 1000000) (disch := omega) only [h5, h6, h16, hU, k1, S, S1, S2, S3, S4, S5, ST, eq_self, reduceIte, reduceCtorEq, Nat.reduceEqDiff, Nat.reduceAdd]
    refine CallH.by (has_c (a ||| b) i H' (Nat.or_lt_two_pow ha64 hb64) (by omega)) ?_
    rintro _ _ ⟨rfl, rfl⟩
    have hbit : (a ||| b).testBit i = (decide ((i : Int) ∈ xs) != decide ((i : Int) ∈ ys)) := by
      rw [Nat.testBit_or, ha.2 i (by omega), hb.2 i (by omega)]
      by_cases h1 : (i : Int) ∈ xs <;> by_cases h2 : (i : Int) ∈ ys <;> simp [h1, h2]
    rw [hbit]
    cases hh : (decide ((i : Int) ∈ xs) != decide ((i : Int) ∈ ys)) with
    | true =>
      have hd : dix xs ys (i + 1) = dix xs ys i ++ [(i : Int)] := by rw [dix, if_pos hh]
      obtain ⟨U', H2, j1, j2, j3, j4, j5, j6⟩ := own1_38 ho hp (by have := dix_len xs ys i; omega) (i : Int)
      rw [← hd] at j2
      simp (maxSteps := 1000000) (disch := omega) only [h5, h6, h16, hU, j1, wrap64, S, S1, S2, S3, S4, S5, ST, eq_self, reduceIte, reduceCtorEq, Nat.reduceEqDiff, Nat.reduceAdd]
      refine ⟨m - 1, by omega, i + 1, ?_⟩
      (repeat' first | exact j2 | exact j3 | apply And.intro) <;> first | (simp only [Value.int.injEq, true_and]; omega) | omega | rfl | assumption | (simp; done) | (simp; omega)
    | false =>
      have hd : dix xs ys (i + 1) = dix xs ys i := by rw [dix, if_neg (by rw [hh]; decide), List.append_nil]
      rw [← hd] at ho
      simp (maxSteps := 1000000) (disch := omega) only [h5, h6, h16, hU, wrap64, S, S1, S2, S3, S4, S5, ST, eq_self, reduceIte, reduceCtorEq, Nat.reduceEqDiff, Nat.reduceAdd]
      refine ⟨m - 1, by omega, i + 1, ?_⟩
      (repeat' first | exact ho | exact hp | apply And.intro) <;> first | (simp only [Value.int.injEq, true_and]; omega) | omega | rfl | assumption | (simp; done) | (simp; omega)
  · simp (maxSteps := 1000000) (disch := omega) only [hU, S, S1, S2, S3, S4, S5, ST, eq_self, reduceIte, reduceCtorEq, Nat.reduceEqDiff, Nat.reduceAdd]
    refine hQ _ _ _ ?_
    simp (maxSteps := 1000000) (disch := omega) only [hU, ho.row.tup, S, S1, S2, S3, S4, S5, ST, eq_self, reduceIte, reduceCtorEq, Nat.reduceEqDiff, Nat.reduceAdd]
    have hi : i = 32 := by omega
    subst hi
    exact ⟨ho, hp⟩
set_option maxHeartbeats 2000000 in
theorem ends_c (n : Int) (v w : Value) (es : List (Int × Int)) (ds : List Int) (H : AH) (hr : RowP 83 H v es) (hlen : es.length ≤ 1099511627776) (hg : Grd n es) (hs : Row 3 H w ds) (hld : ds.length ≤ 1048576) (hd : ∀ x ∈ ds, 0 ≤ x ∧ x < es.length) :
    ACalls Tryz.prog 94 [.agg (List.toArray [.int .i64 n, v]), w] H fun r H' => ∃ b : Nat, r = .int .u64 (b : Int) ∧ BagI b (seenL es ds) ∧ H <+: H' := by
  refine in94 rfl ?_
  intro Q hQ
  simp (maxSteps := 1000000) (disch := omega) only [cd94, hr.boxG, S, S1, S2, S3, S4, S5, ST, eq_self, reduceIte, reduceCtorEq, Nat.reduceEqDiff, Nat.reduceAdd]
  generalize hA : H ++ [AObj.cells [.int .i64 n, v] 31 false] = A
  have pA : H <+: A := by rw [← hA]; exact List.prefix_append _ _
  have cA : A[H.length]? = some (.cells [.int .i64 n, v] 31 false) := by rw [← hA]; exact at_new ..
  have rA := hr.pre pA
  have xA := hs.pre pA
  simp (maxSteps := 1000000) (disch := omega) only [xA.len Tryz.underlying38, S, S1, S2, S3, S4, S5, ST, eq_self, reduceIte, reduceCtorEq, Nat.reduceEqDiff, Nat.reduceAdd]
  refine LoopH.by (fun m s H' => ∃ (i b : Nat), m + i = ds.length ∧ s 2 = .pointer (some ⟨H.length, 0, none⟩) ∧ s 5 = .int .u64 (b : Int) ∧ s 8 = w ∧ s 9 = .int .i64 (ds.length : Int) ∧ s 10 = .int .i64 ((i : Nat) : Int) ∧ BagI b (seenL es (ds.take i)) ∧ H' = A) ds.length ?_ ?_
  · exact ⟨0, 0, by simp, rfl, rfl, rfl, rfl, rfl, by simpa [seenL] using BagI.zero, rfl⟩
  rintro m s H' ⟨i, b, hm, h2, h5, h8, h9, h10, hb, rfl⟩
  simp (maxSteps := 1000000) (disch := omega) only [h2, h5, h8, h9, h10, S, S1, S2, S3, S4, S5, ST, eq_self, reduceIte, reduceCtorEq, Nat.reduceEqDiff, Nat.reduceAdd]
  refine brD.intro (fun g => ?_) (fun g => ?_)
  · have hi : i < ds.length := by omega
    have hdm : ds.getD i 0 ∈ ds := by simp [hi]
    have hdr := hd _ hdm
    have hei : (ds.getD i 0).toNat < es.length := by omega
    have hst := seenL_take es ds i hi
    obtain ⟨x, y, ex, ey, hxy, hyn, hy8⟩ := grd_ed hg hei
    unfold ed1 ed2 at hst
    rw [ex, ey] at hst
    have hb64 : b < 2 ^ 64 := Nat.lt_of_lt_of_le hb.1 (by decide)
    have hx64 : 2 ^ x < 2 ^ 64 := Nat.pow_lt_pow_right (by decide) (by omega)
    have hy64 : 2 ^ y < 2 ^ 64 := Nat.pow_lt_pow_right (by decide) (by omega)
    have k1 := bin_shl Tryz.prog 109 x (by omega)
    have k2 := bin_shl Tryz.prog 109 y (by omega)
    have k3 := bin_or Tryz.prog 109 (2 ^ x) (2 ^ y) hx64 hy64
    have k5 := bin_or Tryz.prog 109 b (2 ^ x ||| 2 ^ y) hb64 (Nat.or_lt_two_pow hx64 hy64)
    have l0 := rA.cell0 hei
    have l1 := rA.cell1 hei
    rw [ex] at l0
    rw [ey] at l1
    have f1 : BagI (b ||| (2 ^ x ||| 2 ^ y)) (seenL es (ds.take (i + 1))) := by
      rw [hst, ← Nat.or_assoc]
      have := (hb.or (y := x) (by omega)).or (y := y) (by omega)
      rw [List.append_assoc] at this
      exact this
    simp (maxSteps := 1000000) (disch := omega) only [h2, h5, h8, h9, h10, cell_of cA, xA.ix Tryz.underlying38 cs3, xA.cell, rA.ix Tryz.underlying22 cs83, Int.toNat_natCast, l0, l1, k1, k2, k3, k5, wrap64, S, S1, S2, S3, S4, S5, ST, eq_self, reduceIte, reduceCtorEq, Nat.reduceEqDiff, Nat.reduceAdd]
    refine ⟨m - 1, by omega, i + 1, b ||| (2 ^ x ||| 2 ^ y), ?_⟩
    (repeat' first | exact f1 | apply And.intro) <;> first | (simp only [Value.int.injEq, true_and]; omega) | omega | rfl | assumption | (simp; done) | (simp; omega)
  · simp (maxSteps := 1000000) (disch := omega) only [h5, S, S1, S2, S3, S4, S5, ST, eq_self, reduceIte, reduceCtorEq, Nat.reduceEqDiff, Nat.reduceAdd]
    refine hQ _ _ _ ?_
    simp (maxSteps := 1000000) (disch := omega) only [S, S1, S2, S3, S4, S5, ST, eq_self, reduceIte, reduceCtorEq, Nat.reduceEqDiff, Nat.reduceAdd]
    rw [List.take_of_length_le (by omega)] at hb
    exact ⟨b, rfl, hb, pA⟩
end Go.Proofs.YtlfongfhbkefmaaGreat.Ai
namespace Go.Proofs.YtlfongfhbkefmaaGreat.Ai
open Go
def ords62 : List (Nat × List (Nat × Bool)) := []
def cd62 : Cd := (.seq (.reg [⟨⟨some 4, Op.assign (Operand.const (Value.int IntKind.i64 0)), none⟩, []⟩]) (.seq (.seq (.reg [⟨⟨some 6, Op.move (Operand.tmp 0), none⟩, []⟩,
  ⟨⟨some 7, Op.call { callee := (Callee.builtin Builtin.len), args := #[(Operand.tmp 6)], argTypes := #[26] }, none⟩, []⟩,
  ⟨⟨some 8, Op.move (Operand.const (Value.int IntKind.i64 0)), none⟩, []⟩]) (.block 0 (.loop (.seq (.reg [⟨⟨some 9, Op.binOp BinOp.lss 3 (Operand.tmp 8) (Operand.tmp 7) 3, none⟩, []⟩]) (.seq (.cond (Operand.tmp 9) .skip (.exit 0)) (.seq (.block 1 (.seq (.reg [⟨⟨some 10, Op.move (Operand.tmp 8), none⟩, []⟩,
  ⟨⟨some 5, Op.assign (Operand.tmp 10), none⟩, []⟩]) (.seq (.reg [⟨⟨some 11, Op.move (Operand.tmp 1), none⟩, []⟩,
  ⟨⟨some 12, Op.move (Operand.tmp 0), none⟩, []⟩,
  ⟨⟨some 13, Op.move (Operand.tmp 5), none⟩, []⟩,
  ⟨⟨some 14, Op.indexAddr 26 (Operand.tmp 12) (Operand.tmp 13), none⟩, []⟩,
  ⟨⟨some 15, Op.load 38 (Operand.tmp 14), none⟩, []⟩,
  ⟨⟨some 16, Op.call { callee := (Callee.value (Operand.tmp 11)), args := #[(Operand.tmp 15)], argTypes := #[38] }, none⟩, []⟩]) (.cond (Operand.tmp 16) (.seq (.reg [⟨⟨some 17, Op.move (Operand.tmp 5), none⟩, []⟩,
  ⟨⟨some 4, Op.assign (Operand.tmp 17), none⟩, []⟩]) .ret) .skip)))) (.reg [⟨⟨some 18, Op.binOp BinOp.add 3 (Operand.tmp 8) (Operand.const (Value.int IntKind.i64 1)) 3, none⟩, []⟩,
  ⟨⟨some 8, Op.move (Operand.tmp 18), none⟩, []⟩]))))))) (.seq (.reg [⟨⟨some 4, Op.assign (Operand.const (Value.int IntKind.i64 (-1))), none⟩, []⟩]) .ret)))
theorem sl62 : slim Tryz.f62.ntmps ords62 (Tryz.f62.body.getD .skip) = some cd62 := by kernel_rfl
theorem in62 {args : List Value} {H : AH} {R : Value → AH → Prop} (hl : args.length = 2) (h : ∀ (Q : Exit → Sl → AH → Prop), (∀ e s H, endA Tryz.prog [ResultVar.tmp 4] R e s H → Q e s H) → wpC Tryz.prog cd62 Q (enterA args) H) : ACalls Tryz.prog 62 args H R :=
  ACalls.intro (by kernel_rfl) Tryz.func62 rfl (by kernel_rfl) sl62 hl (of_decide_eq_true (by kernel_rfl)) (by kernel_rfl) h
end Go.Proofs.YtlfongfhbkefmaaGreat.Ai
namespace Go.Proofs.YtlfongfhbkefmaaGreat.Ai
open Go Go.RowKit
set_option linter.unusedVariables false
set_option linter.unusedSimpArgs false
/-- the place of the first that is true, or -1 -/
def idxB : List Bool → Nat → Int
  | [], _ => -1
  | b :: bs, k => if b = true then (k : Int) else idxB bs (k + 1)
theorem idxB_step (bs : List Bool) (i : Nat) (hi : i < bs.length) : idxB (bs.drop i) i = if bs.getD i false = true then (i : Int) else idxB (bs.drop (i + 1)) (i + 1) := by
  rw [List.drop_eq_getElem_cons hi]
  simp [idxB, hi]
theorem IndexFuncL_c (v : Value) (us : List Value) (bs : List Bool) (g : FuncId) (caps : List Value) (H : AH) (hr : RowV 38 H v us) (hlen : us.length ≤ 1099511627776) (hb : bs.length = us.length)
    (hp : ∀ i, i < us.length → ∀ H1, H <+: H1 → ACalls Tryz.prog g (us.getD i undef :: caps) H1 fun r H' => r = .bool (bs.getD i false) ∧ H1 <+: H') :
    ACalls Tryz.prog 62 [v, .func (.func g) #[] (List.toArray caps)] H fun r H' => r = .int .i64 (idxB bs 0) ∧ H <+: H' := by
  refine in62 rfl ?_
  intro Q hQ
  simp (maxSteps := 1000000) (disch := omega) only [cd62, hr.len Tryz.underlying26, S, S1, S2, S3, S4, S5, ST, eq_self, reduceIte, reduceCtorEq, Nat.reduceEqDiff, Nat.reduceAdd]
  refine LoopH.by (fun m s H' => ∃ i, m + i = us.length ∧ s 0 = v ∧ s 1 = .func (.func g) #[] (List.toArray caps) ∧ s 8 = .int .i64 ((i : Nat) : Int) ∧ s 7 = .int .i64 (us.length : Int) ∧ H <+: H' ∧ idxB bs 0 = idxB (bs.drop i) i) us.length ?_ ?_
  · exact ⟨0, by simp, rfl, rfl, rfl, rfl, List.prefix_refl _, by simp⟩
  · rintro m s H' ⟨i, hm, h0, h1, h8, h7, hpp, hn⟩
    have hr' := hr.pre hpp
    simp (maxSteps := 1000000) (disch := omega) only [h0, h1, h8, h7, S, S1, S2, S3, S4, S5, ST, eq_self, reduceIte, reduceCtorEq, Nat.reduceEqDiff, Nat.reduceAdd]
    refine brD.intro (fun g => ?_) (fun g => ?_) <;> simp (maxSteps := 1000000) (disch := omega) only [h0, h1, h8, h7, hr'.ix Tryz.underlying26 cs38, hr'.cell, Int.toNat_natCast, S, S1, S2, S3, S4, S5, ST, eq_self, reduceIte, reduceCtorEq, Nat.reduceEqDiff, Nat.reduceAdd]
    · have hi : i < us.length := by omega
      rw [idxB_step bs i (by omega)] at hn
      refine CallH.by (hp i hi H' hpp) ?_
      rintro _ H2 ⟨rfl, hp2⟩
      simp (maxSteps := 1000000) (disch := omega) only [S, S1, S2, S3, S4, S5, ST, eq_self, reduceIte, reduceCtorEq, Nat.reduceEqDiff, Nat.reduceAdd]
      refine brH.intro (fun e => ?_) (fun e => ?_) <;> simp (maxSteps := 1000000) (disch := omega) only [h0, h1, h8, h7, wrap64, S, S1, S2, S3, S4, S5, ST, eq_self, reduceIte, reduceCtorEq, Nat.reduceEqDiff, Nat.reduceAdd]
      · refine hQ _ _ _ ?_
        simp (maxSteps := 1000000) (disch := omega) only [S, S1, S2, S3, S4, S5, ST, eq_self, reduceIte, reduceCtorEq, Nat.reduceEqDiff, Nat.reduceAdd]
        rw [hn, if_pos e]
        exact ⟨rfl, hpp.trans hp2⟩
      · rw [if_neg (by rw [e]; decide)] at hn
        exact ⟨m - 1, by omega, i + 1, by omega, by simp, hpp.trans hp2, hn⟩
    · refine hQ _ _ _ ?_
      simp (maxSteps := 1000000) (disch := omega) only [S, S1, S2, S3, S4, S5, ST, eq_self, reduceIte, reduceCtorEq, Nat.reduceEqDiff, Nat.reduceAdd]
      rw [hn, List.drop_of_length_le (by omega)]
      exact ⟨rfl, hpp⟩
end Go.Proofs.YtlfongfhbkefmaaGreat.Ai
namespace Go.Proofs.YtlfongfhbkefmaaGreat.Ai
open Go
def ords95 : List (Nat × List (Nat × Bool)) := []
def cd95 : Cd := (.seq (.reg [⟨⟨some 4, Op.assign (Operand.const (Value.slice none 0 0)), none⟩, []⟩]) (.seq (.reg [⟨⟨some 8, Op.move (Operand.tmp 0), none⟩, []⟩,
  ⟨⟨some 9, Op.move (Operand.tmp 1), none⟩, []⟩,
  ⟨⟨some 10, Op.call { callee := (Callee.value (Operand.func 62)), args := #[(Operand.tmp 8), (Operand.tmp 9)], argTypes := #[26, 80] }, none⟩, []⟩,
  ⟨⟨some 5, Op.assign (Operand.tmp 10), none⟩, []⟩]) (.seq (.seq (.reg [⟨⟨some 11, Op.move (Operand.tmp 5), none⟩, []⟩,
  ⟨⟨some 12, Op.binOp BinOp.eql 3 (Operand.tmp 11) (Operand.const (Value.int IntKind.i64 (-1))) 3, none⟩, []⟩]) (.cond (Operand.tmp 12) (.seq (.reg [⟨⟨some 13, Op.move (Operand.tmp 0), none⟩, []⟩,
  ⟨⟨some 4, Op.assign (Operand.tmp 13), none⟩, []⟩]) .ret) .skip)) (.seq (.seq (.reg [⟨⟨some 14, Op.move (Operand.tmp 5), none⟩, []⟩,
  ⟨⟨some 15, Op.binOp BinOp.add 3 (Operand.tmp 14) (Operand.const (Value.int IntKind.i64 1)) 3, none⟩, []⟩,
  ⟨⟨some 6, Op.assign (Operand.tmp 15), none⟩, []⟩]) (.block 0 (.loop (.seq (.seq (.reg [⟨⟨some 16, Op.move (Operand.tmp 6), none⟩, []⟩,
  ⟨⟨some 17, Op.move (Operand.tmp 0), none⟩, []⟩,
  ⟨⟨some 18, Op.call { callee := (Callee.builtin Builtin.len), args := #[(Operand.tmp 17)], argTypes := #[26] }, none⟩, []⟩,
  ⟨⟨some 19, Op.binOp BinOp.lss 3 (Operand.tmp 16) (Operand.tmp 18) 3, none⟩, []⟩]) (.cond (Operand.tmp 19) .skip (.exit 0))) (.seq (.block 1 (.seq (.reg [⟨⟨some 22, Op.move (Operand.tmp 0), none⟩, []⟩,
  ⟨⟨some 23, Op.move (Operand.tmp 6), none⟩, []⟩,
  ⟨⟨some 24, Op.indexAddr 26 (Operand.tmp 22) (Operand.tmp 23), none⟩, []⟩,
  ⟨⟨some 25, Op.load 38 (Operand.tmp 24), none⟩, []⟩,
  ⟨⟨some 7, Op.assign (Operand.tmp 25), none⟩, []⟩]) (.seq (.reg [⟨⟨some 26, Op.move (Operand.tmp 1), none⟩, []⟩,
  ⟨⟨some 27, Op.move (Operand.tmp 7), none⟩, []⟩,
  ⟨⟨some 28, Op.call { callee := (Callee.value (Operand.tmp 26)), args := #[(Operand.tmp 27)], argTypes := #[38] }, none⟩, []⟩,
  ⟨⟨some 29, Op.unOp UnOp.not 4 (Operand.tmp 28), none⟩, []⟩]) (.cond (Operand.tmp 29) (.seq (.reg [⟨⟨some 30, Op.move (Operand.tmp 0), none⟩, []⟩,
  ⟨⟨some 31, Op.move (Operand.tmp 5), none⟩, []⟩,
  ⟨⟨some 32, Op.move (Operand.tmp 7), none⟩, []⟩,
  ⟨⟨some 33, Op.indexAddr 26 (Operand.tmp 30) (Operand.tmp 31), none⟩, []⟩,
  ⟨⟨none, Op.store 38 (Operand.tmp 33) (Operand.tmp 32), none⟩, []⟩]) (.reg [⟨⟨some 34, Op.move (Operand.tmp 5), none⟩, []⟩,
  ⟨⟨some 35, Op.binOp BinOp.add 3 (Operand.tmp 34) (Operand.const (Value.int IntKind.i64 1)) 3, none⟩, []⟩,
  ⟨⟨some 5, Op.assign (Operand.tmp 35), none⟩, []⟩])) .skip)))) (.reg [⟨⟨some 20, Op.move (Operand.tmp 6), none⟩, []⟩,
  ⟨⟨some 21, Op.binOp BinOp.add 3 (Operand.tmp 20) (Operand.const (Value.int IntKind.i64 1)) 3, none⟩, []⟩,
  ⟨⟨some 6, Op.assign (Operand.tmp 21), none⟩, []⟩])))))) (.seq (.reg [⟨⟨some 36, Op.move (Operand.tmp 0), none⟩, []⟩,
  ⟨⟨some 37, Op.move (Operand.tmp 5), none⟩, []⟩,
  ⟨⟨some 38, Op.slice 26 (Operand.tmp 36) (some (Operand.tmp 37)) none none, none⟩, []⟩,
  ⟨⟨none, Op.call { callee := (Callee.builtin Builtin.clear), args := #[(Operand.tmp 38)], argTypes := #[26] }, none⟩, []⟩]) (.seq (.reg [⟨⟨some 39, Op.move (Operand.tmp 0), none⟩, []⟩,
  ⟨⟨some 40, Op.move (Operand.tmp 5), none⟩, []⟩,
  ⟨⟨some 41, Op.slice 26 (Operand.tmp 39) none (some (Operand.tmp 40)) none, none⟩, []⟩,
  ⟨⟨some 4, Op.assign (Operand.tmp 41), none⟩, []⟩]) .ret))))))
theorem sl95 : slim Tryz.f95.ntmps ords95 (Tryz.f95.body.getD .skip) = some cd95 := by kernel_rfl
theorem in95 {args : List Value} {H : AH} {R : Value → AH → Prop} (hl : args.length = 2) (h : ∀ (Q : Exit → Sl → AH → Prop), (∀ e s H, endA Tryz.prog [ResultVar.tmp 4] R e s H → Q e s H) → wpC Tryz.prog cd95 Q (enterA args) H) : ACalls Tryz.prog 95 args H R :=
  ACalls.intro (by kernel_rfl) Tryz.func95 rfl (by kernel_rfl) sl95 hl (of_decide_eq_true (by kernel_rfl)) (by kernel_rfl) h
end Go.Proofs.YtlfongfhbkefmaaGreat.Ai
namespace Go.Proofs.YtlfongfhbkefmaaGreat.Ai
open Go Go.RowKit
set_option linter.unusedVariables false
set_option linter.unusedSimpArgs false
/-- the places, of the first n, that stay -/
def kiB (bs : List Bool) : Nat → List Nat
  | 0 => []
  | n + 1 => kiB bs n ++ (if bs.getD n false = true then [] else [n])
theorem kiB_lt (bs : List Bool) : ∀ n, ∀ k ∈ kiB bs n, k < n
  | 0, k, h => by simp [kiB] at h
  | n + 1, k, h => by
    simp only [kiB, List.mem_append] at h
    rcases h with h | h
    · have := kiB_lt bs n k h; omega
    · split at h
      · simp at h
      · simp only [List.mem_singleton] at h; omega
theorem kiB_srt (bs : List Bool) : ∀ n, (kiB bs n).Pairwise (· < ·)
  | 0 => .nil
  | n + 1 => by
    simp only [kiB]
    rw [List.pairwise_append]
    refine ⟨kiB_srt bs n, by split <;> simp, fun x hx y hy => ?_⟩
    have := kiB_lt bs n x hx
    split at hy
    · simp at hy
    · simp only [List.mem_singleton] at hy; omega
theorem kiB_len (bs : List Bool) : ∀ n, (kiB bs n).length ≤ n
  | 0 => Nat.le_refl _
  | n + 1 => by
    have := kiB_len bs n
    simp only [kiB, List.length_append]
    split <;> simp <;> omega
theorem kiB_filter (p : List Int → Bool) (ls : List (List Int)) : ∀ n, n ≤ ls.length → (kiB (ls.map p) n).map (fun k => ls.getD k []) = (ls.take n).filter (fun l => !p l)
  | 0, _ => by simp [kiB]
  | n + 1, h => by
    have hn : n < ls.length := by omega
    have e1 : (ls.map p).getD n false = p ls[n] := by simp [hn]
    have e2 : ls.getD n [] = ls[n] := by simp [hn]
    simp only [kiB, List.map_append, kiB_filter p ls n (by omega)]
    rw [List.take_add_one, List.getElem?_eq_getElem hn, List.filter_append, e1]
    congr 1
    cases hp : p ls[n] <;> simp [hp, hn]
theorem kiB_none (bs : List Bool) : ∀ n, (∀ j, j < n → bs.getD j false = false) → kiB bs n = List.range n
  | 0, _ => rfl
  | n + 1, h => by
    simp only [kiB]
    rw [kiB_none bs n (fun j hj => h j (by omega)), h n (by omega), List.range_succ]
    simp
theorem idxB_lt : ∀ (bs : List Bool) (k : Nat), (idxB bs k = -1 ∧ ∀ j, bs.getD j false = false) ∨ ∃ i, idxB bs k = ((k + i : Nat) : Int) ∧ i < bs.length ∧ (∀ j, j < i → bs.getD j false = false) ∧ bs.getD i false = true
  | [], k => .inl ⟨rfl, by simp⟩
  | b :: bs, k => by
    simp only [idxB]
    cases b with
    | true => exact .inr ⟨0, by simp, by simp, fun j h => absurd h (Nat.not_lt_zero j), by simp⟩
    | false =>
      rcases idxB_lt bs (k + 1) with ⟨e, h⟩ | ⟨i, e1, e2, e3, e4⟩
      · refine .inl ⟨by simpa using e, fun j => ?_⟩
        cases j with
        | zero => simp
        | succ j => simpa using h j
      · refine .inr ⟨i + 1, by simp only [Bool.false_eq_true, if_false]; rw [e1]; congr 1; omega, by simp; omega, fun j hj => ?_, by simpa using e4⟩
        cases j with
        | zero => simp
        | succ j => simpa using e3 j (by omega)
theorem take_set_V (zs : List Value) (i : Nat) (x : Value) (h : i < zs.length) : (zs.set i x).take (i + 1) = zs.take i ++ [x] := by
  rw [List.take_add_one, List.getElem?_set_self h]
  congr 1
  rw [List.take_set_of_le (Nat.le_refl _)]
theorem clear_vals {P : Program} {t e : TypeId} (hu : P.underlying t = some (.slice e)) (hc : P.cellsOf e = 1) (hz : zeroA P e = some (.slice none 0 0)) {H : AH} {o k n c : Nat} {ys : List Value} (ho : H[o]? = some (.cells ys e false)) (hk : k + n ≤ ys.length) :
    ∃ zs, clearA P t (.slice (some ⟨o, k, none⟩) n c) H = some (undef, H.set o (.cells zs e false)) ∧ zs.take k = ys.take k ∧ zs.length = ys.length := by
  by_cases hn : n = 0
  · refine ⟨ys, ?_, rfl, rfl⟩
    simp only [clearA, hu]
    rw [if_pos hn]
    have : H.set o (.cells ys e false) = H := by
      apply List.ext_getElem?
      intro i
      rw [List.getElem?_set]
      by_cases hi : o = i
      · subst hi
        rw [if_pos rfl, if_pos (at_lt ho), ho]
      · rw [if_neg hi]
    rw [this]
  · have hzc : (Value.slice none 0 0).cells = #[.slice none 0 0] := rfl
    have hzs : zerosA (.slice none 0 0) (n * 1) = List.replicate n (.slice none 0 0) := by
      unfold zerosA
      rw [hzc, Nat.mul_one]
      apply List.ext_getElem
      · simp
      · intro i h1 h2
        simp [Nat.mod_one]
    refine ⟨ys.take k ++ List.replicate n (.slice none 0 0) ++ ys.drop (k + n), ?_, ?_, ?_⟩
    · simp only [clearA, hu, ho, hz, hc, hzs]
      rw [if_neg hn, if_pos ⟨trivial, by simp [plainCs, hzc, plainC], by simp [hzc], by omega, by omega⟩]
      unfold putAt
      simp only [List.length_replicate]
    · rw [List.append_assoc, List.take_append_of_le_length (by simp; omega), List.take_take, Nat.min_self]
    · simp; omega
theorem InL.tup9 {lo hi : Nat} {e2 e : TypeId} {H : AH} {v : Value} {ls : List (List Int)} (h : InL lo hi e2 e H v ls) : isTup v = false := by
  rcases h with ⟨h, _⟩ | ⟨o, us, h, _⟩ <;> rw [h] <;> rfl
set_option maxRecDepth 20000 in
set_option maxHeartbeats 4000000 in
theorem DelL_c {lo hi : Nat} (v : Value) (ls : List (List Int)) (p : List Int → Bool) (g : FuncId) (caps : List Value) (H : AH) (hv : InL lo hi 38 3 H v ls) (hlen : ls.length ≤ 1099511627776)
    (hp : ∀ (w : Value) (l : List Int) (H1 : AH), Row 3 H1 w l → l ∈ ls → Kept v H H1 → ACalls Tryz.prog g (w :: caps) H1 fun r H' => r = .bool (p l) ∧ H1 = H') :
    ACalls Tryz.prog 95 [v, .func (.func g) #[] (List.toArray caps)] H fun r H' => InL lo hi 38 3 H' r (ls.filter fun l => !p l) ∧ Kept v H H' ∧ H.length ≤ H'.length := by
  refine in95 rfl ?_
  intro Q hQ
  simp (maxSteps := 1000000) (disch := omega) only [cd95, S, S1, S2, S3, S4, S5, ST, eq_self, reduceIte, reduceCtorEq, Nat.reduceEqDiff, Nat.reduceAdd]
  obtain ⟨us, r1, r2, r3⟩ := hv.parts
  have hbl : (ls.map p).length = us.length := by rw [List.length_map, r2]
  have bat : ∀ i, i < ls.length → (ls.map p).getD i false = p (ls.getD i []) := fun i hi => by simp [hi]
  have kp0 : ∀ H1 : AH, H <+: H1 → Kept v H H1 := fun H1 hp1 j y _ hy => pre_at hp1 hy
  refine CallH.by (IndexFuncL_c v us (ls.map p) g caps H r1 (by omega) hbl (fun i hi H1 hp1 => ?_)) ?_
  · have hi' : i < ls.length := by omega
    have h := hp (us.getD i undef) (ls.getD i []) H1 ((r3 i hi').row.1.pre hp1) (by simp [hi']) (kp0 H1 hp1)
    rw [← bat i hi'] at h
    exact h.mono fun r H' hh => ⟨hh.1, hh.2 ▸ List.prefix_refl _⟩
  rintro _ H1 ⟨rfl, hp1⟩
  have hv1 := hv.pre hp1
  simp (maxSteps := 1000000) (disch := omega) only [S, S1, S2, S3, S4, S5, ST, eq_self, reduceIte, reduceCtorEq, Nat.reduceEqDiff, Nat.reduceAdd]
  rcases idxB_lt (ls.map p) 0 with ⟨e, hno⟩ | ⟨i0, e1, e2, e3, e4⟩
  · have hall : ls.filter (fun l => !p l) = ls := by
      rw [List.filter_eq_self]
      intro l hl
      obtain ⟨i, hi, rfl⟩ := List.getElem_of_mem hl
      have := hno i
      rw [bat i hi] at this
      have e2 : ls.getD i [] = ls[i] := by simp [hi]
      rw [e2] at this; simp [this]
    rw [hall] at hQ
    simp (maxSteps := 1000000) (disch := omega) only [e, S, S1, S2, S3, S4, S5, ST, eq_self, reduceIte, reduceCtorEq, Nat.reduceEqDiff, Nat.reduceAdd]
    refine hQ _ _ _ ?_
    simp (maxSteps := 1000000) (disch := omega) only [hv.tup9, S, S1, S2, S3, S4, S5, ST, eq_self, reduceIte, reduceCtorEq, Nat.reduceEqDiff, Nat.reduceAdd]
    exact ⟨hv1, kp0 H1 hp1, hp1.length_le⟩
  rw [Nat.zero_add] at e1
  have hi0 : i0 < ls.length := by simpa using e2
  rcases hv1 with ⟨_, hn⟩ | ⟨o, us1, rfl, hU⟩
  · rw [hn] at hi0; simp at hi0
  have hU0 := hU
  obtain ⟨u1, u2, u3, u4, u5, u6⟩ := hU0
  have hne : ¬ ((i0 : Nat) : Int) = -1 := by omega
  simp (maxSteps := 1000000) (disch := omega) only [e1, hne, wrap64, S, S1, S2, S3, S4, S5, ST, eq_self, reduceIte, reduceCtorEq, Nat.reduceEqDiff, Nat.reduceAdd]
  have rowOf : ∀ zs : List Value, ls.length ≤ zs.length → RowV 38 (H1.set o (.cells zs 38 false)) (.slice (some ⟨o, 0, none⟩) ls.length ls.length) (zs.take ls.length) := by
    intro zs hz
    refine .inr ⟨o, 0, zs, false, by simp [Nat.min_eq_left hz], at_set u3, by simp; omega, by simp [Nat.min_eq_left hz]⟩
  have kset : ∀ x : AObj, Kept (.slice (some ⟨o, 0, none⟩) ls.length ls.length) H1 (H1.set o x) := fun x => (Else.set (p := 0) (n := ls.length) (c := ls.length) H1 x).2
  refine LoopH.by (fun m s H' => ∃ (j i : Nat) (zs : List Value), m + j = ls.length ∧ s 0 = .slice (some ⟨o, 0, none⟩) ls.length ls.length ∧ s 1 = .func (.func g) #[] (List.toArray caps) ∧ s 5 = .int .i64 ((i : Nat) : Int) ∧ s 6 = .int .i64 ((j : Nat) : Int) ∧ H' = H1.set o (.cells zs 38 false) ∧ zs.length = us1.length ∧ i < j ∧ (kiB (ls.map p) j).length = i ∧ zs.take i = (kiB (ls.map p) j).map (fun k => us1.getD k undef) ∧ zs.drop j = us1.drop j) (ls.length - i0 - 1) ?_ ?_
  · have hk0 : kiB (ls.map p) (i0 + 1) = List.range i0 := by
      simp only [kiB]
      rw [kiB_none _ i0 e3, e4]
      simp
    have hs : H1 = H1.set o (.cells us1 38 false) := by
      apply List.ext_getElem?
      intro j
      rw [List.getElem?_set]
      by_cases hj : o = j
      · subst hj; rw [if_pos rfl, if_pos (at_lt u3), u3]
      · rw [if_neg hj]
    refine ⟨i0 + 1, i0, us1, by omega, rfl, rfl, by simp [S, S1, S2, S3, S4, S5, ST, eq_self, reduceIte, reduceCtorEq, Nat.reduceEqDiff, Nat.reduceAdd], by simp [S, S1, S2, S3, S4, S5, ST, eq_self, reduceIte, reduceCtorEq, Nat.reduceEqDiff, Nat.reduceAdd], hs, rfl, by omega, by rw [hk0]; simp, ?_, rfl⟩
    rw [hk0]
    apply List.ext_getElem
    · simp; omega
    · intro j h1 h2
      simp at h1 h2
      simp [show j < us1.length by omega]
  rintro m s H' ⟨j, i, zs, hm, h0, h1, h5, h6, rfl, hzl, hij, hkl, hzt, hzd⟩
  have hc' : (H1.set o (.cells zs 38 false))[o]? = some (.cells zs 38 false) := at_set u3
  have hjl : i ≤ us1.length := by have := kiB_len (ls.map p) j; omega
  have hrow := rowOf zs (by omega)
  have htl : (zs.take ls.length).length = ls.length := by simp; omega
  simp (maxSteps := 1000000) (disch := omega) only [h0, h1, h5, h6, S, S1, S2, S3, S4, S5, ST, eq_self, reduceIte, reduceCtorEq, Nat.reduceEqDiff, Nat.reduceAdd]
  refine brD.intro (fun gg => ?_) (fun gg => ?_)
  · have hj : j < ls.length := by omega
    have hy : zs.getD j undef = us1.getD j undef := by
      have := congrArg (·[0]?) hzd
      simp only [List.getElem?_drop, Nat.add_zero] at this
      rw [List.getD_eq_getElem?_getD, List.getD_eq_getElem?_getD, this]
    have hcell : cellA (H1.set o (.cells zs 38 false)) o j = some (us1.getD j undef) := by
      rw [cell_of hc', ← hy]
      simp [show j < zs.length by omega]
    obtain ⟨w1, w2⟩ := u5 j hj
    have hrw := w1.row.1
    have hap : Apart (us1.getD j undef) (.slice (some ⟨o, 0, none⟩) ls.length ls.length) := by
      rcases w2 with q | q
      · exact .inr (.inl q)
      · exact .inr (.inr q)
    have hrw2 := hrw.kept hap (kset (.cells zs 38 false))
    have hkk : Kept (.slice (some ⟨o, 0, none⟩) ls.length ls.length) H (H1.set o (.cells zs 38 false)) := fun q y hq hy => kset _ q y hq (pre_at hp1 hy)
    simp (maxSteps := 1000000) (disch := omega) only [h0, h1, h5, h6, Int.toNat_natCast, Nat.zero_add, hcell, S, S1, S2, S3, S4, S5, ST, eq_self, reduceIte, reduceCtorEq, Nat.reduceEqDiff, Nat.reduceAdd]
    refine CallH.by (hp (us1.getD j undef) (ls.getD j []) _ hrw2 (by simp [hj]) hkk) ?_
    rintro _ _ ⟨rfl, rfl⟩
    have hstep : kiB (ls.map p) (j + 1) = kiB (ls.map p) j ++ (if p (ls.getD j []) = true then [] else [j]) := by simp only [kiB]; rw [bat j hj]
    obtain ⟨pu, hpu⟩ := hrw.shape
    cases q : p (ls.getD j []) with
    | true =>
      simp (maxSteps := 1000000) (disch := omega) only [h0, h1, h5, h6, wrap64, S, S1, S2, S3, S4, S5, ST, eq_self, reduceIte, reduceCtorEq, Nat.reduceEqDiff, Nat.reduceAdd]
      rw [q, if_pos rfl, List.append_nil] at hstep
      have f1 : (kiB (ls.map p) (j + 1)).length = i := by rw [hstep]; exact hkl
      have f2 : zs.take i = (kiB (ls.map p) (j + 1)).map (fun k => us1.getD k undef) := by rw [hstep]; exact hzt
      have f3 : zs.drop (j + 1) = us1.drop (j + 1) := by rw [← List.drop_drop, hzd, List.drop_drop]
      refine ⟨m - 1, by omega, j + 1, i, zs, ?_⟩
      (repeat' apply And.intro) <;> first | rfl | trivial | assumption | omega | (simp only [Value.int.injEq, true_and]; omega) | (simp; done) | (simp; omega) | exact f1 | exact f2 | exact f3
    | false =>
      have hst := st_at (P := Tryz.prog) (t := 38) (i := i) (y := us1.getD j undef) cs38 hc' (by omega) (by rw [hpu]; rfl) (by rw [hpu]; rfl)
      rw [List.set_set] at hst
      rw [q, if_neg (by decide)] at hstep
      simp (maxSteps := 1000000) (disch := omega) only [h0, h1, h5, h6, Int.toNat_natCast, Nat.zero_add, hcell, hst, wrap64, S, S1, S2, S3, S4, S5, ST, eq_self, reduceIte, reduceCtorEq, Nat.reduceEqDiff, Nat.reduceAdd]
      have f1 : (kiB (ls.map p) (j + 1)).length = i + 1 := by rw [hstep, List.length_append, hkl]; rfl
      have f2 : (zs.set i (us1.getD j undef)).take (i + 1) = (kiB (ls.map p) (j + 1)).map (fun k => us1.getD k undef) := by rw [take_set_V zs i _ (by omega), hstep, hzt, List.map_append]; rfl
      have f3 : (zs.set i (us1.getD j undef)).drop (j + 1) = us1.drop (j + 1) := by rw [List.drop_set_of_lt (by omega), ← List.drop_drop, hzd, List.drop_drop]
      have f4 : (zs.set i (us1.getD j undef)).length = us1.length := by simp [hzl]
      refine ⟨m - 1, by omega, j + 1, i + 1, zs.set i (us1.getD j undef), ?_⟩
      (repeat' apply And.intro) <;> first | rfl | trivial | assumption | omega | (simp only [Value.int.injEq, true_and]; omega) | (simp; done) | (simp; omega) | exact f1 | exact f2 | exact f3 | exact f4
  · have hj : j = ls.length := by omega
    subst hj
    have hs1 := sl_own (P := Tryz.prog) (t := 26) (k := 0) (n := ls.length) (c := ls.length) Tryz.underlying26 cs38 hc' (lo := some (.int .i64 ((i : Nat) : Int))) (hi := none) (bound_some (by omega) _) (hi_none _) (by omega) (Nat.le_refl _)
    simp only [Int.toNat_natCast, Nat.zero_add] at hs1
    obtain ⟨zs2, hz1, hz2, hz3⟩ := clear_vals (P := Tryz.prog) (k := i) (n := ls.length - i) (c := ls.length - i) Tryz.underlying26 cs38 ze38 hc' (by omega)
    rw [List.set_set] at hz1
    simp (maxSteps := 1000000) (disch := omega) only [h0, h1, h5, h6, hs1, hz1, S, S1, S2, S3, S4, S5, ST, eq_self, reduceIte, reduceCtorEq, Nat.reduceEqDiff, Nat.reduceAdd]
    have hc2 : (H1.set o (.cells zs2 38 false))[o]? = some (.cells zs2 38 false) := at_set u3
    have hs2 := sl_own (P := Tryz.prog) (t := 26) (k := 0) (n := ls.length) (c := ls.length) Tryz.underlying26 cs38 hc2 (lo := none) (hi := some (.int .i64 ((i : Nat) : Int))) lo_none (bound_some (by omega) _) (by omega) (by simp; omega)
    simp only [Int.toNat_natCast, Nat.add_zero, Nat.sub_zero] at hs2
    simp (maxSteps := 1000000) (disch := omega) only [h0, h1, h5, h6, hs2, S, S1, S2, S3, S4, S5, ST, eq_self, reduceIte, reduceCtorEq, Nat.reduceEqDiff, Nat.reduceAdd]
    refine hQ _ _ _ ?_
    simp (maxSteps := 1000000) (disch := omega) only [S, S1, S2, S3, S4, S5, ST, eq_self, reduceIte, reduceCtorEq, Nat.reduceEqDiff, Nat.reduceAdd]
    have hfl : ls.filter (fun l => !p l) = (kiB (ls.map p) ls.length).map (fun k => ls.getD k []) := by
      rw [kiB_filter p ls ls.length (Nat.le_refl _), List.take_length]
    have hfn : (ls.filter fun l => !p l).length = i := by rw [hfl, List.length_map, hkl]
    have hget : ∀ t, t < i → zs2.getD t undef = us1.getD ((kiB (ls.map p) ls.length).getD t 0) undef ∧ (ls.filter fun l => !p l).getD t [] = ls.getD ((kiB (ls.map p) ls.length).getD t 0) [] ∧ (kiB (ls.map p) ls.length).getD t 0 < ls.length := by
      intro t ht
      have ht2 : t < (kiB (ls.map p) ls.length).length := by omega
      have hkm : (kiB (ls.map p) ls.length)[t] ∈ kiB (ls.map p) ls.length := List.getElem_mem _
      have e0 : (kiB (ls.map p) ls.length).getD t 0 = (kiB (ls.map p) ls.length)[t] := by simp [ht2]
      refine ⟨?_, ?_, by rw [e0]; exact kiB_lt _ _ _ hkm⟩
      · have h := congrArg (·[t]?) (hz2.trans hzt)
        simp only [List.getElem?_take, if_pos ht, List.getElem?_map] at h
        rw [List.getD_eq_getElem?_getD, h, e0, List.getElem?_eq_getElem ht2]; rfl
      · rw [hfl, List.getD_eq_getElem?_getD, List.getElem?_map, List.getElem?_eq_getElem ht2, e0]; rfl
    have kset2 := kset (.cells zs2 38 false)
    refine ⟨.inr ⟨o, zs2, by rw [hfn], u1, u2, hc2, by omega, fun t ht => ?_, fun a b hab ha hb => ?_⟩, fun q y hq hy => kset2 q y hq (pre_at hp1 hy), by simpa using hp1.length_le⟩
    · rw [hfn] at ht
      obtain ⟨g1, g2, g3⟩ := hget t ht
      rw [g1, g2]
      obtain ⟨w1, w2⟩ := u5 _ g3
      refine ⟨w1.move fun y hn hy => ?_, w2⟩
      rcases w2 with q | q
      · exact absurd q hn
      · rw [List.getElem?_set_ne (fun e => q e.symm)]; exact hy
    · rw [hfn] at ha hb
      obtain ⟨g1, _, g3⟩ := hget a ha
      obtain ⟨k1, _, k3⟩ := hget b hb
      rw [g1, k1]
      refine u6 _ _ ?_ g3 k3
      have hs := kiB_srt (ls.map p) ls.length
      rw [List.pairwise_iff_getElem] at hs
      have ea : (kiB (ls.map p) ls.length).getD a 0 = (kiB (ls.map p) ls.length)[a]'(by omega) := by simp [show a < (kiB (ls.map p) ls.length).length by omega]
      have eb : (kiB (ls.map p) ls.length).getD b 0 = (kiB (ls.map p) ls.length)[b]'(by omega) := by simp [show b < (kiB (ls.map p) ls.length).length by omega]
      rw [ea, eb]
      rcases Nat.lt_trichotomy a b with h | h | h
      · have := hs a b (by omega) (by omega) h; omega
      · exact absurd h hab
      · have := hs b a (by omega) (by omega) h; omega
end Go.Proofs.YtlfongfhbkefmaaGreat.Ai
namespace Go.Proofs.YtlfongfhbkefmaaGreat.Ai
open Go
def ords97 : List (Nat × List (Nat × Bool)) := [(1, [(0, false), (1, false), (2, false), (3, false), (4, true), (5, false), (6, false)])]
def cd97 : Cd := (.seq (.reg [⟨⟨some 3, Op.assign (Operand.const (Value.bool false)), none⟩, []⟩]) (.seq (.reg [⟨⟨some 4, Op.load 109 (Operand.tmp 1), none⟩, []⟩,
  ⟨⟨some 5, Op.move (Operand.tmp 0), none⟩, []⟩,
  ⟨⟨some 6, Op.indexAddr 38 (Operand.tmp 5) (Operand.const (Value.int IntKind.i64 0)), none⟩, []⟩,
  ⟨⟨some 7, Op.load 3 (Operand.tmp 6), none⟩, []⟩,
  ⟨⟨some 8, Op.call { callee := (Callee.value (Operand.func 98)), args := #[(Operand.tmp 4), (Operand.tmp 7)], argTypes := #[109, 3] }, none⟩, []⟩,
  ⟨⟨some 9, Op.unOp UnOp.not 4 (Operand.tmp 8), none⟩, []⟩,
  ⟨⟨some 3, Op.assign (Operand.tmp 9), none⟩, []⟩]) .ret))
theorem sl97 : slim Tryz.f97.ntmps ords97 (Tryz.f97.body.getD .skip) = some cd97 := by kernel_rfl
theorem in97 {args : List Value} {H : AH} {R : Value → AH → Prop} (hl : args.length = 2) (h : ∀ (Q : Exit → Sl → AH → Prop), (∀ e s H, endA Tryz.prog [ResultVar.tmp 3] R e s H → Q e s H) → wpC Tryz.prog cd97 Q (enterA args) H) : ACalls Tryz.prog 97 args H R :=
  ACalls.intro (by kernel_rfl) Tryz.func97 rfl (by kernel_rfl) sl97 hl (of_decide_eq_true (by kernel_rfl)) (by kernel_rfl) h
def ords44 : List (Nat × List (Nat × Bool)) := [(6, [(0, false), (1, false), (2, false), (3, false), (4, false), (5, false), (6, false), (7, false), (8, false), (9, false), (10, false), (11, false), (12, false), (13, false)]), (7, [(0, false), (1, false), (2, false), (3, false), (4, false), (5, false), (6, false), (7, false), (8, false), (9, false), (11, false), (12, false), (13, false), (14, false), (15, false), (16, false), (10, true), (17, true), (18, false), (19, true), (20, false), (21, true)])]
def cd44 : Cd := (.seq (.reg [⟨⟨some 3, Op.box 31 (Operand.tmp 0), none⟩, []⟩,
  ⟨⟨some 6, Op.assign (Operand.const (Value.slice none 0 0)), none⟩, []⟩]) (.seq (.reg [⟨⟨some 14, Op.fieldAddr 31 (Operand.tmp 3) 0, none⟩, []⟩,
  ⟨⟨some 15, Op.load 3 (Operand.tmp 14), none⟩, []⟩,
  ⟨⟨some 16, Op.makeSlice 26 (Operand.tmp 15) (Operand.tmp 15), none⟩, []⟩,
  ⟨⟨some 7, Op.assign (Operand.tmp 16), none⟩, []⟩]) (.seq (.reg [⟨⟨some 17, Op.move (Operand.tmp 1), none⟩, []⟩,
  ⟨⟨some 18, Op.move (Operand.tmp 2), none⟩, []⟩,
  ⟨⟨some 19, Op.call { callee := (Callee.value (Operand.func 93)), args := #[(Operand.tmp 17), (Operand.tmp 18)], argTypes := #[38, 38] }, none⟩, []⟩,
  ⟨⟨some 8, Op.assign (Operand.tmp 19), none⟩, []⟩]) (.seq (.seq (.reg [⟨⟨some 20, Op.move (Operand.tmp 8), none⟩, []⟩,
  ⟨⟨some 21, Op.call { callee := (Callee.builtin Builtin.len), args := #[(Operand.tmp 20)], argTypes := #[38] }, none⟩, []⟩,
  ⟨⟨some 22, Op.move (Operand.const (Value.int IntKind.i64 0)), none⟩, []⟩]) (.block 0 (.loop (.seq (.reg [⟨⟨some 23, Op.binOp BinOp.lss 3 (Operand.tmp 22) (Operand.tmp 21) 3, none⟩, []⟩]) (.seq (.cond (Operand.tmp 23) .skip (.exit 0)) (.seq (.block 1 (.seq (.reg [⟨⟨some 24, Op.indexAddr 38 (Operand.tmp 20) (Operand.tmp 22), none⟩, []⟩,
  ⟨⟨some 25, Op.load 3 (Operand.tmp 24), none⟩, []⟩,
  ⟨⟨some 10, Op.assign (Operand.tmp 25), none⟩, []⟩]) (.seq (.reg [⟨⟨some 26, Op.fieldAddr 31 (Operand.tmp 3) 1, none⟩, []⟩,
  ⟨⟨some 27, Op.load 22 (Operand.tmp 26), none⟩, []⟩,
  ⟨⟨some 28, Op.move (Operand.tmp 10), none⟩, []⟩,
  ⟨⟨some 29, Op.indexAddr 22 (Operand.tmp 27) (Operand.tmp 28), none⟩, []⟩,
  ⟨⟨some 30, Op.indexAddr 83 (Operand.tmp 29) (Operand.const (Value.int IntKind.i64 0)), none⟩, []⟩,
  ⟨⟨some 31, Op.load 3 (Operand.tmp 30), none⟩, []⟩,
  ⟨⟨some 32, Op.fieldAddr 31 (Operand.tmp 3) 1, none⟩, []⟩,
  ⟨⟨some 33, Op.load 22 (Operand.tmp 32), none⟩, []⟩,
  ⟨⟨some 34, Op.move (Operand.tmp 10), none⟩, []⟩,
  ⟨⟨some 35, Op.indexAddr 22 (Operand.tmp 33) (Operand.tmp 34), none⟩, []⟩,
  ⟨⟨some 36, Op.indexAddr 83 (Operand.tmp 35) (Operand.const (Value.int IntKind.i64 1)), none⟩, []⟩,
  ⟨⟨some 37, Op.load 3 (Operand.tmp 36), none⟩, []⟩,
  ⟨⟨some 11, Op.assign (Operand.tmp 31), none⟩, []⟩,
  ⟨⟨some 12, Op.assign (Operand.tmp 37), none⟩, []⟩]) (.reg [⟨⟨some 38, Op.move (Operand.tmp 7), none⟩, []⟩,
  ⟨⟨some 39, Op.move (Operand.tmp 11), none⟩, []⟩,
  ⟨⟨some 40, Op.move (Operand.tmp 7), none⟩, []⟩,
  ⟨⟨some 41, Op.move (Operand.tmp 12), none⟩, []⟩,
  ⟨⟨some 42, Op.move (Operand.tmp 7), none⟩, []⟩,
  ⟨⟨some 43, Op.move (Operand.tmp 11), none⟩, []⟩,
  ⟨⟨some 44, Op.indexAddr 26 (Operand.tmp 42) (Operand.tmp 43), none⟩, []⟩,
  ⟨⟨some 45, Op.load 38 (Operand.tmp 44), none⟩, []⟩,
  ⟨⟨some 46, Op.move (Operand.tmp 12), none⟩, []⟩,
  ⟨⟨some 47, Op.buildSlice 38 1 #[(0, (Operand.tmp 46))], none⟩, []⟩,
  ⟨⟨some 49, Op.move (Operand.tmp 7), none⟩, []⟩,
  ⟨⟨some 50, Op.move (Operand.tmp 12), none⟩, []⟩,
  ⟨⟨some 51, Op.indexAddr 26 (Operand.tmp 49) (Operand.tmp 50), none⟩, []⟩,
  ⟨⟨some 52, Op.load 38 (Operand.tmp 51), none⟩, []⟩,
  ⟨⟨some 53, Op.move (Operand.tmp 11), none⟩, []⟩,
  ⟨⟨some 54, Op.buildSlice 38 1 #[(0, (Operand.tmp 53))], none⟩, []⟩,
  ⟨⟨some 48, Op.call { callee := (Callee.builtin Builtin.append), args := #[(Operand.tmp 45), (Operand.tmp 47)], argTypes := #[38, 38] }, none⟩, [⟨some 54, Op.buildSlice 38 1 #[(0, (Operand.tmp 53))], none⟩, ⟨some 52, Op.load 38 (Operand.tmp 51), none⟩]⟩,
  ⟨⟨some 55, Op.call { callee := (Callee.builtin Builtin.append), args := #[(Operand.tmp 52), (Operand.tmp 54)], argTypes := #[38, 38] }, none⟩, []⟩,
  ⟨⟨some 56, Op.indexAddr 26 (Operand.tmp 38) (Operand.tmp 39), none⟩, []⟩,
  ⟨⟨none, Op.store 38 (Operand.tmp 56) (Operand.tmp 48), none⟩, []⟩,
  ⟨⟨some 57, Op.indexAddr 26 (Operand.tmp 40) (Operand.tmp 41), none⟩, []⟩,
  ⟨⟨none, Op.store 38 (Operand.tmp 57) (Operand.tmp 55), none⟩, []⟩])))) (.reg [⟨⟨some 58, Op.binOp BinOp.add 3 (Operand.tmp 22) (Operand.const (Value.int IntKind.i64 1)) 3, none⟩, []⟩,
  ⟨⟨some 22, Op.move (Operand.tmp 58), none⟩, []⟩]))))))) (.seq (.reg [⟨⟨some 59, Op.load 31 (Operand.tmp 3), none⟩, []⟩,
  ⟨⟨some 60, Op.move (Operand.tmp 8), none⟩, []⟩,
  ⟨⟨some 61, Op.call { callee := (Callee.value (Operand.func 94)), args := #[(Operand.tmp 59), (Operand.tmp 60)], argTypes := #[31, 38] }, none⟩, []⟩,
  ⟨⟨some 13, Op.alloc 109, none⟩, []⟩,
  ⟨⟨none, Op.store 109 (Operand.tmp 13) (Operand.tmp 61), none⟩, []⟩]) (.seq (.reg [⟨⟨some 62, Op.move (Operand.tmp 7), none⟩, []⟩,
  ⟨⟨some 63, Op.call { callee := (Callee.value (Operand.func 96)), args := #[(Operand.tmp 62), (Operand.const (Value.int IntKind.i64 (-1)))], argTypes := #[26, 3] }, none⟩, []⟩,
  ⟨⟨some 64, Op.makeFunc (Fn.func 97) #[] #[(Operand.tmp 13)], none⟩, []⟩,
  ⟨⟨some 65, Op.call { callee := (Callee.value (Operand.func 95)), args := #[(Operand.tmp 63), (Operand.tmp 64)], argTypes := #[26, 80] }, none⟩, []⟩,
  ⟨⟨some 6, Op.assign (Operand.tmp 65), none⟩, []⟩]) .ret))))))
theorem sl44 : slim Tryz.f44.ntmps ords44 (Tryz.f44.body.getD .skip) = some cd44 := by kernel_rfl
theorem in44 {args : List Value} {H : AH} {R : Value → AH → Prop} (hl : args.length = 3) (h : ∀ (Q : Exit → Sl → AH → Prop), (∀ e s H, endA Tryz.prog [ResultVar.tmp 6] R e s H → Q e s H) → wpC Tryz.prog cd44 Q (enterA args) H) : ACalls Tryz.prog 44 args H R :=
  ACalls.intro (by kernel_rfl) Tryz.func44 rfl (by kernel_rfl) sl44 hl (of_decide_eq_true (by kernel_rfl)) (by kernel_rfl) h
end Go.Proofs.YtlfongfhbkefmaaGreat.Ai
namespace Go.Proofs.YtlfongfhbkefmaaGreat.Ai
open Go Go.RowKit
set_option linter.unusedVariables false
set_option linter.unusedSimpArgs false
theorem nodupP_le : ∀ (n : Nat) (l : List Int), l.Nodup → (∀ x ∈ l, 0 ≤ x ∧ x < n) → l.length ≤ n
  | 0, l, _, h => by
    cases l with
    | nil => simp
    | cons a l => have := h a (by simp); omega
  | n + 1, l, hn, h => by
    have := nodupP_le n (l.erase (n : Int)) (hn.erase _) (fun x hx => by
      have h1 := h x (List.mem_of_mem_erase hx)
      have h2 : x ≠ n := fun e => by subst e; exact (hn.not_mem_erase) hx
      omega)
    have h3 : l.length ≤ (l.erase (n : Int)).length + 1 := by rw [List.length_erase]; split <;> omega
    omega
theorem grd_pwP {n : Int} {es : List (Int × Int)} (hg : Grd n es) : es.Pairwise pairLt := by
  rw [List.pairwise_iff_getElem]
  have at_ : ∀ i (h : i < es.length), es.getD i (0, 0) = es[i] := fun i h => by simp [h]
  have key : ∀ (k i : Nat), i + k + 1 < es.length → pairLt (es.getD i (0, 0)) (es.getD (i + k + 1) (0, 0)) := by
    intro k
    induction k with
    | zero =>
      intro i hi
      have := (hg.2 (i + 1) hi).2.2.2 (by omega)
      simpa using this
    | succ k ih =>
      intro i hi
      have h1 := ih i (by omega)
      have h2 := (hg.2 (i + (k + 1) + 1) hi).2.2.2 (by omega)
      have e : i + (k + 1) + 1 - 1 = i + k + 1 := by omega
      rw [e] at h2
      unfold pairLt at *
      omega
  intro i j hi hj hij
  have := key (j - i - 1) i (by omega)
  rw [show i + (j - i - 1) + 1 = j by omega, at_ i hi, at_ j hj] at this
  exact this
def tri8 (b : Int) : Int := [0, 0, 1, 3, 6, 10, 15, 21].getD b.toNat 0
theorem tri8_at {a b : Int} (h : 0 ≤ a ∧ a < b ∧ b < 8) : (b = 1 ∧ tri8 b = 0) ∨ (b = 2 ∧ tri8 b = 1) ∨ (b = 3 ∧ tri8 b = 3) ∨ (b = 4 ∧ tri8 b = 6) ∨ (b = 5 ∧ tri8 b = 10) ∨ (b = 6 ∧ tri8 b = 15) ∨ (b = 7 ∧ tri8 b = 21) := by
  have : b = 1 ∨ b = 2 ∨ b = 3 ∨ b = 4 ∨ b = 5 ∨ b = 6 ∨ b = 7 := by omega
  rcases this with rfl | rfl | rfl | rfl | rfl | rfl | rfl <;> simp [tri8]
theorem grd_28 {n : Int} {es : List (Int × Int)} (hg : Grd n es) : es.length ≤ 28 := by
  have hp := grd_pwP hg
  have hn := hg.1
  have h8 : ∀ e ∈ es, 0 ≤ e.1 ∧ e.1 < e.2 ∧ e.2 < 8 := fun e he => by
    have := grd_mem hg he; omega
  have := nodupP_le 28 (es.map fun e => tri8 e.2 + e.1) (by
    rw [List.Nodup, List.pairwise_map]
    refine List.Pairwise.imp_of_mem ?_ hp
    intro a b ha hb hab e
    have h1 := h8 a ha
    have h2 := h8 b hb
    have t1 := tri8_at h1
    have t2 := tri8_at h2
    unfold pairLt at hab
    omega) (fun x hx => by
    obtain ⟨e, he, rfl⟩ := List.mem_map.1 hx
    have h1 := h8 e he
    have t1 := tri8_at h1
    omega)
  simpa using this
theorem mtc_rng {es : List (Int × Int)} {a : List Int} (h : Mtc es a) : ∀ x ∈ a, 0 ≤ x ∧ x < es.length := by
  intro x hx
  obtain ⟨i, hi, rfl⟩ := List.getElem_of_mem hx
  have := (h i hi).1.1
  have e : a.getD i 0 = a[i] := by simp [hi]
  rw [e] at this; omega
theorem seen_nb {n : Int} {es : List (Int × Int)} (hg : Grd n es) {ds : List Int} (hd : ∀ x ∈ ds, 0 ≤ x ∧ x < es.length) (x : Int) : x ∈ seenL es ds ↔ nbB (dED es ds) n.toNat x = true := by
  have hmem : ∀ e ∈ dED es ds, e ∈ es := fun e he => by
    unfold dED at he
    obtain ⟨i, hi, rfl⟩ := List.mem_map.1 he
    have := hd i hi
    simp [show i.toNat < es.length by omega]
  rw [nbB_iff]
  unfold seenL
  rw [List.mem_flatMap]
  constructor
  · rintro ⟨i, hi, hx⟩
    have he : es.getD i.toNat (0, 0) ∈ dED es ds := List.mem_map.2 ⟨i, hi, rfl⟩
    have hr := grd_mem hg (hmem _ he)
    simp only [ed1, ed2, List.mem_cons, List.not_mem_nil, or_false] at hx
    rcases hx with rfl | rfl
    · exact ⟨(es.getD i.toNat (0, 0)).2, by omega, (nearB_iff _ _ _).2 (.inl he)⟩
    · exact ⟨(es.getD i.toNat (0, 0)).1, by omega, (nearB_iff _ _ _).2 (.inr he)⟩
  · rintro ⟨y, hy, hn⟩
    rw [nearB_iff] at hn
    rcases hn with h | h
    · obtain ⟨i, hi, he⟩ := List.mem_map.1 h
      exact ⟨i, hi, by simp only [ed1, ed2, he]; simp⟩
    · obtain ⟨i, hi, he⟩ := List.mem_map.1 h
      exact ⟨i, hi, by simp only [ed1, ed2, he]; simp⟩
theorem alloc_bagC (H : AH) : allocA Tryz.prog 109 H = some (.pointer (some ⟨H.length, 0, none⟩), H ++ [.cells [.int .u64 0] 109 false]) := by kernel_rfl
theorem mkf_1C (f : Fn) (p : Option Addr) : makeFuncA f [] [.pointer p] = some (.func f #[] (List.toArray [.pointer p])) := rfl
theorem pcClos_c (b o : Nat) (w : Value) (l s : List Int) (H : AH) (hb : BagI b s) (hr : Row 3 H w l) (hl : 0 < l.length) (hx : 0 ≤ l.getD 0 0 ∧ l.getD 0 0 < 8) (ho : cellA H o 0 = some (.int .u64 (b : Int))) :
    ACalls Tryz.prog 97 [w, .pointer (some ⟨o, 0, none⟩)] H fun r H' => r = .bool (!decide (l.getD 0 0 ∈ s)) ∧ H = H' := by
  refine in97 rfl ?_
  intro Q hQ
  have hc := hr.cell hl
  rw [Nat.add_zero] at hc
  obtain ⟨x, hxe⟩ : ∃ x : Nat, l.getD 0 0 = x := ⟨(l.getD 0 0).toNat, by omega⟩
  rw [hxe] at hc hQ
  simp (maxSteps := 1000000) (disch := omega) only [cd97, ho, hr.ix Tryz.underlying38 cs3, Int.toNat_zero, hc, S, S1, S2, S3, S4, S5, ST, eq_self, reduceIte, reduceCtorEq, Nat.reduceEqDiff, Nat.reduceAdd]
  refine CallH.by (has_c b x H (Nat.lt_of_lt_of_le hb.1 (by decide)) (by omega)) ?_
  rintro _ _ ⟨rfl, rfl⟩
  rw [hb.2 x (by omega)]
  simp (maxSteps := 1000000) (disch := omega) only [S, S1, S2, S3, S4, S5, ST, eq_self, reduceIte, reduceCtorEq, Nat.reduceEqDiff, Nat.reduceAdd]
  refine hQ _ _ _ ?_
  simp (maxSteps := 1000000) (disch := omega) only [S, S1, S2, S3, S4, S5, ST, eq_self, reduceIte, reduceCtorEq, Nat.reduceEqDiff, Nat.reduceAdd]
set_option maxRecDepth 20000 in
set_option maxHeartbeats 8000000 in
theorem pieces_c (n : Nat) (v w u : Value) (es : List (Int × Int)) (a b : List Int) (H : AH) (hr : RowP 83 H v es) (hlen : es.length ≤ 1099511627776) (hg : Grd (n : Int) es) (ha : Row 3 H w a) (hb : Row 3 H u b) (hla : a.length ≤ 1048576) (hlb : b.length ≤ 1048576) (hma : Mtc es a) (hmb : Mtc es b) :
    ACalls Tryz.prog 44 [.agg (List.toArray [.int .i64 (n : Int), v]), w, u] H fun r H' => InL H.length H'.length 38 3 H' r (piecesL (dE es a b) (domL (dE es a b) n n)) ∧ H <+: H' := by
  have hn8 : n ≤ 8 := by have := hg.1; omega
  have hes := grd_28 hg
  have ra := mtc_rng hma
  have rb := mtc_rng hmb
  have hrE : ∀ x y : Int, nearB (dE es a b) x y = true → (0 ≤ x ∧ x < n) ∧ (0 ≤ y ∧ y < n) := fun x y h => by have := dE_rng hg h; exact ⟨this.1, this.2.1⟩
  have hpd := pieces_dom hrE
  have hDr : ∀ x ∈ dix a b es.length, 0 ≤ x ∧ x < es.length := fun x hx => ((dix_mem a b x es.length).1 hx).1
  have hDl := dix_len a b es.length
  have hmore := dix_more a b (N := es.length) (fun x hx => (ra x hx).2) (fun x hx => (rb x hx).2) 32 (by omega)
  have hps : ∀ e ∈ dED es (dix a b es.length), 0 ≤ e.1 ∧ e.1 < e.2 ∧ e.2 < n := fun e he => grd_mem hg (dE_mem he)
  have hdE : dE es a b = dED es (dix a b es.length) := rfl
  rw [← hpd, hdE]
  clear hpd hrE hdE
  refine in44 rfl ?_
  intro Q hQ
  have mk := mk_lists (n := (n : Int)) (by omega) (by omega)
  simp only [Int.toNat_natCast] at mk
  simp (maxSteps := 1000000) (disch := omega) only [cd44, hr.boxG, S, S1, S2, S3, S4, S5, ST, eq_self, reduceIte, reduceCtorEq, Nat.reduceEqDiff, Nat.reduceAdd]
  generalize hA : H ++ [AObj.cells [.int .i64 ↑n, v] 31 false] = A
  have pA : H <+: A := by rw [← hA]; exact List.prefix_append _ _
  have cA : A[H.length]? = some (.cells [.int .i64 ↑n, v] 31 false) := by rw [← hA]; exact at_new ..
  have rA := hr.pre pA
  simp (maxSteps := 1000000) (disch := omega) only [cell_of cA, mk, S, S1, S2, S3, S4, S5, ST, eq_self, reduceIte, reduceCtorEq, Nat.reduceEqDiff, Nat.reduceAdd]
  generalize hB : A ++ [AObj.cells (List.replicate n (.slice none 0 0)) 38 false] = B
  have pB : A <+: B := by rw [← hB]; exact List.prefix_append _ _
  have cB : B[A.length]? = some (.cells (List.replicate n (.slice none 0 0)) 38 false) := by rw [← hB]; exact at_new ..
  have lA : A.length = H.length + 1 := by rw [← hA]; simp
  have lB : B.length = A.length + 1 := by rw [← hB]; simp
  refine CallH.by (difference_c w u a b B (ha.pre (pA.trans pB)) (hb.pre (pA.trans pB)) hla hlb (fun x hx => by have := ra x hx; omega) (fun x hx => by have := rb x hx; omega)) ?_
  rintro d C ⟨hd, pC⟩
  rw [hmore] at hd
  generalize hD : dix a b es.length = D at *
  have lC := pC.length_le
  have adj0 : Adj C C A.length (List.replicate n (.slice none 0 0)) (List.replicate n []) := by
    refine ⟨pre_at pC cB, by omega, by simp, fun i hi => ?_, fun i j _ hi _ => ?_, fun j y _ hy => hy, Nat.le_refl _⟩
    · rw [List.length_replicate] at hi
      exact .inl ⟨by simp [hi], by simp [hi]⟩
    · rw [List.length_replicate] at hi
      exact .inr (.inl (by simp [hi]))
  simp (maxSteps := 1000000) (disch := omega) only [hd.row.len Tryz.underlying38, S, S1, S2, S3, S4, S5, ST, eq_self, reduceIte, reduceCtorEq, Nat.reduceEqDiff, Nat.reduceAdd]
  refine LoopH.by (fun m s H' => ∃ (i : Nat) (us : List Value), m + i = D.length ∧ s 3 = .pointer (some ⟨H.length, 0, none⟩) ∧ s 7 = .slice (some ⟨A.length, 0, none⟩) n n ∧ s 8 = d ∧ s 20 = d ∧ s 21 = .int .i64 (D.length : Int) ∧ s 22 = .int .i64 ((i : Nat) : Int) ∧ Adj C H' A.length us ((dED es (D.take i)).foldl adj1 (List.replicate n []))) D.length ?_ ?_
  · refine ⟨0, List.replicate n (.slice none 0 0), by simp, rfl, rfl, rfl, rfl, rfl, rfl, ?_⟩
    simpa [dED] using adj0
  rintro m s H' ⟨i, us, hm, h3, h7, h8, h20, h21, h22, hJ⟩
  have hLl : ((dED es (D.take i)).foldl adj1 (List.replicate n [])).length = n := by rw [adjF_len]; simp
  have hLs : ∀ q, (((dED es (D.take i)).foldl adj1 (List.replicate n [])).getD q []).length ≤ 28 := fun q => by
    have h1 := adjF_sz (dED es (D.take i)) (List.replicate n []) q
    have h0 : (List.replicate n ([] : List Int)).getD q [] = [] := by
      by_cases h : q < n
      · simp [h]
      · simp [h]
    rw [h0, List.length_nil, Nat.zero_add] at h1
    have h2 : (dED es (D.take i)).length ≤ D.length := by unfold dED; rw [List.length_map, List.length_take]; omega
    omega
  have pAH : A <+: H' := prefix_of fun j y hy => hJ.keep j y (by have := at_lt hy; omega) (pre_at (pB.trans pC) hy)
  have rH := rA.pre pAH
  have cH := pre_at pAH cA
  have dH : Own 3 B H' d D := own_keep hd fun y hn hy => hJ.keep _ y (by
    rcases own_nil hd with q | q
    · exact absurd q hn
    · omega) hy
  have hle := hJ.le
  simp (maxSteps := 1000000) (disch := omega) only [h3, h7, h8, h20, h21, h22, S, S1, S2, S3, S4, S5, ST, eq_self, reduceIte, reduceCtorEq, Nat.reduceEqDiff, Nat.reduceAdd]
  refine brD.intro (fun g => ?_) (fun g => ?_)
  · have hi : i < D.length := by omega
    have hstep : (dED es (D.take (i + 1))).foldl adj1 (List.replicate n []) = adj1 ((dED es (D.take i)).foldl adj1 (List.replicate n [])) (es.getD (D.getD i 0).toNat (0, 0)) := by
      have e : D.take (i + 1) = D.take i ++ [D.getD i 0] := by
        rw [List.take_add_one, List.getElem?_eq_getElem hi]
        simp [hi]
      rw [e]
      unfold dED
      rw [List.map_append, List.foldl_append]; rfl
    generalize hL : (dED es (D.take i)).foldl adj1 (List.replicate n []) = L at *
    have hdm : D.getD i 0 ∈ D := by simp [hi]
    have hdr := hDr _ hdm
    have hei : (D.getD i 0).toNat < es.length := by omega
    obtain ⟨x, y, ex, ey, hxy, hyn, hy8⟩ := grd_ed hg hei
    have l0 := rH.cell0 hei
    have l1 := rH.cell1 hei
    rw [ex] at l0
    rw [ey] at l1
    have hul := hJ.len
    have hat := hJ.at_
    have cux : us[x]? = some (us.getD x undef) := by simp [show x < us.length by omega]
    have cuy : us[y]? = some (us.getD y undef) := by simp [show y < us.length by omega]
    have ox := hJ.el x (by omega)
    have oy := hJ.el y (by omega)
    have apxy := hJ.ap x y (by omega) (by omega) (by omega)
    have hax : us.getD x undef = .slice none 0 0 ∨ A.length ≠ rowO (us.getD x undef) := (hJ.ne (show x < L.length by omega)).imp id fun e => fun q => e q.symm
    have hay : us.getD y undef = .slice none 0 0 ∨ A.length ≠ rowO (us.getD y undef) := (hJ.ne (show y < L.length by omega)).imp id fun e => fun q => e q.symm
    have hcd := dH.row.cell hi
    -- the first
    have at1 : ((H' ++ [AObj.cells [.int .i64 (y : Int)] 3 false]) ++ [AObj.cells [.int .i64 (x : Int)] 3 false])[H'.length]? = some (.cells [.int .i64 (y : Int)] 3 false) := at_app (at_new H' _) _
    have hx1 : Row 3 ((H' ++ [AObj.cells [.int .i64 (y : Int)] 3 false]) ++ [AObj.cells [.int .i64 (x : Int)] 3 false]) (.slice (some ⟨H'.length, 0, none⟩) 1 1) [(y : Int)] := .inr ⟨H'.length, 0, [.int .i64 (y : Int)], false, rfl, at1, by simp, rfl⟩
    have pG2 : H' <+: (H' ++ [AObj.cells [.int .i64 (y : Int)] 3 false]) ++ [AObj.cells [.int .i64 (x : Int)] 3 false] := by rw [List.append_assoc]; exact List.prefix_append _ _
    have hat2 := pre_at pG2 hat
    have at2 : ((H' ++ [AObj.cells [.int .i64 (y : Int)] 3 false]) ++ [AObj.cells [.int .i64 (x : Int)] 3 false])[(H' ++ [AObj.cells [.int .i64 (y : Int)] 3 false]).length]? = some (.cells [.int .i64 (x : Int)] 3 false) := at_new ..
    have lG1 : (H' ++ [AObj.cells [.int .i64 (y : Int)] 3 false]).length = H'.length + 1 := by simp
    generalize hG2 : (H' ++ [AObj.cells [.int .i64 (y : Int)] 3 false]) ++ [AObj.cells [.int .i64 (x : Int)] 3 false] = G2 at *
    have lG2 : G2.length = H'.length + 2 := by rw [← hG2]; simp
    have ox2 : Own 3 (G2.take C.length) G2 (us.getD x undef) (L.getD x []) := own_base (own_keep ox fun z _ hz => pre_at pG2 hz) (by simp; omega)
    obtain ⟨v1, K1, j1, j2, j3, j4, j5⟩ := ox2.app (P := Tryz.prog) (t := 38) Tryz.underlying38 cs3 (by rw [by3]; decide) zk3 hx1 (List.take_prefix _ _) (by have := hLs x; simp only [List.length_cons, List.length_nil]; omega)
    have j5' : G2.length ≤ rowO v1 := by
      rcases j5 with q | ⟨q, _⟩
      · exact q
      · rw [q] at j2
        have := own_lens j2 ox2
        simp at this
    have jn := own_nil j2
    have hv1n : v1 ≠ .slice none 0 0 := by
      intro e
      rw [e] at j5'
      have : rowO (Value.slice none 0 0) = 0 := rfl
      omega
    have j2a := j2.row
    rcases jn with jn | jn
    · exact absurd jn hv1n
    have hatK := j4 _ _ hax hat2
    -- the second
    have oy2 : Own 3 (K1.take C.length) K1 (us.getD y undef) (L.getD y []) := own_base (own_keep oy fun z hn hz => j4 _ _ (by
      rcases apxy with q | q | q
      · exact absurd q hn
      · exact .inl q
      · exact .inr fun e => q e.symm) (pre_at pG2 hz)) (by simp; omega)
    have at3 := j4 _ _ (by
      rcases own_nil ox with q | q
      · exact .inl q
      · right; omega) at2
    have hkeq : K1[(H' ++ [AObj.cells [.int .i64 (y : Int)] 3 false]).length]? = G2[(H' ++ [AObj.cells [.int .i64 (y : Int)] 3 false]).length]? := by rw [at3, at2]
    have hx2 : Row 3 K1 (.slice (some ⟨(H' ++ [AObj.cells [.int .i64 (y : Int)] 3 false]).length, 0, none⟩) 1 1) [(x : Int)] := .inr ⟨_, 0, [.int .i64 (x : Int)], false, rfl, at3, by simp, rfl⟩
    obtain ⟨v2, K2, k1, k2, k3, k4, k5o⟩ := oy2.app (P := Tryz.prog) (t := 38) Tryz.underlying38 cs3 (by rw [by3]; decide) zk3 hx2 (List.take_prefix _ _) (by have := hLs y; simp only [List.length_cons, List.length_nil]; omega)
    have k5 : K1.length ≤ rowO v2 := by
      rcases k5o with q | ⟨q, _⟩
      · exact q
      · rw [q] at k2
        have := own_lens k2 oy2
        simp at this
    have kn := own_nil k2
    have hatK2 := k4 _ _ hay hatK
    have hv2n : v2 ≠ .slice none 0 0 := by
      intro e
      rw [e] at k5
      have : rowO (Value.slice none 0 0) = 0 := rfl
      omega
    rcases kn with kn | kn
    · exact absurd kn hv2n
    have hyr : us.getD y undef = .slice none 0 0 ∨ rowO v1 ≠ rowO (us.getD y undef) := by
      rcases own_nil oy with q | q
      · exact .inl q
      · right; omega
    have hv1K : Own 3 C K2 v1 (L.getD x [] ++ [(y : Int)]) := own_base (own_keep j2 fun z _ hz => k4 _ _ hyr hz) (by simp; omega)
    have hv2K : Own 3 C K2 v2 (L.getD y [] ++ [(x : Int)]) := own_base k2 (by simp; omega)
    obtain ⟨p1, hp1⟩ := hv1K.row.shape
    obtain ⟨p2, hp2⟩ := hv2K.row.shape
    have st1 := st_at (P := Tryz.prog) (t := 38) (i := x) (y := v1) cs38 hatK2 (by omega) (by rw [hp1]; rfl) (by rw [hp1]; rfl)
    have st2 := st_at (P := Tryz.prog) (t := 38) (i := y) (y := v2) cs38 (at_set (d := .cells (us.set x v1) 38 false) hatK2) (by simp; omega) (by rw [hp2]; rfl) (by rw [hp2]; rfl)
    rw [List.set_set] at st2
    have hJ2 := hJ.upd (x := x) (y := y) (by omega) (by omega) (by omega) hv1K hv2K (by omega) (by omega) (by omega) (by omega) (fun j z hjx hjy hz => k4 _ _ hjy (j4 _ _ hjx (pre_at pG2 hz)))
    have eA : (L.set x (L.getD x [] ++ [(y : Int)])).set y (L.getD y [] ++ [(x : Int)]) = adj1 L (es.getD (D.getD i 0).toNat (0, 0)) := by
      unfold adj1
      rw [ex, ey, Int.toNat_natCast, Int.toNat_natCast]
    rw [eA, ← hstep] at hJ2
    simp (maxSteps := 1000000) (disch := omega) only [h3, h7, h8, h20, h21, h22, cell_of cH, dH.row.ix Tryz.underlying38 cs3, hcd, rH.ix Tryz.underlying22 cs83, Int.toNat_natCast, Nat.zero_add, l0, l1, cell_of hat, cell_of (at_app hat _), cell_of hat2, cell_of hatK, cux, cuy, hG2, j1, hkeq, k1, st1, st2, wrap64, S, S1, S2, S3, S4, S5, ST, eq_self, reduceIte, reduceCtorEq, Nat.reduceEqDiff, Nat.reduceAdd]
    refine ⟨m - 1, by omega, i + 1, (us.set x v1).set y v2, ?_⟩
    (repeat' first | exact hJ2 | apply And.intro) <;> first | (simp only [Value.int.injEq, true_and]; omega) | omega | rfl | assumption | (simp; done) | (simp; omega)
  · have hi : i = D.length := by omega
    subst hi
    rw [List.take_length] at hJ hLl hLs
    have eL : (dED es D).foldl adj1 (List.replicate n []) = adjL n (dED es D) := rfl
    rw [eL] at hJ hLl hLs
    simp (maxSteps := 1000000) (disch := omega) only [h3, h7, h8, ld_agg ag31 cs31 cH, S, S1, S2, S3, S4, S5, ST, eq_self, reduceIte, reduceCtorEq, Nat.reduceEqDiff, Nat.reduceAdd]
    refine CallH.by (ends_c (n : Int) v d es D H' rH hlen hg dH.row (by omega) hDr) ?_
    rintro _ E ⟨bg, rfl, hbg, pE⟩
    have st0 := st_at (P := Tryz.prog) (t := 109) (i := 0) (y := .int .u64 (bg : Int)) cs109 (at_new E (.cells [.int .u64 0] 109 false)) (by show 0 < 1; decide) rfl rfl
    rw [set_new, List.set_cons_zero] at st0
    simp (maxSteps := 1000000) (disch := omega) only [h7, alloc_bagC, st0, S, S1, S2, S3, S4, S5, ST, eq_self, reduceIte, reduceCtorEq, Nat.reduceEqDiff, Nat.reduceAdd]
    generalize hF : E ++ [AObj.cells [.int .u64 (bg : Int)] 109 false] = F
    have pF : E <+: F := by rw [← hF]; exact List.prefix_append _ _
    have cF : F[E.length]? = some (.cells [.int .u64 (bg : Int)] 109 false) := by rw [← hF]; exact at_new ..
    have lF : F.length = E.length + 1 := by rw [← hF]; simp
    have lE := pE.length_le
    have hrowL := ((hJ.inU (lo := H.length) (by omega)).row).pre (pE.trans pF)
    rw [hLl] at hrowL
    have hadj := adjL_adj hps
    have hLok : LOk (adjL n (dED es D)).length (adjL n (dED es D)) := by
      intro q z hz
      by_cases hq : q < (adjL n (dED es D)).length
      · exact ((hadj q hq z).1 hz).1
      · rw [List.getD_eq_getElem?_getD, List.getElem?_eq_none (by omega)] at hz
        simp at hz
    refine CallH.by (parts_c (.slice (some ⟨A.length, 0, none⟩) n n) (adjL n (dED es D)) (-1) F hrowL hLok (by omega) (by omega) (fun q => by have := hLs q; omega)) ?_
    rintro r P ⟨hL2, pP⟩
    rw [parts_pieces hadj, adjL_len, setW_all] at hL2
    have hpl := pieces_le (dED es D) (alls n) (alls_sm hn8)
    have hal := alls_len n
    have lP := pP.length_le
    have hrO : r = .slice none 0 0 ∨ F.length ≤ rowO r := by
      rcases hL2 with q | ⟨o, us', q, h1, _⟩
      · exact .inl q.1
      · right; rw [q]; exact h1
    simp (maxSteps := 1000000) (disch := omega) only [mkf_1C, S, S1, S2, S3, S4, S5, ST, eq_self, reduceIte, reduceCtorEq, Nat.reduceEqDiff, Nat.reduceAdd]
    refine CallH.by (DelL_c r (piecesL (dED es D) (alls n)) (fun p => !decide (p.getD 0 0 ∈ seenL es D)) 97 [.pointer (some ⟨E.length, 0, none⟩)] P hL2 (by omega) (fun w' l H1 hrow hl hk => ?_)) ?_
    · have hf := piece_first hl
      have hf2 := (alls_mem n _).1 (piece_sub hl hf)
      have hlp : 0 < l.length := List.length_pos_of_mem hf
      exact pcClos_c bg E.length w' l (seenL es D) H1 hbg hrow hlp (by omega) (cell_of (hk _ _ (hrO.imp id fun q => by omega) (pre_at pP cF)) 0)
    rintro r2 Z ⟨hL3, hkZ, lZ⟩
    simp (maxSteps := 1000000) (disch := omega) only [S, S1, S2, S3, S4, S5, ST, eq_self, reduceIte, reduceCtorEq, Nat.reduceEqDiff, Nat.reduceAdd]
    refine hQ _ _ _ ?_
    simp (maxSteps := 1000000) (disch := omega) only [hL3.tup9, S, S1, S2, S3, S4, S5, ST, eq_self, reduceIte, reduceCtorEq, Nat.reduceEqDiff, Nat.reduceAdd]
    have ef : (piecesL (dED es D) (alls n)).filter (fun l => !(fun p : List Int => !decide (p.getD 0 0 ∈ seenL es D)) l) = (piecesL (dED es D) (alls n)).filter (fun p => nbB (dED es D) n (p.getD 0 0)) := by
      refine List.filter_congr fun p _ => ?_
      have := seen_nb hg hDr (p.getD 0 0)
      rw [Int.toNat_natCast] at this
      simp only [Bool.not_not]
      by_cases h : p.getD 0 0 ∈ seenL es D
      · rw [decide_eq_true h, this.1 h]
      · rw [decide_eq_false h]
        cases hh : nbB (dED es D) n (p.getD 0 0) with
        | true => exact absurd (this.2 hh) h
        | false => rfl
    rw [ef] at hL3
    refine ⟨hL3.wide (by have := pA.length_le; omega) lZ, prefix_of fun j y hy => hkZ j y ?_ (pre_at (pA.trans (pAH.trans (pE.trans (pF.trans pP)))) hy)⟩
    rcases hrO with q | q
    · exact .inl q
    · right; have := at_lt hy; have := pA.length_le; omega
end Go.Proofs.YtlfongfhbkefmaaGreat.Ai
namespace Go.Proofs.YtlfongfhbkefmaaGreat.Ai
open Go
def ords125 : List (Nat × List (Nat × Bool)) := [(6, [(0, false), (1, false), (2, false), (3, false), (4, false), (5, false), (6, false), (7, false), (8, true), (9, false), (10, true)])]
def cd125 : Cd := (.seq (.reg [⟨⟨some 3, Op.box 31 (Operand.tmp 0), none⟩, []⟩,
  ⟨⟨some 6, Op.alloc 31, none⟩, []⟩]) (.seq (.reg [⟨⟨some 9, Op.fieldAddr 31 (Operand.tmp 3) 0, none⟩, []⟩,
  ⟨⟨some 10, Op.load 3 (Operand.tmp 9), none⟩, []⟩,
  ⟨⟨some 11, Op.buildSlice 22 0 #[], none⟩, []⟩,
  ⟨⟨some 12, Op.build 31 #[(0, (Operand.tmp 10)), (1, (Operand.tmp 11))], none⟩, []⟩,
  ⟨⟨some 7, Op.alloc 31, none⟩, []⟩,
  ⟨⟨none, Op.store 31 (Operand.tmp 7) (Operand.tmp 12), none⟩, []⟩]) (.seq (.seq (.reg [⟨⟨some 8, Op.assign (Operand.const (Value.int IntKind.i64 0)), none⟩, []⟩]) (.block 0 (.loop (.seq (.seq (.reg [⟨⟨some 13, Op.move (Operand.tmp 8), none⟩, []⟩,
  ⟨⟨some 14, Op.fieldAddr 31 (Operand.tmp 3) 1, none⟩, []⟩,
  ⟨⟨some 15, Op.load 22 (Operand.tmp 14), none⟩, []⟩,
  ⟨⟨some 16, Op.call { callee := (Callee.builtin Builtin.len), args := #[(Operand.tmp 15)], argTypes := #[22] }, none⟩, []⟩,
  ⟨⟨some 17, Op.binOp BinOp.lss 3 (Operand.tmp 13) (Operand.tmp 16) 3, none⟩, []⟩]) (.cond (Operand.tmp 17) .skip (.exit 0))) (.seq (.block 1 (.seq (.reg [⟨⟨some 20, Op.move (Operand.tmp 1), none⟩, []⟩,
  ⟨⟨some 21, Op.move (Operand.tmp 8), none⟩, []⟩,
  ⟨⟨some 22, Op.call { callee := (Callee.value (Operand.func 153)), args := #[(Operand.tmp 20), (Operand.tmp 21)], argTypes := #[38, 3] }, none⟩, []⟩,
  ⟨⟨some 23, Op.move (Operand.tmp 2), none⟩, []⟩,
  ⟨⟨some 24, Op.move (Operand.tmp 8), none⟩, []⟩,
  ⟨⟨some 25, Op.call { callee := (Callee.value (Operand.func 153)), args := #[(Operand.tmp 23), (Operand.tmp 24)], argTypes := #[38, 3] }, none⟩, []⟩,
  ⟨⟨some 26, Op.binOp BinOp.neq 4 (Operand.tmp 22) (Operand.tmp 25) 4, none⟩, []⟩]) (.cond (Operand.tmp 26) (.reg [⟨⟨some 27, Op.fieldAddr 31 (Operand.tmp 7) 1, none⟩, []⟩,
  ⟨⟨some 28, Op.load 22 (Operand.tmp 27), none⟩, []⟩,
  ⟨⟨some 29, Op.fieldAddr 31 (Operand.tmp 3) 1, none⟩, []⟩,
  ⟨⟨some 30, Op.load 22 (Operand.tmp 29), none⟩, []⟩,
  ⟨⟨some 31, Op.move (Operand.tmp 8), none⟩, []⟩,
  ⟨⟨some 32, Op.indexAddr 22 (Operand.tmp 30) (Operand.tmp 31), none⟩, []⟩,
  ⟨⟨some 33, Op.load 83 (Operand.tmp 32), none⟩, []⟩,
  ⟨⟨some 34, Op.buildSlice 22 1 #[(0, (Operand.tmp 33))], none⟩, []⟩,
  ⟨⟨some 35, Op.call { callee := (Callee.builtin Builtin.append), args := #[(Operand.tmp 28), (Operand.tmp 34)], argTypes := #[22, 22] }, none⟩, []⟩,
  ⟨⟨some 36, Op.fieldAddr 31 (Operand.tmp 7) 1, none⟩, []⟩,
  ⟨⟨none, Op.store 22 (Operand.tmp 36) (Operand.tmp 35), none⟩, []⟩]) .skip))) (.reg [⟨⟨some 18, Op.move (Operand.tmp 8), none⟩, []⟩,
  ⟨⟨some 19, Op.binOp BinOp.add 3 (Operand.tmp 18) (Operand.const (Value.int IntKind.i64 1)) 3, none⟩, []⟩,
  ⟨⟨some 8, Op.assign (Operand.tmp 19), none⟩, []⟩])))))) (.seq (.reg [⟨⟨some 37, Op.load 31 (Operand.tmp 7), none⟩, []⟩,
  ⟨⟨none, Op.store 31 (Operand.tmp 6) (Operand.tmp 37), none⟩, []⟩]) .ret))))
theorem sl125 : slim Tryz.f125.ntmps ords125 (Tryz.f125.body.getD .skip) = some cd125 := by kernel_rfl
set_option maxRecDepth 20000 in
theorem in125 {args : List Value} {H : AH} {R : Value → AH → Prop} (hl : args.length = 3) (h : ∀ (Q : Exit → Sl → AH → Prop), (∀ e s H, endA Tryz.prog [ResultVar.cell 6 31] R e s H → Q e s H) → wpC Tryz.prog cd125 Q (enterA args) H) : ACalls Tryz.prog 125 args H R :=
  ACalls.intro (by kernel_rfl) Tryz.func125 rfl (by kernel_rfl) sl125 hl (of_decide_eq_true (by kernel_rfl)) (by kernel_rfl) h
def ords86 : List (Nat × List (Nat × Bool)) := []
def cd86 : Cd := (.seq (.reg [⟨⟨some 3, Op.box 31 (Operand.tmp 0), none⟩, []⟩,
  ⟨⟨some 6, Op.assign (Operand.const (Value.slice none 0 0)), none⟩, []⟩]) (.seq (.reg [⟨⟨some 11, Op.buildSlice 26 0 #[], none⟩, []⟩,
  ⟨⟨some 12, Op.load 31 (Operand.tmp 3), none⟩, []⟩,
  ⟨⟨some 13, Op.move (Operand.tmp 1), none⟩, []⟩,
  ⟨⟨some 14, Op.move (Operand.tmp 2), none⟩, []⟩,
  ⟨⟨some 15, Op.call { callee := (Callee.value (Operand.func 125)), args := #[(Operand.tmp 12), (Operand.tmp 13), (Operand.tmp 14)], argTypes := #[31, 38, 38] }, none⟩, []⟩,
  ⟨⟨some 16, Op.buildSlice 38 0 #[], none⟩, []⟩,
  ⟨⟨some 8, Op.alloc 31, none⟩, []⟩,
  ⟨⟨some 7, Op.assign (Operand.tmp 11), none⟩, []⟩,
  ⟨⟨none, Op.store 31 (Operand.tmp 8) (Operand.tmp 15), none⟩, []⟩,
  ⟨⟨some 9, Op.assign (Operand.tmp 16), none⟩, []⟩]) (.seq (.seq (.reg [⟨⟨some 10, Op.assign (Operand.const (Value.int IntKind.i64 0)), none⟩, []⟩]) (.block 0 (.loop (.seq (.seq (.reg [⟨⟨some 17, Op.move (Operand.tmp 10), none⟩, []⟩,
  ⟨⟨some 18, Op.fieldAddr 31 (Operand.tmp 3) 0, none⟩, []⟩,
  ⟨⟨some 19, Op.load 3 (Operand.tmp 18), none⟩, []⟩,
  ⟨⟨some 20, Op.binOp BinOp.lss 3 (Operand.tmp 17) (Operand.tmp 19) 3, none⟩, []⟩]) (.cond (Operand.tmp 20) .skip (.exit 0))) (.seq (.block 1 (.seq (.reg [⟨⟨some 23, Op.load 31 (Operand.tmp 8), none⟩, []⟩,
  ⟨⟨some 24, Op.move (Operand.tmp 10), none⟩, []⟩,
  ⟨⟨some 25, Op.call { callee := (Callee.value (Operand.func 74)), args := #[(Operand.tmp 23), (Operand.tmp 24)], argTypes := #[31, 3] }, none⟩, []⟩,
  ⟨⟨some 26, Op.call { callee := (Callee.builtin Builtin.len), args := #[(Operand.tmp 25)], argTypes := #[38] }, none⟩, []⟩,
  ⟨⟨some 27, Op.binOp BinOp.gtr 3 (Operand.tmp 26) (Operand.const (Value.int IntKind.i64 0)) 3, none⟩, []⟩]) (.cond (Operand.tmp 27) (.reg [⟨⟨some 28, Op.move (Operand.tmp 9), none⟩, []⟩,
  ⟨⟨some 29, Op.move (Operand.tmp 10), none⟩, []⟩,
  ⟨⟨some 30, Op.buildSlice 38 1 #[(0, (Operand.tmp 29))], none⟩, []⟩,
  ⟨⟨some 31, Op.call { callee := (Callee.builtin Builtin.append), args := #[(Operand.tmp 28), (Operand.tmp 30)], argTypes := #[38, 38] }, none⟩, []⟩,
  ⟨⟨some 9, Op.assign (Operand.tmp 31), none⟩, []⟩]) .skip))) (.reg [⟨⟨some 21, Op.move (Operand.tmp 10), none⟩, []⟩,
  ⟨⟨some 22, Op.binOp BinOp.add 3 (Operand.tmp 21) (Operand.const (Value.int IntKind.i64 1)) 3, none⟩, []⟩,
  ⟨⟨some 10, Op.assign (Operand.tmp 22), none⟩, []⟩])))))) (.seq (.reg [⟨⟨some 32, Op.move (Operand.tmp 7), none⟩, []⟩,
  ⟨⟨some 33, Op.load 31 (Operand.tmp 8), none⟩, []⟩,
  ⟨⟨some 34, Op.move (Operand.tmp 9), none⟩, []⟩,
  ⟨⟨some 35, Op.call { callee := (Callee.value (Operand.func 126)), args := #[(Operand.tmp 33), (Operand.tmp 34)], argTypes := #[31, 38] }, none⟩, []⟩,
  ⟨⟨some 36, Op.call { callee := (Callee.builtin Builtin.append), args := #[(Operand.tmp 32), (Operand.tmp 35)], argTypes := #[26, 26] }, none⟩, []⟩,
  ⟨⟨some 7, Op.assign (Operand.tmp 36), none⟩, []⟩]) (.seq (.reg [⟨⟨some 37, Op.move (Operand.tmp 7), none⟩, []⟩,
  ⟨⟨some 6, Op.assign (Operand.tmp 37), none⟩, []⟩]) .ret)))))
theorem sl86 : slim Tryz.f86.ntmps ords86 (Tryz.f86.body.getD .skip) = some cd86 := by kernel_rfl
theorem in86 {args : List Value} {H : AH} {R : Value → AH → Prop} (hl : args.length = 3) (h : ∀ (Q : Exit → Sl → AH → Prop), (∀ e s H, endA Tryz.prog [ResultVar.tmp 6] R e s H → Q e s H) → wpC Tryz.prog cd86 Q (enterA args) H) : ACalls Tryz.prog 86 args H R :=
  ACalls.intro (by kernel_rfl) Tryz.func86 rfl (by kernel_rfl) sl86 hl (of_decide_eq_true (by kernel_rfl)) (by kernel_rfl) h
end Go.Proofs.YtlfongfhbkefmaaGreat.Ai
namespace Go.Proofs.YtlfongfhbkefmaaGreat.Ai
open Go Go.RowKit
set_option linter.unusedVariables false
set_option linter.unusedSimpArgs false
theorem bld_G (n : Int) (p : Option Addr) (m c : Nat) : buildA Tryz.prog 31 [(0, .int .i64 n), (1, .slice p m c)] = some (.agg (List.toArray [.int .i64 n, .slice p m c])) := by kernel_rfl
set_option maxRecDepth 20000 in
set_option maxHeartbeats 4000000 in
theorem l8Differ_c (n : Int) (v w u : Value) (es : List (Int × Int)) (a b : List Int) (H : AH) (hr : RowP 83 H v es) (hlen : es.length ≤ 1099511627) (ha : Row 3 H w a) (hb : Row 3 H u b) (hla : a.length ≤ 1048576) (hlb : b.length ≤ 1048576) :
    ACalls Tryz.prog 125 [.agg (List.toArray [.int .i64 n, v]), w, u] H fun r H' => ∃ st, r = .agg (List.toArray [.int .i64 n, st]) ∧ RowP 83 H' st (dE es a b) ∧ H <+: H' := by
  refine in125 rfl ?_
  intro Q hQ
  simp (maxSteps := 1000000) (disch := omega) only [cd125, hr.boxG, S, S1, S2, S3, S4, S5, ST, eq_self, reduceIte, reduceCtorEq, Nat.reduceEqDiff, Nat.reduceAdd]
  generalize hA0 : H ++ [AObj.cells [.int .i64 n, v] 31 false] = A0
  have pA0 : H <+: A0 := by rw [← hA0]; exact List.prefix_append _ _
  have cA0 : A0[H.length]? = some (.cells [.int .i64 n, v] 31 false) := by rw [← hA0]; exact at_new ..
  have rA0 := hr.pre pA0
  simp (maxSteps := 1000000) (disch := omega) only [alloc_G, S, S1, S2, S3, S4, S5, ST, eq_self, reduceIte, reduceCtorEq, Nat.reduceEqDiff, Nat.reduceAdd]
  generalize hA : A0 ++ [AObj.cells [.int .i64 0, .slice none 0 0] 31 false] = A
  have pA1 : A0 <+: A := by rw [← hA]; exact List.prefix_append _ _
  have cT : A[A0.length]? = some (.cells [.int .i64 0, .slice none 0 0] 31 false) := by rw [← hA]; exact at_new ..
  have lA0 : A0.length = H.length + 1 := by rw [← hA0]; simp
  have lA : A.length = A0.length + 1 := by rw [← hA]; simp
  have cA := pre_at pA1 cA0
  have pA := pA0.trans pA1
  simp (maxSteps := 1000000) (disch := omega) only [cell_of cA, S, S1, S2, S3, S4, S5, ST, eq_self, reduceIte, reduceCtorEq, Nat.reduceEqDiff, Nat.reduceAdd]
  generalize hE : A ++ [AObj.cells [] 83 false] = E
  have pE : A <+: E := by rw [← hE]; exact List.prefix_append _ _
  have lE : E.length = A.length + 1 := by rw [← hE]; simp
  have m0 : MineP 83 A E (.slice (some ⟨A.length, 0, none⟩) 0 0) [] := by rw [← hE]; exact MineP.nil0 (P := Tryz.prog) A A (Nat.le_refl _)
  have st0 := st_G m0.row (at_new E (.cells [.int .i64 0, .slice none 0 0] 31 false)) rfl n
  rw [set_new] at st0
  simp (maxSteps := 1000000) (disch := omega) only [bld_G, alloc_G, st0, S, S1, S2, S3, S4, S5, ST, eq_self, reduceIte, reduceCtorEq, Nat.reduceEqDiff, Nat.reduceAdd]
  generalize hG : E ++ [AObj.cells [.int .i64 n, .slice (some ⟨A.length, 0, none⟩) 0 0] 31 false] = G
  have pG : E <+: G := by rw [← hG]; exact List.prefix_append _ _
  have cG : G[E.length]? = some (.cells [.int .i64 n, .slice (some ⟨A.length, 0, none⟩) 0 0] 31 false) := by rw [← hG]; exact at_new ..
  have lG : G.length = E.length + 1 := by rw [← hG]; simp
  have rA := rA0.pre pA1
  refine LoopH.by (fun m s H' => ∃ (i : Nat) (st : Value), m + i = es.length ∧ s 1 = w ∧ s 2 = u ∧ s 3 = .pointer (some ⟨H.length, 0, none⟩) ∧ s 6 = .pointer (some ⟨A0.length, 0, none⟩) ∧ s 7 = .pointer (some ⟨E.length, 0, none⟩) ∧ s 8 = .int .i64 ((i : Nat) : Int) ∧ H'[E.length]? = some (.cells [.int .i64 n, st] 31 false) ∧ (rowO st = A.length ∨ G.length ≤ rowO st) ∧ st ≠ .slice none 0 0 ∧ MineP 83 A H' st (dED es (dix a b i)) ∧ A <+: H') es.length ?_ ?_
  · exact ⟨0, .slice (some ⟨A.length, 0, none⟩) 0 0, by simp, rfl, rfl, rfl, rfl, rfl, rfl, cG, .inl rfl, (by intro e; cases e), m0.pre pG, pE.trans pG⟩
  rintro m s H' ⟨i, st, hm, h1, h2, h3, h6, h7, h8, hc5, hst, hsn, hmn, hpp⟩
  have cH := pre_at hpp cA
  have rH := rA.pre hpp
  have aH := ha.pre (pA.trans hpp)
  have bH := hb.pre (pA.trans hpp)
  simp (maxSteps := 1000000) (disch := omega) only [h1, h2, h3, h6, h7, h8, cell_of cH, rH.len Tryz.underlying22, S, S1, S2, S3, S4, S5, ST, eq_self, reduceIte, reduceCtorEq, Nat.reduceEqDiff, Nat.reduceAdd]
  refine brD.intro (fun q => ?_) (fun q => ?_)
  · have hi : i < es.length := by omega
    simp (maxSteps := 1000000) (disch := omega) only [h1, h2, h3, h6, h7, h8, S, S1, S2, S3, S4, S5, ST, eq_self, reduceIte, reduceCtorEq, Nat.reduceEqDiff, Nat.reduceAdd]
    refine CallH.by (l1Has_c w a (i : Int) H' aH (by omega)) ?_
    rintro _ _ ⟨rfl, rfl⟩
    simp (maxSteps := 1000000) (disch := omega) only [h1, h2, h3, h6, h7, h8, S, S1, S2, S3, S4, S5, ST, eq_self, reduceIte, reduceCtorEq, Nat.reduceEqDiff, Nat.reduceAdd]
    refine CallH.by (l1Has_c u b (i : Int) H' bH (by omega)) ?_
    rintro _ _ ⟨rfl, rfl⟩
    have hdl := dix_len a b i
    have hdel : (dED es (dix a b i)).length ≤ i := by unfold dED; rw [List.length_map]; exact hdl
    have hne : ∀ o, o = E.length → o ≠ rowO st := fun o ho => by omega
    have l5 := at_lt hc5
    have hld := rH.ld ag83 cs83 hi
    have hdix : ∀ t : Bool, (decide ((i : Int) ∈ a) != decide ((i : Int) ∈ b)) = t → dED es (dix a b (i + 1)) = dED es (dix a b i) ++ if t = true then [es.getD i (0, 0)] else [] := by
      intro t ht
      simp only [dix]
      rw [ht]
      unfold dED
      rw [List.map_append]
      congr 1
      cases t <;> simp
    have go : ∀ t : Bool, (decide ((i : Int) ∈ a) != decide ((i : Int) ∈ b)) = t → t = t := fun t _ => rfl
    by_cases ea : (i : Int) ∈ a <;> by_cases eb : (i : Int) ∈ b
    · have hs := hdix false (by rw [decide_eq_true ea, decide_eq_true eb]; rfl)
      rw [if_neg (by decide), List.append_nil] at hs
      rw [← hs] at hmn
      simp (maxSteps := 1000000) (disch := omega) only [decide_eq_true ea, decide_eq_true eb, h1, h2, h3, h6, h7, h8, wrap64, S, S1, S2, S3, S4, S5, ST, eq_self, reduceIte, reduceCtorEq, Nat.reduceEqDiff, Nat.reduceAdd]
      refine ⟨m - 1, by omega, i + 1, st, ?_⟩
      (repeat' first | exact hc5 | exact hst | exact hsn | exact hmn | exact hpp | apply And.intro) <;> first | (simp only [Value.int.injEq, true_and]; omega) | omega | rfl | assumption | (simp; done) | (simp; omega)
    · have hs := hdix true (by rw [decide_eq_true ea, decide_eq_false eb]; rfl)
      rw [if_pos rfl] at hs
      obtain ⟨st2, H3, k1, k2, k3, k4, k5, k6⟩ := own1_22 hmn hpp (by omega) (es.getD i (0, 0)).1 (es.getD i (0, 0)).2
      have d5 : H3[E.length]? = some (.cells [.int .i64 n, st] 31 false) := k4 _ _ (.inr (hne _ rfl)) hc5
      obtain ⟨q2, hq2⟩ := k2.row.shape
      have t2 : st2.cells.toList = [st2] := by rw [hq2]; rfl
      have hst3 := st_at (P := Tryz.prog) (t := 22) (i := 1) (y := st2) cs22 d5 (by show 1 < 2; decide) k6 t2
      simp (maxSteps := 1000000) (disch := omega) only [decide_eq_true ea, decide_eq_false eb, h1, h2, h3, h6, h7, h8, cell_of hc5, cell_of cH, rH.ix Tryz.underlying22 cs83, Int.toNat_natCast, hld, k1, hst3, wrap64, S, S1, S2, S3, S4, S5, ST, eq_self, reduceIte, reduceCtorEq, Nat.reduceEqDiff, Nat.reduceAdd]
      have f5 : (H3.set E.length (.cells ([.int .i64 n, st].set 1 st2) 31 false))[E.length]? = some (.cells [.int .i64 n, st2] 31 false) := by
        rw [List.getElem?_set_self (at_lt d5)]; rfl
      have fs1 : rowO st2 = A.length ∨ G.length ≤ rowO st2 := .inr (by omega)
      have fs2 : st2 ≠ .slice none 0 0 := by
        intro hh
        rw [hh] at k5
        have : rowO (Value.slice none 0 0) = 0 := rfl
        omega
      have fm : MineP 83 A (H3.set E.length (.cells ([.int .i64 n, st].set 1 st2) 31 false)) st2 (dED es (dix a b (i + 1))) := by
        rw [hs]
        exact k2.keepL fun hl y hy => by rw [List.getElem?_set_ne (by omega)]; exact hy
      have fp : A <+: H3.set E.length (.cells ([.int .i64 n, st].set 1 st2) 31 false) := pre_set k3 (by omega) _
      refine ⟨m - 1, by omega, i + 1, st2, ?_⟩
      (repeat' first | exact f5 | exact fs1 | exact fs2 | exact fm | exact fp | apply And.intro) <;> first | (simp only [Value.int.injEq, true_and]; omega) | omega | rfl | assumption | (simp; done) | (simp; omega)
    · have hs := hdix true (by rw [decide_eq_false ea, decide_eq_true eb]; rfl)
      rw [if_pos rfl] at hs
      obtain ⟨st2, H3, k1, k2, k3, k4, k5, k6⟩ := own1_22 hmn hpp (by omega) (es.getD i (0, 0)).1 (es.getD i (0, 0)).2
      have d5 : H3[E.length]? = some (.cells [.int .i64 n, st] 31 false) := k4 _ _ (.inr (hne _ rfl)) hc5
      obtain ⟨q2, hq2⟩ := k2.row.shape
      have t2 : st2.cells.toList = [st2] := by rw [hq2]; rfl
      have hst3 := st_at (P := Tryz.prog) (t := 22) (i := 1) (y := st2) cs22 d5 (by show 1 < 2; decide) k6 t2
      simp (maxSteps := 1000000) (disch := omega) only [decide_eq_false ea, decide_eq_true eb, h1, h2, h3, h6, h7, h8, cell_of hc5, cell_of cH, rH.ix Tryz.underlying22 cs83, Int.toNat_natCast, hld, k1, hst3, wrap64, S, S1, S2, S3, S4, S5, ST, eq_self, reduceIte, reduceCtorEq, Nat.reduceEqDiff, Nat.reduceAdd]
      have f5 : (H3.set E.length (.cells ([.int .i64 n, st].set 1 st2) 31 false))[E.length]? = some (.cells [.int .i64 n, st2] 31 false) := by
        rw [List.getElem?_set_self (at_lt d5)]; rfl
      have fs1 : rowO st2 = A.length ∨ G.length ≤ rowO st2 := .inr (by omega)
      have fs2 : st2 ≠ .slice none 0 0 := by
        intro hh
        rw [hh] at k5
        have : rowO (Value.slice none 0 0) = 0 := rfl
        omega
      have fm : MineP 83 A (H3.set E.length (.cells ([.int .i64 n, st].set 1 st2) 31 false)) st2 (dED es (dix a b (i + 1))) := by
        rw [hs]
        exact k2.keepL fun hl y hy => by rw [List.getElem?_set_ne (by omega)]; exact hy
      have fp : A <+: H3.set E.length (.cells ([.int .i64 n, st].set 1 st2) 31 false) := pre_set k3 (by omega) _
      refine ⟨m - 1, by omega, i + 1, st2, ?_⟩
      (repeat' first | exact f5 | exact fs1 | exact fs2 | exact fm | exact fp | apply And.intro) <;> first | (simp only [Value.int.injEq, true_and]; omega) | omega | rfl | assumption | (simp; done) | (simp; omega)
    · have hs := hdix false (by rw [decide_eq_false ea, decide_eq_false eb]; rfl)
      rw [if_neg (by decide), List.append_nil] at hs
      rw [← hs] at hmn
      simp (maxSteps := 1000000) (disch := omega) only [decide_eq_false ea, decide_eq_false eb, h1, h2, h3, h6, h7, h8, wrap64, S, S1, S2, S3, S4, S5, ST, eq_self, reduceIte, reduceCtorEq, Nat.reduceEqDiff, Nat.reduceAdd]
      refine ⟨m - 1, by omega, i + 1, st, ?_⟩
      (repeat' first | exact hc5 | exact hst | exact hsn | exact hmn | exact hpp | apply And.intro) <;> first | (simp only [Value.int.injEq, true_and]; omega) | omega | rfl | assumption | (simp; done) | (simp; omega)
  · have hi : i = es.length := by omega
    subst hi
    have cTH := pre_at hpp cT
    have hstore := st_G hmn.row cTH rfl n
    simp (maxSteps := 1000000) (disch := omega) only [h6, h7, ld_agg ag31 cs31 hc5, hstore, S, S1, S2, S3, S4, S5, ST, eq_self, reduceIte, reduceCtorEq, Nat.reduceEqDiff, Nat.reduceAdd]
    have d4 := at_set (d := .cells [.int .i64 n, st] 31 false) cTH
    have lAH := hpp.length_le
    refine hQ _ _ _ (end_cell _ _ _ _ _ _ (.agg (List.toArray [.int .i64 n, st])) ?_ rfl ⟨st, rfl, ?_, pre_set (pA.trans hpp) (by have := pA0.length_le; omega) _⟩)
    · simp (maxSteps := 1000000) (disch := omega) only [h6, ld_agg ag31 cs31 d4, S, S1, S2, S3, S4, S5, ST, eq_self, reduceIte, reduceCtorEq, Nat.reduceEqDiff, Nat.reduceAdd]
    · exact (hmn.keepL fun hl y hy => by rw [List.getElem?_set_ne (by omega)]; exact hy).row
set_option maxRecDepth 20000 in
set_option maxHeartbeats 4000000 in
theorem l8Pieces_c (n : Nat) (v w u : Value) (es : List (Int × Int)) (a b : List Int) (H : AH) (hr : RowP 83 H v es) (hlen : es.length ≤ 1099511627776) (hg : Grd (n : Int) es) (ha : Row 3 H w a) (hb : Row 3 H u b) (hla : a.length ≤ 1048576) (hlb : b.length ≤ 1048576) :
    ACalls Tryz.prog 86 [.agg (List.toArray [.int .i64 (n : Int), v]), w, u] H fun r H' => InL H.length H'.length 38 3 H' r (piecesL (dE es a b) (domL (dE es a b) n n)) ∧ H <+: H' := by
  have hn8 : n ≤ 8 := by have := hg.1; omega
  have hes := grd_28 hg
  refine in86 rfl ?_
  intro Q hQ
  simp (maxSteps := 1000000) (disch := omega) only [cd86, hr.boxG, S, S1, S2, S3, S4, S5, ST, eq_self, reduceIte, reduceCtorEq, Nat.reduceEqDiff, Nat.reduceAdd]
  generalize hA : H ++ [AObj.cells [.int .i64 ↑n, v] 31 false] = A
  have pA : H <+: A := by rw [← hA]; exact List.prefix_append _ _
  have cA : A[H.length]? = some (.cells [.int .i64 ↑n, v] 31 false) := by rw [← hA]; exact at_new ..
  have rA := hr.pre pA
  have u0 := InU.new H.length 38 3 A pA.length_le
  have lA : A.length = H.length + 1 := by rw [← hA]; simp
  generalize hB : A ++ [AObj.cells [] 38 false] = B at *
  have pB : A <+: B := by rw [← hB]; exact List.prefix_append _ _
  have lB : B.length = A.length + 1 := by rw [← hB]; simp
  have cB := pre_at pB cA
  simp (maxSteps := 1000000) (disch := omega) only [ld_agg ag31 cs31 cB, S, S1, S2, S3, S4, S5, ST, eq_self, reduceIte, reduceCtorEq, Nat.reduceEqDiff, Nat.reduceAdd]
  refine CallH.by (l8Differ_c (n : Int) v w u es a b B (rA.pre pB) (by omega) (ha.pre (pA.trans pB)) (hb.pre (pA.trans pB)) hla hlb) ?_
  rintro _ E ⟨st, rfl, hst, pE⟩
  have hdl : (dE es a b).length ≤ 28 := by
    have := dix_len a b es.length
    unfold dE dED; rw [List.length_map]; omega
  generalize hdE : dE es a b = ps at *
  have lE := pE.length_le
  have cE := pre_at pE cB
  simp (maxSteps := 1000000) (disch := omega) only [S, S1, S2, S3, S4, S5, ST, eq_self, reduceIte, reduceCtorEq, Nat.reduceEqDiff, Nat.reduceAdd]
  generalize hF : E ++ [AObj.cells [] 3 false] = F
  have pF : E <+: F := by rw [← hF]; exact List.prefix_append _ _
  have lF : F.length = E.length + 1 := by rw [← hF]; simp
  have cF : F[E.length]? = some (.cells (ints []) 3 false) := by rw [← hF]; exact at_new ..
  have st0 := st_G hst (at_new F (.cells [.int .i64 0, .slice none 0 0] 31 false)) rfl (n : Int)
  rw [set_new] at st0
  simp (maxSteps := 1000000) (disch := omega) only [alloc_G, st0, S, S1, S2, S3, S4, S5, ST, eq_self, reduceIte, reduceCtorEq, Nat.reduceEqDiff, Nat.reduceAdd]
  generalize hG : F ++ [AObj.cells [.int .i64 (n : Int), st] 31 false] = G
  have pG : F <+: G := by rw [← hG]; exact List.prefix_append _ _
  have cG : G[F.length]? = some (.cells [.int .i64 (n : Int), st] 31 false) := by rw [← hG]; exact at_new ..
  have lG : G.length = F.length + 1 := by rw [← hG]; simp
  have own0 : Own 3 E G (.slice (some ⟨E.length, 0, none⟩) 0 0) (domL ps n 0) := .inr ⟨E.length, rfl, Nat.le_refl _, pre_at pG cF⟩
  have hO0 : rowO (Value.slice (some ⟨E.length, 0, none⟩) 0 0) = E.length ∨ G.length ≤ rowO (Value.slice (some ⟨E.length, 0, none⟩) 0 0) := .inl rfl
  have hN0 : Value.slice (some ⟨E.length, 0, none⟩) 0 0 ≠ .slice none 0 0 := by intro e; cases e
  have pEG := pF.trans pG
  refine LoopH.by (fun m s H' => ∃ (i : Nat), m + i = n ∧ s 3 = .pointer (some ⟨H.length, 0, none⟩) ∧ s 7 = .slice (some ⟨A.length, 0, none⟩) 0 0 ∧ s 8 = .pointer (some ⟨F.length, 0, none⟩) ∧ s 10 = .int .i64 ((i : Nat) : Int) ∧ Own 3 E H' (s 9) (domL ps n i) ∧ (rowO (s 9) = E.length ∨ G.length ≤ rowO (s 9)) ∧ s 9 ≠ .slice none 0 0 ∧ H'[F.length]? = some (.cells [.int .i64 (n : Int), st] 31 false) ∧ E <+: H') n ?_ ?_
  · refine ⟨0, ?_⟩
    simp (maxSteps := 1000000) (disch := omega) only [S, S1, S2, S3, S4, S5, ST, eq_self, reduceIte, reduceCtorEq, Nat.reduceEqDiff, Nat.reduceAdd]
    (repeat' first | exact own0 | exact hO0 | exact hN0 | exact cG | exact pEG | apply And.intro) <;> first | (simp only [Value.int.injEq, true_and]; omega) | omega | rfl | assumption | (simp; done) | (simp; omega)
  rintro m s H' ⟨i, hm, h3, h7, h8, h10, ho, hO, hN, hc, hp⟩
  generalize hU : s 9 = U at *
  have cH := pre_at (pE.trans hp) cB
  have hstH := hst.pre hp
  simp (maxSteps := 1000000) (disch := omega) only [h3, h7, h8, h10, hU, cell_of cH, S, S1, S2, S3, S4, S5, ST, eq_self, reduceIte, reduceCtorEq, Nat.reduceEqDiff, Nat.reduceAdd]
  refine brD.intro (fun q => ?_) (fun q => ?_)
  · have hi : i < n := by omega
    simp (maxSteps := 1000000) (disch := omega) only [h3, h7, h8, h10, hU, ld_agg ag31 cs31 hc, S, S1, S2, S3, S4, S5, ST, eq_self, reduceIte, reduceCtorEq, Nat.reduceEqDiff, Nat.reduceAdd]
    refine CallH.by (l2Neighbors_c (n : Int) st ps (i : Int) H' hstH (by omega) (by omega)) ?_
    rintro nb K ⟨hnb, pK⟩
    rw [Int.toNat_natCast] at hnb
    have hoK := ho.pre pK
    have hcK := pre_at pK hc
    have hpK := hp.trans pK
    have hsucc := domL_succ ps n i
    have hdo := domL_len ps n i
    simp (maxSteps := 1000000) (disch := omega) only [h3, h7, h8, h10, hU, hnb.row.len Tryz.underlying38, S, S1, S2, S3, S4, S5, ST, eq_self, reduceIte, reduceCtorEq, Nat.reduceEqDiff, Nat.reduceAdd]
    refine brD.intro (fun e => ?_) (fun e => ?_)
    · have hnb1 : nbB ps n (i : Int) = true := by unfold nbB; rw [decide_eq_true_iff]; omega
      rw [if_pos hnb1] at hsucc
      obtain ⟨U', H2, j1, j2, j3, j4, j5, j6⟩ := own1_38 hoK hpK (by omega) (i : Int)
      rw [← hsucc] at j2
      have l5 := at_lt hc
      have f1 : H2[F.length]? = some (.cells [.int .i64 (n : Int), st] 31 false) := j4 _ _ (.inr (by omega)) hcK
      have lK := pK.length_le
      have f2 : rowO U' = E.length ∨ G.length ≤ rowO U' := .inr (by omega)
      have f3 : U' ≠ .slice none 0 0 := by
        intro hh
        rw [hh] at j5
        have : rowO (Value.slice none 0 0) = 0 := rfl
        omega
      simp (maxSteps := 1000000) (disch := omega) only [e, h3, h7, h8, h10, hU, j1, wrap64, S, S1, S2, S3, S4, S5, ST, eq_self, reduceIte, reduceCtorEq, Nat.reduceEqDiff, Nat.reduceAdd]
      refine ⟨m - 1, by omega, i + 1, ?_⟩
      (repeat' first | exact j2 | exact f2 | exact f3 | exact f1 | exact j3 | apply And.intro) <;> first | (simp only [Value.int.injEq, true_and]; omega) | omega | rfl | assumption | (simp; done) | (simp; omega)
    · have hnb1 : ¬ nbB ps n (i : Int) = true := by unfold nbB; rw [decide_eq_true_iff]; omega
      rw [if_neg hnb1, List.append_nil] at hsucc
      rw [← hsucc] at hoK
      simp (maxSteps := 1000000) (disch := omega) only [e, h3, h7, h8, h10, hU, wrap64, S, S1, S2, S3, S4, S5, ST, eq_self, reduceIte, reduceCtorEq, Nat.reduceEqDiff, Nat.reduceAdd]
      refine ⟨m - 1, by omega, i + 1, ?_⟩
      (repeat' first | exact hoK | exact hO | exact hN | exact hcK | exact hpK | apply And.intro) <;> first | (simp only [Value.int.injEq, true_and]; omega) | omega | rfl | assumption | (simp; done) | (simp; omega)
  · have hi : i = n := by omega
    subst hi
    simp (maxSteps := 1000000) (disch := omega) only [h3, h7, h8, hU, ld_agg ag31 cs31 hc, S, S1, S2, S3, S4, S5, ST, eq_self, reduceIte, reduceCtorEq, Nat.reduceEqDiff, Nat.reduceAdd]
    have hdm : ∀ z ∈ domL ps i i, 0 ≤ z ∧ z < 8 := fun z hz => by have := ((domL_mem ps i i z).1 hz).1; omega
    have hdl2 := domL_len ps i i
    refine CallH.by (l2Pieces_c (i : Int) st U ps (domL ps i i) H' hstH (by omega) ho.row hdm (by omega)) ?_
    rintro r K ⟨hL, pK⟩
    have hpl := pieces_le ps (domL ps i i) hdm
    have uK := (u0.pre (pE.trans (hp.trans pK))).wide (Nat.le_refl _) (show A.length + 1 ≤ H'.length by have := hp.length_le; omega)
    obtain ⟨v', H5, o', us', q1, q2, q3, q4, q5, q6⟩ := uK.appL (P := Tryz.prog) (t2 := 26) Tryz.underlying26 cs38 (by rw [by38]; decide) zk38 hL (by have := hp.length_le; omega) pK.length_le (Nat.le_refl _) (by simp; omega)
    rw [List.nil_append] at q2 q3
    have z0 : ([] : List (List Int)).length = 0 := rfl
    rw [z0] at q1
    simp (maxSteps := 1000000) (disch := omega) only [q1, S, S1, S2, S3, S4, S5, ST, eq_self, reduceIte, reduceCtorEq, Nat.reduceEqDiff, Nat.reduceAdd]
    refine hQ _ _ _ ?_
    simp (maxSteps := 1000000) (disch := omega) only [q2, S, S1, S2, S3, S4, S5, ST, eq_self, reduceIte, reduceCtorEq, Nat.reduceEqDiff, Nat.reduceAdd]
    refine ⟨q3.inl, prefix_of fun j y hy => q5 j y (by have := at_lt hy; omega) (pre_at (pA.trans (pB.trans (pE.trans (hp.trans pK)))) hy)⟩
end Go.Proofs.YtlfongfhbkefmaaGreat.Ai
namespace Go.Proofs.YtlfongfhbkefmaaGreat.Ai
open Go
set_option linter.unusedVariables false
/-- an exchange of the members of a set without fixed points -/
structure Mate (N : Int → Prop) (m : Int → Int) : Prop where
  in_ : ∀ x, N x → N (m x)
  ne : ∀ x, N x → m x ≠ x
  inv : ∀ x, N x → m (m x) = x
/-- by turns -/
def trn (mA mB : Int → Int) (k : Nat) : Int → Int := if k % 2 = 0 then mA else mB
def alw (mA mB : Int → Int) (s : Int) : Nat → Int
  | 0 => s
  | k + 1 => trn mA mB k (alw mA mB s k)
section
variable {N : Int → Prop} {mA mB : Int → Int} (hA : Mate N mA) (hB : Mate N mB) {s : Int} (hs : N s)
include hA hB
include hs
end
/-- the first return -/
structure Per (mA mB : Int → Int) (s : Int) (p : Nat) : Prop where
  pos : 1 ≤ p
  ret : alw mA mB s (2 * p) = s
  min : ∀ k, 1 ≤ k → k < p → alw mA mB s (2 * k) ≠ s
section
variable {N : Int → Prop} {mA mB : Int → Int} (hA : Mate N mA) (hB : Mate N mB) {s : Int} (hs : N s) {p : Nat} (hp : Per mA mB s p)
include hA hB hs hp
end
theorem nodup_le_of : ∀ (l m : List Int), l.Nodup → (∀ x ∈ l, x ∈ m) → l.length ≤ m.length
  | [], m, _, _ => Nat.zero_le _
  | a :: l, m, hn, h => by
    have ha := h a (by simp)
    have hn' := List.nodup_cons.1 hn
    have := nodup_le_of l (m.erase a) hn'.2 (fun x hx => (List.mem_erase_of_ne (fun e => by subst e; exact hn'.1 hx)).2 (h x (by simp [hx])))
    rw [List.length_erase_of_mem ha] at this
    have : 0 < m.length := List.length_pos_of_mem ha
    simp only [List.length_cons]
    omega
section
variable {n : Nat} {es : List (Int × Int)} (hg : Grd (n : Int) es)
include hg
end
end Go.Proofs.YtlfongfhbkefmaaGreat.Ai
namespace Go.Proofs.YtlfongfhbkefmaaGreat.Ai
open Go
set_option linter.unusedVariables false
/-- an edge that meets none of some -/
def frE (es : List (Int × Int)) (ed : List Int) (e : Int) : Prop := ed1 es e ∉ seenL es ed ∧ ed2 es e ∉ seenL es ed
instance (es : List (Int × Int)) (ed : List Int) (e : Int) : Decidable (frE es ed e) := by unfold frE; infer_instance
/-- all matchings that begin with some edges and have more, of the last k edges; in order -/
def mall (es : List (Int × Int)) : Nat → List Int → List (List Int)
  | 0, _ => []
  | k + 1, ed => (if frE es ed ((es.length - (k + 1) : Nat) : Int) then (ed ++ [((es.length - (k + 1) : Nat) : Int)]) :: mall es k (ed ++ [((es.length - (k + 1) : Nat) : Int)]) else []) ++ mall es k ed
/-- a fold that may stop -/
def sfold {σ : Type} (cb : σ → List Int → σ × Bool) : List (List Int) → σ → σ × Bool
  | [], s => (s, true)
  | x :: xs, s => if (cb s x).2 = true then sfold cb xs (cb s x).1 else ((cb s x).1, false)
theorem sfold_append {σ : Type} (cb : σ → List Int → σ × Bool) (xs ys : List (List Int)) (s : σ) : sfold cb (xs ++ ys) s = if (sfold cb xs s).2 = true then sfold cb ys (sfold cb xs s).1 else sfold cb xs s := by
  induction xs generalizing s with
  | nil => simp [sfold]
  | cons x xs ih =>
    by_cases h : (cb s x).2 = true
    · have e1 : sfold cb (x :: xs) s = sfold cb xs (cb s x).1 := by rw [sfold, if_pos h]
      have e2 : sfold cb ((x :: xs) ++ ys) s = sfold cb (xs ++ ys) (cb s x).1 := by rw [List.cons_append, sfold, if_pos h]
      rw [e1, e2, ih]
    · have e1 : sfold cb (x :: xs) s = ((cb s x).1, false) := by rw [sfold, if_neg h]
      have e2 : sfold cb ((x :: xs) ++ ys) s = ((cb s x).1, false) := by rw [List.cons_append, sfold, if_neg h]
      rw [e1, e2]; simp
theorem mall_longer (es : List (Int × Int)) : ∀ (k : Nat) (ed : List Int), ∀ x ∈ mall es k ed, ed.length < x.length
  | 0, ed, x, hx => by simp [mall] at hx
  | k + 1, ed, x, hx => by
    simp only [mall, List.mem_append] at hx
    rcases hx with hx | hx
    · split at hx
      · simp only [List.mem_cons] at hx
        rcases hx with rfl | hx
        · simp
        · have := mall_longer es k _ x hx
          simp at this; omega
      · simp at hx
    · exact mall_longer es k ed x hx
/-- those with j edges -/
def mext (es : List (Int × Int)) (k : Nat) (ed : List Int) (j : Nat) : List (List Int) := (ed :: mall es k ed).filter fun x => decide (x.length = j)
theorem mext_done (es : List (Int × Int)) (k : Nat) (ed : List Int) : mext es k ed ed.length = [ed] := by
  unfold mext
  rw [List.filter_cons, if_pos (by simp)]
  have : (mall es k ed).filter (fun x => decide (x.length = ed.length)) = [] := by
    rw [List.filter_eq_nil_iff]
    intro x hx
    have := mall_longer es k ed x hx
    simp; omega
  rw [this]
/-- the loop of the reference: those that go on with one of the last k edges -/
def mlpE (es : List (Int × Int)) (k : Nat) (ed : List Int) (j : Nat) : List (List Int) := (mall es k ed).filter fun x => decide (x.length = j)
theorem mext_loop (es : List (Int × Int)) (k : Nat) (ed : List Int) (j : Nat) (h : ed.length ≠ j) : mext es k ed j = mlpE es k ed j := by
  unfold mext mlpE
  rw [List.filter_cons, if_neg (by simpa using h)]
theorem mlpE_step (es : List (Int × Int)) (k : Nat) (ed : List Int) (j : Nat) : mlpE es (k + 1) ed j = (if frE es ed ((es.length - (k + 1) : Nat) : Int) then mext es k (ed ++ [((es.length - (k + 1) : Nat) : Int)]) j else []) ++ mlpE es k ed j := by
  unfold mlpE mext
  rw [mall, List.filter_append]
  split <;> rfl
/-- numbers of a range, each once -/
theorem nodupM_le : ∀ (n : Nat) (l : List Int), l.Nodup → (∀ x ∈ l, 0 ≤ x ∧ x < n) → l.length ≤ n
  | 0, l, _, h => by
    cases l with
    | nil => simp
    | cons x l => have := h x (by simp); omega
  | n + 1, l, hd, h => by
    have h1 := nodupM_le n (l.erase (n : Int)) (hd.erase _) (fun x hx => by
      have := (hd.mem_erase_iff).1 hx
      have h2 := h x this.2
      have : x ≠ (n : Int) := this.1
      omega)
    have : l.length ≤ (l.erase (n : Int)).length + 1 := by
      rw [List.length_erase]
      split <;> omega
    omega
/-- nodes of different edges, each once -/
def Mgo (n : Int) (es : List (Int × Int)) (ed : List Int) : Prop := (seenL es ed).Nodup ∧ ∀ z ∈ seenL es ed, 0 ≤ z ∧ z < n
theorem Mgo.nil (n : Int) (es : List (Int × Int)) : Mgo n es [] := ⟨by simp [seenL], fun z hz => by simp [seenL] at hz⟩
theorem Mgo.snoc {n : Int} {es : List (Int × Int)} {ed : List Int} {e : Int} (hg : Grd n es) (h : Mgo n es ed) (he : e.toNat < es.length) (hf : frE es ed e) : Mgo n es (ed ++ [e]) := by
  obtain ⟨a1, a2, a3, _⟩ := hg.2 e.toNat he
  have b1 : ed1 es e < ed2 es e := a2
  have b2 : 0 ≤ ed1 es e := a1
  have b3 : ed2 es e < n := a3
  refine ⟨?_, ?_⟩
  · rw [seenL_snoc, List.nodup_append]
    refine ⟨h.1, ?_, ?_⟩
    · simp; omega
    · intro x hx y hy hxy
      subst hxy
      simp only [List.mem_cons, List.not_mem_nil, or_false] at hy
      rcases hy with rfl | rfl
      · exact hf.1 hx
      · exact hf.2 hx
  · intro z hz
    rw [seenL_snoc, List.mem_append] at hz
    rcases hz with hz | hz
    · exact h.2 z hz
    · simp only [List.mem_cons, List.not_mem_nil, or_false] at hz
      omega
theorem Mgo.all {n : Int} {es : List (Int × Int)} (hg : Grd n es) : ∀ (k : Nat) (ed : List Int), k ≤ es.length → Mgo n es ed → ∀ x ∈ mall es k ed, Mgo n es x
  | 0, ed, _, h, x, hx => by simp [mall] at hx
  | k + 1, ed, hk, h, x, hx => by
    simp only [mall, List.mem_append] at hx
    rcases hx with hx | hx
    · split at hx
      · rename_i hf
        have h2 := h.snoc hg (by rw [Int.toNat_natCast]; omega) hf
        simp only [List.mem_cons] at hx
        rcases hx with rfl | hx
        · exact h2
        · exact Mgo.all hg k _ (by omega) h2 x hx
      · simp at hx
    · exact Mgo.all hg k ed (by omega) h x hx
theorem Mgo.len {n : Int} {es : List (Int × Int)} {ed : List Int} (hn : 0 ≤ n) (h : Mgo n es ed) : 2 * ed.length ≤ n.toNat := by
  have := nodupM_le n.toNat (seenL es ed) h.1 (fun z hz => by have := h.2 z hz; omega)
  rw [seenL_len] at this
  exact this
/-- a graph has at most 28 edges -/
def rnkE (a b : Nat) : Nat := a * (15 - a) / 2 + (b - a - 1)
theorem rnkE_lt : ∀ a b c d : Fin 8, a.1 < b.1 → c.1 < d.1 → (a.1 < c.1 ∨ a.1 = c.1 ∧ b.1 < d.1) → rnkE a.1 b.1 + 1 ≤ rnkE c.1 d.1 := by decide +kernel
theorem rnkE_le : ∀ a b : Fin 8, a.1 < b.1 → rnkE a.1 b.1 ≤ 27 := by decide +kernel
theorem grd_nat {n : Int} {es : List (Int × Int)} (hg : Grd n es) {i : Nat} (hi : i < es.length) : ∃ a b : Fin 8, a.1 < b.1 ∧ es.getD i (0, 0) = ((a.1 : Int), (b.1 : Int)) := by
  obtain ⟨h1, h2, h3, _⟩ := hg.2 i hi
  have := hg.1
  refine ⟨⟨(es.getD i (0, 0)).1.toNat, by omega⟩, ⟨(es.getD i (0, 0)).2.toNat, by omega⟩, by show (es.getD i (0, 0)).1.toNat < (es.getD i (0, 0)).2.toNat; omega, ?_⟩
  apply Prod.ext
  · show _ = (((es.getD i (0, 0)).1.toNat : Nat) : Int); omega
  · show _ = (((es.getD i (0, 0)).2.toNat : Nat) : Int); omega
theorem grd_len {n : Int} {es : List (Int × Int)} (hg : Grd n es) : es.length ≤ 28 := by
  have key : ∀ i, i < es.length → ∃ a b : Fin 8, a.1 < b.1 ∧ es.getD i (0, 0) = ((a.1 : Int), (b.1 : Int)) ∧ i ≤ rnkE a.1 b.1 := by
    intro i
    induction i with
    | zero => intro hi; obtain ⟨a, b, h1, h2⟩ := grd_nat hg hi; exact ⟨a, b, h1, h2, Nat.zero_le _⟩
    | succ i ih =>
      intro hi
      obtain ⟨a, b, h1, h2, h3⟩ := ih (by omega)
      obtain ⟨c, d, k1, k2⟩ := grd_nat hg hi
      have hlt := (hg.2 (i + 1) hi).2.2.2 (by omega)
      rw [Nat.add_sub_cancel, h2, k2] at hlt
      unfold pairLt at hlt
      simp only at hlt
      have := rnkE_lt a b c d h1 k1 (by omega)
      exact ⟨c, d, k1, k2, by omega⟩
  apply Decidable.byContradiction
  intro hc
  obtain ⟨a, b, h1, _, h3⟩ := key 28 (by omega)
  have := rnkE_le a b h1
  omega
end Go.Proofs.YtlfongfhbkefmaaGreat.Ai
namespace Go.Proofs.YtlfongfhbkefmaaGreat.Ai
open Go
def ords168 : List (Nat × List (Nat × Bool)) := [(5, [(0, false), (1, false), (2, false), (3, false), (4, false), (5, false), (6, false), (7, false), (8, false), (9, false), (10, false), (11, false), (12, false), (13, false), (14, false), (15, false)])]
def cd168 : Cd := (.seq (.reg [⟨⟨some 8, Op.assign (Operand.const (Value.bool false)), none⟩, []⟩]) (.seq (.seq (.reg [⟨⟨some 10, Op.load 80 (Operand.tmp 2), none⟩, []⟩,
  ⟨⟨some 11, Op.load 38 (Operand.tmp 3), none⟩, []⟩,
  ⟨⟨some 12, Op.call { callee := (Callee.value (Operand.tmp 10)), args := #[(Operand.tmp 11)], argTypes := #[38] }, none⟩, []⟩,
  ⟨⟨some 13, Op.unOp UnOp.not 4 (Operand.tmp 12), none⟩, []⟩]) (.cond (Operand.tmp 13) (.seq (.reg [⟨⟨some 8, Op.assign (Operand.const (Value.bool false)), none⟩, []⟩]) .ret) .skip)) (.seq (.block 0 (.loop (.seq (.seq (.reg [⟨⟨some 14, Op.move (Operand.tmp 0), none⟩, []⟩,
  ⟨⟨some 15, Op.fieldAddr 31 (Operand.tmp 4) 1, none⟩, []⟩,
  ⟨⟨some 16, Op.load 22 (Operand.tmp 15), none⟩, []⟩,
  ⟨⟨some 17, Op.call { callee := (Callee.builtin Builtin.len), args := #[(Operand.tmp 16)], argTypes := #[22] }, none⟩, []⟩,
  ⟨⟨some 18, Op.binOp BinOp.lss 3 (Operand.tmp 14) (Operand.tmp 17) 3, none⟩, []⟩]) (.cond (Operand.tmp 18) .skip (.exit 0))) (.seq (.block 1 (.seq (.reg [⟨⟨some 21, Op.fieldAddr 31 (Operand.tmp 4) 1, none⟩, []⟩,
  ⟨⟨some 22, Op.load 22 (Operand.tmp 21), none⟩, []⟩,
  ⟨⟨some 23, Op.move (Operand.tmp 0), none⟩, []⟩,
  ⟨⟨some 24, Op.indexAddr 22 (Operand.tmp 22) (Operand.tmp 23), none⟩, []⟩,
  ⟨⟨some 25, Op.indexAddr 83 (Operand.tmp 24) (Operand.const (Value.int IntKind.i64 0)), none⟩, []⟩,
  ⟨⟨some 26, Op.load 3 (Operand.tmp 25), none⟩, []⟩,
  ⟨⟨some 27, Op.binOp BinOp.shl 109 (Operand.const (Value.int IntKind.u64 1)) (Operand.tmp 26) 3, none⟩, []⟩,
  ⟨⟨some 28, Op.fieldAddr 31 (Operand.tmp 4) 1, none⟩, []⟩,
  ⟨⟨some 29, Op.load 22 (Operand.tmp 28), none⟩, []⟩,
  ⟨⟨some 30, Op.move (Operand.tmp 0), none⟩, []⟩,
  ⟨⟨some 31, Op.indexAddr 22 (Operand.tmp 29) (Operand.tmp 30), none⟩, []⟩,
  ⟨⟨some 32, Op.indexAddr 83 (Operand.tmp 31) (Operand.const (Value.int IntKind.i64 1)), none⟩, []⟩,
  ⟨⟨some 33, Op.load 3 (Operand.tmp 32), none⟩, []⟩,
  ⟨⟨some 34, Op.binOp BinOp.shl 109 (Operand.const (Value.int IntKind.u64 1)) (Operand.tmp 33) 3, none⟩, []⟩,
  ⟨⟨some 35, Op.binOp BinOp.or 109 (Operand.tmp 27) (Operand.tmp 34) 109, none⟩, []⟩,
  ⟨⟨some 9, Op.assign (Operand.tmp 35), none⟩, []⟩]) (.seq (.seq (.reg [⟨⟨some 36, Op.move (Operand.tmp 1), none⟩, []⟩,
  ⟨⟨some 37, Op.move (Operand.tmp 9), none⟩, []⟩,
  ⟨⟨some 38, Op.binOp BinOp.and 109 (Operand.tmp 36) (Operand.tmp 37) 109, none⟩, []⟩,
  ⟨⟨some 39, Op.binOp BinOp.neq 109 (Operand.tmp 38) (Operand.const (Value.int IntKind.u64 0)) 109, none⟩, []⟩]) (.cond (Operand.tmp 39) (.exit 1) .skip)) (.seq (.reg [⟨⟨some 40, Op.load 38 (Operand.tmp 3), none⟩, []⟩,
  ⟨⟨some 41, Op.move (Operand.tmp 0), none⟩, []⟩,
  ⟨⟨some 42, Op.buildSlice 38 1 #[(0, (Operand.tmp 41))], none⟩, []⟩,
  ⟨⟨some 43, Op.call { callee := (Callee.builtin Builtin.append), args := #[(Operand.tmp 40), (Operand.tmp 42)], argTypes := #[38, 38] }, none⟩, []⟩,
  ⟨⟨none, Op.store 38 (Operand.tmp 3) (Operand.tmp 43), none⟩, []⟩]) (.seq (.seq (.reg [⟨⟨some 44, Op.load 161 (Operand.tmp 5), none⟩, []⟩,
  ⟨⟨some 45, Op.move (Operand.tmp 0), none⟩, []⟩,
  ⟨⟨some 46, Op.binOp BinOp.add 3 (Operand.tmp 45) (Operand.const (Value.int IntKind.i64 1)) 3, none⟩, []⟩,
  ⟨⟨some 47, Op.move (Operand.tmp 1), none⟩, []⟩,
  ⟨⟨some 48, Op.move (Operand.tmp 9), none⟩, []⟩,
  ⟨⟨some 49, Op.binOp BinOp.or 109 (Operand.tmp 47) (Operand.tmp 48) 109, none⟩, []⟩,
  ⟨⟨some 50, Op.call { callee := (Callee.value (Operand.tmp 44)), args := #[(Operand.tmp 46), (Operand.tmp 49)], argTypes := #[3, 109] }, none⟩, []⟩,
  ⟨⟨some 51, Op.unOp UnOp.not 4 (Operand.tmp 50), none⟩, []⟩]) (.cond (Operand.tmp 51) (.seq (.reg [⟨⟨some 8, Op.assign (Operand.const (Value.bool false)), none⟩, []⟩]) .ret) .skip)) (.reg [⟨⟨some 52, Op.load 38 (Operand.tmp 3), none⟩, []⟩,
  ⟨⟨some 53, Op.load 38 (Operand.tmp 3), none⟩, []⟩,
  ⟨⟨some 54, Op.call { callee := (Callee.builtin Builtin.len), args := #[(Operand.tmp 53)], argTypes := #[38] }, none⟩, []⟩,
  ⟨⟨some 55, Op.binOp BinOp.sub 3 (Operand.tmp 54) (Operand.const (Value.int IntKind.i64 1)) 3, none⟩, []⟩,
  ⟨⟨some 56, Op.slice 38 (Operand.tmp 52) none (some (Operand.tmp 55)) none, none⟩, []⟩,
  ⟨⟨none, Op.store 38 (Operand.tmp 3) (Operand.tmp 56), none⟩, []⟩])))))) (.reg [⟨⟨some 19, Op.move (Operand.tmp 0), none⟩, []⟩,
  ⟨⟨some 20, Op.binOp BinOp.add 3 (Operand.tmp 19) (Operand.const (Value.int IntKind.i64 1)) 3, none⟩, []⟩,
  ⟨⟨some 0, Op.assign (Operand.tmp 20), none⟩, []⟩]))))) (.seq (.reg [⟨⟨some 8, Op.assign (Operand.const (Value.bool true)), none⟩, []⟩]) .ret))))
theorem sl168 : slim Tryz.f168.ntmps ords168 (Tryz.f168.body.getD .skip) = some cd168 := by kernel_rfl
theorem in168 {args : List Value} {H : AH} {R : Value → AH → Prop} (hl : args.length = 6) (h : ∀ (Q : Exit → Sl → AH → Prop), (∀ e s H, endA Tryz.prog [ResultVar.tmp 8] R e s H → Q e s H) → wpC Tryz.prog cd168 Q (enterA args) H) : ACalls Tryz.prog 168 args H R :=
  ACalls.intro (by kernel_rfl) Tryz.func168 rfl (by kernel_rfl) sl168 hl (of_decide_eq_true (by kernel_rfl)) (by kernel_rfl) h
def ords131 : List (Nat × List (Nat × Bool)) := []
def cd131 : Cd := (.seq (.reg [⟨⟨some 2, Op.box 31 (Operand.tmp 0), none⟩, []⟩,
  ⟨⟨some 3, Op.box 80 (Operand.tmp 1), none⟩, []⟩]) (.seq (.reg [⟨⟨some 6, Op.buildSlice 38 0 #[], none⟩, []⟩,
  ⟨⟨some 4, Op.alloc 38, none⟩, []⟩,
  ⟨⟨none, Op.store 38 (Operand.tmp 4) (Operand.tmp 6), none⟩, []⟩]) (.seq (.reg [⟨⟨some 5, Op.alloc 161, none⟩, []⟩]) (.seq (.reg [⟨⟨some 7, Op.makeFunc (Fn.func 168) #[] #[(Operand.tmp 3), (Operand.tmp 4), (Operand.tmp 2), (Operand.tmp 5)], none⟩, []⟩,
  ⟨⟨none, Op.store 161 (Operand.tmp 5) (Operand.tmp 7), none⟩, []⟩]) (.reg [⟨⟨some 8, Op.load 161 (Operand.tmp 5), none⟩, []⟩,
  ⟨⟨some 9, Op.call { callee := (Callee.value (Operand.tmp 8)), args := #[(Operand.const (Value.int IntKind.i64 0)), (Operand.const (Value.int IntKind.u64 0))], argTypes := #[3, 109] }, none⟩, []⟩])))))
theorem sl131 : slim Tryz.f131.ntmps ords131 (Tryz.f131.body.getD .skip) = some cd131 := by kernel_rfl
theorem in131 {args : List Value} {H : AH} {R : Value → AH → Prop} (hl : args.length = 2) (h : ∀ (Q : Exit → Sl → AH → Prop), (∀ e s H, endA Tryz.prog [] R e s H → Q e s H) → wpC Tryz.prog cd131 Q (enterA args) H) : ACalls Tryz.prog 131 args H R :=
  ACalls.intro (by kernel_rfl) Tryz.func131 rfl (by kernel_rfl) sl131 hl (of_decide_eq_true (by kernel_rfl)) (by kernel_rfl) h
end Go.Proofs.YtlfongfhbkefmaaGreat.Ai
namespace Go.Proofs.YtlfongfhbkefmaaGreat.Ai
open Go Go.RowKit
set_option linter.unusedVariables false
set_option linter.unusedSimpArgs false
/-- a function that is called for each, with what it keeps in memory -/
structure CbOk {σ : Type} (HB : AH) (fW : FuncId) (caps : List Value) (I IF : σ → (Nat → Prop) → AH → Prop) (cb : σ → List Int → σ × Bool) : Prop where
  fin : ∀ {s F H}, I s F H → IF s F H
  live : ∀ {s F H o}, I s F H → F o → o < H.length ∧ HB.length ≤ o
  keep : ∀ {s F H H'}, I s F H → (∀ o y, F o → H[o]? = some y → H'[o]? = some y) → I s F H'
  call : ∀ {s F H w xs}, I s F H → Row 3 H w xs → (w = .slice none 0 0 ∨ ¬ F (rowO w)) → xs.length ≤ 1048576 → HB <+: H →
    ACalls Tryz.prog fW (w :: caps) H fun r H' => r = .bool (cb s xs).2 ∧ (∃ F', IF (cb s xs).1 F' H' ∧ ((cb s xs).2 = true → I (cb s xs).1 F' H') ∧ ∀ o, F' o → F o ∨ H.length ≤ o) ∧ ∀ o y, ¬ F o → H[o]? = some y → H'[o]? = some y
/-- the variables of the walk: the function, the edges so far, the graph, the walk itself -/
structure WSt (HB : AH) (vW v : Value) (n : Int) (pw pe pg pf : Nat) (F : Nat → Prop) (H : AH) (ed : List Int) : Prop where
  w : H[pw]? = some (.cells [vW] 80 false)
  g : H[pg]? = some (.cells [.int .i64 n, v] 31 false)
  f : H[pf]? = some (.cells [.func (.func 168) #[] (List.toArray [.pointer (some ⟨pw, 0, none⟩), .pointer (some ⟨pe, 0, none⟩), .pointer (some ⟨pg, 0, none⟩), .pointer (some ⟨pf, 0, none⟩)])] 161 false)
  e : ∃ oe zs, H[pe]? = some (.cells [.slice (some ⟨oe, 0, none⟩) ed.length ed.length] 38 false) ∧ H[oe]? = some (.cells (ints zs) 3 false) ∧ zs.take ed.length = ed ∧ ¬ F oe ∧ oe ≠ pw ∧ oe ≠ pg ∧ oe ≠ pf ∧ oe ≠ pe ∧ HB.length ≤ oe
  ne : pe ≠ pw ∧ pe ≠ pg ∧ pe ≠ pf
  out : ¬ F pw ∧ ¬ F pg ∧ ¬ F pf ∧ ¬ F pe
  lo : HB.length ≤ pw ∧ HB.length ≤ pe ∧ HB.length ≤ pg ∧ HB.length ≤ pf
  pre : HB <+: H
section
variable {HB : AH} {vW v : Value} {n : Int} {pw pe pg pf : Nat} {F F' : Nat → Prop} {H H' : AH} {ed : List Int}
/-- a call of the function leaves the variables -/
theorem WSt.cb (h : WSt HB vW v n pw pe pg pf F H ed) (hlive : ∀ o, F o → HB.length ≤ o) (hF : ∀ o, F' o → F o ∨ H.length ≤ o) (hk : ∀ o y, ¬ F o → H[o]? = some y → H'[o]? = some y) : WSt HB vW v n pw pe pg pf F' H' ed := by
  obtain ⟨oe, zs, e1, e2, e3, e4, e5⟩ := h.e
  have no : ∀ {o x}, ¬ F o → H[o]? = some x → ¬ F' o := fun ho hx hf => by
    rcases hF _ hf with g | g
    · exact ho g
    · have := at_lt hx; omega
  refine ⟨hk _ _ h.out.1 h.w, hk _ _ h.out.2.1 h.g, hk _ _ h.out.2.2.1 h.f, ⟨oe, zs, hk _ _ h.out.2.2.2 e1, hk _ _ e4 e2, e3, no e4 e2, e5⟩, h.ne, ⟨no h.out.1 h.w, no h.out.2.1 h.g, no h.out.2.2.1 h.f, no h.out.2.2.2 e1⟩, h.lo, ?_⟩
  exact prefix_of fun o x hx => hk o x (fun hf => by have := hlive o hf; have := at_lt hx; omega) (pre_at h.pre hx)
/-- one edge more -/
theorem WSt.push (h : WSt HB vW v n pw pe pg pf F H ed) (hlive : ∀ o, F o → o < H.length) (hb : ed.length ≤ 1048576) (x : Int) :
    ∃ w H2 H3, cellA H pe 0 = some (.slice (some w) ed.length ed.length) ∧ appendA Tryz.prog 38 38 (.slice (some w) ed.length ed.length) (.slice (some ⟨H.length, 0, none⟩) 1 1) (H ++ [.cells [.int .i64 x] 3 false]) = some (.slice (some ⟨H.length + 1, 0, none⟩) (ed.length + 1) (ed.length + 1), H2) ∧
      storeA Tryz.prog 38 (.pointer (some ⟨pe, 0, none⟩)) (.slice (some ⟨H.length + 1, 0, none⟩) (ed.length + 1) (ed.length + 1)) H2 = some H3 ∧ WSt HB vW v n pw pe pg pf F H3 (ed ++ [x]) ∧ (∀ o y, F o → H[o]? = some y → H3[o]? = some y) ∧ H.length ≤ H3.length := by
  obtain ⟨oe, zs, e1, e2, e3, e4, e5, e6, e7, e8, e9⟩ := h.e
  have hzl : ed.length ≤ zs.length := by
    have := congrArg List.length e3
    rw [List.length_take] at this; omega
  have k1 := app_q (P := Tryz.prog) (t := 38) (k := 0) (n := ed.length) (c := ed.length) (x := x) Tryz.underlying38 cs3 (by rw [by3]; decide) zk3 e2 (by omega) (by omega)
  rw [List.drop_zero, e3] at k1
  have at_ : ∀ {o y}, o ≠ oe → H[o]? = some y → (H.set oe .dead ++ [AObj.cells [.int .i64 x] 3 false, .cells (ints (ed ++ [x])) 3 false])[o]? = some y := by
    intro o y ho hy
    rw [List.getElem?_append_left (by simpa using at_lt hy), List.getElem?_set_ne (fun e => ho e.symm)]
    exact hy
  have a1 := at_ (fun e => e8 e.symm) e1
  have hst := st_at (P := Tryz.prog) (t := 38) (i := 0) (y := .slice (some ⟨H.length + 1, 0, none⟩) (ed.length + 1) (ed.length + 1)) cs38 a1 (by show 0 < 1; decide) rfl rfl
  have l1 := at_lt e1
  have l2 := at_lt e2
  have aw : ∀ {o y}, o ≠ oe → o ≠ pe → H[o]? = some y → ((H.set oe .dead ++ [AObj.cells [.int .i64 x] 3 false, .cells (ints (ed ++ [x])) 3 false]).set pe (.cells ([Value.slice (some ⟨oe, 0, none⟩) ed.length ed.length].set 0 (.slice (some ⟨H.length + 1, 0, none⟩) (ed.length + 1) (ed.length + 1))) 38 false))[o]? = some y := by
    intro o y ho1 ho2 hy
    rw [List.getElem?_set_ne (fun e => ho2 e.symm)]
    exact at_ ho1 hy
  have lw := at_lt h.w
  have lg := at_lt h.g
  have lf := at_lt h.f
  have lo := h.lo
  refine ⟨_, _, _, cell_of e1 0, k1, hst, ⟨aw (fun e => e5 e.symm) (fun e => h.ne.1 e.symm) h.w, aw (fun e => e6 e.symm) (fun e => h.ne.2.1 e.symm) h.g, aw (fun e => e7 e.symm) (fun e => h.ne.2.2 e.symm) h.f, ⟨H.length + 1, ed ++ [x], ?_, ?_, ?_, ?_, by omega, by omega, by omega, by omega, by have := h.pre.length_le; omega⟩, h.ne, h.out, h.lo, ?_⟩, ?_, by simp⟩
  · rw [List.getElem?_set_self (by simp; omega)]
    simp
  · rw [List.getElem?_set_ne (by omega), List.getElem?_append_right (by simp)]
    simp
  · rw [List.take_of_length_le (Nat.le_refl _)]
  · intro hf; have := hlive _ hf; omega
  · exact prefix_of fun o y hy => aw (by have := at_lt hy; omega) (by have := at_lt hy; omega) (pre_at h.pre hy)
  · intro o y hf hy
    exact aw (fun e => e4 (e ▸ hf)) (fun e => h.out.2.2.2 (e ▸ hf)) hy
/-- the last edge away -/
theorem WSt.pop {x : Int} (h : WSt HB vW v n pw pe pg pf F H (ed ++ [x])) :
    ∃ w c, cellA H pe 0 = some (.slice (some w) (ed.length + 1) c) ∧ sliceA Tryz.prog 38 (.slice (some w) (ed.length + 1) c) none (some (.int .i64 (ed.length : Int))) none H = some (.slice (some w) ed.length ed.length) ∧
      ∃ H3, storeA Tryz.prog 38 (.pointer (some ⟨pe, 0, none⟩)) (.slice (some w) ed.length ed.length) H = some H3 ∧ WSt HB vW v n pw pe pg pf F H3 ed ∧ (∀ o y, F o → H[o]? = some y → H3[o]? = some y) ∧ H3.length = H.length := by
  obtain ⟨oe, zs, e1, e2, e3, e4, e5, e6, e7, e8, e9⟩ := h.e
  have hl : (ed ++ [x]).length = ed.length + 1 := by simp
  rw [hl] at e1 e3
  have hz : zs.take ed.length = ed := by
    have := congrArg (List.take ed.length) e3
    rw [List.take_take, Nat.min_eq_left (by omega)] at this
    simpa using this
  have hsl := sl_own (P := Tryz.prog) (t := 38) (k := 0) (n := ed.length + 1) (c := ed.length + 1) Tryz.underlying38 cs3 e2 lo_none (bound_some (k := .i64) (i := (ed.length : Int)) (by omega) (ed.length + 1)) (Nat.zero_le _) (by omega)
  simp only [Int.toNat_natCast, Nat.add_zero, Nat.sub_zero] at hsl
  have hst := st_at (P := Tryz.prog) (t := 38) (i := 0) (y := .slice (some ⟨oe, 0, none⟩) ed.length ed.length) cs38 e1 (by show 0 < 1; decide) rfl rfl
  have aw : ∀ {o y}, o ≠ pe → H[o]? = some y → (H.set pe (.cells ([Value.slice (some ⟨oe, 0, none⟩) (ed.length + 1) (ed.length + 1)].set 0 (.slice (some ⟨oe, 0, none⟩) ed.length ed.length)) 38 false))[o]? = some y := by
    intro o y ho hy
    rw [List.getElem?_set_ne (fun e => ho e.symm)]; exact hy
  have lo := h.lo
  refine ⟨_, _, cell_of e1 0, hsl, _, hst, ⟨aw (fun e => h.ne.1 e.symm) h.w, aw (fun e => h.ne.2.1 e.symm) h.g, aw (fun e => h.ne.2.2 e.symm) h.f, ⟨oe, zs, ?_, aw e8 e2, hz, e4, e5, e6, e7, e8, e9⟩, h.ne, h.out, h.lo, ?_⟩, fun o y hf hy => aw (fun e => h.out.2.2.2 (e ▸ hf)) hy, by simp⟩
  · rw [List.getElem?_set_self (at_lt e1)]; rfl
  · exact prefix_of fun o y hy => aw (by have := at_lt hy; omega) (pre_at h.pre hy)
end
theorem box_func (H : AH) (f : Fn) (fs caps : Array Value) : boxA Tryz.prog 80 (.func f fs caps) H = some (.pointer (some ⟨H.length, 0, none⟩), H ++ [.cells [.func f fs caps] 80 false]) := by kernel_rfl
theorem alloc_sl (H : AH) : allocA Tryz.prog 38 H = some (.pointer (some ⟨H.length, 0, none⟩), H ++ [.cells [.slice none 0 0] 38 false]) := by kernel_rfl
theorem alloc_fn (H : AH) : allocA Tryz.prog 161 H = some (.pointer (some ⟨H.length, 0, none⟩), H ++ [.cells [.nilFunc] 161 false]) := by kernel_rfl
theorem csF : Tryz.prog.cellsOf 161 = 1 := by kernel_rfl
theorem agF : isAggA Tryz.prog 161 = some false := by kernel_rfl
theorem agW : isAggA Tryz.prog 80 = some false := by kernel_rfl
theorem mkf_4 (f : Fn) (p q r t : Option Addr) : makeFuncA f [] [.pointer p, .pointer q, .pointer r, .pointer t] = some (.func f #[] (List.toArray [.pointer p, .pointer q, .pointer r, .pointer t])) := rfl
theorem frE_or {es : List (Int × Int)} {ed : List Int} {e : Int} {x y : Nat} (ex : ed1 es e = x) (ey : ed2 es e = y) : frE es ed e ↔ ¬ ((x : Int) ∈ seenL es ed ∨ (y : Int) ∈ seenL es ed) := by
  unfold frE
  rw [ex, ey, not_or]
set_option maxRecDepth 20000 in
set_option maxHeartbeats 4000000 in
theorem from_c {σ : Type} {HB : AH} {fW : FuncId} {caps : List Value} {I IF : σ → (Nat → Prop) → AH → Prop} {cb : σ → List Int → σ × Bool} (hc : CbOk HB fW caps I IF cb) (v : Value) (n : Int) (es : List (Int × Int)) (hr : RowP 83 HB v es) (hlen : es.length ≤ 1048576) (hg : Grd n es) (pw pe pg pf : Nat) :
    ∀ (k : Nat) (ed : List Int) (s : σ) (F : Nat → Prop) (H : AH) (b : Nat), k ≤ es.length → ed.length + k ≤ es.length → I s F H → WSt HB (.func (.func fW) #[] (List.toArray caps)) v n pw pe pg pf F H ed → Bits b 8 (seenL es ed) →
      ACalls Tryz.prog 168 [.int .i64 ((es.length - k : Nat) : Int), .int .u64 ((b : Nat) : Int), .pointer (some ⟨pw, 0, none⟩), .pointer (some ⟨pe, 0, none⟩), .pointer (some ⟨pg, 0, none⟩), .pointer (some ⟨pf, 0, none⟩)] H fun r H' =>
        r = .bool (sfold cb (ed :: mall es k ed) s).2 ∧ HB <+: H' ∧ ∃ F', IF (sfold cb (ed :: mall es k ed) s).1 F' H' ∧ ((sfold cb (ed :: mall es k ed) s).2 = true → I (sfold cb (ed :: mall es k ed) s).1 F' H' ∧ WSt HB (.func (.func fW) #[] (List.toArray caps)) v n pw pe pg pf F' H' ed) := by
  intro k
  induction k using Nat.strongRecOn with
  | ind k ih =>
  intro ed s F H b hk hek hI hW hb
  refine in168 rfl ?_
  intro Q hQ
  obtain ⟨oe, zs, e1, e2, e3, e4, e5⟩ := hW.e
  have hrow : Row 3 H (.slice (some ⟨oe, 0, none⟩) ed.length ed.length) ed := by
    have hzl : ed.length ≤ zs.length := by
      have := congrArg List.length e3
      rw [List.length_take] at this; omega
    refine .inr ⟨oe, 0, ints zs, false, rfl, e2, by rw [ints_len]; omega, ?_⟩
    rw [List.drop_zero]
    have : (ints zs).take ed.length = ints (zs.take ed.length) := by simp [ints, List.map_take]
    rw [this, e3]
  have hlv : ∀ o, F o → HB.length ≤ o := fun o ho => (hc.live hI ho).2
  simp (maxSteps := 1000000) (disch := omega) only [cd168, ld_one agW, cell_of hW.w, cell_of e1, S, S1, S2, S3, S4, S5, ST, eq_self, reduceIte, reduceCtorEq, Nat.reduceEqDiff, Nat.reduceAdd]
  refine CallH.by (hc.call hI hrow (.inr e4) (by omega) hW.pre) ?_
  rintro _ H1 ⟨rfl, ⟨F1, hI1, hIt, hF1⟩, hk1⟩
  have hW1 := hW.cb hlv hF1 hk1
  have hfold : sfold cb (ed :: mall es k ed) s = if (cb s ed).2 = true then sfold cb (mall es k ed) (cb s ed).1 else ((cb s ed).1, false) := rfl
  simp (maxSteps := 1000000) (disch := omega) only [S, S1, S2, S3, S4, S5, ST, eq_self, reduceIte, reduceCtorEq, Nat.reduceEqDiff, Nat.reduceAdd]
  refine brH.intro (fun g0 => ?_) (fun g0 => ?_)
  rotate_left
  · simp (maxSteps := 1000000) (disch := omega) only [g0, S, S1, S2, S3, S4, S5, ST, eq_self, reduceIte, reduceCtorEq, Nat.reduceEqDiff, Nat.reduceAdd]
    refine hQ _ _ _ ?_
    simp (maxSteps := 1000000) (disch := omega) only [S, S1, S2, S3, S4, S5, ST, eq_self, reduceIte, reduceCtorEq, Nat.reduceEqDiff, Nat.reduceAdd]
    rw [hfold, if_neg (by rw [g0]; decide)]
    exact ⟨rfl, hW1.pre, F1, hI1, fun h => by cases h⟩
  replace hI1 := hIt g0
  rw [if_pos g0] at hfold
  rw [hfold] at hQ
  generalize hs1 : (cb s ed).1 = s1 at *
  simp (maxSteps := 1000000) (disch := omega) only [g0, S, S1, S2, S3, S4, S5, ST, eq_self, reduceIte, reduceCtorEq, Nat.reduceEqDiff, Nat.reduceAdd]
  refine LoopH.by (fun m st H' => ∃ s' F', m ≤ k ∧ st 0 = .int .i64 ((es.length - m : Nat) : Int) ∧ st 1 = .int .u64 ((b : Nat) : Int) ∧ st 2 = .pointer (some ⟨pw, 0, none⟩) ∧ st 3 = .pointer (some ⟨pe, 0, none⟩) ∧ st 4 = .pointer (some ⟨pg, 0, none⟩) ∧ st 5 = .pointer (some ⟨pf, 0, none⟩) ∧ I s' F' H' ∧ WSt HB (.func (.func fW) #[] (List.toArray caps)) v n pw pe pg pf F' H' ed ∧ sfold cb (mall es k ed) s1 = sfold cb (mall es m ed) s') k ?_ ?_
  · exact ⟨s1, F1, Nat.le_refl _, rfl, rfl, rfl, rfl, rfl, rfl, hI1, hW1, rfl⟩
  rintro m st H' ⟨s', F', hmk, h0, h1, h2, h3, h4, h5, hI', hW', hS⟩
  have hrH := hr.pre hW'.pre
  simp (maxSteps := 1000000) (disch := omega) only [h0, h1, h2, h3, h4, h5, cell_of hW'.g, hrH.len Tryz.underlying22, S, S1, S2, S3, S4, S5, ST, eq_self, reduceIte, reduceCtorEq, Nat.reduceEqDiff, Nat.reduceAdd]
  refine brD.intro (fun g => ?_) (fun g => ?_)
  rotate_left
  · have hm0 : m = 0 := by omega
    subst hm0
    simp (maxSteps := 1000000) (disch := omega) only [S, S1, S2, S3, S4, S5, ST, eq_self, reduceIte, reduceCtorEq, Nat.reduceEqDiff, Nat.reduceAdd]
    refine hQ _ _ _ ?_
    simp (maxSteps := 1000000) (disch := omega) only [S, S1, S2, S3, S4, S5, ST, eq_self, reduceIte, reduceCtorEq, Nat.reduceEqDiff, Nat.reduceAdd]
    rw [hS]
    exact ⟨rfl, hW'.pre, F', hc.fin hI', fun _ => ⟨hI', hW'⟩⟩
  obtain ⟨i, rfl⟩ : ∃ i, m = i + 1 := ⟨m - 1, by omega⟩
  have hei : es.length - (i + 1) < es.length := by omega
  have he1 : ((es.length - (i + 1) : Nat) : Int) + 1 = ((es.length - i : Nat) : Int) := by omega
  obtain ⟨x, y, ex, ey, hxy, hyn, hy8⟩ := grd_ed hg hei
  have hb64 : b < 2 ^ 64 := Nat.lt_of_lt_of_le hb.1 (by decide)
  have hx64 : 2 ^ x < 2 ^ 64 := Nat.pow_lt_pow_right (by decide) (by omega)
  have hy64 : 2 ^ y < 2 ^ 64 := Nat.pow_lt_pow_right (by decide) (by omega)
  have k1 := bin_shl Tryz.prog 109 x (by omega)
  have k2 := bin_shl Tryz.prog 109 y (by omega)
  have k3 := bin_or Tryz.prog 109 (2 ^ x) (2 ^ y) hx64 hy64
  have k4 := bin_and Tryz.prog 109 b (2 ^ x ||| 2 ^ y) hb64 (Nat.or_lt_two_pow hx64 hy64)
  have k5 := bin_or Tryz.prog 109 b (2 ^ x ||| 2 ^ y) hb64 (Nat.or_lt_two_pow hx64 hy64)
  have l0 := hrH.cell0 hei
  have l1 := hrH.cell1 hei
  rw [ex] at l0
  rw [ey] at l1
  have hno := hb.no (x := x) (y := y) (by omega) hy8
  have hor := hb.or2 (x := x) (y := y) (by omega) hy8
  generalize he : es.length - (i + 1) = e at *
  have ex' : ed1 es (e : Int) = x := by unfold ed1; rw [Int.toNat_natCast]; exact ex
  have ey' : ed2 es (e : Int) = y := by unfold ed2; rw [Int.toNat_natCast]; exact ey
  have hfr := frE_or (ed := ed) ex' ey'
  have hst := seenL_snoc es ed (e : Int)
  rw [ex', ey'] at hst
  rw [← hst] at hor
  have hmall : mall es (i + 1) ed = (if frE es ed (e : Int) then (ed ++ [(e : Int)]) :: mall es i (ed ++ [(e : Int)]) else []) ++ mall es i ed := by rw [mall, he]
  simp (maxSteps := 1000000) (disch := omega) only [h0, h1, h2, h3, h4, h5, cell_of hW'.g, hrH.ix Tryz.underlying22 cs83, Int.toNat_natCast, l0, l1, k1, k2, k3, k4, wrap64, S, S1, S2, S3, S4, S5, ST, eq_self, reduceIte, reduceCtorEq, Nat.reduceEqDiff, Nat.reduceAdd]
  refine brD.intro (fun q => ?_) (fun q => ?_) <;> simp (maxSteps := 1000000) (disch := omega) only [h0, h1, h2, h3, h4, h5, he1, wrap64, S, S1, S2, S3, S4, S5, ST, eq_self, reduceIte, reduceCtorEq, Nat.reduceEqDiff, Nat.reduceAdd]
  · have q' : b &&& (2 ^ x ||| 2 ^ y) ≠ 0 := by intro h; rw [h] at q; exact q rfl
    rw [if_neg (fun h => (hfr.1 h) (hno.1 q')), List.nil_append] at hmall
    rw [hmall] at hS
    refine ⟨i, by omega, s', F', by omega, ?_⟩
    (repeat' first | exact hI' | exact hW' | exact hS | apply And.intro) <;> first | (simp only [Value.int.injEq, true_and]; omega) | omega | rfl | assumption | (simp; done) | (simp; omega)
  · have q' : ¬ (b &&& (2 ^ x ||| 2 ^ y) ≠ 0) := by intro h; apply h; have := Decidable.not_not.1 q; exact_mod_cast this
    have hfr' : frE es ed (e : Int) := hfr.2 (fun h => q' (hno.2 h))
    rw [if_pos hfr'] at hmall
    rw [hmall, sfold_append] at hS
    obtain ⟨w, H2, H3, p1, p2, p3, hW3, hk3, hl3⟩ := hW'.push (fun o ho => (hc.live hI' ho).1) (by omega) (e : Int)
    have hI3 := hc.keep hI' hk3
    simp (maxSteps := 1000000) (disch := omega) only [h0, h1, h2, h3, h4, h5, p1, p2, p3, ld_one agF, cell_of hW3.f, k5, he1, wrap64, S, S1, S2, S3, S4, S5, ST, eq_self, reduceIte, reduceCtorEq, Nat.reduceEqDiff, Nat.reduceAdd]
    refine CallH.by (ih i (by omega) (ed ++ [(e : Int)]) s' F' H3 (b ||| (2 ^ x ||| 2 ^ y)) (by omega) (by simp; omega) hI3 hW3 hor) ?_
    rintro _ H4 ⟨rfl, hp4, F4, hI4, hW4⟩
    generalize hX : sfold cb ((ed ++ [(e : Int)]) :: mall es i (ed ++ [(e : Int)])) s' = X at *
    simp (maxSteps := 1000000) (disch := omega) only [S, S1, S2, S3, S4, S5, ST, eq_self, reduceIte, reduceCtorEq, Nat.reduceEqDiff, Nat.reduceAdd]
    refine brH.intro (fun g2 => ?_) (fun g2 => ?_)
    · obtain ⟨hI4', hW4'⟩ := hW4 g2
      obtain ⟨w4, c4, r1, r2, H5, r3, hW5, hk5, hl5⟩ := hW4'.pop
      have hI5 := hc.keep hI4' hk5
      rw [if_pos g2] at hS
      have hcl : ((ed.length + 1 : Nat) : Int) - 1 = (ed.length : Int) := by omega
      simp (maxSteps := 1000000) (disch := omega) only [g2, h0, h1, h2, h3, h4, h5, r1, hcl, r2, r3, he1, wrap64, S, S1, S2, S3, S4, S5, ST, eq_self, reduceIte, reduceCtorEq, Nat.reduceEqDiff, Nat.reduceAdd]
      refine ⟨i, by omega, X.1, F4, by omega, ?_⟩
      (repeat' first | exact hI5 | exact hW5 | exact hS | apply And.intro) <;> first | (simp only [Value.int.injEq, true_and]; omega) | omega | rfl | assumption | (simp; done) | (simp; omega)
    · simp (maxSteps := 1000000) (disch := omega) only [g2, S, S1, S2, S3, S4, S5, ST, eq_self, reduceIte, reduceCtorEq, Nat.reduceEqDiff, Nat.reduceAdd]
      refine hQ _ _ _ ?_
      simp (maxSteps := 1000000) (disch := omega) only [S, S1, S2, S3, S4, S5, ST, eq_self, reduceIte, reduceCtorEq, Nat.reduceEqDiff, Nat.reduceAdd]
      rw [if_neg (by rw [g2]; decide)] at hS
      rw [hS, g2]
      exact ⟨rfl, hp4, F4, hI4, fun h => by cases h⟩
set_option maxRecDepth 20000 in
set_option maxHeartbeats 1000000 in
theorem matchings_c {σ : Type} {HB : AH} {fW : FuncId} {caps : List Value} {I IF : σ → (Nat → Prop) → AH → Prop} {cb : σ → List Int → σ × Bool} (hc : CbOk HB fW caps I IF cb) (v : Value) (n : Int) (es : List (Int × Int)) (hr : RowP 83 HB v es) (hlen : es.length ≤ 1048576) (hg : Grd n es)
    (s : σ) (F : Nat → Prop) (H : AH) (hI : I s F H) (hp : HB <+: H) :
    ACalls Tryz.prog 131 [.agg (List.toArray [.int .i64 n, v]), .func (.func fW) #[] (List.toArray caps)] H fun r H' => HB <+: H' ∧ ∃ F', IF (sfold cb ([] :: mall es es.length []) s).1 F' H' := by
  refine in131 rfl ?_
  intro Q hQ
  have hrH := hr.pre hp
  simp (maxSteps := 1000000) (disch := omega) only [cd131, hrH.boxG, box_func, alloc_sl, alloc_fn, S, S1, S2, S3, S4, S5, ST, eq_self, reduceIte, reduceCtorEq, Nat.reduceEqDiff, Nat.reduceAdd]
  generalize hA : H ++ [AObj.cells [.int .i64 n, v] 31 false] = A
  have pA : H <+: A := by rw [← hA]; exact List.prefix_append _ _
  have cA : A[H.length]? = some (.cells [.int .i64 n, v] 31 false) := by rw [← hA]; exact at_new ..
  have rA := hrH.pre pA
  generalize hW0 : A ++ [AObj.cells [.func (.func fW) #[] (List.toArray caps)] 80 false] = W
  have pW : A <+: W := by rw [← hW0]; exact List.prefix_append _ _
  have cW : W[A.length]? = some (.cells [.func (.func fW) #[] (List.toArray caps)] 80 false) := by rw [← hW0]; exact at_new ..
  generalize hZ : W ++ [AObj.cells [] 3 false] = Z
  have pZ : W <+: Z := by rw [← hZ]; exact List.prefix_append _ _
  have cZ : Z[W.length]? = some (.cells (ints []) 3 false) := by rw [← hZ]; exact at_new ..
  have st1 := st_at (P := Tryz.prog) (t := 38) (i := 0) (y := .slice (some ⟨W.length, 0, none⟩) 0 0) cs38 (at_new Z (.cells [.slice none 0 0] 38 false)) (by show 0 < 1; decide) rfl rfl
  rw [set_new, List.set_cons_zero] at st1
  simp (maxSteps := 1000000) (disch := omega) only [st1, S, S1, S2, S3, S4, S5, ST, eq_self, reduceIte, reduceCtorEq, Nat.reduceEqDiff, Nat.reduceAdd]
  generalize hE : Z ++ [AObj.cells [.slice (some ⟨W.length, 0, none⟩) 0 0] 38 false] = E
  have pE : Z <+: E := by rw [← hE]; exact List.prefix_append _ _
  have cE : E[Z.length]? = some (.cells [.slice (some ⟨W.length, 0, none⟩) 0 0] 38 false) := by rw [← hE]; exact at_new ..
  have st2 := st_at (P := Tryz.prog) (t := 161) (i := 0) (y := .func (.func 168) #[] (List.toArray [.pointer (some ⟨A.length, 0, none⟩), .pointer (some ⟨Z.length, 0, none⟩), .pointer (some ⟨H.length, 0, none⟩), .pointer (some ⟨E.length, 0, none⟩)])) csF (at_new E (.cells [.nilFunc] 161 false)) (by show 0 < 1; decide) rfl rfl
  rw [set_new, List.set_cons_zero] at st2
  simp (maxSteps := 1000000) (disch := omega) only [alloc_fn, mkf_4, st2, ld_one agF, cell_new, S, S1, S2, S3, S4, S5, ST, eq_self, reduceIte, reduceCtorEq, Nat.reduceEqDiff, Nat.reduceAdd]
  generalize hG : E ++ [AObj.cells [.func (.func 168) #[] (List.toArray [.pointer (some ⟨A.length, 0, none⟩), .pointer (some ⟨Z.length, 0, none⟩), .pointer (some ⟨H.length, 0, none⟩), .pointer (some ⟨E.length, 0, none⟩)])] 161 false] = G
  have pG : E <+: G := by rw [← hG]; exact List.prefix_append _ _
  have cG : G[E.length]? = some (.cells [.func (.func 168) #[] (List.toArray [.pointer (some ⟨A.length, 0, none⟩), .pointer (some ⟨Z.length, 0, none⟩), .pointer (some ⟨H.length, 0, none⟩), .pointer (some ⟨E.length, 0, none⟩)])] 161 false) := by rw [← hG]; exact at_new ..
  have lA : A.length = H.length + 1 := by rw [← hA]; simp
  have lW : W.length = A.length + 1 := by rw [← hW0]; simp
  have lZ : Z.length = W.length + 1 := by rw [← hZ]; simp
  have lE : E.length = Z.length + 1 := by rw [← hE]; simp
  have lHB := hp.length_le
  have pHG := pA.trans (pW.trans (pZ.trans (pE.trans pG)))
  have hI2 := hc.keep hI (fun o y _ hy => pre_at pHG hy)
  have nF : ∀ {o}, H.length ≤ o → ¬ F o := fun ho hf => by have := (hc.live hI hf).1; omega
  have hW2 : WSt HB (.func (.func fW) #[] (List.toArray caps)) v n A.length Z.length H.length E.length F G [] :=
    ⟨pre_at (pZ.trans (pE.trans pG)) cW, pre_at (pW.trans (pZ.trans (pE.trans pG))) cA, cG, ⟨W.length, [], pre_at pG cE, pre_at (pE.trans pG) cZ, rfl, nF (by omega), by omega, by omega, by omega, by omega, by omega⟩, ⟨by omega, by omega, by omega⟩, ⟨nF (by omega), nF (by omega), nF (by omega), nF (by omega)⟩, ⟨by omega, by omega, by omega, by omega⟩, hp.trans pHG⟩
  have hf := from_c hc v n es hr hlen hg A.length Z.length H.length E.length es.length [] s F G 0 (Nat.le_refl _) (by simp) hI2 hW2 ⟨by decide, fun z _ => by simp [seenL]⟩
  have z0 : ((0 : Nat) : Int) = 0 := rfl
  rw [Nat.sub_self, z0] at hf
  refine CallH.by hf ?_
  rintro _ H' ⟨rfl, hp', F', hI', _⟩
  simp (maxSteps := 1000000) (disch := omega) only [S, S1, S2, S3, S4, S5, ST, eq_self, reduceIte, reduceCtorEq, Nat.reduceEqDiff, Nat.reduceAdd]
  refine hQ _ _ _ ?_
  simp (maxSteps := 1000000) (disch := omega) only [S, S1, S2, S3, S4, S5, ST, eq_self, reduceIte, reduceCtorEq, Nat.reduceEqDiff, Nat.reduceAdd]
  exact ⟨hp', F', hI'⟩
end Go.Proofs.YtlfongfhbkefmaaGreat.Ai
namespace Go.Proofs.YtlfongfhbkefmaaGreat.Ai
open Go
def ords132 : List (Nat × List (Nat × Bool)) := [(2, [(0, false), (1, false), (2, true), (3, false), (4, true), (5, true)])]
def cd132 : Cd := (.seq (.reg [⟨⟨some 4, Op.assign (Operand.const (Value.bool false)), none⟩, []⟩]) (.seq (.seq (.reg [⟨⟨some 5, Op.move (Operand.tmp 0), none⟩, []⟩,
  ⟨⟨some 6, Op.call { callee := (Callee.builtin Builtin.len), args := #[(Operand.tmp 5)], argTypes := #[38] }, none⟩, []⟩,
  ⟨⟨some 7, Op.load 3 (Operand.tmp 1), none⟩, []⟩,
  ⟨⟨some 8, Op.binOp BinOp.eql 3 (Operand.tmp 6) (Operand.tmp 7) 3, none⟩, []⟩]) (.cond (Operand.tmp 8) (.reg [⟨⟨some 9, Op.load 26 (Operand.tmp 2), none⟩, []⟩,
  ⟨⟨some 10, Op.move (Operand.tmp 0), none⟩, []⟩,
  ⟨⟨some 11, Op.call { callee := (Callee.value (Operand.func 77)), args := #[(Operand.tmp 10)], argTypes := #[38] }, none⟩, [⟨some 9, Op.load 26 (Operand.tmp 2), none⟩]⟩,
  ⟨⟨some 12, Op.buildSlice 26 1 #[(0, (Operand.tmp 11))], none⟩, []⟩,
  ⟨⟨some 13, Op.call { callee := (Callee.builtin Builtin.append), args := #[(Operand.tmp 9), (Operand.tmp 12)], argTypes := #[26, 26] }, none⟩, []⟩,
  ⟨⟨none, Op.store 26 (Operand.tmp 2) (Operand.tmp 13), none⟩, []⟩]) .skip)) (.seq (.reg [⟨⟨some 14, Op.load 26 (Operand.tmp 2), none⟩, []⟩,
  ⟨⟨some 15, Op.call { callee := (Callee.builtin Builtin.len), args := #[(Operand.tmp 14)], argTypes := #[26] }, none⟩, []⟩,
  ⟨⟨some 16, Op.binOp BinOp.leq 3 (Operand.tmp 15) (Operand.const (Value.int IntKind.i64 300)) 3, none⟩, []⟩,
  ⟨⟨some 4, Op.assign (Operand.tmp 16), none⟩, []⟩]) .ret)))
theorem sl132 : slim Tryz.f132.ntmps ords132 (Tryz.f132.body.getD .skip) = some cd132 := by kernel_rfl
theorem in132 {args : List Value} {H : AH} {R : Value → AH → Prop} (hl : args.length = 3) (h : ∀ (Q : Exit → Sl → AH → Prop), (∀ e s H, endA Tryz.prog [ResultVar.tmp 4] R e s H → Q e s H) → wpC Tryz.prog cd132 Q (enterA args) H) : ACalls Tryz.prog 132 args H R :=
  ACalls.intro (by kernel_rfl) Tryz.func132 rfl (by kernel_rfl) sl132 hl (of_decide_eq_true (by kernel_rfl)) (by kernel_rfl) h
def ords92 : List (Nat × List (Nat × Bool)) := []
def cd92 : Cd := (.seq (.reg [⟨⟨some 2, Op.box 31 (Operand.tmp 0), none⟩, []⟩,
  ⟨⟨some 3, Op.box 3 (Operand.tmp 1), none⟩, []⟩,
  ⟨⟨some 4, Op.assign (Operand.const (Value.slice none 0 0)), none⟩, []⟩]) (.seq (.reg [⟨⟨some 6, Op.buildSlice 26 0 #[], none⟩, []⟩,
  ⟨⟨some 5, Op.alloc 26, none⟩, []⟩,
  ⟨⟨none, Op.store 26 (Operand.tmp 5) (Operand.tmp 6), none⟩, []⟩]) (.seq (.reg [⟨⟨some 7, Op.load 31 (Operand.tmp 2), none⟩, []⟩,
  ⟨⟨some 8, Op.makeFunc (Fn.func 132) #[] #[(Operand.tmp 3), (Operand.tmp 5)], none⟩, []⟩,
  ⟨⟨some 9, Op.call { callee := (Callee.value (Operand.func 131)), args := #[(Operand.tmp 7), (Operand.tmp 8)], argTypes := #[31, 80] }, none⟩, []⟩]) (.seq (.reg [⟨⟨some 10, Op.load 26 (Operand.tmp 5), none⟩, []⟩,
  ⟨⟨some 4, Op.assign (Operand.tmp 10), none⟩, []⟩]) .ret))))
theorem sl92 : slim Tryz.f92.ntmps ords92 (Tryz.f92.body.getD .skip) = some cd92 := by kernel_rfl
theorem in92 {args : List Value} {H : AH} {R : Value → AH → Prop} (hl : args.length = 2) (h : ∀ (Q : Exit → Sl → AH → Prop), (∀ e s H, endA Tryz.prog [ResultVar.tmp 4] R e s H → Q e s H) → wpC Tryz.prog cd92 Q (enterA args) H) : ACalls Tryz.prog 92 args H R :=
  ACalls.intro (by kernel_rfl) Tryz.func92 rfl (by kernel_rfl) sl92 hl (of_decide_eq_true (by kernel_rfl)) (by kernel_rfl) h
end Go.Proofs.YtlfongfhbkefmaaGreat.Ai
namespace Go.Proofs.YtlfongfhbkefmaaGreat.Ai
open Go Go.RowKit
set_option linter.unusedVariables false
set_option linter.unusedSimpArgs false
/-- the objects of a list of lists -/
def Objs (o : Nat) (us : List Value) (ls : List (List Int)) (j : Nat) : Prop := j = o ∨ ∃ i, i < ls.length ∧ us.getD i undef ≠ .slice none 0 0 ∧ j = rowO (us.getD i undef)
theorem InU.refit {lo hi : Nat} {e2 e : TypeId} {H H' : AH} {o : Nat} {us : List Value} {ls : List (List Int)} (h : InU lo hi e2 e H o us ls) (hk : ∀ j y, Objs o us ls j → H[j]? = some y → H'[j]? = some y) : InU lo H'.length e2 e H' o us ls := by
  obtain ⟨h1, h2, h3, h4, h5, h6⟩ := h
  have k3 := hk _ _ (.inl rfl) h3
  refine ⟨h1, at_lt k3, k3, h4, fun i hi => ⟨?_, (h5 i hi).2⟩, h6⟩
  rcases (h5 i hi).1 with g | ⟨oo, zs, g1, g2, g3, g4, g5⟩
  · exact .inl g
  · have := hk oo _ (.inr ⟨i, hi, (by rw [g1]; intro e; cases e), (by rw [g1]; rfl)⟩) g4
    exact .inr ⟨oo, zs, g1, g2, at_lt this, this, g5⟩
theorem InU.objs {lo hi : Nat} {e2 e : TypeId} {H : AH} {o : Nat} {us : List Value} {ls : List (List Int)} (h : InU lo hi e2 e H o us ls) {j : Nat} (hj : Objs o us ls j) : lo ≤ j ∧ j < hi := by
  obtain ⟨h1, h2, h3, h4, h5, h6⟩ := h
  rcases hj with rfl | ⟨i, hi, hn, rfl⟩
  · exact ⟨h1, h2⟩
  · rcases (h5 i hi).1.at_ with g | g
    · exact absurd g hn
    · exact g
def szCb (k : Nat) (out : List (List Int)) (x : List Int) : List (List Int) × Bool :=
  if x.length = k then (out ++ [x], decide ((out ++ [x]).length ≤ 300)) else (out, decide (out.length ≤ 300))
theorem sfold_sz (k : Nat) : ∀ (l : List (List Int)) (out : List (List Int)), out.length ≤ 300 → sfold (szCb k) l out = ((out ++ l.filter fun x => decide (x.length = k)).take 301, decide ((out ++ l.filter fun x => decide (x.length = k)).length ≤ 300))
  | [], out, h => by simp only [sfold, List.filter_nil, List.append_nil]; rw [List.take_of_length_le (by omega), decide_eq_true h]
  | x :: l, out, h => by
    rw [sfold]
    by_cases hx : x.length = k
    · have hf : (x :: l).filter (fun x => decide (x.length = k)) = x :: l.filter (fun x => decide (x.length = k)) := by rw [List.filter_cons, if_pos (by simpa using hx)]
      have hc : szCb k out x = (out ++ [x], decide ((out ++ [x]).length ≤ 300)) := by unfold szCb; rw [if_pos hx]
      rw [hc, hf]
      have happ : out ++ x :: l.filter (fun x => decide (x.length = k)) = (out ++ [x]) ++ l.filter (fun x => decide (x.length = k)) := by simp
      rw [happ]
      by_cases h2 : (out ++ [x]).length ≤ 300
      · rw [if_pos (by simpa using h2)]
        exact sfold_sz k l _ h2
      · rw [if_neg (by simpa using h2)]
        have hl : (out ++ [x]).length = 301 := by simp at h2 ⊢; omega
        rw [List.take_append_of_le_length (by omega), List.take_of_length_le (by omega), decide_eq_false h2]
        congr 1
        rw [eq_comm, decide_eq_false_iff_not, List.length_append]; omega
    · have hf : (x :: l).filter (fun x => decide (x.length = k)) = l.filter (fun x => decide (x.length = k)) := by rw [List.filter_cons, if_neg (by simpa using hx)]
      have hc : szCb k out x = (out, decide (out.length ≤ 300)) := by unfold szCb; rw [if_neg hx]
      rw [hc, hf, if_pos (by simpa using h)]
      exact sfold_sz k l out h
/-- those found so far, in memory -/
def ISz (HB : AH) (pk po k : Nat) (out : List (List Int)) (F : Nat → Prop) (H : AH) : Prop :=
  ∃ o us, H[pk]? = some (.cells [.int .i64 (k : Int)] 3 false) ∧ H[po]? = some (.cells [.slice (some ⟨o, 0, none⟩) out.length out.length] 26 false) ∧ InU HB.length H.length 38 3 H o us out ∧ (HB.length ≤ pk ∧ HB.length ≤ po) ∧ pk ≠ po ∧ ¬ Objs o us out pk ∧ ¬ Objs o us out po ∧
    out.length ≤ 301 ∧ F = fun j => j = pk ∨ j = po ∨ Objs o us out j
theorem getD_app1 {us : List Value} {n i : Nat} {c : Value} (hn : n ≤ us.length) : (us.take n ++ [c]).getD i undef = if i < n then us.getD i undef else if i = n then c else undef := by
  rw [List.getD_eq_getElem?_getD, List.getElem?_append]
  have hl : (us.take n).length = n := by simp; omega
  rw [hl]
  split
  · rw [List.getElem?_take, if_pos (by assumption), List.getD_eq_getElem?_getD]
  · split
    · rename_i h; subst h; simp
    · rw [List.getElem?_eq_none (by simp; omega)]; rfl
theorem away_app {q o' : Nat} {us : List Value} {out : List (List Int)} {c : Value} {xs : List Int} (hu : out.length ≤ us.length) (h : ∀ i, i < out.length → us.getD i undef = .slice none 0 0 ∨ rowO (us.getD i undef) ≠ q) (hc : c = .slice none 0 0 ∨ rowO c ≠ q) (ho : o' ≠ q) : Away q o' (us.take out.length ++ [c]) (out ++ [xs]) := by
  refine ⟨ho, fun i hi => ?_⟩
  simp only [List.length_append, List.length_cons, List.length_nil] at hi
  rw [getD_app1 hu]
  split
  · exact h i (by assumption)
  · rw [if_pos (by omega)]; exact hc
set_option maxRecDepth 20000 in
set_option maxHeartbeats 2000000 in
theorem sz_ok (HB : AH) (pk po k : Nat) (hk : k ≤ 1000000) : CbOk HB 132 [.pointer (some ⟨pk, 0, none⟩), .pointer (some ⟨po, 0, none⟩)] (fun out F H => ISz HB pk po k out F H ∧ out.length ≤ 300) (fun out F H => ISz HB pk po k out F H) (szCb k) := by
  refine ⟨fun h => h.1, ?_, ?_, ?_⟩
  · rintro out F H j ⟨⟨o, us, h1, h2, h3, h4, h5, h6, h7, h8, rfl⟩, _⟩ hF
    have hF' : j = pk ∨ j = po ∨ Objs o us out j := hF
    rcases hF' with rfl | rfl | hj
    · exact ⟨at_lt h1, h4.1⟩
    · exact ⟨at_lt h2, h4.2⟩
    · have := h3.objs hj
      exact ⟨this.2, this.1⟩
  · rintro out F H H' ⟨⟨o, us, h1, h2, h3, h4, h5, h6, h7, h8, rfl⟩, h9⟩ hk
    exact ⟨⟨o, us, hk _ _ (.inl rfl) h1, hk _ _ (.inr (.inl rfl)) h2, h3.refit fun j y hj hy => hk _ _ (.inr (.inr hj)) hy, h4, h5, h6, h7, h8, rfl⟩, h9⟩
  · rintro out F H w xs ⟨⟨o, us, h1, h2, h3, h4, h5, h6, h7, h8, rfl⟩, h9⟩ hw hwF hl hp
    refine in132 rfl ?_
    intro Q hQ
    have ao : Away po o us out := ⟨fun e => h7 (.inl e.symm), fun i hi => by
      by_cases hn : us.getD i undef = .slice none 0 0
      · exact .inl hn
      · exact .inr fun e => h7 (.inr ⟨i, hi, hn, e.symm⟩)⟩
    simp (maxSteps := 1000000) (disch := omega) only [cd132, hw.len Tryz.underlying38, cell_of h1, S, S1, S2, S3, S4, S5, ST, eq_self, reduceIte, reduceCtorEq, Nat.reduceEqDiff, Nat.reduceAdd]
    refine brD.intro (fun g => ?_) (fun g => ?_)
    · have hxk : xs.length = k := by omega
      have hcb : szCb k out xs = (out ++ [xs], decide ((out ++ [xs]).length ≤ 300)) := by unfold szCb; rw [if_pos hxk]
      rw [hcb] at hQ
      simp (maxSteps := 1000000) (disch := omega) only [cell_of h2, S, S1, S2, S3, S4, S5, ST, eq_self, reduceIte, reduceCtorEq, Nat.reduceEqDiff, Nat.reduceAdd]
      refine CallH.by (Clone_c w xs H hw (by omega)) ?_
      rintro c C ⟨hcl, pC⟩
      have c2 := pre_at pC h2
      have c1 := pre_at pC h1
      have hinw := InI.of hcl.mine
      obtain ⟨H3, k1, k2, k3, k4⟩ := (h3.pre pC).app1 (P := Tryz.prog) (t2 := 26) Tryz.underlying26 cs38 (by rw [by38]; decide) zk38 hinw hp.length_le pC.length_le (Nat.le_refl _) (by omega)
      have hbs : buildSliceA Tryz.prog 26 1 [(0, c)] C = some (.slice (some ⟨C.length, 0, none⟩) 1 1, C ++ [.cells [c] 38 false]) := by
        obtain ⟨q, eq⟩ := hcl.row.shape
        rw [eq]
        exact bs1 Tryz.underlying26 cs38 ze38 ⟨by kernel_rfl, by kernel_rfl⟩ C rfl
      have lC := pC.length_le
      have l1 := at_lt h1
      have l2 := at_lt h2
      have d2 := k4 po _ (fun e => h7 (.inl e)) c2
      have d1 := k4 pk _ (fun e => h6 (.inl e)) c1
      have hst := st_at (P := Tryz.prog) (t := 26) (i := 0) (y := .slice (some ⟨C.length + 1, 0, none⟩) (out.length + 1) (out.length + 1)) cs26 d2 (by show 0 < 1; decide) rfl rfl
      have e2 : (H3.set po (.cells ([Value.slice (some ⟨o, 0, none⟩) out.length out.length].set 0 (.slice (some ⟨C.length + 1, 0, none⟩) (out.length + 1) (out.length + 1))) 26 false))[po]? = some (.cells [.slice (some ⟨C.length + 1, 0, none⟩) (out.length + 1) (out.length + 1)] 26 false) := by
        rw [List.getElem?_set_self (by omega)]; rfl
      simp (maxSteps := 1000000) (disch := omega) only [cell_of c2, hbs, k1, hst, cell_of e2, S, S1, S2, S3, S4, S5, ST, eq_self, reduceIte, reduceCtorEq, Nat.reduceEqDiff, Nat.reduceAdd]
      refine hQ _ _ _ ?_
      simp (maxSteps := 1000000) (disch := omega) only [S, S1, S2, S3, S4, S5, ST, eq_self, reduceIte, reduceCtorEq, Nat.reduceEqDiff, Nat.reduceAdd]
      have hal : (out ++ [xs]).length = out.length + 1 := by simp
      have hcO : c = .slice none 0 0 ∨ H.length ≤ rowO c := by
        rcases hcl with ⟨q, _⟩ | ⟨oc, q, hoc, _⟩
        · exact .inl q
        · exact .inr (by rw [q]; exact hoc)
      have hul := h3.2.2.2.1
      have aw2 : Away po (C.length + 1) (us.take out.length ++ [c]) (out ++ [xs]) := away_app hul ao.2 (hcO.imp id fun q => by omega) (by omega)
      have ak2 : Away pk (C.length + 1) (us.take out.length ++ [c]) (out ++ [xs]) := away_app hul (fun i hi => by
        by_cases hn : us.getD i undef = .slice none 0 0
        · exact .inl hn
        · exact .inr fun e => h6 (.inr ⟨i, hi, hn, e.symm⟩)) (hcO.imp id fun q => by omega) (by omega)
      have k2' := (k2.wide (Nat.le_refl _) (Nat.le_of_eq k3.symm) : InU HB.length H3.length 38 3 H3 _ _ _)
      have hnew : ISz HB pk po k (out ++ [xs]) (fun j => j = pk ∨ j = po ∨ Objs (C.length + 1) (us.take out.length ++ [c]) (out ++ [xs]) j) (H3.set po (.cells ([Value.slice (some ⟨o, 0, none⟩) out.length out.length].set 0 (.slice (some ⟨C.length + 1, 0, none⟩) (out.length + 1) (out.length + 1))) 26 false)) := by
        refine ⟨C.length + 1, us.take out.length ++ [c], ?_, by rw [hal]; exact e2, ?_, h4, h5, ?_, ?_, by rw [hal]; omega, rfl⟩
        · rw [List.getElem?_set_ne (fun e => h5 e.symm)]; exact d1
        · have := k2'.moveq aw2 (H' := H3.set po (.cells ([Value.slice (some ⟨o, 0, none⟩) out.length out.length].set 0 (.slice (some ⟨C.length + 1, 0, none⟩) (out.length + 1) (out.length + 1))) 26 false)) (fun j y hj hy => by rw [List.getElem?_set_ne (fun e => hj e.symm)]; exact hy)
          simpa using this
        · rintro (e | ⟨i, hi, hn, e⟩)
          · omega
          · rcases ak2.2 i hi with q | q
            · exact hn q
            · exact q e.symm
        · rintro (e | ⟨i, hi, hn, e⟩)
          · omega
          · rcases aw2.2 i hi with q | q
            · exact hn q
            · exact q e.symm
      refine ⟨?_, ⟨_, hnew, fun hok => ⟨hnew, by simpa using hok⟩, ?_⟩, ?_⟩
      · rw [Value.bool.injEq, decide_eq_decide, hal]; constructor <;> intro h <;> omega
      · rintro j (e | e | e | ⟨i, hi, hn, e⟩)
        · exact .inl (.inl e)
        · exact .inl (.inr (.inl e))
        · exact .inr (by omega)
        · rw [getD_app1 hul] at hn e
          simp only [List.length_append, List.length_cons, List.length_nil] at hi
          by_cases hi2 : i < out.length
          · rw [if_pos hi2] at hn e
            exact .inl (.inr (.inr (.inr ⟨i, hi2, hn, e⟩)))
          · rw [if_neg hi2, if_pos (by omega)] at hn e
            rcases hcO with q | q
            · exact absurd q hn
            · exact .inr (by omega)
      · intro j y hj hy
        rw [List.getElem?_set_ne (fun e => hj (.inr (.inl e.symm)))]
        exact k4 j y (fun e => hj (.inr (.inr (.inl e)))) (pre_at pC hy)
    · have hcb : szCb k out xs = (out, decide (out.length ≤ 300)) := by unfold szCb; rw [if_neg (by omega)]
      rw [hcb] at hQ
      simp (maxSteps := 1000000) (disch := omega) only [cell_of h2, S, S1, S2, S3, S4, S5, ST, eq_self, reduceIte, reduceCtorEq, Nat.reduceEqDiff, Nat.reduceAdd]
      refine hQ _ _ _ ?_
      simp (maxSteps := 1000000) (disch := omega) only [S, S1, S2, S3, S4, S5, ST, eq_self, reduceIte, reduceCtorEq, Nat.reduceEqDiff, Nat.reduceAdd]
      have hI : ISz HB pk po k out (fun j => j = pk ∨ j = po ∨ Objs o us out j) H := ⟨o, us, h1, h2, h3, h4, h5, h6, h7, h8, rfl⟩
      refine ⟨?_, ⟨_, hI, fun _ => ⟨hI, h9⟩, fun o ho => .inl ho⟩, fun o y _ hy => hy⟩
      rw [Value.bool.injEq, decide_eq_decide]; constructor <;> intro h <;> omega
theorem box_int (H : AH) (k : Int) : boxA Tryz.prog 3 (.int .i64 k) H = some (.pointer (some ⟨H.length, 0, none⟩), H ++ [.cells [.int .i64 k] 3 false]) := by kernel_rfl
theorem alloc_ll (H : AH) : allocA Tryz.prog 26 H = some (.pointer (some ⟨H.length, 0, none⟩), H ++ [.cells [.slice none 0 0] 26 false]) := by kernel_rfl
theorem mkf_2 (f : Fn) (p q : Option Addr) : makeFuncA f [] [.pointer p, .pointer q] = some (.func f #[] (List.toArray [.pointer p, .pointer q])) := rfl
set_option maxRecDepth 20000 in
set_option maxHeartbeats 1000000 in
theorem ofSize_c (n : Int) (v : Value) (es : List (Int × Int)) (k : Nat) (H : AH) (hr : RowP 83 H v es) (hlen : es.length ≤ 1048576) (hg : Grd n es) (hk : k ≤ 1000000) :
    ACalls Tryz.prog 92 [.agg (List.toArray [.int .i64 n, v]), .int .i64 (k : Int)] H fun r H' => InL H.length H'.length 38 3 H' r ((mext es es.length [] k).take 301) ∧ H <+: H' := by
  refine in92 rfl ?_
  intro Q hQ
  simp (maxSteps := 1000000) (disch := omega) only [cd92, hr.boxG, box_int, alloc_ll, S, S1, S2, S3, S4, S5, ST, eq_self, reduceIte, reduceCtorEq, Nat.reduceEqDiff, Nat.reduceAdd]
  generalize hA : H ++ [AObj.cells [.int .i64 n, v] 31 false] = A
  have pA : H <+: A := by rw [← hA]; exact List.prefix_append _ _
  have cA : A[H.length]? = some (.cells [.int .i64 n, v] 31 false) := by rw [← hA]; exact at_new ..
  have rA := hr.pre pA
  generalize hK : A ++ [AObj.cells [.int .i64 (k : Int)] 3 false] = K
  have pK : A <+: K := by rw [← hK]; exact List.prefix_append _ _
  have cK : K[A.length]? = some (.cells [.int .i64 (k : Int)] 3 false) := by rw [← hK]; exact at_new ..
  generalize hZ : K ++ [AObj.cells [] 38 false] = Z
  have pZ : K <+: Z := by rw [← hZ]; exact List.prefix_append _ _
  have cZ : Z[K.length]? = some (.cells [] 38 false) := by rw [← hZ]; exact at_new ..
  have st1 := st_at (P := Tryz.prog) (t := 26) (i := 0) (y := .slice (some ⟨K.length, 0, none⟩) 0 0) cs26 (at_new Z (.cells [.slice none 0 0] 26 false)) (by show 0 < 1; decide) rfl rfl
  rw [set_new, List.set_cons_zero] at st1
  have cZA := pre_at (pK.trans pZ) cA
  simp (maxSteps := 1000000) (disch := omega) only [st1, mkf_2, ld_agg ag31 cs31 (at_app cZA _), S, S1, S2, S3, S4, S5, ST, eq_self, reduceIte, reduceCtorEq, Nat.reduceEqDiff, Nat.reduceAdd]
  generalize hE : Z ++ [AObj.cells [.slice (some ⟨K.length, 0, none⟩) 0 0] 26 false] = E
  have pE : Z <+: E := by rw [← hE]; exact List.prefix_append _ _
  have cE : E[Z.length]? = some (.cells [.slice (some ⟨K.length, 0, none⟩) 0 0] 26 false) := by rw [← hE]; exact at_new ..
  have lA : A.length = H.length + 1 := by rw [← hA]; simp
  have lK : K.length = A.length + 1 := by rw [← hK]; simp
  have lZ : Z.length = K.length + 1 := by rw [← hZ]; simp
  have lE : E.length = Z.length + 1 := by rw [← hE]; simp
  have hU : InU H.length E.length 38 3 E K.length [] [] := ⟨by omega, by omega, pre_at pE cZ, Nat.le_refl _, fun i hi => absurd hi (by simp), fun i j _ hi _ => absurd hi (by simp)⟩
  have nob : ∀ j, j ≠ K.length → ¬ Objs K.length [] [] j := by
    rintro j hj (e | ⟨i, hi, _⟩)
    · exact hj e
    · simp at hi
  have hI : ISz H A.length Z.length k [] (fun j => j = A.length ∨ j = Z.length ∨ Objs K.length [] [] j) E ∧ ([] : List (List Int)).length ≤ 300 :=
    ⟨⟨K.length, [], pre_at (pZ.trans pE) cK, cE, hU, ⟨by omega, by omega⟩, by omega, nob _ (by omega), nob _ (by omega), by simp, rfl⟩, by simp⟩
  have pHE := pA.trans (pK.trans (pZ.trans pE))
  refine CallH.by (matchings_c (sz_ok H A.length Z.length k hk) v n es hr hlen hg [] _ E hI pHE) ?_
  rintro _ H' ⟨hp', F', o, us, h1, h2, h3, _⟩
  rw [sfold_sz k _ [] (by simp)] at h2 h3
  simp (maxSteps := 1000000) (disch := omega) only [cell_of h2, S, S1, S2, S3, S4, S5, ST, eq_self, reduceIte, reduceCtorEq, Nat.reduceEqDiff, Nat.reduceAdd]
  refine hQ _ _ _ ?_
  simp (maxSteps := 1000000) (disch := omega) only [S, S1, S2, S3, S4, S5, ST, eq_self, reduceIte, reduceCtorEq, Nat.reduceEqDiff, Nat.reduceAdd]
  rw [List.nil_append] at h2 h3
  exact ⟨h3.inl, hp'⟩
end Go.Proofs.YtlfongfhbkefmaaGreat.Ai
namespace Go.Proofs.YtlfongfhbkefmaaGreat.Ai
open Go
set_option linter.unusedVariables false
def dblF : Nat → Nat
  | 0 => 1
  | j + 1 => (2 * j + 1) * dblF j
/-- free nodes behind x whose edge with x is not before an edge -/
def freeP (es : List (Int × Int)) (ed : List Int) (x : Int) (k : Nat) (b : Nat) : Bool :=
  decide ((b : Int) ∉ seenL es ed ∧ x < b ∧ 0 < k ∧ ¬ pairLt (x, (b : Int)) (es.getD (es.length - k) (0, 0)))
def freeB (n : Nat) (es : List (Int × Int)) (ed : List Int) (x : Int) (k : Nat) : Nat := (List.range n).countP (freeP es ed x k)
theorem countP_less {α : Type} (p q : α → Bool) : ∀ (l : List α), (∀ x ∈ l, p x = true → q x = true) → l.countP p ≤ l.countP q
  | [], _ => by simp
  | x :: l, h => by
    have ih := countP_less p q l (fun y hy => h y (by simp [hy]))
    have h0 := h x (by simp)
    rw [List.countP_cons, List.countP_cons]
    by_cases hp : p x = true
    · rw [if_pos hp, if_pos (h0 hp)]; omega
    · rw [if_neg hp]; omega
theorem countP_more {α : Type} (p q : α → Bool) : ∀ (l : List α), (∀ x ∈ l, p x = true → q x = true) → (∃ x ∈ l, q x = true ∧ ¬ p x = true) → l.countP p + 1 ≤ l.countP q
  | [], _, h => by obtain ⟨x, hx, _⟩ := h; simp at hx
  | x :: l, h, hx => by
    rw [List.countP_cons, List.countP_cons]
    by_cases hq : q x = true ∧ ¬ p x = true
    · have := countP_less p q l (fun y hy => h y (by simp [hy]))
      rw [if_neg hq.2, if_pos hq.1]; omega
    · have ih := countP_more p q l (fun y hy => h y (by simp [hy])) (by
        obtain ⟨y, hy, h1⟩ := hx
        rcases List.mem_cons.1 hy with rfl | hy
        · exact absurd h1 hq
        · exact ⟨y, hy, h1⟩)
      have h0 := h x (by simp)
      by_cases hp : p x = true
      · rw [if_pos hp, if_pos (h0 hp)]; omega
      · rw [if_neg hp]; omega
theorem perm_cover {n : Int} {es : List (Int × Int)} {M : List Int} (hn : 0 ≤ n) (hM : Mgo n es M) (hl : 2 * M.length = n.toNat) {z : Int} (hz : 0 ≤ z ∧ z < n) : z ∈ seenL es M := by
  apply Decidable.byContradiction
  intro hc
  have hnd : (z :: seenL es M).Nodup := List.nodup_cons.2 ⟨hc, hM.1⟩
  have := nodupM_le n.toNat (z :: seenL es M) hnd (fun y hy => by
    rcases List.mem_cons.1 hy with rfl | hy
    · omega
    · have := hM.2 y hy; omega)
  rw [List.length_cons, seenL_len] at this
  omega
/-- what is added comes from the last k edges -/
theorem mall_new (es : List (Int × Int)) : ∀ (k : Nat) (ed : List Int), k ≤ es.length → ∀ M ∈ mall es k ed, ∃ r, M = ed ++ r ∧ ∀ e ∈ r, ((es.length - k : Nat) : Int) ≤ e ∧ e < es.length
  | 0, ed, _, M, h => by simp [mall] at h
  | k + 1, ed, hk, M, h => by
    simp only [mall, List.mem_append] at h
    rcases h with h | h
    · split at h
      · simp only [List.mem_cons] at h
        rcases h with rfl | h
        · refine ⟨_, rfl, fun e he => ?_⟩
          simp only [List.mem_cons, List.not_mem_nil, or_false] at he
          subst he; omega
        · obtain ⟨r, h1, h2⟩ := mall_new es k _ (by omega) M h
          refine ⟨((es.length - (k + 1) : Nat) : Int) :: r, by rw [h1, List.append_assoc]; rfl, fun e he => ?_⟩
          rcases List.mem_cons.1 he with rfl | he
          · omega
          · have := h2 e he; omega
      · simp at h
    · obtain ⟨r, h1, h2⟩ := mall_new es k ed (by omega) M h
      exact ⟨r, h1, fun e he => by have := h2 e he; omega⟩
theorem seenL_append (es : List (Int × Int)) (xs ys : List Int) : seenL es (xs ++ ys) = seenL es xs ++ seenL es ys := by simp [seenL]
theorem seenL_mem (es : List (Int × Int)) (xs : List Int) (z : Int) : z ∈ seenL es xs ↔ ∃ e ∈ xs, z = ed1 es e ∨ z = ed2 es e := by
  unfold seenL
  simp only [List.mem_flatMap, List.mem_cons, List.not_mem_nil, or_false]
/-- edges ascend -/
theorem grd_asc {n : Int} {es : List (Int × Int)} (hg : Grd n es) {i j : Nat} (hij : i < j) (hj : j < es.length) : pairLt (es.getD i (0, 0)) (es.getD j (0, 0)) := by
  induction j with
  | zero => omega
  | succ j ih =>
    have h1 := (hg.2 (j + 1) hj).2.2.2 (by omega)
    rw [Nat.add_sub_cancel] at h1
    by_cases h : i = j
    · subst h; exact h1
    · have h2 := ih (by omega) (by omega)
      unfold pairLt at h1 h2 ⊢
      omega
theorem grd_asc1 {n : Int} {es : List (Int × Int)} (hg : Grd n es) {i j : Nat} (hij : i ≤ j) (hj : j < es.length) : (es.getD i (0, 0)).1 ≤ (es.getD j (0, 0)).1 := by
  by_cases h : i = j
  · subst h; exact Int.le_refl _
  · have := grd_asc hg (show i < j by omega) hj
    unfold pairLt at this
    omega
theorem mlpE_le {n : Int} {es : List (Int × Int)} (hg : Grd n es) {h D : Nat} (hn : n.toNat = 2 * h) {ed : List Int} (hm : Mgo n es ed) {x : Int} (hx : (0 ≤ x ∧ x < n) ∧ x ∉ seenL es ed) (hmin : ∀ z, 0 ≤ z → z < x → z ∈ seenL es ed)
    (hrec : ∀ k e, k ≤ es.length → e.toNat < es.length → frE es ed e → Mgo n es (ed ++ [e]) → (mext es k (ed ++ [e]) h).length ≤ D) :
    ∀ k, k ≤ es.length → (mlpE es k ed h).length ≤ freeB n.toNat es ed x k * D
  | 0, _ => by simp [mlpE, mall]
  | k + 1, hk => by
    have ih := mlpE_le hg hn hm hx hmin hrec k (by omega)
    have hstep := mlpE_step es k ed h
    generalize he : es.length - (k + 1) = e at hstep
    have hel : e < es.length := by omega
    obtain ⟨a1, a2, a3, _⟩ := hg.2 e hel
    have b1 : ed1 es (e : Int) = (es.getD e (0, 0)).1 := by unfold ed1; rw [Int.toNat_natCast]
    have b2 : ed2 es (e : Int) = (es.getD e (0, 0)).2 := by unfold ed2; rw [Int.toNat_natCast]
    have sub : ∀ b ∈ List.range n.toNat, freeP es ed x k b = true → freeP es ed x (k + 1) b = true := by
      intro b _ hb
      unfold freeP at hb ⊢
      rw [decide_eq_true_iff] at hb ⊢
      refine ⟨hb.1, hb.2.1, by omega, ?_⟩
      rw [he]
      have h1 := hb.2.2.2
      have hk0 := hb.2.2.1
      have h2 := grd_asc hg (show e < es.length - k by omega) (by omega)
      unfold pairLt at h1 h2 ⊢
      simp only at h1 ⊢
      omega
    have mono := countP_less _ _ _ sub
    have skip : ¬ frE es ed (e : Int) → (mlpE es (k + 1) ed h).length ≤ freeB n.toNat es ed x (k + 1) * D := by
      intro hf
      rw [if_neg hf, List.nil_append] at hstep
      rw [hstep]
      exact Nat.le_trans ih (Nat.mul_le_mul_right _ mono)
    rcases Int.lt_trichotomy (es.getD e (0, 0)).1 x with hc | hc | hc
    · refine skip (fun hf => hf.1 ?_)
      rw [b1]
      exact hmin _ a1 hc
    · by_cases hf : frE es ed (e : Int)
      · rw [if_pos hf] at hstep
        rw [hstep, List.length_append]
        have h1 := hrec k (e : Int) (by omega) (by rw [Int.toNat_natCast]; exact hel) hf (hm.snoc hg (by rw [Int.toNat_natCast]; exact hel) hf)
        have more := countP_more _ _ _ sub ⟨(es.getD e (0, 0)).2.toNat, List.mem_range.2 (by omega), by
          unfold freeP
          rw [decide_eq_true_iff]
          have e2 : (((es.getD e (0, 0)).2.toNat : Nat) : Int) = (es.getD e (0, 0)).2 := by omega
          rw [e2]
          refine ⟨?_, by omega, by omega, ?_⟩
          · have := hf.2
            rwa [b2] at this
          · rw [he]
            unfold pairLt
            simp only
            omega, by
          unfold freeP
          rw [decide_eq_true_iff]
          have e2 : (((es.getD e (0, 0)).2.toNat : Nat) : Int) = (es.getD e (0, 0)).2 := by omega
          rw [e2]
          rintro ⟨_, _, h3, h4⟩
          apply h4
          have h2 := grd_asc hg (show e < es.length - k by omega) (by omega)
          unfold pairLt at h2 ⊢
          simp only
          omega⟩
        have : (freeB n.toNat es ed x k + 1) * D ≤ freeB n.toNat es ed x (k + 1) * D := Nat.mul_le_mul_right _ more
        rw [Nat.add_mul, Nat.one_mul] at this
        omega
      · exact skip hf
    · have hnil : mlpE es (k + 1) ed h = [] := by
        unfold mlpE
        rw [List.filter_eq_nil_iff]
        intro M hM hl
        have hl' : M.length = h := of_decide_eq_true hl
        have hMg := Mgo.all hg (k + 1) ed hk hm M hM
        have hin := perm_cover hg.1.1 hMg (by omega) hx.1
        obtain ⟨r, hr, hre⟩ := mall_new es (k + 1) ed hk M hM
        rw [hr, seenL_append, List.mem_append] at hin
        rcases hin with hin | hin
        · exact hx.2 hin
        · rw [seenL_mem] at hin
          obtain ⟨e', he', hz⟩ := hin
          have hrg := hre e' he'
          rw [he] at hrg
          have hle := grd_asc1 hg (show e ≤ e'.toNat by omega) (by omega)
          obtain ⟨_, c2, _, _⟩ := hg.2 e'.toNat (by omega)
          unfold ed1 ed2 at hz
          omega
      rw [hnil]; simp
theorem all_in : ∀ (m : Nat) (l : List Int), (∀ z : Nat, z < m → (z : Int) ∈ l) → m ≤ l.length
  | 0, _, _ => Nat.zero_le _
  | m + 1, l, h => by
    have hm := h m (by omega)
    have := all_in m (l.erase (m : Int)) (fun z hz => (List.mem_erase_of_ne (by omega)).2 (h z (by omega)))
    rw [List.length_erase_of_mem hm] at this
    have : 0 < l.length := List.length_pos_of_mem hm
    omega
theorem least_free (l : List Int) : ∀ m : Nat, (∀ z : Nat, z < m → (z : Int) ∈ l) ∨ ∃ x : Nat, x < m ∧ (x : Int) ∉ l ∧ ∀ z : Nat, z < x → (z : Int) ∈ l
  | 0 => .inl fun z hz => absurd hz (Nat.not_lt_zero z)
  | m + 1 => by
    rcases least_free l m with h | ⟨x, h1, h2, h3⟩
    · by_cases hm : (m : Int) ∈ l
      · left
        intro z hz
        rcases Nat.lt_succ_iff_lt_or_eq.1 hz with g | g
        · exact h z g
        · rw [g]; exact hm
      · exact .inr ⟨m, by omega, hm, h⟩
    · exact .inr ⟨x, by omega, h2, h3⟩
theorem perf_le {n : Int} {es : List (Int × Int)} (hg : Grd n es) {h : Nat} (hn : n.toNat = 2 * h) : ∀ (j : Nat) (ed : List Int), ed.length + j = h → Mgo n es ed → ∀ k, k ≤ es.length → (mext es k ed h).length ≤ dblF j
  | 0, ed, hl, _, k, _ => by
    have : h = ed.length := by omega
    rw [this, mext_done]; simp [dblF]
  | j + 1, ed, hl, hm, k, hk => by
    rw [mext_loop es k ed h (by omega)]
    have hnn := hg.1
    rcases least_free (seenL es ed) n.toNat with hall | ⟨x, h1, h2, h3⟩
    · have := all_in _ _ hall
      rw [seenL_len] at this
      omega
    · have main := mlpE_le hg hn hm (x := (x : Int)) (D := dblF j) ⟨by omega, h2⟩ (fun z hz0 hzx => by
        obtain ⟨y, rfl⟩ : ∃ y : Nat, z = y := ⟨z.toNat, by omega⟩
        exact h3 y (by omega)) (fun k' e hk' he hf hmg => perf_le hg hn j (ed ++ [e]) (by simp; omega) hmg k' hk') k hk
      refine Nat.le_trans main (Nat.mul_le_mul_right _ ?_)
      unfold freeB
      rw [List.countP_eq_length_filter]
      have hnd : ((x : Int) :: (((List.range n.toNat).filter (freeP es ed (x : Int) k)).map fun b : Nat => (b : Int)) ++ seenL es ed).Nodup := by
        have q1 : (((List.range n.toNat).filter (freeP es ed (x : Int) k)).map fun b : Nat => (b : Int)).Nodup := by
          refine List.Pairwise.map _ ?_ (List.nodup_range.filter _)
          intro a b hab e
          exact hab (by omega)
        have q2 : ∀ b ∈ (((List.range n.toNat).filter (freeP es ed (x : Int) k)).map fun b : Nat => (b : Int)), b ∉ seenL es ed ∧ (x : Int) < b := by
          intro b hb
          obtain ⟨c, hc, rfl⟩ := List.mem_map.1 hb
          have := (List.mem_filter.1 hc).2
          unfold freeP at this
          have := of_decide_eq_true this
          exact ⟨this.1, this.2.1⟩
        rw [List.cons_append, List.nodup_cons, List.nodup_append]
        refine ⟨?_, q1, hm.1, ?_⟩
        · rw [List.mem_append, not_or]
          exact ⟨fun hx => by have := (q2 _ hx).2; omega, h2⟩
        · intro a ha b hb hab
          subst hab
          exact (q2 _ ha).1 hb
      have := nodupM_le n.toNat _ hnd (fun z hz => by
        rw [List.cons_append] at hz
        rcases List.mem_cons.1 hz with rfl | hz
        · omega
        · rcases List.mem_append.1 hz with hz | hz
          · obtain ⟨c, hc, rfl⟩ := List.mem_map.1 hz
            have := List.mem_range.1 (List.mem_filter.1 hc).1
            omega
          · have := hm.2 z hz; omega)
      simp only [List.cons_append, List.length_cons, List.length_append, List.length_map, seenL_len] at this
      omega
theorem perfect_le {n : Int} {es : List (Int × Int)} (hg : Grd n es) {h : Nat} (hn : n.toNat = 2 * h) : (mext es es.length [] h).length ≤ 105 := by
  have h1 := perf_le hg hn h [] (by simp) (Mgo.nil n es) es.length (Nat.le_refl _)
  have hnn := hg.1
  have : h = 0 ∨ h = 1 ∨ h = 2 ∨ h = 3 ∨ h = 4 := by omega
  rcases this with rfl | rfl | rfl | rfl | rfl <;> exact Nat.le_trans h1 (by decide)
end Go.Proofs.YtlfongfhbkefmaaGreat.Ai
namespace Go.Proofs.YtlfongfhbkefmaaGreat.Ai
open Go
def ords124 : List (Nat × List (Nat × Bool)) := []
def cd124 : Cd := (.seq (.reg [⟨⟨some 3, Op.box 31 (Operand.tmp 0), none⟩, []⟩,
  ⟨⟨some 6, Op.assign (Operand.const (Value.slice none 0 0)), none⟩, []⟩]) (.seq (.seq (.reg [⟨⟨some 11, Op.move (Operand.tmp 1), none⟩, []⟩,
  ⟨⟨some 12, Op.call { callee := (Callee.builtin Builtin.len), args := #[(Operand.tmp 11)], argTypes := #[38] }, none⟩, []⟩,
  ⟨⟨some 13, Op.move (Operand.tmp 2), none⟩, []⟩,
  ⟨⟨some 14, Op.binOp BinOp.eql 3 (Operand.tmp 12) (Operand.tmp 13) 3, none⟩, []⟩]) (.cond (Operand.tmp 14) (.seq (.reg [⟨⟨some 15, Op.move (Operand.tmp 1), none⟩, []⟩,
  ⟨⟨some 16, Op.buildSlice 26 1 #[(0, (Operand.tmp 15))], none⟩, []⟩,
  ⟨⟨some 6, Op.assign (Operand.tmp 16), none⟩, []⟩]) .ret) .skip)) (.seq (.reg [⟨⟨some 17, Op.buildSlice 26 0 #[], none⟩, []⟩,
  ⟨⟨some 7, Op.assign (Operand.const (Value.int IntKind.i64 0)), none⟩, []⟩,
  ⟨⟨some 8, Op.assign (Operand.tmp 17), none⟩, []⟩]) (.seq (.seq (.reg [⟨⟨some 18, Op.move (Operand.tmp 1), none⟩, []⟩,
  ⟨⟨some 19, Op.call { callee := (Callee.builtin Builtin.len), args := #[(Operand.tmp 18)], argTypes := #[38] }, none⟩, []⟩,
  ⟨⟨some 20, Op.binOp BinOp.gtr 3 (Operand.tmp 19) (Operand.const (Value.int IntKind.i64 0)) 3, none⟩, []⟩]) (.cond (Operand.tmp 20) (.reg [⟨⟨some 21, Op.move (Operand.tmp 1), none⟩, []⟩,
  ⟨⟨some 22, Op.move (Operand.tmp 1), none⟩, []⟩,
  ⟨⟨some 23, Op.call { callee := (Callee.builtin Builtin.len), args := #[(Operand.tmp 22)], argTypes := #[38] }, none⟩, []⟩,
  ⟨⟨some 24, Op.binOp BinOp.sub 3 (Operand.tmp 23) (Operand.const (Value.int IntKind.i64 1)) 3, none⟩, []⟩,
  ⟨⟨some 25, Op.indexAddr 38 (Operand.tmp 21) (Operand.tmp 24), none⟩, []⟩,
  ⟨⟨some 26, Op.load 3 (Operand.tmp 25), none⟩, []⟩,
  ⟨⟨some 27, Op.binOp BinOp.add 3 (Operand.tmp 26) (Operand.const (Value.int IntKind.i64 1)) 3, none⟩, []⟩,
  ⟨⟨some 7, Op.assign (Operand.tmp 27), none⟩, []⟩]) .skip)) (.seq (.seq (.reg [⟨⟨some 28, Op.move (Operand.tmp 7), none⟩, []⟩,
  ⟨⟨some 9, Op.assign (Operand.tmp 28), none⟩, []⟩]) (.block 0 (.loop (.seq (.seq (.reg [⟨⟨some 29, Op.move (Operand.tmp 9), none⟩, []⟩,
  ⟨⟨some 30, Op.fieldAddr 31 (Operand.tmp 3) 1, none⟩, []⟩,
  ⟨⟨some 31, Op.load 22 (Operand.tmp 30), none⟩, []⟩,
  ⟨⟨some 32, Op.call { callee := (Callee.builtin Builtin.len), args := #[(Operand.tmp 31)], argTypes := #[22] }, none⟩, []⟩,
  ⟨⟨some 33, Op.binOp BinOp.lss 3 (Operand.tmp 29) (Operand.tmp 32) 3, none⟩, []⟩]) (.cond (Operand.tmp 33) .skip (.exit 0))) (.seq (.block 1 (.seq (.reg [⟨⟨some 36, Op.move (Operand.tmp 1), none⟩, []⟩,
  ⟨⟨some 37, Op.call { callee := (Callee.value (Operand.func 79)), args := #[(Operand.tmp 36)], argTypes := #[38] }, none⟩, []⟩,
  ⟨⟨some 38, Op.move (Operand.tmp 9), none⟩, []⟩,
  ⟨⟨some 39, Op.buildSlice 38 1 #[(0, (Operand.tmp 38))], none⟩, []⟩,
  ⟨⟨some 40, Op.call { callee := (Callee.builtin Builtin.append), args := #[(Operand.tmp 37), (Operand.tmp 39)], argTypes := #[38, 38] }, none⟩, []⟩,
  ⟨⟨some 10, Op.assign (Operand.tmp 40), none⟩, []⟩]) (.seq (.reg [⟨⟨some 41, Op.load 31 (Operand.tmp 3), none⟩, []⟩,
  ⟨⟨some 42, Op.move (Operand.tmp 10), none⟩, []⟩,
  ⟨⟨some 43, Op.call { callee := (Callee.value (Operand.func 152)), args := #[(Operand.tmp 41), (Operand.tmp 42)], argTypes := #[31, 38] }, none⟩, []⟩]) (.cond (Operand.tmp 43) (.reg [⟨⟨some 44, Op.move (Operand.tmp 8), none⟩, []⟩,
  ⟨⟨some 45, Op.load 31 (Operand.tmp 3), none⟩, []⟩,
  ⟨⟨some 46, Op.move (Operand.tmp 10), none⟩, []⟩,
  ⟨⟨some 47, Op.move (Operand.tmp 2), none⟩, []⟩,
  ⟨⟨some 48, Op.call { callee := (Callee.value (Operand.func 124)), args := #[(Operand.tmp 45), (Operand.tmp 46), (Operand.tmp 47)], argTypes := #[31, 38, 3] }, none⟩, []⟩,
  ⟨⟨some 49, Op.call { callee := (Callee.builtin Builtin.append), args := #[(Operand.tmp 44), (Operand.tmp 48)], argTypes := #[26, 26] }, none⟩, []⟩,
  ⟨⟨some 8, Op.assign (Operand.tmp 49), none⟩, []⟩]) .skip)))) (.reg [⟨⟨some 34, Op.move (Operand.tmp 9), none⟩, []⟩,
  ⟨⟨some 35, Op.binOp BinOp.add 3 (Operand.tmp 34) (Operand.const (Value.int IntKind.i64 1)) 3, none⟩, []⟩,
  ⟨⟨some 9, Op.assign (Operand.tmp 35), none⟩, []⟩])))))) (.seq (.reg [⟨⟨some 50, Op.move (Operand.tmp 8), none⟩, []⟩,
  ⟨⟨some 6, Op.assign (Operand.tmp 50), none⟩, []⟩]) .ret))))))
theorem sl124 : slim Tryz.f124.ntmps ords124 (Tryz.f124.body.getD .skip) = some cd124 := by kernel_rfl
theorem in124 {args : List Value} {H : AH} {R : Value → AH → Prop} (hl : args.length = 3) (h : ∀ (Q : Exit → Sl → AH → Prop), (∀ e s H, endA Tryz.prog [ResultVar.tmp 6] R e s H → Q e s H) → wpC Tryz.prog cd124 Q (enterA args) H) : ACalls Tryz.prog 124 args H R :=
  ACalls.intro (by kernel_rfl) Tryz.func124 rfl (by kernel_rfl) sl124 hl (of_decide_eq_true (by kernel_rfl)) (by kernel_rfl) h
end Go.Proofs.YtlfongfhbkefmaaGreat.Ai
namespace Go.Proofs.YtlfongfhbkefmaaGreat.Ai
open Go Go.RowKit
set_option linter.unusedVariables false
set_option linter.unusedSimpArgs false
theorem mtc_snoc {es : List (Int × Int)} {ed : List Int} {e : Int} (h : Mtc es ed) (he : 0 ≤ e ∧ e < es.length) (hl : 0 < ed.length → ed.getD (ed.length - 1) 0 < e) : Mtc es (ed ++ [e]) ↔ frE es ed e := by
  have hlen : (ed ++ [e]).length = ed.length + 1 := by simp
  have at1 : ∀ i, i < ed.length → (ed ++ [e]).getD i 0 = ed.getD i 0 := fun i hi => by
    rw [List.getD_eq_getElem?_getD, List.getD_eq_getElem?_getD, List.getElem?_append_left hi]
  have at2 : (ed ++ [e]).getD ed.length 0 = e := by
    rw [List.getD_eq_getElem?_getD, List.getElem?_append_right (Nat.le_refl _)]; simp
  have tk1 : ∀ i, i ≤ ed.length → (ed ++ [e]).take i = ed.take i := fun i hi => List.take_append_of_le_length hi
  have tk2 : (ed ++ [e]).take ed.length = ed := by rw [tk1 _ (Nat.le_refl _), List.take_length]
  constructor
  · intro hm
    have := (hm ed.length (by omega)).2
    unfold frOk at this
    rw [at2, tk2] at this
    exact this
  · intro hf i hi
    by_cases hc : i < ed.length
    · obtain ⟨g1, g2⟩ := h i hc
      unfold rsOk at g1 ⊢
      unfold frOk at g2 ⊢
      rw [at1 i hc, tk1 i (by omega)]
      refine ⟨⟨g1.1, fun h0 => ?_⟩, g2⟩
      rw [at1 (i - 1) (by omega)]
      exact g1.2 h0
    · obtain rfl : i = ed.length := by omega
      unfold rsOk frOk
      rw [at2, tk2]
      refine ⟨⟨by omega, fun h0 => ?_⟩, hf⟩
      rw [at1 (ed.length - 1) (by omega)]
      exact hl h0
theorem mlpE_zero (es : List (Int × Int)) (ed : List Int) (j : Nat) : mlpE es 0 ed j = [] := rfl
set_option maxRecDepth 20000 in
set_option maxHeartbeats 4000000 in
theorem l8Extend_c (v : Value) (n : Int) (es : List (Int × Int)) (hlen : es.length ≤ 28) (k : Nat) (hk : k ≤ 1000000) :
    ∀ (r : Nat) (ed : List Int) (w : Value) (lo : Nat) (H : AH), RowP 83 H v es → InI lo H.length 3 H w ed → lo ≤ H.length → r ≤ es.length → Mtc es ed → ed.length + r ≤ es.length → ed.length ≤ k → (ed.length = 0 → r = es.length) → (0 < ed.length → ed.getD (ed.length - 1) 0 + 1 = ((es.length - r : Nat) : Int)) →
      ACalls Tryz.prog 124 [.agg (List.toArray [.int .i64 n, v]), w, .int .i64 (k : Int)] H fun g H' => InL lo H'.length 38 3 H' g (mext es r ed k) ∧ (mext es r ed k).length ≤ 2 ^ r ∧ H <+: H' := by
  intro r
  induction r using Nat.strongRecOn with
  | ind r ih =>
  intro ed w lo H hr hw hlo hrl hm hel hek hz hlast
  have hrow := hw.row.1
  refine in124 rfl ?_
  intro Q hQ
  simp (maxSteps := 1000000) (disch := omega) only [cd124, hr.boxG, hrow.len Tryz.underlying38, S, S1, S2, S3, S4, S5, ST, eq_self, reduceIte, reduceCtorEq, Nat.reduceEqDiff, Nat.reduceAdd]
  generalize hA : H ++ [AObj.cells [.int .i64 n, v] 31 false] = A
  have pA : H <+: A := by rw [← hA]; exact List.prefix_append _ _
  have cA : A[H.length]? = some (.cells [.int .i64 n, v] 31 false) := by rw [← hA]; exact at_new ..
  have rA := hr.pre pA
  have wA := hrow.pre pA
  refine brD.intro (fun e => ?_) (fun e => ?_)
  · have hek' : ed.length = k := by omega
    have hbs : buildSliceA Tryz.prog 26 1 [(0, w)] A = some (.slice (some ⟨A.length, 0, none⟩) 1 1, A ++ [.cells [w] 38 false]) := by
      obtain ⟨q, eq⟩ := hrow.shape
      rw [eq]
      exact bs1 Tryz.underlying26 cs38 ze38 ⟨by kernel_rfl, by kernel_rfl⟩ A rfl
    simp (maxSteps := 1000000) (disch := omega) only [hbs, S, S1, S2, S3, S4, S5, ST, eq_self, reduceIte, reduceCtorEq, Nat.reduceEqDiff, Nat.reduceAdd]
    refine hQ _ _ _ ?_
    simp (maxSteps := 1000000) (disch := omega) only [S, S1, S2, S3, S4, S5, ST, eq_self, reduceIte, reduceCtorEq, Nat.reduceEqDiff, Nat.reduceAdd]
    rw [← hek', mext_done]
    refine ⟨.inr ⟨A.length, [w], rfl, ?_⟩, by simp; exact Nat.one_le_two_pow, pre_app pA _⟩
    have lA := pA.length_le
    refine ⟨by omega, by simp, at_new .., by simp, ?_, ?_⟩
    · intro i hi
      have hi0 : i = 0 := by simpa using hi
      subst hi0
      refine ⟨((hw.pre pA).pre (List.prefix_append A _)).wide (Nat.le_refl _) (by simp; omega), ?_⟩
      rcases hw.at_ with q | q
      · exact .inl q
      · refine .inr ?_
        show rowO w ≠ A.length
        omega
    · intro i j hij hi hj
      simp at hi hj; omega
  have hek' : ed.length ≠ k := by omega
  rw [mext_loop es r ed k hek'] at hQ
  have e1 : ((ed.length : Int) - 1).toNat = ed.length - 1 := by omega
  have u0 := InU.new lo 38 3 A (by have := pA.length_le; omega)
  have hP : ∀ j, 2 ^ (j + 1) = 2 ^ j + 2 ^ j := fun j => by rw [Nat.pow_succ]; omega
  have hPr : 2 ^ r ≤ 2 ^ 28 := Nat.pow_le_pow_right (by decide) (by omega)
  simp (maxSteps := 1000000) (disch := omega) only [e, wA.len Tryz.underlying38, S, S1, S2, S3, S4, S5, ST, eq_self, reduceIte, reduceCtorEq, Nat.reduceEqDiff, Nat.reduceAdd]
  refine brD.intro (fun g => ?_) (fun g => ?_)
  · have hl' := hlast (by omega)
    have wB := wA.pre (List.prefix_append A [AObj.cells [] 38 false])
    simp (maxSteps := 1000000) (disch := omega) only [g, e1, wB.len Tryz.underlying38, wB.ix Tryz.underlying38 cs3, wB.cell, hl', wrap64, S, S1, S2, S3, S4, S5, ST, eq_self, reduceIte, reduceCtorEq, Nat.reduceEqDiff, Nat.reduceAdd]
    refine LoopH.by (fun m s H' => ∃ o us L, m ≤ r ∧ s 1 = w ∧ s 2 = .int .i64 (k : Int) ∧ s 3 = .pointer (some ⟨H.length, 0, none⟩) ∧ s 8 = .slice (some ⟨o, 0, none⟩) L.length L.length ∧ s 9 = .int .i64 ((es.length - m : Nat) : Int) ∧ A.length ≤ o ∧ InU lo H'.length 38 3 H' o us L ∧ L ++ mlpE es m ed k = mlpE es r ed k ∧ L.length + 2 ^ m ≤ 2 ^ r ∧ A <+: H') r ?_ ?_
    · refine ⟨A.length, [], [], Nat.le_refl _, rfl, rfl, rfl, rfl, rfl, Nat.le_refl _, ?_, rfl, by simp, List.prefix_append _ _⟩
      simpa using u0
    · rintro m s H' ⟨o, us, L, hmr, h1, h2, h3, h8, h9, hoA, hin, hL, hcnt, hp⟩
      have hrH := rA.pre hp
      have cH := pre_at hp cA
      have wH := wA.pre hp
      simp (maxSteps := 1000000) (disch := omega) only [h1, h2, h3, h8, h9, cell_of cH, hrH.len Tryz.underlying22, S, S1, S2, S3, S4, S5, ST, eq_self, reduceIte, reduceCtorEq, Nat.reduceEqDiff, Nat.reduceAdd]
      refine brD.intro (fun g3 => ?_) (fun g3 => ?_)
      · obtain ⟨i, rfl⟩ : ∃ i, m = i + 1 := ⟨m - 1, by omega⟩
        have he1 : ((es.length - (i + 1) : Nat) : Int) + 1 = ((es.length - i : Nat) : Int) := by omega
        have hstep := mlpE_step es i ed k
        have hpw := hP i
        have hpos : 1 ≤ 2 ^ i := Nat.one_le_two_pow
        generalize he : es.length - (i + 1) = e' at *
        simp (maxSteps := 1000000) (disch := omega) only [h1, h2, h3, h8, h9, S, S1, S2, S3, S4, S5, ST, eq_self, reduceIte, reduceCtorEq, Nat.reduceEqDiff, Nat.reduceAdd]
        refine CallH.by (l1Own_c w ed H' wH (by omega)) ?_
        rintro c D ⟨hc, pD⟩
        obtain ⟨w', H2, k1, k2, k3, k4, k5, k6⟩ := own1_38 hc pD (by omega) (e' : Int)
        have hp2 := hp.trans k3
        have cH2 := pre_at hp2 cA
        simp (maxSteps := 1000000) (disch := omega) only [h1, h2, h3, h8, h9, k1, ld_agg ag31 cs31 cH2, S, S1, S2, S3, S4, S5, ST, eq_self, reduceIte, reduceCtorEq, Nat.reduceEqDiff, Nat.reduceAdd]
        refine CallH.by (l8Matches_c n v w' es (ed ++ [(e' : Int)]) H2 (rA.pre hp2) k2.row (by omega) (by simp; omega)) ?_
        rintro _ H3 ⟨rfl, p3⟩
        have hp3 := hp2.trans p3
        have pH3 := k3.trans p3
        have cH3 := pre_at hp3 cA
        have hsn := mtc_snoc (e := (e' : Int)) hm (by omega) (fun h0 => by have := hlast h0; omega)
        simp (maxSteps := 1000000) (disch := omega) only [S, S1, S2, S3, S4, S5, ST, eq_self, reduceIte, reduceCtorEq, Nat.reduceEqDiff, Nat.reduceAdd]
        refine brD.intro (fun g4 => ?_) (fun g4 => ?_)
        · have hfe := hsn.1 g4
          rw [if_pos hfe] at hstep
          simp (maxSteps := 1000000) (disch := omega) only [g4, h1, h2, h3, h8, h9, ld_agg ag31 cs31 cH3, S, S1, S2, S3, S4, S5, ST, eq_self, reduceIte, reduceCtorEq, Nat.reduceEqDiff, Nat.reduceAdd]
          have hI' : InI H'.length H3.length 3 H3 w' (ed ++ [(e' : Int)]) := ((InI.of k2.mine).pre p3).wide (Nat.le_refl _) p3.length_le
          refine CallH.by (ih i (by omega) (ed ++ [(e' : Int)]) w' H'.length H3 (rA.pre hp3) hI' pH3.length_le (by omega) g4 (by simp; omega) (by simp; omega) (fun h0 => by simp at h0) (fun _ => ?_)) ?_
          · have : (ed ++ [(e' : Int)]).getD ((ed ++ [(e' : Int)]).length - 1) 0 = (e' : Int) := by
              rw [List.length_append, List.getD_eq_getElem?_getD, List.getElem?_append_right (by simp)]; simp
            rw [this]; exact he1
          rintro gL H4 ⟨hgL, hcL, p4⟩
          have lH' := hp.length_le
          have lA := pA.length_le
          have l3 := (pH3.trans p4).length_le
          obtain ⟨v', H5, o', us', q1, q2, q3, q4, q5, q6⟩ := (hin.pre (pH3.trans p4)).appL (P := Tryz.prog) (t2 := 26) Tryz.underlying26 cs38 (by rw [by38]; decide) zk38 hgL (by omega) l3 (Nat.le_refl _) (by omega)
          have f1 : A <+: H5 := prefix_of fun j x hx' => q5 j x (by have := at_lt hx'; omega) (pre_at (hp3.trans p4) hx')
          have f2 : (L ++ mext es i (ed ++ [(e' : Int)]) k) ++ mlpE es i ed k = mlpE es r ed k := by
            rw [← hL, hstep, List.append_assoc]
          have f3 : (L ++ mext es i (ed ++ [(e' : Int)]) k).length + 2 ^ i ≤ 2 ^ r := by rw [List.length_append]; omega
          simp (maxSteps := 1000000) (disch := omega) only [h1, h2, h3, h8, h9, q1, q2, he1, wrap64, S, S1, S2, S3, S4, S5, ST, eq_self, reduceIte, reduceCtorEq, Nat.reduceEqDiff, Nat.reduceAdd]
          have f4 : A.length ≤ o' := by have := (hp3.trans p4).length_le; omega
          refine ⟨i, by omega, o', us', L ++ mext es i (ed ++ [(e' : Int)]) k, ?_⟩
          (repeat' first | exact f1 | exact f2 | exact f3 | exact f4 | exact q3 | apply And.intro) <;> first | (simp only [Value.int.injEq, true_and]; omega) | omega | rfl | assumption | (simp; done) | (simp; omega)
        · rw [if_neg (fun h => g4 (hsn.2 h)), List.nil_append] at hstep
          rw [hstep] at hL
          have f1 := (hin.pre pH3).wide (Nat.le_refl _) pH3.length_le
          have f2 : L.length + 2 ^ i ≤ 2 ^ r := by omega
          simp (maxSteps := 1000000) (disch := omega) only [g4, h1, h2, h3, h8, h9, he1, wrap64, S, S1, S2, S3, S4, S5, ST, eq_self, reduceIte, reduceCtorEq, Nat.reduceEqDiff, Nat.reduceAdd]
          refine ⟨i, by omega, o, us, L, ?_⟩
          (repeat' first | exact f1 | exact f2 | exact hp3 | exact hL | apply And.intro) <;> first | (simp only [Value.int.injEq, true_and]; omega) | omega | rfl | assumption | (simp; done) | (simp; omega)
      · have hm0 : m = 0 := by omega
        subst hm0
        rw [mlpE_zero, List.append_nil] at hL
        simp (maxSteps := 1000000) (disch := omega) only [h8, S, S1, S2, S3, S4, S5, ST, eq_self, reduceIte, reduceCtorEq, Nat.reduceEqDiff, Nat.reduceAdd]
        refine hQ _ _ _ ?_
        simp (maxSteps := 1000000) (disch := omega) only [h8, S, S1, S2, S3, S4, S5, ST, eq_self, reduceIte, reduceCtorEq, Nat.reduceEqDiff, Nat.reduceAdd]
        rw [← hL]
        exact ⟨hin.inl, by omega, pA.trans hp⟩
  · have hz' := hz (by omega)
    have hl' : (0 : Int) = ((es.length - r : Nat) : Int) := by omega
    simp (maxSteps := 1000000) (disch := omega) only [g, S, S1, S2, S3, S4, S5, ST, eq_self, reduceIte, reduceCtorEq, Nat.reduceEqDiff, Nat.reduceAdd]
    refine LoopH.by (fun m s H' => ∃ o us L, m ≤ r ∧ s 1 = w ∧ s 2 = .int .i64 (k : Int) ∧ s 3 = .pointer (some ⟨H.length, 0, none⟩) ∧ s 8 = .slice (some ⟨o, 0, none⟩) L.length L.length ∧ s 9 = .int .i64 ((es.length - m : Nat) : Int) ∧ A.length ≤ o ∧ InU lo H'.length 38 3 H' o us L ∧ L ++ mlpE es m ed k = mlpE es r ed k ∧ L.length + 2 ^ m ≤ 2 ^ r ∧ A <+: H') r ?_ ?_
    · refine ⟨A.length, [], [], Nat.le_refl _, rfl, rfl, rfl, rfl, ?_, Nat.le_refl _, ?_, rfl, by simp, List.prefix_append _ _⟩
      · rw [← hl']; rfl
      · simpa using u0
    · rintro m s H' ⟨o, us, L, hmr, h1, h2, h3, h8, h9, hoA, hin, hL, hcnt, hp⟩
      have hrH := rA.pre hp
      have cH := pre_at hp cA
      have wH := wA.pre hp
      simp (maxSteps := 1000000) (disch := omega) only [h1, h2, h3, h8, h9, cell_of cH, hrH.len Tryz.underlying22, S, S1, S2, S3, S4, S5, ST, eq_self, reduceIte, reduceCtorEq, Nat.reduceEqDiff, Nat.reduceAdd]
      refine brD.intro (fun g3 => ?_) (fun g3 => ?_)
      · obtain ⟨i, rfl⟩ : ∃ i, m = i + 1 := ⟨m - 1, by omega⟩
        have he1 : ((es.length - (i + 1) : Nat) : Int) + 1 = ((es.length - i : Nat) : Int) := by omega
        have hstep := mlpE_step es i ed k
        have hpw := hP i
        have hpos : 1 ≤ 2 ^ i := Nat.one_le_two_pow
        generalize he : es.length - (i + 1) = e' at *
        simp (maxSteps := 1000000) (disch := omega) only [h1, h2, h3, h8, h9, S, S1, S2, S3, S4, S5, ST, eq_self, reduceIte, reduceCtorEq, Nat.reduceEqDiff, Nat.reduceAdd]
        refine CallH.by (l1Own_c w ed H' wH (by omega)) ?_
        rintro c D ⟨hc, pD⟩
        obtain ⟨w', H2, k1, k2, k3, k4, k5, k6⟩ := own1_38 hc pD (by omega) (e' : Int)
        have hp2 := hp.trans k3
        have cH2 := pre_at hp2 cA
        simp (maxSteps := 1000000) (disch := omega) only [h1, h2, h3, h8, h9, k1, ld_agg ag31 cs31 cH2, S, S1, S2, S3, S4, S5, ST, eq_self, reduceIte, reduceCtorEq, Nat.reduceEqDiff, Nat.reduceAdd]
        refine CallH.by (l8Matches_c n v w' es (ed ++ [(e' : Int)]) H2 (rA.pre hp2) k2.row (by omega) (by simp; omega)) ?_
        rintro _ H3 ⟨rfl, p3⟩
        have hp3 := hp2.trans p3
        have pH3 := k3.trans p3
        have cH3 := pre_at hp3 cA
        have hsn := mtc_snoc (e := (e' : Int)) hm (by omega) (fun h0 => by have := hlast h0; omega)
        simp (maxSteps := 1000000) (disch := omega) only [S, S1, S2, S3, S4, S5, ST, eq_self, reduceIte, reduceCtorEq, Nat.reduceEqDiff, Nat.reduceAdd]
        refine brD.intro (fun g4 => ?_) (fun g4 => ?_)
        · have hfe := hsn.1 g4
          rw [if_pos hfe] at hstep
          simp (maxSteps := 1000000) (disch := omega) only [g4, h1, h2, h3, h8, h9, ld_agg ag31 cs31 cH3, S, S1, S2, S3, S4, S5, ST, eq_self, reduceIte, reduceCtorEq, Nat.reduceEqDiff, Nat.reduceAdd]
          have hI' : InI H'.length H3.length 3 H3 w' (ed ++ [(e' : Int)]) := ((InI.of k2.mine).pre p3).wide (Nat.le_refl _) p3.length_le
          refine CallH.by (ih i (by omega) (ed ++ [(e' : Int)]) w' H'.length H3 (rA.pre hp3) hI' pH3.length_le (by omega) g4 (by simp; omega) (by simp; omega) (fun h0 => by simp at h0) (fun _ => ?_)) ?_
          · have : (ed ++ [(e' : Int)]).getD ((ed ++ [(e' : Int)]).length - 1) 0 = (e' : Int) := by
              rw [List.length_append, List.getD_eq_getElem?_getD, List.getElem?_append_right (by simp)]; simp
            rw [this]; exact he1
          rintro gL H4 ⟨hgL, hcL, p4⟩
          have lH' := hp.length_le
          have lA := pA.length_le
          have l3 := (pH3.trans p4).length_le
          obtain ⟨v', H5, o', us', q1, q2, q3, q4, q5, q6⟩ := (hin.pre (pH3.trans p4)).appL (P := Tryz.prog) (t2 := 26) Tryz.underlying26 cs38 (by rw [by38]; decide) zk38 hgL (by omega) l3 (Nat.le_refl _) (by omega)
          have f1 : A <+: H5 := prefix_of fun j x hx' => q5 j x (by have := at_lt hx'; omega) (pre_at (hp3.trans p4) hx')
          have f2 : (L ++ mext es i (ed ++ [(e' : Int)]) k) ++ mlpE es i ed k = mlpE es r ed k := by
            rw [← hL, hstep, List.append_assoc]
          have f3 : (L ++ mext es i (ed ++ [(e' : Int)]) k).length + 2 ^ i ≤ 2 ^ r := by rw [List.length_append]; omega
          simp (maxSteps := 1000000) (disch := omega) only [h1, h2, h3, h8, h9, q1, q2, he1, wrap64, S, S1, S2, S3, S4, S5, ST, eq_self, reduceIte, reduceCtorEq, Nat.reduceEqDiff, Nat.reduceAdd]
          have f4 : A.length ≤ o' := by have := (hp3.trans p4).length_le; omega
          refine ⟨i, by omega, o', us', L ++ mext es i (ed ++ [(e' : Int)]) k, ?_⟩
          (repeat' first | exact f1 | exact f2 | exact f3 | exact f4 | exact q3 | apply And.intro) <;> first | (simp only [Value.int.injEq, true_and]; omega) | omega | rfl | assumption | (simp; done) | (simp; omega)
        · rw [if_neg (fun h => g4 (hsn.2 h)), List.nil_append] at hstep
          rw [hstep] at hL
          have f1 := (hin.pre pH3).wide (Nat.le_refl _) pH3.length_le
          have f2 : L.length + 2 ^ i ≤ 2 ^ r := by omega
          simp (maxSteps := 1000000) (disch := omega) only [g4, h1, h2, h3, h8, h9, he1, wrap64, S, S1, S2, S3, S4, S5, ST, eq_self, reduceIte, reduceCtorEq, Nat.reduceEqDiff, Nat.reduceAdd]
          refine ⟨i, by omega, o, us, L, ?_⟩
          (repeat' first | exact f1 | exact f2 | exact hp3 | exact hL | apply And.intro) <;> first | (simp only [Value.int.injEq, true_and]; omega) | omega | rfl | assumption | (simp; done) | (simp; omega)
      · have hm0 : m = 0 := by omega
        subst hm0
        rw [mlpE_zero, List.append_nil] at hL
        simp (maxSteps := 1000000) (disch := omega) only [h8, S, S1, S2, S3, S4, S5, ST, eq_self, reduceIte, reduceCtorEq, Nat.reduceEqDiff, Nat.reduceAdd]
        refine hQ _ _ _ ?_
        simp (maxSteps := 1000000) (disch := omega) only [h8, S, S1, S2, S3, S4, S5, ST, eq_self, reduceIte, reduceCtorEq, Nat.reduceEqDiff, Nat.reduceAdd]
        rw [← hL]
        exact ⟨hin.inl, by omega, pA.trans hp⟩
end Go.Proofs.YtlfongfhbkefmaaGreat.Ai
namespace Go.Proofs.YtlfongfhbkefmaaGreat.Ai
open Go
def ords42 : List (Nat × List (Nat × Bool)) := []
def cd42 : Cd := (.seq (.reg [⟨⟨some 1, Op.box 31 (Operand.tmp 0), none⟩, []⟩,
  ⟨⟨some 2, Op.assign (Operand.const (Value.slice none 0 0)), none⟩, []⟩]) (.seq (.seq (.reg [⟨⟨some 3, Op.fieldAddr 31 (Operand.tmp 1) 0, none⟩, []⟩,
  ⟨⟨some 4, Op.load 3 (Operand.tmp 3), none⟩, []⟩,
  ⟨⟨some 5, Op.binOp BinOp.rem 3 (Operand.tmp 4) (Operand.const (Value.int IntKind.i64 2)) 3, none⟩, []⟩,
  ⟨⟨some 6, Op.binOp BinOp.eql 3 (Operand.tmp 5) (Operand.const (Value.int IntKind.i64 1)) 3, none⟩, []⟩]) (.cond (Operand.tmp 6) (.seq (.reg [⟨⟨some 7, Op.buildSlice 26 0 #[], none⟩, []⟩,
  ⟨⟨some 2, Op.assign (Operand.tmp 7), none⟩, []⟩]) .ret) .skip)) (.seq (.reg [⟨⟨some 8, Op.load 31 (Operand.tmp 1), none⟩, []⟩,
  ⟨⟨some 9, Op.fieldAddr 31 (Operand.tmp 1) 0, none⟩, []⟩,
  ⟨⟨some 10, Op.load 3 (Operand.tmp 9), none⟩, []⟩,
  ⟨⟨some 11, Op.binOp BinOp.quo 3 (Operand.tmp 10) (Operand.const (Value.int IntKind.i64 2)) 3, none⟩, []⟩,
  ⟨⟨some 12, Op.call { callee := (Callee.value (Operand.func 92)), args := #[(Operand.tmp 8), (Operand.tmp 11)], argTypes := #[31, 3] }, none⟩, []⟩,
  ⟨⟨some 2, Op.assign (Operand.tmp 12), none⟩, []⟩]) .ret)))
theorem sl42 : slim Tryz.f42.ntmps ords42 (Tryz.f42.body.getD .skip) = some cd42 := by kernel_rfl
theorem in42 {args : List Value} {H : AH} {R : Value → AH → Prop} (hl : args.length = 1) (h : ∀ (Q : Exit → Sl → AH → Prop), (∀ e s H, endA Tryz.prog [ResultVar.tmp 2] R e s H → Q e s H) → wpC Tryz.prog cd42 Q (enterA args) H) : ACalls Tryz.prog 42 args H R :=
  ACalls.intro (by kernel_rfl) Tryz.func42 rfl (by kernel_rfl) sl42 hl (of_decide_eq_true (by kernel_rfl)) (by kernel_rfl) h
def ords85 : List (Nat × List (Nat × Bool)) := []
def cd85 : Cd := (.seq (.reg [⟨⟨some 1, Op.box 31 (Operand.tmp 0), none⟩, []⟩,
  ⟨⟨some 2, Op.assign (Operand.const (Value.slice none 0 0)), none⟩, []⟩]) (.seq (.seq (.reg [⟨⟨some 3, Op.fieldAddr 31 (Operand.tmp 1) 0, none⟩, []⟩,
  ⟨⟨some 4, Op.load 3 (Operand.tmp 3), none⟩, []⟩,
  ⟨⟨some 5, Op.binOp BinOp.rem 3 (Operand.tmp 4) (Operand.const (Value.int IntKind.i64 2)) 3, none⟩, []⟩,
  ⟨⟨some 6, Op.binOp BinOp.neq 3 (Operand.tmp 5) (Operand.const (Value.int IntKind.i64 0)) 3, none⟩, []⟩]) (.cond (Operand.tmp 6) (.seq (.reg [⟨⟨some 7, Op.buildSlice 26 0 #[], none⟩, []⟩,
  ⟨⟨some 2, Op.assign (Operand.tmp 7), none⟩, []⟩]) .ret) .skip)) (.seq (.reg [⟨⟨some 8, Op.load 31 (Operand.tmp 1), none⟩, []⟩,
  ⟨⟨some 9, Op.buildSlice 38 0 #[], none⟩, []⟩,
  ⟨⟨some 10, Op.fieldAddr 31 (Operand.tmp 1) 0, none⟩, []⟩,
  ⟨⟨some 11, Op.load 3 (Operand.tmp 10), none⟩, []⟩,
  ⟨⟨some 12, Op.binOp BinOp.quo 3 (Operand.tmp 11) (Operand.const (Value.int IntKind.i64 2)) 3, none⟩, []⟩,
  ⟨⟨some 13, Op.call { callee := (Callee.value (Operand.func 124)), args := #[(Operand.tmp 8), (Operand.tmp 9), (Operand.tmp 12)], argTypes := #[31, 38, 3] }, none⟩, []⟩,
  ⟨⟨some 2, Op.assign (Operand.tmp 13), none⟩, []⟩]) .ret)))
theorem sl85 : slim Tryz.f85.ntmps ords85 (Tryz.f85.body.getD .skip) = some cd85 := by kernel_rfl
theorem in85 {args : List Value} {H : AH} {R : Value → AH → Prop} (hl : args.length = 1) (h : ∀ (Q : Exit → Sl → AH → Prop), (∀ e s H, endA Tryz.prog [ResultVar.tmp 2] R e s H → Q e s H) → wpC Tryz.prog cd85 Q (enterA args) H) : ACalls Tryz.prog 85 args H R :=
  ACalls.intro (by kernel_rfl) Tryz.func85 rfl (by kernel_rfl) sl85 hl (of_decide_eq_true (by kernel_rfl)) (by kernel_rfl) h
end Go.Proofs.YtlfongfhbkefmaaGreat.Ai
namespace Go.Proofs.YtlfongfhbkefmaaGreat.Ai
open Go Go.RowKit
set_option linter.unusedVariables false
set_option linter.unusedSimpArgs false
/-- all perfect matchings -/
def perfL (n : Int) (es : List (Int × Int)) : List (List Int) := if n.toNat % 2 = 1 then [] else mext es es.length [] (n.toNat / 2)
theorem perfL_len {n : Int} {es : List (Int × Int)} (hg : Grd n es) : (perfL n es).length ≤ 105 := by
  unfold perfL
  split
  · simp
  · exact perfect_le hg (by omega)
def perfR (n : Int) (es : List (Int × Int)) : List (List Int) := if Grd n es then perfL n es else []
theorem mext_lenP {n : Int} {es : List (Int × Int)} {j : Nat} {x : List Int} (h : x ∈ mext es es.length [] j) : x.length = j := by
  unfold mext at h
  exact of_decide_eq_true (List.mem_filter.1 h).2
theorem sizeL_max (m : Nat) : ∀ (ls : List (List Int)), (∀ l ∈ ls, l.length ≤ m) → sizeL ls ≤ ls.length * m
  | [], _ => by simp [sizeL]
  | l :: ls, h => by
    have := sizeL_max m ls (fun x hx => h x (by simp [hx]))
    have := h l (by simp)
    simp only [sizeL, List.map_cons, List.sum_cons, List.length_cons, Nat.add_mul, Nat.one_mul] at *
    omega
set_option maxRecDepth 20000 in
theorem perfect_c (n : Int) (v : Value) (es : List (Int × Int)) (H : AH) (hr : RowP 83 H v es) (hlen : es.length ≤ 1048576) (hg : Grd n es) :
    ACalls Tryz.prog 42 [.agg (List.toArray [.int .i64 n, v])] H fun r H' => InL H.length H'.length 38 3 H' r (perfL n es) ∧ H <+: H' := by
  refine in42 rfl ?_
  intro Q hQ
  have hnn := hg.1
  have hmod : n.tmod 2 = ((n.toNat % 2 : Nat) : Int) := by rw [Int.tmod_eq_emod_of_nonneg hnn.1]; omega
  have hq : IntKind.i64.wrap (n.tdiv 2) = ((n.toNat / 2 : Nat) : Int) := by
    rw [Int.tdiv_eq_ediv_of_nonneg hnn.1, wrap64 (by omega) (by omega)]
    omega
  have hpl := perfL_len hg
  simp (maxSteps := 1000000) (disch := omega) only [cd42, hr.boxG, S, S1, S2, S3, S4, S5, ST, eq_self, reduceIte, reduceCtorEq, Nat.reduceEqDiff, Nat.reduceAdd]
  generalize hA : H ++ [AObj.cells [.int .i64 n, v] 31 false] = A
  have pA : H <+: A := by rw [← hA]; exact List.prefix_append _ _
  have cA : A[H.length]? = some (.cells [.int .i64 n, v] 31 false) := by rw [← hA]; exact at_new ..
  have rA := hr.pre pA
  simp (maxSteps := 1000000) (disch := omega) only [cell_of cA, hmod, S, S1, S2, S3, S4, S5, ST, eq_self, reduceIte, reduceCtorEq, Nat.reduceEqDiff, Nat.reduceAdd]
  refine brD.intro (fun e => ?_) (fun e => ?_)
  · simp (maxSteps := 1000000) (disch := omega) only [S, S1, S2, S3, S4, S5, ST, eq_self, reduceIte, reduceCtorEq, Nat.reduceEqDiff, Nat.reduceAdd]
    refine hQ _ _ _ ?_
    simp (maxSteps := 1000000) (disch := omega) only [S, S1, S2, S3, S4, S5, ST, eq_self, reduceIte, reduceCtorEq, Nat.reduceEqDiff, Nat.reduceAdd]
    have : perfL n es = [] := by unfold perfL; rw [if_pos (by omega)]
    rw [this]
    have u0 := InU.new H.length 38 3 A pA.length_le
    refine ⟨?_, pre_app pA _⟩
    have := u0.inl
    simpa using this
  · have hP : perfL n es = mext es es.length [] (n.toNat / 2) := by unfold perfL; rw [if_neg (by omega)]
    simp (maxSteps := 1000000) (disch := omega) only [cell_of cA, ld_agg ag31 cs31 cA, hq, S, S1, S2, S3, S4, S5, ST, eq_self, reduceIte, reduceCtorEq, Nat.reduceEqDiff, Nat.reduceAdd]
    refine CallH.by (ofSize_c n v es (n.toNat / 2) A rA hlen hg (by omega)) ?_
    rintro g B ⟨hL, pB⟩
    rw [← hP, List.take_of_length_le (by omega)] at hL
    have ht : isTup g = false := by
      obtain ⟨us, r1, _⟩ := hL.parts
      exact r1.tup
    simp (maxSteps := 1000000) (disch := omega) only [S, S1, S2, S3, S4, S5, ST, eq_self, reduceIte, reduceCtorEq, Nat.reduceEqDiff, Nat.reduceAdd]
    refine hQ _ _ _ ?_
    simp (maxSteps := 1000000) (disch := omega) only [ht, S, S1, S2, S3, S4, S5, ST, eq_self, reduceIte, reduceCtorEq, Nat.reduceEqDiff, Nat.reduceAdd]
    exact ⟨hL.wide pA.length_le (Nat.le_refl _), pA.trans pB⟩
set_option maxRecDepth 20000 in
theorem l8Perfect_c (n : Int) (v : Value) (es : List (Int × Int)) (H : AH) (hr : RowP 83 H v es) (hg : Grd n es) :
    ACalls Tryz.prog 85 [.agg (List.toArray [.int .i64 n, v])] H fun r H' => InL H.length H'.length 38 3 H' r (perfL n es) ∧ H <+: H' := by
  refine in85 rfl ?_
  intro Q hQ
  have hnn := hg.1
  have hmod : n.tmod 2 = ((n.toNat % 2 : Nat) : Int) := by rw [Int.tmod_eq_emod_of_nonneg hnn.1]; omega
  have hq : IntKind.i64.wrap (n.tdiv 2) = ((n.toNat / 2 : Nat) : Int) := by
    rw [Int.tdiv_eq_ediv_of_nonneg hnn.1, wrap64 (by omega) (by omega)]
    omega
  simp (maxSteps := 1000000) (disch := omega) only [cd85, hr.boxG, S, S1, S2, S3, S4, S5, ST, eq_self, reduceIte, reduceCtorEq, Nat.reduceEqDiff, Nat.reduceAdd]
  generalize hA : H ++ [AObj.cells [.int .i64 n, v] 31 false] = A
  have pA : H <+: A := by rw [← hA]; exact List.prefix_append _ _
  have cA : A[H.length]? = some (.cells [.int .i64 n, v] 31 false) := by rw [← hA]; exact at_new ..
  have rA := hr.pre pA
  simp (maxSteps := 1000000) (disch := omega) only [cell_of cA, hmod, S, S1, S2, S3, S4, S5, ST, eq_self, reduceIte, reduceCtorEq, Nat.reduceEqDiff, Nat.reduceAdd]
  refine brD.intro (fun e => ?_) (fun e => ?_)
  · simp (maxSteps := 1000000) (disch := omega) only [S, S1, S2, S3, S4, S5, ST, eq_self, reduceIte, reduceCtorEq, Nat.reduceEqDiff, Nat.reduceAdd]
    refine hQ _ _ _ ?_
    simp (maxSteps := 1000000) (disch := omega) only [S, S1, S2, S3, S4, S5, ST, eq_self, reduceIte, reduceCtorEq, Nat.reduceEqDiff, Nat.reduceAdd]
    have : perfL n es = [] := by unfold perfL; rw [if_pos (by omega)]
    rw [this]
    have u0 := InU.new H.length 38 3 A pA.length_le
    refine ⟨?_, pre_app pA _⟩
    have := u0.inl
    simpa using this
  · have hP : perfL n es = mext es es.length [] (n.toNat / 2) := by unfold perfL; rw [if_neg (by omega)]
    have cA2 := at_app cA [AObj.cells [] 3 false]
    simp (maxSteps := 1000000) (disch := omega) only [cell_of cA, cell_of cA2, ld_agg ag31 cs31 cA, hq, S, S1, S2, S3, S4, S5, ST, eq_self, reduceIte, reduceCtorEq, Nat.reduceEqDiff, Nat.reduceAdd]
    refine CallH.by (l8Extend_c v n es (grd_len hg) (n.toNat / 2) (by omega) es.length [] (.slice (some ⟨A.length, 0, none⟩) 0 0) A.length (A ++ [.cells [] 3 false]) (rA.pre (List.prefix_append _ _)) (.inr ⟨A.length, [], rfl, Nat.le_refl _, by simp, at_new .., rfl⟩) (by simp) (Nat.le_refl _) (MtU.zero _ _) (by simp) (Nat.zero_le _) (fun _ => rfl) (fun h => absurd h (by simp))) ?_
    rintro g B ⟨hL, _, pB⟩
    rw [← hP] at hL
    have ht : isTup g = false := by
      obtain ⟨us, r1, _⟩ := hL.parts
      exact r1.tup
    simp (maxSteps := 1000000) (disch := omega) only [S, S1, S2, S3, S4, S5, ST, eq_self, reduceIte, reduceCtorEq, Nat.reduceEqDiff, Nat.reduceAdd]
    refine hQ _ _ _ ?_
    simp (maxSteps := 1000000) (disch := omega) only [ht, S, S1, S2, S3, S4, S5, ST, eq_self, reduceIte, reduceCtorEq, Nat.reduceEqDiff, Nat.reduceAdd]
    exact ⟨hL.wide pA.length_le (Nat.le_refl _), pA.trans ((List.prefix_append _ _).trans pB)⟩
end Go.Proofs.YtlfongfhbkefmaaGreat.Ai
