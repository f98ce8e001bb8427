/- Texts of this claim, joined: Two, Cir, TreW, Cut, Crc, CirP, Vin, PrA, Drg, Tri2, Tri3, At, Bound, Drh, BtA, PmE, BrdP, MvP, Rch, Tok, Spd, Drc, SrtL. -/
import Derived.Test.YtldcbmmmheookaaProg
import Derived.KernelRfl
import Derived.Test.YtldcbmmmheookaaMgLawCrl4
namespace Go.Proofs.Ytldcbmmmheookaa.Ai
open Go
def ords55 : List (Nat × List (Nat × Bool)) := []
def cd55 : Cd := (.seq (.reg [⟨⟨some 4, Op.assign (Operand.const (Value.slice none 0 0)), none⟩, []⟩]) (.seq (.reg [⟨⟨some 7, Op.buildSlice 27 0 #[], none⟩, []⟩,
  ⟨⟨some 5, Op.assign (Operand.tmp 7), none⟩, []⟩]) (.seq (.seq (.reg [⟨⟨some 6, Op.assign (Operand.const (Value.int IntKind.i64 0)), none⟩, []⟩]) (.block 0 (.loop (.seq (.seq (.reg [⟨⟨some 8, Op.move (Operand.tmp 6), none⟩, []⟩,
  ⟨⟨some 9, Op.move (Operand.tmp 0), none⟩, []⟩,
  ⟨⟨some 10, Op.call { callee := (Callee.builtin Builtin.len), args := #[(Operand.tmp 9)], argTypes := #[27] }, none⟩, []⟩,
  ⟨⟨some 11, Op.binOp BinOp.lss 3 (Operand.tmp 8) (Operand.tmp 10) 3, none⟩, []⟩]) (.cond (Operand.tmp 11) .skip (.exit 0))) (.seq (.block 1 (.seq (.reg [⟨⟨some 14, Op.move (Operand.tmp 1), none⟩, []⟩,
  ⟨⟨some 15, Op.move (Operand.tmp 0), none⟩, []⟩,
  ⟨⟨some 16, Op.move (Operand.tmp 6), none⟩, []⟩,
  ⟨⟨some 17, Op.indexAddr 27 (Operand.tmp 15) (Operand.tmp 16), none⟩, []⟩,
  ⟨⟨some 18, Op.load 3 (Operand.tmp 17), none⟩, []⟩,
  ⟨⟨some 19, Op.call { callee := (Callee.value (Operand.func 42)), args := #[(Operand.tmp 14), (Operand.tmp 18)], argTypes := #[27, 3] }, none⟩, []⟩,
  ⟨⟨some 20, Op.unOp UnOp.not 4 (Operand.tmp 19), none⟩, []⟩]) (.cond (Operand.tmp 20) (.reg [⟨⟨some 21, Op.move (Operand.tmp 5), none⟩, []⟩,
  ⟨⟨some 22, Op.move (Operand.tmp 0), none⟩, []⟩,
  ⟨⟨some 23, Op.move (Operand.tmp 6), none⟩, []⟩,
  ⟨⟨some 24, Op.indexAddr 27 (Operand.tmp 22) (Operand.tmp 23), none⟩, []⟩,
  ⟨⟨some 25, Op.load 3 (Operand.tmp 24), none⟩, []⟩,
  ⟨⟨some 26, Op.buildSlice 27 1 #[(0, (Operand.tmp 25))], none⟩, []⟩,
  ⟨⟨some 27, Op.call { callee := (Callee.builtin Builtin.append), args := #[(Operand.tmp 21), (Operand.tmp 26)], argTypes := #[27, 27] }, none⟩, []⟩,
  ⟨⟨some 5, Op.assign (Operand.tmp 27), none⟩, []⟩]) .skip))) (.reg [⟨⟨some 12, Op.move (Operand.tmp 6), none⟩, []⟩,
  ⟨⟨some 13, Op.binOp BinOp.add 3 (Operand.tmp 12) (Operand.const (Value.int IntKind.i64 1)) 3, none⟩, []⟩,
  ⟨⟨some 6, Op.assign (Operand.tmp 13), none⟩, []⟩])))))) (.seq (.reg [⟨⟨some 28, Op.move (Operand.tmp 5), none⟩, []⟩,
  ⟨⟨some 4, Op.assign (Operand.tmp 28), none⟩, []⟩]) .ret))))
theorem sl55 : slim Try.f55.ntmps ords55 (Try.f55.body.getD .skip) = some cd55 := by kernel_rfl
theorem in55 {args : List Value} {H : AH} {R : Value → AH → Prop} (hl : args.length = 2) (h : ∀ (Q : Exit → Sl → AH → Prop), (∀ e s H, endA Try.prog [ResultVar.tmp 4] R e s H → Q e s H) → wpC Try.prog cd55 Q (enterA args) H) : ACalls Try.prog 55 args H R :=
  ACalls.intro (by kernel_rfl) Try.func55 rfl (by kernel_rfl) sl55 hl (of_decide_eq_true (by kernel_rfl)) (by kernel_rfl) h
end Go.Proofs.Ytldcbmmmheookaa.Ai
namespace Go.Proofs.Ytldcbmmmheookaa.Ai
open Go Go.RowKit
set_option linter.unusedVariables false
set_option linter.unusedSimpArgs false
set_option maxRecDepth 20000 in
set_option maxHeartbeats 1000000 in
theorem l3Only_c (v w : Value) (xs ys : List Int) (H : AH) (hr : Row 3 H v xs) (hy : Row 3 H w ys) (hlen : xs.length ≤ 1000000) (hlen2 : ys.length ≤ 1000000) :
    ACalls Try.prog 55 [v, w] H fun r H' => Own 3 H H' r (without xs ys) ∧ H <+: H' := by
  refine in55 rfl ?_
  intro Q hQ
  simp (maxSteps := 1000000) (disch := omega) only [cd55, S, S1, S2, S3, S4, S5, ST, eq_self, reduceIte, reduceCtorEq, Nat.reduceEqDiff, Nat.reduceAdd]
  refine LoopH.by (fun m s H' => ∃ i, m + i = xs.length ∧ s 0 = v ∧ s 1 = w ∧ s 6 = .int .i64 ((i : Nat) : Int) ∧ Own 3 H H' (s 5) (without (xs.take i) ys) ∧ H <+: H') xs.length ?_ ?_
  · exact ⟨0, by simp, rfl, rfl, rfl, .inr ⟨H.length, rfl, Nat.le_refl _, at_new ..⟩, List.prefix_append _ _⟩
  · rintro m s H' ⟨i, hm, h0, h1, h6, ho, hp⟩
    have hr' := hr.pre hp
    have hy' := hy.pre hp
    generalize hu : s 5 = u at *
    simp (maxSteps := 1000000) (disch := omega) only [h0, h1, h6, hu, hr'.len Try.underlying27, S, S1, S2, S3, S4, S5, ST, eq_self, reduceIte, reduceCtorEq, Nat.reduceEqDiff, Nat.reduceAdd]
    refine brD.intro (fun g => ?_) (fun g => ?_)
    · have hi : i < xs.length := by omega
      have st := without_step xs ys i hi
      have le : (without (xs.take i) ys).length ≤ i := by
        unfold without
        refine Nat.le_trans (List.length_filter_le _ _) ?_
        simp; omega
      simp (maxSteps := 1000000) (disch := omega) only [h0, h1, h6, hu, hr'.ix Try.underlying27 cs3, hr'.cell, Int.toNat_natCast, S, S1, S2, S3, S4, S5, ST, eq_self, reduceIte, reduceCtorEq, Nat.reduceEqDiff, Nat.reduceAdd]
      refine CallH.by (l1Has_c w ys _ H' hy' (by omega)) ?_
      rintro _ _ ⟨rfl, rfl⟩
      simp (maxSteps := 1000000) (disch := omega) only [S, S1, S2, S3, S4, S5, ST, eq_self, reduceIte, reduceCtorEq, Nat.reduceEqDiff, Nat.reduceAdd]
      refine brD.intro (fun e => ?_) (fun e => ?_)
      · rw [if_pos e, List.append_nil] at st
        simp (maxSteps := 1000000) (disch := omega) only [h0, h1, h6, hu, wrap64, S, S1, S2, S3, S4, S5, ST, eq_self, reduceIte, reduceCtorEq, Nat.reduceEqDiff, Nat.reduceAdd]
        refine ⟨m - 1, by omega, i + 1, ?_⟩
        rw [st]
        (repeat' apply And.intro) <;> first | exact ho | exact hp | (simp only [Value.int.injEq, true_and]; omega) | omega | rfl | assumption | (simp; done) | (simp; omega)
      · rw [if_neg e] at st
        obtain ⟨v', H2, k1, k2, k3, k4, k5, k6⟩ := own1_27 ho hp (by omega) (xs.getD i 0)
        simp (maxSteps := 1000000) (disch := omega) only [h0, h1, h6, hu, hr'.ix Try.underlying27 cs3, hr'.cell, Int.toNat_natCast, k1, wrap64, S, S1, S2, S3, S4, S5, ST, eq_self, reduceIte, reduceCtorEq, Nat.reduceEqDiff, Nat.reduceAdd]
        refine ⟨m - 1, by omega, i + 1, ?_⟩
        rw [st]
        (repeat' apply And.intro) <;> first | exact k2 | exact k3 | (simp only [Value.int.injEq, true_and]; omega) | omega | rfl | assumption | (simp; done) | (simp; omega)
    · simp (maxSteps := 1000000) (disch := omega) only [hu, S, S1, S2, S3, S4, S5, ST, eq_self, reduceIte, reduceCtorEq, Nat.reduceEqDiff, Nat.reduceAdd]
      refine hQ _ _ _ ?_
      simp (maxSteps := 1000000) (disch := omega) only [hu, ho.row.tup, S, S1, S2, S3, S4, S5, ST, eq_self, reduceIte, reduceCtorEq, Nat.reduceEqDiff, Nat.reduceAdd]
      rw [List.take_of_length_le (by omega)] at ho
      exact ⟨ho, hp⟩
end Go.Proofs.Ytldcbmmmheookaa.Ai
namespace Go.Proofs.Ytldcbmmmheookaa.Ai
open Go
def ords40 : List (Nat × List (Nat × Bool)) := []
def cd40 : Cd := (.seq (.reg [⟨⟨some 3, Op.box 26 (Operand.tmp 0), none⟩, []⟩,
  ⟨⟨some 6, Op.assign (Operand.const (Value.slice none 0 0)), none⟩, []⟩]) (.seq (.reg [⟨⟨some 13, Op.move (Operand.tmp 2), none⟩, []⟩,
  ⟨⟨some 14, Op.buildSlice 27 1 #[(0, (Operand.tmp 13))], none⟩, []⟩,
  ⟨⟨some 7, Op.assign (Operand.tmp 14), none⟩, []⟩]) (.seq (.seq (.reg [⟨⟨some 15, Op.move (Operand.tmp 1), none⟩, []⟩,
  ⟨⟨some 16, Op.call { callee := (Callee.builtin Builtin.len), args := #[(Operand.tmp 15)], argTypes := #[27] }, none⟩, []⟩,
  ⟨⟨some 17, Op.move (Operand.const (Value.int IntKind.i64 0)), none⟩, []⟩]) (.block 0 (.loop (.seq (.reg [⟨⟨some 18, Op.binOp BinOp.lss 3 (Operand.tmp 17) (Operand.tmp 16) 3, none⟩, []⟩]) (.seq (.cond (Operand.tmp 18) .skip (.exit 0)) (.seq (.block 1 (.seq (.reg [⟨⟨some 19, Op.indexAddr 27 (Operand.tmp 15) (Operand.tmp 17), none⟩, []⟩,
  ⟨⟨some 20, Op.load 3 (Operand.tmp 19), none⟩, []⟩,
  ⟨⟨some 9, Op.assign (Operand.tmp 20), none⟩, []⟩]) (.seq (.reg [⟨⟨some 21, Op.fieldAddr 26 (Operand.tmp 3) 0, none⟩, []⟩,
  ⟨⟨some 22, Op.load 3 (Operand.tmp 21), none⟩, []⟩,
  ⟨⟨some 23, Op.call { callee := (Callee.value (Operand.func 44)), args := #[(Operand.tmp 22)], argTypes := #[3] }, none⟩, []⟩,
  ⟨⟨some 10, Op.assign (Operand.tmp 23), none⟩, []⟩]) (.seq (.seq (.reg [⟨⟨some 24, Op.move (Operand.tmp 1), none⟩, []⟩,
  ⟨⟨some 25, Op.call { callee := (Callee.builtin Builtin.len), args := #[(Operand.tmp 24)], argTypes := #[27] }, none⟩, []⟩,
  ⟨⟨some 26, Op.move (Operand.const (Value.int IntKind.i64 0)), none⟩, []⟩]) (.block 2 (.loop (.seq (.reg [⟨⟨some 27, Op.binOp BinOp.lss 3 (Operand.tmp 26) (Operand.tmp 25) 3, none⟩, []⟩]) (.seq (.cond (Operand.tmp 27) .skip (.exit 2)) (.seq (.block 3 (.seq (.reg [⟨⟨some 28, Op.indexAddr 27 (Operand.tmp 24) (Operand.tmp 26), none⟩, []⟩,
  ⟨⟨some 29, Op.load 3 (Operand.tmp 28), none⟩, []⟩,
  ⟨⟨some 12, Op.assign (Operand.tmp 29), none⟩, []⟩]) (.seq (.reg [⟨⟨some 30, Op.move (Operand.tmp 12), none⟩, []⟩,
  ⟨⟨some 31, Op.move (Operand.tmp 9), none⟩, []⟩,
  ⟨⟨some 32, Op.binOp BinOp.neq 3 (Operand.tmp 30) (Operand.tmp 31) 3, none⟩, []⟩]) (.cond (Operand.tmp 32) (.reg [⟨⟨some 33, Op.move (Operand.tmp 10), none⟩, []⟩,
  ⟨⟨some 34, Op.fieldAddr 26 (Operand.tmp 3) 1, none⟩, []⟩,
  ⟨⟨some 35, Op.load 24 (Operand.tmp 34), none⟩, []⟩,
  ⟨⟨some 36, Op.move (Operand.tmp 12), none⟩, []⟩,
  ⟨⟨some 37, Op.indexAddr 24 (Operand.tmp 35) (Operand.tmp 36), none⟩, []⟩,
  ⟨⟨some 38, Op.load 71 (Operand.tmp 37), none⟩, []⟩,
  ⟨⟨some 39, Op.call { callee := (Callee.value (Operand.func 45)), args := #[(Operand.tmp 33), (Operand.tmp 38)], argTypes := #[68, 71] }, none⟩, []⟩]) .skip)))) (.reg [⟨⟨some 40, Op.binOp BinOp.add 3 (Operand.tmp 26) (Operand.const (Value.int IntKind.i64 1)) 3, none⟩, []⟩,
  ⟨⟨some 26, Op.move (Operand.tmp 40), none⟩, []⟩]))))))) (.seq (.reg [⟨⟨some 41, Op.move (Operand.tmp 10), none⟩, []⟩,
  ⟨⟨some 42, Op.fieldAddr 26 (Operand.tmp 3) 1, none⟩, []⟩,
  ⟨⟨some 43, Op.load 24 (Operand.tmp 42), none⟩, []⟩,
  ⟨⟨some 44, Op.move (Operand.tmp 2), none⟩, []⟩,
  ⟨⟨some 45, Op.indexAddr 24 (Operand.tmp 43) (Operand.tmp 44), none⟩, []⟩,
  ⟨⟨some 46, Op.load 71 (Operand.tmp 45), none⟩, []⟩,
  ⟨⟨some 47, Op.call { callee := (Callee.value (Operand.func 45)), args := #[(Operand.tmp 41), (Operand.tmp 46)], argTypes := #[68, 71] }, none⟩, []⟩]) (.cond (Operand.tmp 47) (.reg [⟨⟨some 48, Op.move (Operand.tmp 7), none⟩, []⟩,
  ⟨⟨some 49, Op.move (Operand.tmp 9), none⟩, []⟩,
  ⟨⟨some 50, Op.buildSlice 27 1 #[(0, (Operand.tmp 49))], none⟩, []⟩,
  ⟨⟨some 51, Op.call { callee := (Callee.builtin Builtin.append), args := #[(Operand.tmp 48), (Operand.tmp 50)], argTypes := #[27, 27] }, none⟩, []⟩,
  ⟨⟨some 7, Op.assign (Operand.tmp 51), none⟩, []⟩]) .skip)))))) (.reg [⟨⟨some 52, Op.binOp BinOp.add 3 (Operand.tmp 17) (Operand.const (Value.int IntKind.i64 1)) 3, none⟩, []⟩,
  ⟨⟨some 17, Op.move (Operand.tmp 52), none⟩, []⟩]))))))) (.seq (.reg [⟨⟨some 53, Op.move (Operand.tmp 7), none⟩, []⟩,
  ⟨⟨some 54, Op.call { callee := (Callee.value (Operand.func 61)), args := #[(Operand.tmp 53)], argTypes := #[27] }, none⟩, []⟩]) (.seq (.reg [⟨⟨some 55, Op.move (Operand.tmp 7), none⟩, []⟩,
  ⟨⟨some 6, Op.assign (Operand.tmp 55), none⟩, []⟩]) .ret)))))
theorem sl40 : slim Try.f40.ntmps ords40 (Try.f40.body.getD .skip) = some cd40 := by kernel_rfl
theorem in40 {args : List Value} {H : AH} {R : Value → AH → Prop} (hl : args.length = 3) (h : ∀ (Q : Exit → Sl → AH → Prop), (∀ e s H, endA Try.prog [ResultVar.tmp 6] R e s H → Q e s H) → wpC Try.prog cd40 Q (enterA args) H) : ACalls Try.prog 40 args H R :=
  ACalls.intro (by kernel_rfl) Try.func40 rfl (by kernel_rfl) sl40 hl (of_decide_eq_true (by kernel_rfl)) (by kernel_rfl) h
end Go.Proofs.Ytldcbmmmheookaa.Ai
namespace Go.Proofs.Ytldcbmmmheookaa.Ai
open Go Go.RowKit
set_option linter.unusedVariables false
set_option linter.unusedSimpArgs false
theorem wo1_snoc (T : List Int) (e x : Int) : wo1 (T ++ [x]) e = if x ≠ e then wo1 T e ++ [x] else wo1 T e := by
  unfold wo1
  rw [List.filter_append]
  by_cases h : x = e <;> simp [h]
/-- .. of some of the tree's edges -/
def cirLT (n : Nat) (es : List (Int × Int)) (T l : List Int) (f : Int) : List Int := l.filter fun e => !jnB es n (wo1 T e) (enA es f) (enB es f)
/-- the circle, in order -/
def crcL (n : Nat) (es : List (Int × Int)) (T : List Int) (f : Int) : List Int := put (cirL n es T f) f
theorem asc_srt {ys : List Int} (ha : Asc ys) (hn : ys.Nodup) : ys.Pairwise (· < ·) := by
  rw [List.pairwise_iff_getElem]
  intro i j hi hj hij
  have := ha i j hij hj
  rw [show ys.getD i 0 = ys[i] by simp [hi], show ys.getD j 0 = ys[j] by simp [hj]] at this
  have hne : ys[i] ≠ ys[j] := fun e => by
    have := (List.getElem_inj hn).1 e
    omega
  omega
theorem crc_of {n : Nat} {es : List (Int × Int)} {T ys : List Int} {f : Int} (hT : T.Pairwise (· < ·)) (hf : f ∉ T) (hp : ys.Perm ([f] ++ cirL n es T f)) (ha : Asc ys) : ys = crcL n es T f := by
  have hs : (cirL n es T f).Pairwise (· < ·) := hT.sublist List.filter_sublist
  have hfc : f ∉ cirL n es T f := fun q => hf (List.mem_filter.1 q).1
  have hn : ys.Nodup := by
    rw [hp.nodup_iff, List.singleton_append, List.nodup_cons]
    exact ⟨hfc, hs.imp fun q e => by omega⟩
  refine srt_ext (asc_srt ha hn) (put_sorted _ _ hs) fun z => ?_
  rw [hp.mem_iff]
  unfold crcL
  rw [put_mem]
  simp
set_option maxRecDepth 20000 in
set_option maxHeartbeats 8000000 in
theorem circle_c (n : Nat) (hn : 1 ≤ n) (v w : Value) (es : List (Int × Int)) (T : List Int) (f : Int) (H : AH) (hr : RowP 71 H v es) (hg : Grd (n : Int) es) (hw : Row 3 H w T) (hT : TreL n es T) (hf : 0 ≤ f ∧ f < es.length) (hfT : f ∉ T) :
    ACalls Try.prog 40 [.agg (List.toArray [.int .i64 (n : Int), v]), w, .int .i64 f] H fun r H' => Mine 3 H H' r (crcL n es T f) ∧ H <+: H' := by
  have h28 : es.length ≤ 28 := grd_len hg
  have hn8 : n ≤ 8 := by have := hg.1; omega
  have htl := hT.1
  refine in40 rfl ?_
  intro Q hQ
  simp (maxSteps := 1000000) (disch := omega) only [cd40, hr.boxG, hw.len Try.underlying27, S, S1, S2, S3, S4, S5, ST, eq_self, reduceIte, reduceCtorEq, Nat.reduceEqDiff, Nat.reduceAdd]
  generalize hA : H ++ [AObj.cells [.int .i64 n, v] 26 false] = A
  have pA : H <+: A := by rw [← hA]; exact List.prefix_append _ _
  have cA : A[H.length]? = some (.cells [.int .i64 n, v] 26 false) := by rw [← hA]; exact at_new ..
  have rA := hr.pre pA
  have wA := hw.pre pA
  generalize hB : A ++ [AObj.cells [.int .i64 f] 3 false] = B
  have pB : A <+: B := by rw [← hB]; exact List.prefix_append _ _
  have own0 : Own 3 A B (.slice (some ⟨A.length, 0, none⟩) 1 1) [f] := .inr ⟨A.length, rfl, Nat.le_refl _, by rw [← hB]; exact at_new ..⟩
  try simp (maxSteps := 1000000) (disch := omega) only [S, S1, S2, S3, S4, S5, ST, eq_self, reduceIte, reduceCtorEq, Nat.reduceEqDiff, Nat.reduceAdd]
  refine LoopH.by (fun m s H' => ∃ i : Nat, m + i = T.length ∧ s 1 = w ∧ s 2 = .int .i64 f ∧ s 3 = .pointer (some ⟨H.length, 0, none⟩) ∧ s 15 = w ∧ s 16 = .int .i64 (T.length : Int) ∧ s 17 = .int .i64 ((i : Nat) : Int) ∧ Own 3 A H' (s 7) ([f] ++ cirLT n es T (T.take i) f) ∧ A <+: H') T.length ?_ ?_
  · refine ⟨0, by simp, ?_⟩
    simp (maxSteps := 1000000) (disch := omega) only [S, S1, S2, S3, S4, S5, ST, eq_self, reduceIte, reduceCtorEq, Nat.reduceEqDiff, Nat.reduceAdd]
    (repeat' first | exact own0 | exact pB | apply And.intro) <;> first | (simp only [Value.int.injEq, true_and]; omega) | omega | rfl | assumption | (simp; done) | (simp; omega)
  rintro m s H' ⟨i, hm, s1, s2, s3, s15, s16, s17, hO, hp⟩
  generalize hU : s 7 = U at *
  have wH := wA.pre hp
  have rH := rA.pre hp
  have cH := pre_at hp cA
  simp (maxSteps := 1000000) (disch := omega) only [s1, s2, s3, s15, s16, s17, hU, S, S1, S2, S3, S4, S5, ST, eq_self, reduceIte, reduceCtorEq, Nat.reduceEqDiff, Nat.reduceAdd]
  refine brD.intro (fun g => ?_) (fun g => ?_)
  rotate_left
  · have hi : i = T.length := by omega
    subst hi
    rw [List.take_length] at hO
    have hlen : ([f] ++ cirLT n es T T f).length ≤ 12 := by
      have : (cirLT n es T T f).length ≤ T.length := List.length_filter_le _ _
      simp only [List.length_append, List.length_cons, List.length_nil]; omega
    simp (maxSteps := 1000000) (disch := omega) only [s1, s2, s3, s15, s16, s17, hU, S, S1, S2, S3, S4, S5, ST, eq_self, reduceIte, reduceCtorEq, Nat.reduceEqDiff, Nat.reduceAdd]
    refine CallH.by (Sort_c U _ A H' hO hlen) ?_
    rintro _ D ⟨ys, hD, hperm, hasc, hels⟩
    simp (maxSteps := 1000000) (disch := omega) only [hU, S, S1, S2, S3, S4, S5, ST, eq_self, reduceIte, reduceCtorEq, Nat.reduceEqDiff, Nat.reduceAdd]
    refine hQ _ _ _ ?_
    simp (maxSteps := 1000000) (disch := omega) only [hU, hD.row.tup, S, S1, S2, S3, S4, S5, ST, eq_self, reduceIte, reduceCtorEq, Nat.reduceEqDiff, Nat.reduceAdd]
    have e1 := crc_of hT.2.1 hfT hperm hasc
    subst e1
    have hpD : A <+: D := by
      rcases hO with ⟨q, _⟩ | ⟨o, q1, q2, q3⟩
      · exact hp.trans (else_pre_nil q hels)
      · exact else_pre hp (by rw [q1]; exact q2) hels
    exact ⟨hD.mine.base pA, pA.trans hpD⟩
  have hi : i < T.length := by omega
  have hci := wH.cell hi
  have hmi : T.getD i 0 ∈ T := by simp [hi]
  have htk : T.take (i + 1) = T.take i ++ [T.getD i 0] := by rw [List.take_succ_eq_append_getElem hi]; simp [hi]
  obtain ⟨e, he⟩ : ∃ e, e = T.getD i 0 := ⟨_, rfl⟩
  rw [← he] at hci hmi htk
  simp (maxSteps := 1000000) (disch := omega) only [s1, s2, s3, s15, s16, s17, hU, wH.ix Try.underlying27 cs3, Int.toNat_natCast, hci, cell_of cH, S, S1, S2, S3, S4, S5, ST, eq_self, reduceIte, reduceCtorEq, Nat.reduceEqDiff, Nat.reduceAdd]
  refine CallH.by (newJoiner_c n H' (by omega)) ?_
  rintro w1 C ⟨hC, pC⟩
  obtain ⟨o, rfl, ho1, ho2⟩ := own_sl hC (by rw [alls_len]; omega)
  rw [alls_len]
  have wC := wH.pre pC
  simp (maxSteps := 1000000) (disch := omega) only [s1, s2, s3, s15, s16, s17, hU, wC.len Try.underlying27, S, S1, S2, S3, S4, S5, ST, eq_self, reduceIte, reduceCtorEq, Nat.reduceEqDiff, Nat.reduceAdd]
  refine LoopH.by (fun m' s' G => ∃ (j : Nat) (J : List Int), m' + j = T.length ∧ s' 1 = w ∧ s' 2 = .int .i64 f ∧ s' 3 = .pointer (some ⟨H.length, 0, none⟩) ∧ s' 15 = w ∧ s' 16 = .int .i64 (T.length : Int) ∧ s' 17 = .int .i64 ((i : Nat) : Int) ∧ s' 7 = U ∧ s' 9 = .int .i64 e ∧ s' 10 = .slice (some ⟨o, 0, none⟩) n n ∧ s' 24 = w ∧ s' 25 = .int .i64 (T.length : Int) ∧ s' 26 = .int .i64 ((j : Nat) : Int) ∧ G[o]? = some (.cells (ints J) 3 false) ∧ JR es (wo1 (T.take j) e) n J ∧ Keeps o C G) T.length ?_ ?_
  · refine ⟨0, alls n, by simp, ?_⟩
    simp (maxSteps := 1000000) (disch := omega) only [s1, s2, s3, s15, s16, s17, hU, S, S1, S2, S3, S4, S5, ST, eq_self, reduceIte, reduceCtorEq, Nat.reduceEqDiff, Nat.reduceAdd]
    have f1 : JR es (wo1 (T.take 0) e) n (alls n) := by rw [List.take_zero]; exact JR.zero es n
    have f2 : Keeps o C C := .of_pre (List.prefix_refl _)
    (repeat' first | exact ho2 | exact f1 | exact f2 | apply And.intro) <;> first | (simp only [Value.int.injEq, true_and]; omega) | omega | rfl | assumption | (simp; done) | (simp; omega)
  rintro m' s' G ⟨j, J, hm', g1, g2, g3, g15, g16, g17, g7, g9, g10, g24, g25, g26, hJ, hjr, kG⟩
  have pHG : H' <+: G := keepsA kG pC ho1
  have wG := wH.pre pHG
  have rG := rH.pre pHG
  have cG := pre_at pHG cH
  simp (maxSteps := 1000000) (disch := omega) only [g1, g2, g3, g15, g16, g17, g7, g9, g10, g24, g25, g26, S, S1, S2, S3, S4, S5, ST, eq_self, reduceIte, reduceCtorEq, Nat.reduceEqDiff, Nat.reduceAdd]
  refine brD.intro (fun q => ?_) (fun q => ?_)
  · have hj : j < T.length := by omega
    have hcj := wG.cell hj
    have hmj : T.getD j 0 ∈ T := by simp [hj]
    have htj : T.take (j + 1) = T.take j ++ [T.getD j 0] := by rw [List.take_succ_eq_append_getElem hj]; simp [hj]
    obtain ⟨x, hx⟩ : ∃ x, x = T.getD j 0 := ⟨_, rfl⟩
    rw [← hx] at hcj hmj htj
    have hxr := hT.2.2.1 x hmj
    have hxe := en_eq hg hxr
    have hx2 : x.toNat < es.length := by omega
    have hst := wo1_snoc (T.take j) e x
    rw [← htj] at hst
    simp (maxSteps := 1000000) (disch := omega) only [g1, g2, g3, g15, g16, g17, g7, g9, g10, g24, g25, g26, wG.ix Try.underlying27 cs3, Int.toNat_natCast, hcj, S, S1, S2, S3, S4, S5, ST, eq_self, reduceIte, reduceCtorEq, Nat.reduceEqDiff, Nat.reduceAdd]
    refine brD.intro (fun z => ?_) (fun z => ?_)
    · rw [if_pos z] at hst
      simp (maxSteps := 1000000) (disch := omega) only [g1, g2, g3, g15, g16, g17, g7, g9, g10, g24, g25, g26, cell_of cG, rG.ix Try.underlying24 cs71, rG.ld ag71 cs71 hx2, S, S1, S2, S3, S4, S5, ST, eq_self, reduceIte, reduceCtorEq, Nat.reduceEqDiff, Nat.reduceAdd]
      refine CallH.by (join_c hjr o G hJ x (by omega) (by omega) (congrArg Prod.fst hxe.1) (congrArg Prod.snd hxe.1)) ?_
      rintro _ G2 ⟨b, J', rfl, _, hJ', hjr', k2⟩
      rw [← hst] at hjr'
      have f1 := kG.trans k2
      simp (maxSteps := 1000000) (disch := omega) only [g1, g2, g3, g15, g16, g17, g7, g9, g10, g24, g25, g26, wrap64, S, S1, S2, S3, S4, S5, ST, eq_self, reduceIte, reduceCtorEq, Nat.reduceEqDiff, Nat.reduceAdd]
      refine ⟨m' - 1, by omega, j + 1, J', ?_⟩
      (repeat' first | exact hJ' | exact hjr' | exact f1 | apply And.intro) <;> first | (simp only [Value.int.injEq, true_and]; omega) | omega | rfl | assumption | (simp; done) | (simp; omega)
    · rw [if_neg z] at hst
      rw [← hst] at hjr
      simp (maxSteps := 1000000) (disch := omega) only [g1, g2, g3, g15, g16, g17, g7, g9, g10, g24, g25, g26, wrap64, S, S1, S2, S3, S4, S5, ST, eq_self, reduceIte, reduceCtorEq, Nat.reduceEqDiff, Nat.reduceAdd]
      refine ⟨m' - 1, by omega, j + 1, J, ?_⟩
      (repeat' first | exact hJ | exact hjr | exact kG | apply And.intro) <;> first | (simp only [Value.int.injEq, true_and]; omega) | omega | rfl | assumption | (simp; done) | (simp; omega)
  · have hj : j = T.length := by omega
    subst hj
    rw [List.take_length] at hjr
    have hfe := en_eq hg hf
    have hf2 : f.toNat < es.length := by omega
    simp (maxSteps := 1000000) (disch := omega) only [g1, g2, g3, g15, g16, g17, g7, g9, g10, g24, g25, g26, cell_of cG, rG.ix Try.underlying24 cs71, Int.toNat_natCast, rG.ld ag71 cs71 hf2, S, S1, S2, S3, S4, S5, ST, eq_self, reduceIte, reduceCtorEq, Nat.reduceEqDiff, Nat.reduceAdd]
    refine CallH.by (join_c hjr o G hJ f (by omega) (by omega) (congrArg Prod.fst hfe.1) (congrArg Prod.snd hfe.1)) ?_
    rintro _ G2 ⟨b, J', rfl, hb, hJ', hjr', k2⟩
    have pHG2 : H' <+: G2 := keepsA (kG.trans k2) pC ho1
    have hO2 := hO.pre pHG2
    have hpG2 := hp.trans pHG2
    have hflt : cirLT n es T (T.take (i + 1)) f = cirLT n es T (T.take i) f ++ if b = true then [e] else [] := by
      rw [htk]
      unfold cirLT
      rw [List.filter_append]
      congr 1
      have hn1 := jnB_not hg (wo1_in hT.2.2.1 e) (i := enA es f) (j := enB es f) (by omega) (by omega)
      cases b with
      | true => have := hn1.2 (hb.1 rfl); simp [this]
      | false =>
        have : jnB es n (wo1 T e) (enA es f) (enB es f) = true := by
          cases h : jnB es n (wo1 T e) (enA es f) (enB es f) with
          | true => rfl
          | false => cases hb.2 (hn1.1 h)
        simp [this]
    have hcl : (cirLT n es T (T.take i) f).length ≤ (T.take i).length := List.length_filter_le _ _
    rw [List.length_take] at hcl
    simp (maxSteps := 1000000) (disch := omega) only [S, S1, S2, S3, S4, S5, ST, eq_self, reduceIte, reduceCtorEq, Nat.reduceEqDiff, Nat.reduceAdd]
    refine brH.intro (fun z => ?_) (fun z => ?_)
    · rw [if_pos z] at hflt
      obtain ⟨w2, K, a1, a2, a3, a4, a5, a6⟩ := own1_27 hO2 hpG2 (by simp only [List.length_append, List.length_cons, List.length_nil]; omega) e
      rw [List.append_assoc, ← hflt] at a2
      simp (maxSteps := 1000000) (disch := omega) only [g1, g2, g3, g15, g16, g17, g7, g9, g10, a1, wrap64, S, S1, S2, S3, S4, S5, ST, eq_self, reduceIte, reduceCtorEq, Nat.reduceEqDiff, Nat.reduceAdd]
      refine ⟨m - 1, by omega, i + 1, ?_⟩
      (repeat' first | exact a2 | exact a3 | apply And.intro) <;> first | (simp only [Value.int.injEq, true_and]; omega) | omega | rfl | assumption | (simp; done) | (simp; omega)
    · rw [if_neg (by rw [z]; decide), List.append_nil] at hflt
      rw [← hflt] at hO2
      simp (maxSteps := 1000000) (disch := omega) only [g1, g2, g3, g15, g16, g17, g7, g9, g10, wrap64, S, S1, S2, S3, S4, S5, ST, eq_self, reduceIte, reduceCtorEq, Nat.reduceEqDiff, Nat.reduceAdd]
      refine ⟨m - 1, by omega, i + 1, ?_⟩
      (repeat' first | exact hO2 | exact hpG2 | apply And.intro) <;> first | (simp only [Value.int.injEq, true_and]; omega) | omega | rfl | assumption | (simp; done) | (simp; omega)
end Go.Proofs.Ytldcbmmmheookaa.Ai
namespace Go.Proofs.Ytldcbmmmheookaa.Ai
open Go
set_option linter.unusedVariables false
theorem without_eq (T : List Int) (e : Int) : without T [e] = wo1 T e := by
  unfold without wo1
  exact List.filter_congr fun x _ => by simp
end Go.Proofs.Ytldcbmmmheookaa.Ai
namespace Go.Proofs.Ytldcbmmmheookaa.Ai
open Go
def ords47 : List (Nat × List (Nat × Bool)) := [(2, [(0, false), (1, false), (2, false), (3, false), (6, false), (7, false), (8, false), (9, false), (10, false), (11, false), (4, true), (5, true), (12, true), (13, false)]), (6, [(0, false), (1, false), (2, false), (3, false), (4, false), (5, false), (6, false), (7, false), (8, false), (9, false), (10, false), (11, false), (12, false), (13, false), (14, false), (15, false), (16, false), (17, false), (18, false), (19, false), (20, false)])]
def cd47 : Cd := (.seq (.reg [⟨⟨some 3, Op.box 26 (Operand.tmp 0), none⟩, []⟩,
  ⟨⟨some 6, Op.assign (Operand.const (Value.slice none 0 0)), none⟩, []⟩]) (.seq (.reg [⟨⟨some 10, Op.buildSlice 27 0 #[], none⟩, []⟩,
  ⟨⟨some 7, Op.assign (Operand.tmp 10), none⟩, []⟩]) (.seq (.reg [⟨⟨some 11, Op.load 26 (Operand.tmp 3), none⟩, []⟩,
  ⟨⟨some 12, Op.move (Operand.tmp 1), none⟩, []⟩,
  ⟨⟨some 13, Op.move (Operand.tmp 2), none⟩, []⟩,
  ⟨⟨some 14, Op.buildSlice 27 1 #[(0, (Operand.tmp 13))], none⟩, []⟩,
  ⟨⟨some 17, Op.fieldAddr 26 (Operand.tmp 3) 1, none⟩, []⟩,
  ⟨⟨some 18, Op.load 24 (Operand.tmp 17), none⟩, []⟩,
  ⟨⟨some 19, Op.move (Operand.tmp 2), none⟩, []⟩,
  ⟨⟨some 20, Op.indexAddr 24 (Operand.tmp 18) (Operand.tmp 19), none⟩, []⟩,
  ⟨⟨some 21, Op.indexAddr 71 (Operand.tmp 20) (Operand.const (Value.int IntKind.i64 0)), none⟩, []⟩,
  ⟨⟨some 22, Op.load 3 (Operand.tmp 21), none⟩, []⟩,
  ⟨⟨some 15, Op.call { callee := (Callee.value (Operand.func 55)), args := #[(Operand.tmp 12), (Operand.tmp 14)], argTypes := #[27, 27] }, none⟩, [⟨some 22, Op.load 3 (Operand.tmp 21), none⟩, ⟨some 18, Op.load 24 (Operand.tmp 17), none⟩, ⟨some 11, Op.load 26 (Operand.tmp 3), none⟩]⟩,
  ⟨⟨some 16, Op.call { callee := (Callee.value (Operand.func 91)), args := #[(Operand.tmp 11), (Operand.tmp 15)], argTypes := #[26, 27] }, none⟩, [⟨some 22, Op.load 3 (Operand.tmp 21), none⟩, ⟨some 18, Op.load 24 (Operand.tmp 17), none⟩]⟩,
  ⟨⟨some 23, Op.call { callee := (Callee.value (Operand.func 90)), args := #[(Operand.tmp 16), (Operand.tmp 22)], argTypes := #[26, 3] }, none⟩, []⟩,
  ⟨⟨some 8, Op.assign (Operand.tmp 23), none⟩, []⟩]) (.seq (.seq (.reg [⟨⟨some 9, Op.assign (Operand.const (Value.int IntKind.i64 0)), none⟩, []⟩]) (.block 0 (.loop (.seq (.seq (.reg [⟨⟨some 24, Op.move (Operand.tmp 9), none⟩, []⟩,
  ⟨⟨some 25, Op.fieldAddr 26 (Operand.tmp 3) 1, none⟩, []⟩,
  ⟨⟨some 26, Op.load 24 (Operand.tmp 25), none⟩, []⟩,
  ⟨⟨some 27, Op.call { callee := (Callee.builtin Builtin.len), args := #[(Operand.tmp 26)], argTypes := #[24] }, none⟩, []⟩,
  ⟨⟨some 28, Op.binOp BinOp.lss 3 (Operand.tmp 24) (Operand.tmp 27) 3, none⟩, []⟩]) (.cond (Operand.tmp 28) .skip (.exit 0))) (.seq (.block 1 (.seq (.reg [⟨⟨some 31, Op.move (Operand.tmp 8), none⟩, []⟩,
  ⟨⟨some 32, Op.fieldAddr 26 (Operand.tmp 3) 1, none⟩, []⟩,
  ⟨⟨some 33, Op.load 24 (Operand.tmp 32), none⟩, []⟩,
  ⟨⟨some 34, Op.move (Operand.tmp 9), none⟩, []⟩,
  ⟨⟨some 35, Op.indexAddr 24 (Operand.tmp 33) (Operand.tmp 34), none⟩, []⟩,
  ⟨⟨some 36, Op.indexAddr 71 (Operand.tmp 35) (Operand.const (Value.int IntKind.i64 0)), none⟩, []⟩,
  ⟨⟨some 37, Op.load 3 (Operand.tmp 36), none⟩, []⟩,
  ⟨⟨some 38, Op.indexAddr 27 (Operand.tmp 31) (Operand.tmp 37), none⟩, []⟩,
  ⟨⟨some 39, Op.load 3 (Operand.tmp 38), none⟩, []⟩,
  ⟨⟨some 40, Op.binOp BinOp.lss 3 (Operand.tmp 39) (Operand.const (Value.int IntKind.i64 0)) 3, none⟩, []⟩,
  ⟨⟨some 41, Op.move (Operand.tmp 8), none⟩, []⟩,
  ⟨⟨some 42, Op.fieldAddr 26 (Operand.tmp 3) 1, none⟩, []⟩,
  ⟨⟨some 43, Op.load 24 (Operand.tmp 42), none⟩, []⟩,
  ⟨⟨some 44, Op.move (Operand.tmp 9), none⟩, []⟩,
  ⟨⟨some 45, Op.indexAddr 24 (Operand.tmp 43) (Operand.tmp 44), none⟩, []⟩,
  ⟨⟨some 46, Op.indexAddr 71 (Operand.tmp 45) (Operand.const (Value.int IntKind.i64 1)), none⟩, []⟩,
  ⟨⟨some 47, Op.load 3 (Operand.tmp 46), none⟩, []⟩,
  ⟨⟨some 48, Op.indexAddr 27 (Operand.tmp 41) (Operand.tmp 47), none⟩, []⟩,
  ⟨⟨some 49, Op.load 3 (Operand.tmp 48), none⟩, []⟩,
  ⟨⟨some 50, Op.binOp BinOp.lss 3 (Operand.tmp 49) (Operand.const (Value.int IntKind.i64 0)) 3, none⟩, []⟩,
  ⟨⟨some 51, Op.binOp BinOp.neq 4 (Operand.tmp 40) (Operand.tmp 50) 4, none⟩, []⟩]) (.cond (Operand.tmp 51) (.reg [⟨⟨some 52, Op.move (Operand.tmp 7), none⟩, []⟩,
  ⟨⟨some 53, Op.move (Operand.tmp 9), none⟩, []⟩,
  ⟨⟨some 54, Op.buildSlice 27 1 #[(0, (Operand.tmp 53))], none⟩, []⟩,
  ⟨⟨some 55, Op.call { callee := (Callee.builtin Builtin.append), args := #[(Operand.tmp 52), (Operand.tmp 54)], argTypes := #[27, 27] }, none⟩, []⟩,
  ⟨⟨some 7, Op.assign (Operand.tmp 55), none⟩, []⟩]) .skip))) (.reg [⟨⟨some 29, Op.move (Operand.tmp 9), none⟩, []⟩,
  ⟨⟨some 30, Op.binOp BinOp.add 3 (Operand.tmp 29) (Operand.const (Value.int IntKind.i64 1)) 3, none⟩, []⟩,
  ⟨⟨some 9, Op.assign (Operand.tmp 30), none⟩, []⟩])))))) (.seq (.reg [⟨⟨some 56, Op.move (Operand.tmp 7), none⟩, []⟩,
  ⟨⟨some 6, Op.assign (Operand.tmp 56), none⟩, []⟩]) .ret)))))
theorem sl47 : slim Try.f47.ntmps ords47 (Try.f47.body.getD .skip) = some cd47 := by kernel_rfl
theorem in47 {args : List Value} {H : AH} {R : Value → AH → Prop} (hl : args.length = 3) (h : ∀ (Q : Exit → Sl → AH → Prop), (∀ e s H, endA Try.prog [ResultVar.tmp 6] R e s H → Q e s H) → wpC Try.prog cd47 Q (enterA args) H) : ACalls Try.prog 47 args H R :=
  ACalls.intro (by kernel_rfl) Try.func47 rfl (by kernel_rfl) sl47 hl (of_decide_eq_true (by kernel_rfl)) (by kernel_rfl) h
def ords43 : List (Nat × List (Nat × Bool)) := [(5, [(0, false), (1, false), (2, false), (3, false), (4, false), (5, false), (7, false), (6, true), (8, true)])]
def cd43 : Cd := (.seq (.reg [⟨⟨some 3, Op.box 26 (Operand.tmp 0), none⟩, []⟩,
  ⟨⟨some 6, Op.assign (Operand.const (Value.slice none 0 0)), none⟩, []⟩]) (.seq (.reg [⟨⟨some 9, Op.buildSlice 27 0 #[], none⟩, []⟩,
  ⟨⟨some 7, Op.assign (Operand.tmp 9), none⟩, []⟩]) (.seq (.seq (.reg [⟨⟨some 8, Op.assign (Operand.const (Value.int IntKind.i64 0)), none⟩, []⟩]) (.block 0 (.loop (.seq (.seq (.reg [⟨⟨some 10, Op.move (Operand.tmp 8), none⟩, []⟩,
  ⟨⟨some 11, Op.move (Operand.tmp 1), none⟩, []⟩,
  ⟨⟨some 12, Op.call { callee := (Callee.builtin Builtin.len), args := #[(Operand.tmp 11)], argTypes := #[27] }, none⟩, []⟩,
  ⟨⟨some 13, Op.binOp BinOp.lss 3 (Operand.tmp 10) (Operand.tmp 12) 3, none⟩, []⟩]) (.cond (Operand.tmp 13) .skip (.exit 0))) (.seq (.block 1 (.seq (.reg [⟨⟨some 16, Op.load 26 (Operand.tmp 3), none⟩, []⟩,
  ⟨⟨some 17, Op.move (Operand.tmp 1), none⟩, []⟩,
  ⟨⟨some 18, Op.move (Operand.tmp 1), none⟩, []⟩,
  ⟨⟨some 19, Op.move (Operand.tmp 8), none⟩, []⟩,
  ⟨⟨some 20, Op.indexAddr 27 (Operand.tmp 18) (Operand.tmp 19), none⟩, []⟩,
  ⟨⟨some 21, Op.load 3 (Operand.tmp 20), none⟩, []⟩,
  ⟨⟨some 23, Op.move (Operand.tmp 2), none⟩, []⟩,
  ⟨⟨some 22, Op.call { callee := (Callee.value (Operand.func 47)), args := #[(Operand.tmp 16), (Operand.tmp 17), (Operand.tmp 21)], argTypes := #[26, 27, 3] }, none⟩, []⟩,
  ⟨⟨some 24, Op.call { callee := (Callee.value (Operand.func 42)), args := #[(Operand.tmp 22), (Operand.tmp 23)], argTypes := #[27, 3] }, none⟩, []⟩]) (.cond (Operand.tmp 24) (.reg [⟨⟨some 25, Op.move (Operand.tmp 7), none⟩, []⟩,
  ⟨⟨some 26, Op.move (Operand.tmp 1), none⟩, []⟩,
  ⟨⟨some 27, Op.move (Operand.tmp 8), none⟩, []⟩,
  ⟨⟨some 28, Op.indexAddr 27 (Operand.tmp 26) (Operand.tmp 27), none⟩, []⟩,
  ⟨⟨some 29, Op.load 3 (Operand.tmp 28), none⟩, []⟩,
  ⟨⟨some 30, Op.buildSlice 27 1 #[(0, (Operand.tmp 29))], none⟩, []⟩,
  ⟨⟨some 31, Op.call { callee := (Callee.builtin Builtin.append), args := #[(Operand.tmp 25), (Operand.tmp 30)], argTypes := #[27, 27] }, none⟩, []⟩,
  ⟨⟨some 7, Op.assign (Operand.tmp 31), none⟩, []⟩]) .skip))) (.reg [⟨⟨some 14, Op.move (Operand.tmp 8), none⟩, []⟩,
  ⟨⟨some 15, Op.binOp BinOp.add 3 (Operand.tmp 14) (Operand.const (Value.int IntKind.i64 1)) 3, none⟩, []⟩,
  ⟨⟨some 8, Op.assign (Operand.tmp 15), none⟩, []⟩])))))) (.seq (.reg [⟨⟨some 32, Op.move (Operand.tmp 7), none⟩, []⟩,
  ⟨⟨some 33, Op.move (Operand.tmp 2), none⟩, []⟩,
  ⟨⟨some 34, Op.call { callee := (Callee.value (Operand.func 56)), args := #[(Operand.tmp 32), (Operand.tmp 33)], argTypes := #[27, 3] }, none⟩, []⟩,
  ⟨⟨some 6, Op.assign (Operand.tmp 34), none⟩, []⟩]) .ret))))
theorem sl43 : slim Try.f43.ntmps ords43 (Try.f43.body.getD .skip) = some cd43 := by kernel_rfl
theorem in43 {args : List Value} {H : AH} {R : Value → AH → Prop} (hl : args.length = 3) (h : ∀ (Q : Exit → Sl → AH → Prop), (∀ e s H, endA Try.prog [ResultVar.tmp 6] R e s H → Q e s H) → wpC Try.prog cd43 Q (enterA args) H) : ACalls Try.prog 43 args H R :=
  ACalls.intro (by kernel_rfl) Try.func43 rfl (by kernel_rfl) sl43 hl (of_decide_eq_true (by kernel_rfl)) (by kernel_rfl) h
end Go.Proofs.Ytldcbmmmheookaa.Ai
namespace Go.Proofs.Ytldcbmmmheookaa.Ai
open Go Go.RowKit
set_option linter.unusedVariables false
set_option linter.unusedSimpArgs false
/-- the cut as spec finds it -/
def cutS (n : Nat) (es : List (Int × Int)) (T : List Int) (e : Int) (k : Nat) : List Int := (alls k).filter fun f => decide (decide ((bfs (roadsL n (prtG es (wo1 T e))) (enA es e)).getD (enA es f) 0 < 0) ≠ decide ((bfs (roadsL n (prtG es (wo1 T e))) (enA es e)).getD (enB es f) 0 < 0))
theorem cutS_succ (n : Nat) (es : List (Int × Int)) (T : List Int) (e : Int) (k : Nat) : cutS n es T e (k + 1) = cutS n es T e k ++ if decide ((bfs (roadsL n (prtG es (wo1 T e))) (enA es e)).getD (enA es (k : Int)) 0 < 0) ≠ decide ((bfs (roadsL n (prtG es (wo1 T e))) (enA es e)).getD (enB es (k : Int)) 0 < 0) then [(k : Int)] else [] := by
  unfold cutS
  rw [alls_succ, List.filter_append]
  congr 1
  rw [List.filter_cons, List.filter_nil]
  by_cases h : decide ((bfs (roadsL n (prtG es (wo1 T e))) (enA es e)).getD (enA es (k : Int)) 0 < 0) ≠ decide ((bfs (roadsL n (prtG es (wo1 T e))) (enA es e)).getD (enB es (k : Int)) 0 < 0)
  · rw [if_pos (decide_eq_true h), if_pos h]
  · rw [if_neg (by rw [decide_eq_false h]; decide), if_neg h]
theorem cutS_eq {n : Nat} {es : List (Int × Int)} (hg : Grd (n : Int) es) {T : List Int} (hT : TreL n es T) {e : Int} (he : e ∈ T) : cutS n es T e es.length = cutL n es T e := by
  unfold cutS cutL
  refine List.filter_congr fun f hf => ?_
  have hfr := (alls_mem _ _).1 hf
  have hfe := en_eq hg hfr
  have hee := en_eq hg (hT.2.2.1 e he)
  have tw := wo1_in hT.2.2.1 e
  have h1 := jnB_iff hg tw (i := enA es e) (j := enA es f) (by omega) (by omega)
  have h2 := jnB_iff hg tw (i := enA es e) (j := enB es f) (by omega) (by omega)
  have h3 := jnB_not hg tw (i := enA es f) (j := enB es f) (by omega) (by omega)
  have hc := (hT.tree hg).cut he (u := enA es f) (v := enB es f) (by omega) (by omega)
  rw [Bool.eq_iff_iff, decide_eq_true_eq, Bool.not_eq_true', h3, hc, ← h1, ← h2]
  unfold jnB
  rw [decide_eq_true_eq, decide_eq_true_eq]
  rw [ne_eq, decide_eq_decide]
  constructor
  · intro h q; exact h ⟨fun z => by have := mt q.2; omega, fun z => by have := mt q.1; omega⟩
  · intro h q; exact h ⟨fun z => by have := mt q.2; omega, fun z => by have := mt q.1; omega⟩
set_option maxRecDepth 20000 in
set_option maxHeartbeats 8000000 in
theorem l7Cut_c (n : Nat) (v w : Value) (es : List (Int × Int)) (T : List Int) (e : Int) (H : AH) (hr : RowP 71 H v es) (hg : Grd (n : Int) es) (hw : Row 3 H w T) (hT : TreL n es T) (he : e ∈ T) :
    ACalls Try.prog 47 [.agg (List.toArray [.int .i64 (n : Int), v]), w, .int .i64 e] H fun r H' => Own 3 H H' r (cutL n es T e) ∧ H <+: H' := by
  have h28 : es.length ≤ 28 := grd_len hg
  have hn8 : n ≤ 8 := by have := hg.1; omega
  have htl := hT.1
  have her := hT.2.2.1 e he
  have hee := en_eq hg her
  have he2 : e.toNat < es.length := by omega
  refine in47 rfl ?_
  intro Q hQ
  simp (maxSteps := 1000000) (disch := omega) only [cd47, hr.boxG, S, S1, S2, S3, S4, S5, ST, eq_self, reduceIte, reduceCtorEq, Nat.reduceEqDiff, Nat.reduceAdd]
  generalize hA : H ++ [AObj.cells [.int .i64 n, v] 26 false] = A
  have pA : H <+: A := by rw [← hA]; exact List.prefix_append _ _
  have cA : A[H.length]? = some (.cells [.int .i64 n, v] 26 false) := by rw [← hA]; exact at_new ..
  have rA := hr.pre pA
  have wA := hw.pre pA
  generalize hB : A ++ [AObj.cells [] 3 false] = B
  have pB : A <+: B := by rw [← hB]; exact List.prefix_append _ _
  have own0 : Own 3 A B (.slice (some ⟨A.length, 0, none⟩) 0 0) [] := .inr ⟨A.length, rfl, Nat.le_refl _, by rw [← hB]; exact at_new ..⟩
  have cB := pre_at pB cA
  have rB := rA.pre pB
  have wB := wA.pre pB
  simp (maxSteps := 1000000) (disch := omega) only [ld_agg ag26 cs26 cB, S, S1, S2, S3, S4, S5, ST, eq_self, reduceIte, reduceCtorEq, Nat.reduceEqDiff, Nat.reduceAdd]
  generalize hC : B ++ [AObj.cells [.int .i64 e] 3 false] = C
  have pC : B <+: C := by rw [← hC]; exact List.prefix_append _ _
  have rC1 : Row 3 C (.slice (some ⟨B.length, 0, none⟩) 1 1) [e] := .inr ⟨B.length, 0, [.int .i64 e], false, rfl, by rw [← hC]; exact at_new .., by simp, rfl⟩
  have cC := pre_at pC cB
  have rC := rB.pre pC
  have ld0 : ∀ {K : AH}, RowP 71 K v es → cellA K (rowO v) (rowK v + 2 * e.toNat) = some (.int .i64 (enA es e : Int)) := fun h => by
    rw [h.cell0 he2, congrArg Prod.fst hee.1]
  simp (maxSteps := 1000000) (disch := omega) only [cell_of cC, rC.ix Try.underlying24 cs71, ld0 rC, S, S1, S2, S3, S4, S5, ST, eq_self, reduceIte, reduceCtorEq, Nat.reduceEqDiff, Nat.reduceAdd]
  refine CallH.by (l3Only_c w _ T [e] C (wB.pre pC) rC1 (by omega) (by simp)) ?_
  rintro w1 D ⟨hD, pD⟩
  rw [without_eq] at hD
  have rD := rC.pre pD
  have cD := pre_at pD cC
  simp (maxSteps := 1000000) (disch := omega) only [cell_of cD, ld0 rD, ld_agg ag26 cs26 cD, S, S1, S2, S3, S4, S5, ST, eq_self, reduceIte, reduceCtorEq, Nat.reduceEqDiff, Nat.reduceAdd]
  refine CallH.by (l7Part_c n v w1 es (wo1 T e) D rD hD.row (wo1_in hT.2.2.1 e) (by have := List.length_filter_le (fun y => decide (y ≠ e)) T; unfold wo1; omega)) ?_
  rintro _ E ⟨b, rfl, hb, pE⟩
  have rE := rD.pre pE
  have cE := pre_at pE cD
  simp (maxSteps := 1000000) (disch := omega) only [cell_of cE, ld0 rE, S, S1, S2, S3, S4, S5, ST, eq_self, reduceIte, reduceCtorEq, Nat.reduceEqDiff, Nat.reduceAdd]
  refine CallH.by (l3Far_c n b (prtG es (wo1 T e)) (enA es e) E hb.row (by rw [prt_len]; have := List.length_filter_le (fun y => decide (y ≠ e)) T; unfold wo1; omega) (by omega) (by omega)) ?_
  rintro u F ⟨hF, pF⟩
  rw [Int.toNat_natCast] at hF
  have bl := (bfs_rng (roadsL n (prtG es (wo1 T e))) (roadsL_ok _ _) (enA es e) (by rw [roadsL_len]; omega)).1
  rw [roadsL_len] at bl
  generalize hfar : bfs (roadsL n (prtG es (wo1 T e))) (enA es e) = far at *
  have pAF : A <+: F := pB.trans (pC.trans (pD.trans (pE.trans pF)))
  have ownF := own0.pre (pC.trans (pD.trans (pE.trans pF)))
  try simp (maxSteps := 1000000) (disch := omega) only [S, S1, S2, S3, S4, S5, ST, eq_self, reduceIte, reduceCtorEq, Nat.reduceEqDiff, Nat.reduceAdd]
  refine LoopH.by (fun m s H' => ∃ i : Nat, m + i = es.length ∧ s 3 = .pointer (some ⟨H.length, 0, none⟩) ∧ s 8 = u ∧ s 9 = .int .i64 ((i : Nat) : Int) ∧ Own 3 A H' (s 7) (cutS n es T e i) ∧ Row 3 H' u far ∧ Apart u (s 7) ∧ A <+: H') es.length ?_ ?_
  · refine ⟨0, by simp, ?_⟩
    simp (maxSteps := 1000000) (disch := omega) only [S, S1, S2, S3, S4, S5, ST, eq_self, reduceIte, reduceCtorEq, Nat.reduceEqDiff, Nat.reduceAdd]
    have f1 : Own 3 A F (.slice (some ⟨A.length, 0, none⟩) 0 0) (cutS n es T e 0) := ownF
    have f2 := hF.row
    have lE : A.length < E.length := by
      have := (pC.trans (pD.trans pE)).length_le
      have lB : B.length = A.length + 1 := by rw [← hB]; simp
      omega
    have f3 : Apart u (.slice (some ⟨A.length, 0, none⟩) 0 0) := by
      rcases hF with ⟨q, _⟩ | ⟨o, q1, q2, q3⟩
      · exact .inr (.inl q)
      · refine .inr (.inr ?_)
        rw [q1]
        show o ≠ A.length
        omega
    (repeat' first | exact f1 | exact f2 | exact f3 | exact pAF | apply And.intro) <;> first | (simp only [Value.int.injEq, true_and]; omega) | omega | rfl | assumption | (simp; done) | (simp; omega)
  rintro m s H' ⟨i, hm, s3, s8, s9, hO, hU, hap, hp⟩
  generalize hV : s 7 = V at *
  have cH := pre_at hp cA
  have rH := rA.pre hp
  simp (maxSteps := 1000000) (disch := omega) only [s3, s8, s9, hV, cell_of cH, rH.len Try.underlying24, S, S1, S2, S3, S4, S5, ST, eq_self, reduceIte, reduceCtorEq, Nat.reduceEqDiff, Nat.reduceAdd]
  refine brD.intro (fun g => ?_) (fun g => ?_)
  · have hi : i < es.length := by omega
    have hir : (0 : Int) ≤ ((i : Nat) : Int) ∧ ((i : Nat) : Int) < es.length := by omega
    have hie := en_eq hg hir
    rw [Int.toNat_natCast] at hie
    have c0 := rH.cell0 hi
    have c1 := rH.cell1 hi
    rw [congrArg Prod.fst hie.1] at c0
    rw [congrArg Prod.snd hie.1] at c1
    have k0 := hU.cell (show enA es (i : Int) < far.length by omega)
    have k1 := hU.cell (show enB es (i : Int) < far.length by omega)
    have hsc := cutS_succ n es T e i
    rw [hfar] at hsc
    simp (maxSteps := 1000000) (disch := omega) only [s3, s8, s9, hV, cell_of cH, rH.ix Try.underlying24 cs71, Int.toNat_natCast, c0, c1, hU.ix Try.underlying27 cs3, k0, k1, S, S1, S2, S3, S4, S5, ST, eq_self, reduceIte, reduceCtorEq, Nat.reduceEqDiff, Nat.reduceAdd]
    refine brD.intro (fun z => ?_) (fun z => ?_)
    · rw [if_pos z] at hsc
      have hcl : (cutS n es T e i).length ≤ i := by unfold cutS; exact Nat.le_trans (List.length_filter_le _ _) (by rw [alls_len]; exact Nat.le_refl _)
      obtain ⟨w2, K, a1, a2, a3, a4, a5, a6⟩ := own1_27 hO hp (by omega) (i : Int)
      rw [← hsc] at a2
      have hUK : Row 3 K u far := hU.kept hap a4
      have hap2 : Apart u w2 := Apart.new hU a5
      simp (maxSteps := 1000000) (disch := omega) only [s3, s8, s9, hV, a1, wrap64, S, S1, S2, S3, S4, S5, ST, eq_self, reduceIte, reduceCtorEq, Nat.reduceEqDiff, Nat.reduceAdd]
      refine ⟨m - 1, by omega, i + 1, ?_⟩
      (repeat' first | exact a2 | exact a3 | exact hUK | exact hap2 | apply And.intro) <;> first | (simp only [Value.int.injEq, true_and]; omega) | omega | rfl | assumption | (simp; done) | (simp; omega)
    · rw [if_neg z, List.append_nil] at hsc
      rw [← hsc] at hO
      simp (maxSteps := 1000000) (disch := omega) only [s3, s8, s9, hV, wrap64, S, S1, S2, S3, S4, S5, ST, eq_self, reduceIte, reduceCtorEq, Nat.reduceEqDiff, Nat.reduceAdd]
      refine ⟨m - 1, by omega, i + 1, ?_⟩
      (repeat' first | exact hO | exact hU | exact hap | exact hp | apply And.intro) <;> first | (simp only [Value.int.injEq, true_and]; omega) | omega | rfl | assumption | (simp; done) | (simp; omega)
  · have : i = es.length := by omega
    subst this
    simp (maxSteps := 1000000) (disch := omega) only [hV, S, S1, S2, S3, S4, S5, ST, eq_self, reduceIte, reduceCtorEq, Nat.reduceEqDiff, Nat.reduceAdd]
    refine hQ _ _ _ ?_
    simp (maxSteps := 1000000) (disch := omega) only [hV, hO.row.tup, S, S1, S2, S3, S4, S5, ST, eq_self, reduceIte, reduceCtorEq, Nat.reduceEqDiff, Nat.reduceAdd]
    rw [cutS_eq hg hT he] at hO
    exact ⟨hO.base pA, pA.trans hp⟩
theorem cir_cut {n : Nat} {es : List (Int × Int)} (hg : Grd (n : Int) es) {T : List Int} (hT : EdIn es T) {f : Int} (hf : 0 ≤ f ∧ f < es.length) (e : Int) : f ∈ cutL n es T e ↔ (!jnB es n (wo1 T e) (enA es f) (enB es f)) = true := by
  have := en_eq hg hf
  rw [cut_mem hg hT, Bool.not_eq_true', jnB_not hg (wo1_in hT e) (by omega) (by omega)]
  exact ⟨fun h => h.2, fun h => ⟨hf, h⟩⟩
set_option maxRecDepth 20000 in
set_option maxHeartbeats 4000000 in
theorem l7Round_c (n : Nat) (v w : Value) (es : List (Int × Int)) (T : List Int) (f : Int) (H : AH) (hr : RowP 71 H v es) (hg : Grd (n : Int) es) (hw : Row 3 H w T) (hT : TreL n es T) (hf : 0 ≤ f ∧ f < es.length) (hfT : f ∉ T) :
    ACalls Try.prog 43 [.agg (List.toArray [.int .i64 (n : Int), v]), w, .int .i64 f] H fun r H' => Own 3 H H' r (crcL n es T f) ∧ H <+: H' := by
  have h28 : es.length ≤ 28 := grd_len hg
  have hn8 : n ≤ 8 := by have := hg.1; omega
  have htl := hT.1
  refine in43 rfl ?_
  intro Q hQ
  simp (maxSteps := 1000000) (disch := omega) only [cd43, hr.boxG, S, S1, S2, S3, S4, S5, ST, eq_self, reduceIte, reduceCtorEq, Nat.reduceEqDiff, Nat.reduceAdd]
  generalize hA : H ++ [AObj.cells [.int .i64 n, v] 26 false] = A
  have pA : H <+: A := by rw [← hA]; exact List.prefix_append _ _
  have cA : A[H.length]? = some (.cells [.int .i64 n, v] 26 false) := by rw [← hA]; exact at_new ..
  have rA := hr.pre pA
  have wA := hw.pre pA
  generalize hB : A ++ [AObj.cells [] 3 false] = B
  have pB : A <+: B := by rw [← hB]; exact List.prefix_append _ _
  have own0 : Own 3 A B (.slice (some ⟨A.length, 0, none⟩) 0 0) [] := .inr ⟨A.length, rfl, Nat.le_refl _, by rw [← hB]; exact at_new ..⟩
  try simp (maxSteps := 1000000) (disch := omega) only [S, S1, S2, S3, S4, S5, ST, eq_self, reduceIte, reduceCtorEq, Nat.reduceEqDiff, Nat.reduceAdd]
  refine LoopH.by (fun m s H' => ∃ i : Nat, m + i = T.length ∧ s 1 = w ∧ s 2 = .int .i64 f ∧ s 3 = .pointer (some ⟨H.length, 0, none⟩) ∧ s 8 = .int .i64 ((i : Nat) : Int) ∧ Own 3 A H' (s 7) (cirLT n es T (T.take i) f) ∧ A <+: H') T.length ?_ ?_
  · refine ⟨0, by simp, ?_⟩
    simp (maxSteps := 1000000) (disch := omega) only [S, S1, S2, S3, S4, S5, ST, eq_self, reduceIte, reduceCtorEq, Nat.reduceEqDiff, Nat.reduceAdd]
    have f1 : Own 3 A B (.slice (some ⟨A.length, 0, none⟩) 0 0) (cirLT n es T (T.take 0) f) := own0
    (repeat' first | exact f1 | exact pB | apply And.intro) <;> first | (simp only [Value.int.injEq, true_and]; omega) | omega | rfl | assumption | (simp; done) | (simp; omega)
  rintro m s H' ⟨i, hm, s1, s2, s3, s8, hO, hp⟩
  generalize hU : s 7 = U at *
  have wH := wA.pre hp
  have rH := rA.pre hp
  have cH := pre_at hp cA
  simp (maxSteps := 1000000) (disch := omega) only [s1, s2, s3, s8, hU, wH.len Try.underlying27, S, S1, S2, S3, S4, S5, ST, eq_self, reduceIte, reduceCtorEq, Nat.reduceEqDiff, Nat.reduceAdd]
  refine brD.intro (fun g => ?_) (fun g => ?_)
  rotate_left
  · have hi : i = T.length := by omega
    subst hi
    rw [List.take_length] at hO
    have hlen : (cirLT n es T T f).length ≤ T.length := List.length_filter_le _ _
    simp (maxSteps := 1000000) (disch := omega) only [s1, s2, s3, s8, hU, S, S1, S2, S3, S4, S5, ST, eq_self, reduceIte, reduceCtorEq, Nat.reduceEqDiff, Nat.reduceAdd]
    refine CallH.by (l1Put_c U (cirLT n es T T f) f H' hO.row (by omega) (fun q => hfT (List.mem_filter.1 q).1)) ?_
    rintro w2 D ⟨hD, pD⟩
    simp (maxSteps := 1000000) (disch := omega) only [S, S1, S2, S3, S4, S5, ST, eq_self, reduceIte, reduceCtorEq, Nat.reduceEqDiff, Nat.reduceAdd]
    refine hQ _ _ _ ?_
    simp (maxSteps := 1000000) (disch := omega) only [hD.row.tup, S, S1, S2, S3, S4, S5, ST, eq_self, reduceIte, reduceCtorEq, Nat.reduceEqDiff, Nat.reduceAdd]
    exact ⟨ownB hD (by have := hp.length_le; have := pA.length_le; omega), pA.trans (hp.trans pD)⟩
  have hi : i < T.length := by omega
  have hci := wH.cell hi
  have hmi : T.getD i 0 ∈ T := by simp [hi]
  have htk : T.take (i + 1) = T.take i ++ [T.getD i 0] := by rw [List.take_succ_eq_append_getElem hi]; simp [hi]
  obtain ⟨e, he⟩ : ∃ e, e = T.getD i 0 := ⟨_, rfl⟩
  rw [← he] at hci hmi htk
  simp (maxSteps := 1000000) (disch := omega) only [s1, s2, s3, s8, hU, wH.ix Try.underlying27 cs3, Int.toNat_natCast, hci, ld_agg ag26 cs26 cH, S, S1, S2, S3, S4, S5, ST, eq_self, reduceIte, reduceCtorEq, Nat.reduceEqDiff, Nat.reduceAdd]
  refine CallH.by (l7Cut_c n v w es T e H' rH hg wH hT hmi) ?_
  rintro w1 C ⟨hC, pC⟩
  have hcl : (cutL n es T e).length ≤ es.length := by unfold cutL; exact Nat.le_trans (List.length_filter_le _ _) (by rw [alls_len]; exact Nat.le_refl _)
  simp (maxSteps := 1000000) (disch := omega) only [s2, S, S1, S2, S3, S4, S5, ST, eq_self, reduceIte, reduceCtorEq, Nat.reduceEqDiff, Nat.reduceAdd]
  refine CallH.by (l1Has_c w1 _ f C hC.row (by omega)) ?_
  rintro _ _ ⟨rfl, rfl⟩
  have hOC := hO.pre pC
  have hpC := hp.trans pC
  have wC := wH.pre pC
  have hflt : cirLT n es T (T.take (i + 1)) f = cirLT n es T (T.take i) f ++ if f ∈ cutL n es T e then [e] else [] := by
    rw [htk]
    unfold cirLT
    rw [List.filter_append]
    congr 1
    have := cir_cut hg hT.2.2.1 hf e
    by_cases z : f ∈ cutL n es T e
    · rw [if_pos z, List.filter_cons, if_pos (this.1 z)]; rfl
    · rw [if_neg z, List.filter_cons, if_neg (fun q => z (this.2 q))]; rfl
  have hcl2 : (cirLT n es T (T.take i) f).length ≤ (T.take i).length := List.length_filter_le _ _
  rw [List.length_take] at hcl2
  simp (maxSteps := 1000000) (disch := omega) only [S, S1, S2, S3, S4, S5, ST, eq_self, reduceIte, reduceCtorEq, Nat.reduceEqDiff, Nat.reduceAdd]
  refine brD.intro (fun z => ?_) (fun z => ?_)
  · rw [if_pos z] at hflt
    obtain ⟨w2, K, a1, a2, a3, a4, a5, a6⟩ := own1_27 hOC hpC (by omega) e
    rw [← hflt] at a2
    simp (maxSteps := 1000000) (disch := omega) only [s1, s2, s3, s8, hU, wC.ix Try.underlying27 cs3, Int.toNat_natCast, wC.cell hi, ← he, a1, wrap64, S, S1, S2, S3, S4, S5, ST, eq_self, reduceIte, reduceCtorEq, Nat.reduceEqDiff, Nat.reduceAdd]
    refine ⟨m - 1, by omega, i + 1, ?_⟩
    (repeat' first | exact a2 | exact a3 | apply And.intro) <;> first | (simp only [Value.int.injEq, true_and]; omega) | omega | rfl | assumption | (simp; done) | (simp; omega)
  · rw [if_neg z, List.append_nil] at hflt
    rw [← hflt] at hOC
    simp (maxSteps := 1000000) (disch := omega) only [s1, s2, s3, s8, hU, wrap64, S, S1, S2, S3, S4, S5, ST, eq_self, reduceIte, reduceCtorEq, Nat.reduceEqDiff, Nat.reduceAdd]
    refine ⟨m - 1, by omega, i + 1, ?_⟩
    (repeat' first | exact hOC | exact hpC | apply And.intro) <;> first | (simp only [Value.int.injEq, true_and]; omega) | omega | rfl | assumption | (simp; done) | (simp; omega)
end Go.Proofs.Ytldcbmmmheookaa.Ai
namespace Go.Proofs.Ytldcbmmmheookaa.Ai
open Go
def ords38 : List (Nat × List (Nat × Bool)) := []
def cd38 : Cd := (.seq (.reg [⟨⟨some 3, Op.box 26 (Operand.tmp 0), none⟩, []⟩,
  ⟨⟨some 6, Op.assign (Operand.const (Value.bool false)), none⟩, []⟩]) (.seq (.reg [⟨⟨some 10, Op.load 26 (Operand.tmp 3), none⟩, []⟩,
  ⟨⟨some 11, Op.move (Operand.tmp 1), none⟩, []⟩,
  ⟨⟨some 12, Op.call { callee := (Callee.value (Operand.func 15)), args := #[(Operand.tmp 10), (Operand.tmp 11)], argTypes := #[26, 27] }, none⟩, []⟩,
  ⟨⟨some 9, Op.move (Operand.tmp 12), none⟩, []⟩,
  ⟨⟨some 13, Op.extract (Operand.tmp 9) 0, none⟩, []⟩,
  ⟨⟨some 14, Op.extract (Operand.tmp 9) 1, none⟩, []⟩,
  ⟨⟨some 7, Op.assign (Operand.tmp 13), none⟩, []⟩,
  ⟨⟨some 8, Op.assign (Operand.tmp 14), none⟩, []⟩]) (.seq (.reg [⟨⟨some 15, Op.move (Operand.tmp 7), none⟩, []⟩,
  ⟨⟨some 16, Op.move (Operand.tmp 15), none⟩, []⟩,
  ⟨⟨some 17, Op.move (Operand.tmp 2), some (16, true)⟩, []⟩,
  ⟨⟨some 18, Op.fieldAddr 26 (Operand.tmp 3) 1, some (16, true)⟩, []⟩,
  ⟨⟨some 19, Op.load 24 (Operand.tmp 18), some (16, true)⟩, []⟩,
  ⟨⟨some 20, Op.call { callee := (Callee.builtin Builtin.len), args := #[(Operand.tmp 19)], argTypes := #[24] }, some (16, true)⟩, []⟩,
  ⟨⟨some 21, Op.binOp BinOp.sub 3 (Operand.tmp 20) (Operand.const (Value.int IntKind.i64 1)) 3, some (16, true)⟩, []⟩,
  ⟨⟨some 22, Op.call { callee := (Callee.value (Operand.func 87)), args := #[(Operand.tmp 17), (Operand.const (Value.int IntKind.i64 0)), (Operand.tmp 21)], argTypes := #[3, 3, 3] }, some (16, true)⟩, []⟩,
  ⟨⟨some 23, Op.pick (Operand.tmp 16) (Operand.tmp 22) (Operand.const (Value.bool false)), none⟩, []⟩,
  ⟨⟨some 6, Op.assign (Operand.tmp 23), none⟩, []⟩]) .ret)))
theorem sl38 : slim Try.f38.ntmps ords38 (Try.f38.body.getD .skip) = some cd38 := by kernel_rfl
theorem in38 {args : List Value} {H : AH} {R : Value → AH → Prop} (hl : args.length = 3) (h : ∀ (Q : Exit → Sl → AH → Prop), (∀ e s H, endA Try.prog [ResultVar.tmp 6] R e s H → Q e s H) → wpC Try.prog cd38 Q (enterA args) H) : ACalls Try.prog 38 args H R :=
  ACalls.intro (by kernel_rfl) Try.func38 rfl (by kernel_rfl) sl38 hl (of_decide_eq_true (by kernel_rfl)) (by kernel_rfl) h
def ords41 : List (Nat × List (Nat × Bool)) := []
def cd41 : Cd := (.seq (.reg [⟨⟨some 3, Op.box 26 (Operand.tmp 0), none⟩, []⟩,
  ⟨⟨some 6, Op.assign (Operand.const (Value.bool false)), none⟩, []⟩]) (.seq (.reg [⟨⟨some 7, Op.load 26 (Operand.tmp 3), none⟩, []⟩,
  ⟨⟨some 8, Op.call { callee := (Callee.value (Operand.func 51)), args := #[(Operand.tmp 7)], argTypes := #[26] }, none⟩, []⟩,
  ⟨⟨some 9, Op.move (Operand.tmp 8), none⟩, []⟩,
  ⟨⟨some 10, Op.load 26 (Operand.tmp 3), some (9, true)⟩, []⟩,
  ⟨⟨some 11, Op.move (Operand.tmp 1), some (9, true)⟩, []⟩,
  ⟨⟨some 12, Op.call { callee := (Callee.value (Operand.func 52)), args := #[(Operand.tmp 10), (Operand.tmp 11)], argTypes := #[26, 27] }, some (9, true)⟩, []⟩,
  ⟨⟨some 13, Op.pick (Operand.tmp 9) (Operand.tmp 12) (Operand.const (Value.bool false)), none⟩, []⟩,
  ⟨⟨some 14, Op.move (Operand.tmp 13), none⟩, []⟩,
  ⟨⟨some 15, Op.move (Operand.tmp 2), some (14, true)⟩, []⟩,
  ⟨⟨some 16, Op.fieldAddr 26 (Operand.tmp 3) 1, some (14, true)⟩, []⟩,
  ⟨⟨some 17, Op.load 24 (Operand.tmp 16), some (14, true)⟩, []⟩,
  ⟨⟨some 18, Op.call { callee := (Callee.builtin Builtin.len), args := #[(Operand.tmp 17)], argTypes := #[24] }, some (14, true)⟩, []⟩,
  ⟨⟨some 19, Op.binOp BinOp.sub 3 (Operand.tmp 18) (Operand.const (Value.int IntKind.i64 1)) 3, some (14, true)⟩, []⟩,
  ⟨⟨some 20, Op.call { callee := (Callee.value (Operand.func 89)), args := #[(Operand.tmp 15), (Operand.const (Value.int IntKind.i64 0)), (Operand.tmp 19)], argTypes := #[3, 3, 3] }, some (14, true)⟩, []⟩,
  ⟨⟨some 21, Op.pick (Operand.tmp 14) (Operand.tmp 20) (Operand.const (Value.bool false)), none⟩, []⟩,
  ⟨⟨some 6, Op.assign (Operand.tmp 21), none⟩, []⟩]) .ret))
theorem sl41 : slim Try.f41.ntmps ords41 (Try.f41.body.getD .skip) = some cd41 := by kernel_rfl
theorem in41 {args : List Value} {H : AH} {R : Value → AH → Prop} (hl : args.length = 3) (h : ∀ (Q : Exit → Sl → AH → Prop), (∀ e s H, endA Try.prog [ResultVar.tmp 6] R e s H → Q e s H) → wpC Try.prog cd41 Q (enterA args) H) : ACalls Try.prog 41 args H R :=
  ACalls.intro (by kernel_rfl) Try.func41 rfl (by kernel_rfl) sl41 hl (of_decide_eq_true (by kernel_rfl)) (by kernel_rfl) h
def ords9 : List (Nat × List (Nat × Bool)) := []
def cd9 : Cd := (.seq (.reg [⟨⟨some 3, Op.box 26 (Operand.tmp 0), none⟩, []⟩,
  ⟨⟨some 6, Op.assign (Operand.const (Value.slice none 0 0)), none⟩, []⟩,
  ⟨⟨some 7, Op.assign (Operand.const (Value.bool false)), none⟩, []⟩]) (.seq (.seq (.reg [⟨⟨some 8, Op.load 26 (Operand.tmp 3), none⟩, []⟩,
  ⟨⟨some 9, Op.move (Operand.tmp 1), none⟩, []⟩,
  ⟨⟨some 10, Op.move (Operand.tmp 2), none⟩, []⟩,
  ⟨⟨some 11, Op.call { callee := (Callee.value (Operand.func 38)), args := #[(Operand.tmp 8), (Operand.tmp 9), (Operand.tmp 10)], argTypes := #[26, 27, 3] }, none⟩, []⟩,
  ⟨⟨some 12, Op.unOp UnOp.not 4 (Operand.tmp 11), none⟩, []⟩,
  ⟨⟨some 13, Op.move (Operand.tmp 12), none⟩, []⟩,
  ⟨⟨some 14, Op.move (Operand.tmp 1), some (13, false)⟩, []⟩,
  ⟨⟨some 15, Op.move (Operand.tmp 2), some (13, false)⟩, []⟩,
  ⟨⟨some 16, Op.call { callee := (Callee.value (Operand.func 39)), args := #[(Operand.tmp 14), (Operand.tmp 15)], argTypes := #[27, 3] }, some (13, false)⟩, []⟩,
  ⟨⟨some 17, Op.pick (Operand.tmp 13) (Operand.const (Value.bool true)) (Operand.tmp 16), none⟩, []⟩]) (.cond (Operand.tmp 17) (.seq (.reg [⟨⟨some 6, Op.assign (Operand.const (Value.slice none 0 0)), none⟩, []⟩,
  ⟨⟨some 7, Op.assign (Operand.const (Value.bool false)), none⟩, []⟩]) .ret) .skip)) (.seq (.reg [⟨⟨some 18, Op.load 26 (Operand.tmp 3), none⟩, []⟩,
  ⟨⟨some 19, Op.move (Operand.tmp 1), none⟩, []⟩,
  ⟨⟨some 20, Op.move (Operand.tmp 2), none⟩, []⟩,
  ⟨⟨some 21, Op.call { callee := (Callee.value (Operand.func 40)), args := #[(Operand.tmp 18), (Operand.tmp 19), (Operand.tmp 20)], argTypes := #[26, 27, 3] }, none⟩, []⟩,
  ⟨⟨some 6, Op.assign (Operand.tmp 21), none⟩, []⟩,
  ⟨⟨some 7, Op.assign (Operand.const (Value.bool true)), none⟩, []⟩]) .ret)))
theorem sl9 : slim Try.f9.ntmps ords9 (Try.f9.body.getD .skip) = some cd9 := by kernel_rfl
theorem in9 {args : List Value} {H : AH} {R : Value → AH → Prop} (hl : args.length = 3) (h : ∀ (Q : Exit → Sl → AH → Prop), (∀ e s H, endA Try.prog [ResultVar.tmp 6, ResultVar.tmp 7] R e s H → Q e s H) → wpC Try.prog cd9 Q (enterA args) H) : ACalls Try.prog 9 args H R :=
  ACalls.intro (by kernel_rfl) Try.func9 rfl (by kernel_rfl) sl9 hl (of_decide_eq_true (by kernel_rfl)) (by kernel_rfl) h
def ords10 : List (Nat × List (Nat × Bool)) := []
def cd10 : Cd := (.seq (.reg [⟨⟨some 3, Op.box 26 (Operand.tmp 0), none⟩, []⟩,
  ⟨⟨some 6, Op.assign (Operand.const (Value.slice none 0 0)), none⟩, []⟩,
  ⟨⟨some 7, Op.assign (Operand.const (Value.bool false)), none⟩, []⟩]) (.seq (.seq (.reg [⟨⟨some 8, Op.load 26 (Operand.tmp 3), none⟩, []⟩,
  ⟨⟨some 9, Op.move (Operand.tmp 1), none⟩, []⟩,
  ⟨⟨some 10, Op.move (Operand.tmp 2), none⟩, []⟩,
  ⟨⟨some 11, Op.call { callee := (Callee.value (Operand.func 41)), args := #[(Operand.tmp 8), (Operand.tmp 9), (Operand.tmp 10)], argTypes := #[26, 27, 3] }, none⟩, []⟩,
  ⟨⟨some 12, Op.unOp UnOp.not 4 (Operand.tmp 11), none⟩, []⟩,
  ⟨⟨some 13, Op.move (Operand.tmp 12), none⟩, []⟩,
  ⟨⟨some 14, Op.move (Operand.tmp 1), some (13, false)⟩, []⟩,
  ⟨⟨some 15, Op.move (Operand.tmp 2), some (13, false)⟩, []⟩,
  ⟨⟨some 16, Op.call { callee := (Callee.value (Operand.func 42)), args := #[(Operand.tmp 14), (Operand.tmp 15)], argTypes := #[27, 3] }, some (13, false)⟩, []⟩,
  ⟨⟨some 17, Op.pick (Operand.tmp 13) (Operand.const (Value.bool true)) (Operand.tmp 16), none⟩, []⟩]) (.cond (Operand.tmp 17) (.seq (.reg [⟨⟨some 18, Op.buildSlice 27 0 #[], none⟩, []⟩,
  ⟨⟨some 6, Op.assign (Operand.tmp 18), none⟩, []⟩,
  ⟨⟨some 7, Op.assign (Operand.const (Value.bool false)), none⟩, []⟩]) .ret) .skip)) (.seq (.reg [⟨⟨some 19, Op.load 26 (Operand.tmp 3), none⟩, []⟩,
  ⟨⟨some 20, Op.move (Operand.tmp 1), none⟩, []⟩,
  ⟨⟨some 21, Op.move (Operand.tmp 2), none⟩, []⟩,
  ⟨⟨some 22, Op.call { callee := (Callee.value (Operand.func 43)), args := #[(Operand.tmp 19), (Operand.tmp 20), (Operand.tmp 21)], argTypes := #[26, 27, 3] }, none⟩, []⟩,
  ⟨⟨some 6, Op.assign (Operand.tmp 22), none⟩, []⟩,
  ⟨⟨some 7, Op.assign (Operand.const (Value.bool true)), none⟩, []⟩]) .ret)))
theorem sl10 : slim Try.f10.ntmps ords10 (Try.f10.body.getD .skip) = some cd10 := by kernel_rfl
theorem in10 {args : List Value} {H : AH} {R : Value → AH → Prop} (hl : args.length = 3) (h : ∀ (Q : Exit → Sl → AH → Prop), (∀ e s H, endA Try.prog [ResultVar.tmp 6, ResultVar.tmp 7] R e s H → Q e s H) → wpC Try.prog cd10 Q (enterA args) H) : ACalls Try.prog 10 args H R :=
  ACalls.intro (by kernel_rfl) Try.func10 rfl (by kernel_rfl) sl10 hl (of_decide_eq_true (by kernel_rfl)) (by kernel_rfl) h
def ords12 : List (Nat × List (Nat × Bool)) := []
def cd12 : Cd := (.seq (.reg [⟨⟨some 3, Op.box 26 (Operand.tmp 0), none⟩, []⟩,
  ⟨⟨some 6, Op.assign (Operand.const (Value.slice none 0 0)), none⟩, []⟩,
  ⟨⟨some 7, Op.assign (Operand.const (Value.bool false)), none⟩, []⟩]) (.seq (.seq (.reg [⟨⟨some 8, Op.load 26 (Operand.tmp 3), none⟩, []⟩,
  ⟨⟨some 9, Op.move (Operand.tmp 1), none⟩, []⟩,
  ⟨⟨some 10, Op.move (Operand.tmp 2), none⟩, []⟩,
  ⟨⟨some 11, Op.call { callee := (Callee.value (Operand.func 41)), args := #[(Operand.tmp 8), (Operand.tmp 9), (Operand.tmp 10)], argTypes := #[26, 27, 3] }, none⟩, []⟩,
  ⟨⟨some 12, Op.unOp UnOp.not 4 (Operand.tmp 11), none⟩, []⟩,
  ⟨⟨some 13, Op.move (Operand.tmp 12), none⟩, []⟩,
  ⟨⟨some 14, Op.move (Operand.tmp 1), some (13, false)⟩, []⟩,
  ⟨⟨some 15, Op.move (Operand.tmp 2), some (13, false)⟩, []⟩,
  ⟨⟨some 16, Op.call { callee := (Callee.value (Operand.func 42)), args := #[(Operand.tmp 14), (Operand.tmp 15)], argTypes := #[27, 3] }, some (13, false)⟩, []⟩,
  ⟨⟨some 17, Op.unOp UnOp.not 4 (Operand.tmp 16), some (13, false)⟩, []⟩,
  ⟨⟨some 18, Op.pick (Operand.tmp 13) (Operand.const (Value.bool true)) (Operand.tmp 17), none⟩, []⟩]) (.cond (Operand.tmp 18) (.seq (.reg [⟨⟨some 19, Op.buildSlice 27 0 #[], none⟩, []⟩,
  ⟨⟨some 6, Op.assign (Operand.tmp 19), none⟩, []⟩,
  ⟨⟨some 7, Op.assign (Operand.const (Value.bool false)), none⟩, []⟩]) .ret) .skip)) (.seq (.reg [⟨⟨some 20, Op.load 26 (Operand.tmp 3), none⟩, []⟩,
  ⟨⟨some 21, Op.move (Operand.tmp 1), none⟩, []⟩,
  ⟨⟨some 22, Op.move (Operand.tmp 2), none⟩, []⟩,
  ⟨⟨some 23, Op.call { callee := (Callee.value (Operand.func 47)), args := #[(Operand.tmp 20), (Operand.tmp 21), (Operand.tmp 22)], argTypes := #[26, 27, 3] }, none⟩, []⟩,
  ⟨⟨some 6, Op.assign (Operand.tmp 23), none⟩, []⟩,
  ⟨⟨some 7, Op.assign (Operand.const (Value.bool true)), none⟩, []⟩]) .ret)))
theorem sl12 : slim Try.f12.ntmps ords12 (Try.f12.body.getD .skip) = some cd12 := by kernel_rfl
theorem in12 {args : List Value} {H : AH} {R : Value → AH → Prop} (hl : args.length = 3) (h : ∀ (Q : Exit → Sl → AH → Prop), (∀ e s H, endA Try.prog [ResultVar.tmp 6, ResultVar.tmp 7] R e s H → Q e s H) → wpC Try.prog cd12 Q (enterA args) H) : ACalls Try.prog 12 args H R :=
  ACalls.intro (by kernel_rfl) Try.func12 rfl (by kernel_rfl) sl12 hl (of_decide_eq_true (by kernel_rfl)) (by kernel_rfl) h
def ords11 : List (Nat × List (Nat × Bool)) := [(14, [(0, false), (1, false), (2, false), (4, false), (5, false), (6, false), (3, true), (7, true), (8, false)])]
def cd11 : Cd := (.seq (.reg [⟨⟨some 3, Op.box 26 (Operand.tmp 0), none⟩, []⟩,
  ⟨⟨some 6, Op.assign (Operand.const (Value.slice none 0 0)), none⟩, []⟩,
  ⟨⟨some 7, Op.assign (Operand.const (Value.bool false)), none⟩, []⟩]) (.seq (.seq (.reg [⟨⟨some 14, Op.load 26 (Operand.tmp 3), none⟩, []⟩,
  ⟨⟨some 15, Op.move (Operand.tmp 1), none⟩, []⟩,
  ⟨⟨some 16, Op.move (Operand.tmp 2), none⟩, []⟩,
  ⟨⟨some 17, Op.call { callee := (Callee.value (Operand.func 38)), args := #[(Operand.tmp 14), (Operand.tmp 15), (Operand.tmp 16)], argTypes := #[26, 27, 3] }, none⟩, []⟩,
  ⟨⟨some 18, Op.unOp UnOp.not 4 (Operand.tmp 17), none⟩, []⟩,
  ⟨⟨some 19, Op.move (Operand.tmp 18), none⟩, []⟩,
  ⟨⟨some 20, Op.move (Operand.tmp 1), some (19, false)⟩, []⟩,
  ⟨⟨some 21, Op.move (Operand.tmp 2), some (19, false)⟩, []⟩,
  ⟨⟨some 22, Op.call { callee := (Callee.value (Operand.func 39)), args := #[(Operand.tmp 20), (Operand.tmp 21)], argTypes := #[27, 3] }, some (19, false)⟩, []⟩,
  ⟨⟨some 23, Op.unOp UnOp.not 4 (Operand.tmp 22), some (19, false)⟩, []⟩,
  ⟨⟨some 24, Op.pick (Operand.tmp 19) (Operand.const (Value.bool true)) (Operand.tmp 23), none⟩, []⟩]) (.cond (Operand.tmp 24) (.seq (.reg [⟨⟨some 6, Op.assign (Operand.const (Value.slice none 0 0)), none⟩, []⟩,
  ⟨⟨some 7, Op.assign (Operand.const (Value.bool false)), none⟩, []⟩]) .ret) .skip)) (.seq (.reg [⟨⟨some 25, Op.fieldAddr 26 (Operand.tmp 3) 0, none⟩, []⟩,
  ⟨⟨some 26, Op.load 3 (Operand.tmp 25), none⟩, []⟩,
  ⟨⟨some 27, Op.call { callee := (Callee.value (Operand.func 44)), args := #[(Operand.tmp 26)], argTypes := #[3] }, none⟩, []⟩,
  ⟨⟨some 8, Op.assign (Operand.tmp 27), none⟩, []⟩]) (.seq (.seq (.reg [⟨⟨some 28, Op.move (Operand.tmp 1), none⟩, []⟩,
  ⟨⟨some 29, Op.call { callee := (Callee.builtin Builtin.len), args := #[(Operand.tmp 28)], argTypes := #[27] }, none⟩, []⟩,
  ⟨⟨some 30, Op.move (Operand.const (Value.int IntKind.i64 0)), none⟩, []⟩]) (.block 0 (.loop (.seq (.reg [⟨⟨some 31, Op.binOp BinOp.lss 3 (Operand.tmp 30) (Operand.tmp 29) 3, none⟩, []⟩]) (.seq (.cond (Operand.tmp 31) .skip (.exit 0)) (.seq (.block 1 (.seq (.reg [⟨⟨some 32, Op.indexAddr 27 (Operand.tmp 28) (Operand.tmp 30), none⟩, []⟩,
  ⟨⟨some 33, Op.load 3 (Operand.tmp 32), none⟩, []⟩,
  ⟨⟨some 10, Op.assign (Operand.tmp 33), none⟩, []⟩]) (.seq (.reg [⟨⟨some 34, Op.move (Operand.tmp 10), none⟩, []⟩,
  ⟨⟨some 35, Op.move (Operand.tmp 2), none⟩, []⟩,
  ⟨⟨some 36, Op.binOp BinOp.neq 3 (Operand.tmp 34) (Operand.tmp 35) 3, none⟩, []⟩]) (.cond (Operand.tmp 36) (.reg [⟨⟨some 37, Op.move (Operand.tmp 8), none⟩, []⟩,
  ⟨⟨some 38, Op.fieldAddr 26 (Operand.tmp 3) 1, none⟩, []⟩,
  ⟨⟨some 39, Op.load 24 (Operand.tmp 38), none⟩, []⟩,
  ⟨⟨some 40, Op.move (Operand.tmp 10), none⟩, []⟩,
  ⟨⟨some 41, Op.indexAddr 24 (Operand.tmp 39) (Operand.tmp 40), none⟩, []⟩,
  ⟨⟨some 42, Op.load 71 (Operand.tmp 41), none⟩, []⟩,
  ⟨⟨some 43, Op.call { callee := (Callee.value (Operand.func 45)), args := #[(Operand.tmp 37), (Operand.tmp 42)], argTypes := #[68, 71] }, none⟩, []⟩]) .skip)))) (.reg [⟨⟨some 44, Op.binOp BinOp.add 3 (Operand.tmp 30) (Operand.const (Value.int IntKind.i64 1)) 3, none⟩, []⟩,
  ⟨⟨some 30, Op.move (Operand.tmp 44), none⟩, []⟩]))))))) (.seq (.reg [⟨⟨some 45, Op.buildSlice 27 0 #[], none⟩, []⟩,
  ⟨⟨some 11, Op.assign (Operand.tmp 45), none⟩, []⟩]) (.seq (.seq (.reg [⟨⟨some 46, Op.fieldAddr 26 (Operand.tmp 3) 1, none⟩, []⟩,
  ⟨⟨some 47, Op.load 24 (Operand.tmp 46), none⟩, []⟩,
  ⟨⟨some 48, Op.call { callee := (Callee.builtin Builtin.len), args := #[(Operand.tmp 47)], argTypes := #[24] }, none⟩, []⟩,
  ⟨⟨some 49, Op.move (Operand.const (Value.int IntKind.i64 0)), none⟩, []⟩]) (.block 2 (.loop (.seq (.reg [⟨⟨some 50, Op.binOp BinOp.lss 3 (Operand.tmp 49) (Operand.tmp 48) 3, none⟩, []⟩]) (.seq (.cond (Operand.tmp 50) .skip (.exit 2)) (.seq (.block 3 (.seq (.reg [⟨⟨some 51, Op.move (Operand.tmp 49), none⟩, []⟩,
  ⟨⟨some 52, Op.indexAddr 24 (Operand.tmp 47) (Operand.tmp 49), none⟩, []⟩,
  ⟨⟨some 53, Op.load 71 (Operand.tmp 52), none⟩, []⟩,
  ⟨⟨some 13, Op.alloc 71, none⟩, []⟩,
  ⟨⟨some 12, Op.assign (Operand.tmp 51), none⟩, []⟩,
  ⟨⟨none, Op.store 71 (Operand.tmp 13) (Operand.tmp 53), none⟩, []⟩]) (.seq (.reg [⟨⟨some 54, Op.move (Operand.tmp 8), none⟩, []⟩,
  ⟨⟨some 55, Op.indexAddr 71 (Operand.tmp 13) (Operand.const (Value.int IntKind.i64 0)), none⟩, []⟩,
  ⟨⟨some 56, Op.load 3 (Operand.tmp 55), none⟩, []⟩,
  ⟨⟨some 58, Op.move (Operand.tmp 8), none⟩, []⟩,
  ⟨⟨some 59, Op.indexAddr 71 (Operand.tmp 13) (Operand.const (Value.int IntKind.i64 1)), none⟩, []⟩,
  ⟨⟨some 60, Op.load 3 (Operand.tmp 59), none⟩, []⟩,
  ⟨⟨some 57, Op.call { callee := (Callee.value (Operand.func 46)), args := #[(Operand.tmp 54), (Operand.tmp 56)], argTypes := #[68, 3] }, none⟩, [⟨some 60, Op.load 3 (Operand.tmp 59), none⟩]⟩,
  ⟨⟨some 61, Op.call { callee := (Callee.value (Operand.func 46)), args := #[(Operand.tmp 58), (Operand.tmp 60)], argTypes := #[68, 3] }, none⟩, []⟩,
  ⟨⟨some 62, Op.binOp BinOp.neq 3 (Operand.tmp 57) (Operand.tmp 61) 3, none⟩, []⟩]) (.cond (Operand.tmp 62) (.reg [⟨⟨some 63, Op.move (Operand.tmp 11), none⟩, []⟩,
  ⟨⟨some 64, Op.move (Operand.tmp 12), none⟩, []⟩,
  ⟨⟨some 65, Op.buildSlice 27 1 #[(0, (Operand.tmp 64))], none⟩, []⟩,
  ⟨⟨some 66, Op.call { callee := (Callee.builtin Builtin.append), args := #[(Operand.tmp 63), (Operand.tmp 65)], argTypes := #[27, 27] }, none⟩, []⟩,
  ⟨⟨some 11, Op.assign (Operand.tmp 66), none⟩, []⟩]) .skip)))) (.reg [⟨⟨some 67, Op.binOp BinOp.add 3 (Operand.tmp 49) (Operand.const (Value.int IntKind.i64 1)) 3, none⟩, []⟩,
  ⟨⟨some 49, Op.move (Operand.tmp 67), none⟩, []⟩]))))))) (.seq (.reg [⟨⟨some 68, Op.move (Operand.tmp 11), none⟩, []⟩,
  ⟨⟨some 6, Op.assign (Operand.tmp 68), none⟩, []⟩,
  ⟨⟨some 7, Op.assign (Operand.const (Value.bool true)), none⟩, []⟩]) .ret)))))))
theorem sl11 : slim Try.f11.ntmps ords11 (Try.f11.body.getD .skip) = some cd11 := by kernel_rfl
theorem in11 {args : List Value} {H : AH} {R : Value → AH → Prop} (hl : args.length = 3) (h : ∀ (Q : Exit → Sl → AH → Prop), (∀ e s H, endA Try.prog [ResultVar.tmp 6, ResultVar.tmp 7] R e s H → Q e s H) → wpC Try.prog cd11 Q (enterA args) H) : ACalls Try.prog 11 args H R :=
  ACalls.intro (by kernel_rfl) Try.func11 rfl (by kernel_rfl) sl11 hl (of_decide_eq_true (by kernel_rfl)) (by kernel_rfl) h
end Go.Proofs.Ytldcbmmmheookaa.Ai
namespace Go.Proofs.Ytldcbmmmheookaa.Ai
open Go Go.RowKit
set_option linter.unusedVariables false
set_option linter.unusedSimpArgs false
abbrev CtOk (n : Int) (es : List (Int × Int)) (T : List Int) (e : Int) : Prop := ((Grd n es ∧ 0 < n) ∧ TreL n.toNat es T) ∧ 0 ≤ e ∧ e < es.length
set_option maxHeartbeats 2000000 in
theorem isTreeCase_c (n : Int) (v w : Value) (es : List (Int × Int)) (T : List Int) (e : Int) (H : AH) (hr : RowP 71 H v es) (hl : es.length ≤ 1099511627776) (hw : Row 3 H w T) (hlen : T.length ≤ 1099511627776) :
    ACalls Try.prog 38 [.agg (List.toArray [.int .i64 n, v]), w, .int .i64 e] H fun r H' => r = .bool (decide (CtOk n es T e)) ∧ H <+: H' := by
  refine in38 rfl ?_
  intro Q hQ
  simp (maxSteps := 1000000) (disch := omega) only [cd38, hr.boxG, S, S1, S2, S3, S4, S5, ST, eq_self, reduceIte, reduceCtorEq, Nat.reduceEqDiff, Nat.reduceAdd]
  generalize hA : H ++ [AObj.cells [.int .i64 n, v] 26 false] = A
  have pA : H <+: A := by rw [← hA]; exact List.prefix_append _ _
  have cA : A[H.length]? = some (.cells [.int .i64 n, v] 26 false) := by rw [← hA]; exact at_new ..
  have rA := hr.pre pA
  simp (maxSteps := 1000000) (disch := omega) only [ld_agg ag26 cs26 cA, S, S1, S2, S3, S4, S5, ST, eq_self, reduceIte, reduceCtorEq, Nat.reduceEqDiff, Nat.reduceAdd]
  refine CallH.by (IsTreI_c n v w es T A rA hl (hw.pre pA) hlen) ?_
  rintro _ B ⟨rfl, pB⟩
  have cB := pre_at pB cA
  by_cases e1 : (Grd n es ∧ 0 < n) ∧ TreL n.toNat es T
  rotate_left
  · simp (maxSteps := 1000000) (disch := omega) only [decide_eq_false e1, S, S1, S2, S3, S4, S5, ST, eq_self, reduceIte, reduceCtorEq, Nat.reduceEqDiff, Nat.reduceAdd]
    refine hQ _ _ _ ?_
    simp (maxSteps := 1000000) (disch := omega) only [S, S1, S2, S3, S4, S5, ST, eq_self, reduceIte, reduceCtorEq, Nat.reduceEqDiff, Nat.reduceAdd]
    refine ⟨?_, pA.trans pB⟩
    rw [decide_eq_false fun h => e1 h.1]
  have hw1 : IntKind.i64.wrap ((es.length : Int) - 1) = (es.length : Int) - 1 := wrap64 (by omega) (by omega)
  simp (maxSteps := 1000000) (disch := omega) only [decide_eq_true e1, cell_of cB, (rA.pre pB).len Try.underlying24, hw1, S, S1, S2, S3, S4, S5, ST, eq_self, reduceIte, reduceCtorEq, Nat.reduceEqDiff, Nat.reduceAdd]
  refine CallH.by (between_c e 0 ((es.length : Int) - 1) B) ?_
  rintro _ _ ⟨rfl, rfl⟩
  simp (maxSteps := 1000000) (disch := omega) only [S, S1, S2, S3, S4, S5, ST, eq_self, reduceIte, reduceCtorEq, Nat.reduceEqDiff, Nat.reduceAdd]
  refine hQ _ _ _ ?_
  simp (maxSteps := 1000000) (disch := omega) only [S, S1, S2, S3, S4, S5, ST, eq_self, reduceIte, reduceCtorEq, Nat.reduceEqDiff, Nat.reduceAdd]
  refine ⟨?_, pA.trans pB⟩
  rw [Value.bool.injEq, decide_eq_decide]
  exact ⟨fun h => ⟨e1, by omega⟩, fun h => by have := h.2; omega⟩
set_option maxHeartbeats 2000000 in
theorem l7Two_c (n : Int) (v w : Value) (es : List (Int × Int)) (T : List Int) (e : Int) (H : AH) (hr : RowP 71 H v es) (hl : es.length ≤ 1099511627776) (hw : Row 3 H w T) (hlen : T.length ≤ 1099511627776) :
    ACalls Try.prog 41 [.agg (List.toArray [.int .i64 n, v]), w, .int .i64 e] H fun r H' => r = .bool (decide (CtOk n es T e)) ∧ H <+: H' := by
  refine in41 rfl ?_
  intro Q hQ
  simp (maxSteps := 1000000) (disch := omega) only [cd41, hr.boxG, S, S1, S2, S3, S4, S5, ST, eq_self, reduceIte, reduceCtorEq, Nat.reduceEqDiff, Nat.reduceAdd]
  generalize hA : H ++ [AObj.cells [.int .i64 n, v] 26 false] = A
  have pA : H <+: A := by rw [← hA]; exact List.prefix_append _ _
  have cA : A[H.length]? = some (.cells [.int .i64 n, v] 26 false) := by rw [← hA]; exact at_new ..
  have rA := hr.pre pA
  simp (maxSteps := 1000000) (disch := omega) only [ld_agg ag26 cs26 cA, S, S1, S2, S3, S4, S5, ST, eq_self, reduceIte, reduceCtorEq, Nat.reduceEqDiff, Nat.reduceAdd]
  refine CallH.by (l7Some_c n v es A rA hl) ?_
  rintro _ B ⟨rfl, pB⟩
  have cB := pre_at pB cA
  by_cases e1 : Grd n es ∧ 0 < n
  rotate_left
  · simp (maxSteps := 1000000) (disch := omega) only [decide_eq_false e1, S, S1, S2, S3, S4, S5, ST, eq_self, reduceIte, reduceCtorEq, Nat.reduceEqDiff, Nat.reduceAdd]
    refine hQ _ _ _ ?_
    simp (maxSteps := 1000000) (disch := omega) only [S, S1, S2, S3, S4, S5, ST, eq_self, reduceIte, reduceCtorEq, Nat.reduceEqDiff, Nat.reduceAdd]
    refine ⟨?_, pA.trans pB⟩
    rw [decide_eq_false fun h => e1 h.1.1]
  obtain ⟨N, rfl⟩ : ∃ N : Nat, n = N := ⟨n.toNat, by omega⟩
  simp (maxSteps := 1000000) (disch := omega) only [decide_eq_true e1, ld_agg ag26 cs26 cB, S, S1, S2, S3, S4, S5, ST, eq_self, reduceIte, reduceCtorEq, Nat.reduceEqDiff, Nat.reduceAdd]
  refine CallH.by (l7Tree_c N (by omega) v w es T B (rA.pre pB) e1.1 ((hw.pre pA).pre pB) hlen) ?_
  rintro _ C ⟨rfl, pC⟩
  have cC := pre_at pC cB
  have pHC := pA.trans (pB.trans pC)
  by_cases e2 : TreL N es T
  rotate_left
  · simp (maxSteps := 1000000) (disch := omega) only [decide_eq_false e2, S, S1, S2, S3, S4, S5, ST, eq_self, reduceIte, reduceCtorEq, Nat.reduceEqDiff, Nat.reduceAdd]
    refine hQ _ _ _ ?_
    simp (maxSteps := 1000000) (disch := omega) only [S, S1, S2, S3, S4, S5, ST, eq_self, reduceIte, reduceCtorEq, Nat.reduceEqDiff, Nat.reduceAdd]
    refine ⟨?_, pHC⟩
    rw [decide_eq_false fun h => e2 (by have := h.1.2; rwa [Int.toNat_natCast] at this)]
  have hw1 : IntKind.i64.wrap ((es.length : Int) - 1) = (es.length : Int) - 1 := wrap64 (by omega) (by omega)
  simp (maxSteps := 1000000) (disch := omega) only [decide_eq_true e2, cell_of cC, ((rA.pre pB).pre pC).len Try.underlying24, hw1, S, S1, S2, S3, S4, S5, ST, eq_self, reduceIte, reduceCtorEq, Nat.reduceEqDiff, Nat.reduceAdd]
  refine CallH.by (l1In_c e 0 ((es.length : Int) - 1) C) ?_
  rintro _ _ ⟨rfl, rfl⟩
  simp (maxSteps := 1000000) (disch := omega) only [S, S1, S2, S3, S4, S5, ST, eq_self, reduceIte, reduceCtorEq, Nat.reduceEqDiff, Nat.reduceAdd]
  refine hQ _ _ _ ?_
  simp (maxSteps := 1000000) (disch := omega) only [S, S1, S2, S3, S4, S5, ST, eq_self, reduceIte, reduceCtorEq, Nat.reduceEqDiff, Nat.reduceAdd]
  refine ⟨?_, pHC⟩
  rw [Value.bool.injEq, decide_eq_decide]
  exact ⟨fun h => ⟨⟨e1, by rw [Int.toNat_natCast]; exact e2⟩, by omega⟩, fun h => by have := h.2; omega⟩
abbrev CiOk (n : Int) (es : List (Int × Int)) (T : List Int) (e : Int) : Prop := CtOk n es T e ∧ e ∉ T
abbrev CuOk (n : Int) (es : List (Int × Int)) (T : List Int) (e : Int) : Prop := CtOk n es T e ∧ e ∈ T
noncomputable def ciR (n : Int) (es : List (Int × Int)) (T : List Int) (e : Int) : List Int := if CiOk n es T e then crcL n.toNat es T e else []
noncomputable def cuR (n : Int) (es : List (Int × Int)) (T : List Int) (e : Int) : List Int := if CuOk n es T e then cutL n.toNat es T e else []
set_option maxHeartbeats 2000000 in
theorem CiI_c (n : Int) (v w : Value) (es : List (Int × Int)) (T : List Int) (e : Int) (H : AH) (hr : RowP 71 H v es) (hl : es.length ≤ 1099511627776) (hw : Row 3 H w T) (hlen : T.length ≤ 1099511627776) :
    ACalls Try.prog 9 [.agg (List.toArray [.int .i64 n, v]), w, .int .i64 e] H fun r H' => ∃ g, r = .tuple (List.toArray [g, .bool (decide (CiOk n es T e))]) ∧ Mine 3 H H' g (ciR n es T e) ∧ H <+: H' := by
  refine in9 rfl ?_
  intro Q hQ
  simp (maxSteps := 1000000) (disch := omega) only [cd9, hr.boxG, S, S1, S2, S3, S4, S5, ST, eq_self, reduceIte, reduceCtorEq, Nat.reduceEqDiff, Nat.reduceAdd]
  generalize hA : H ++ [AObj.cells [.int .i64 n, v] 26 false] = A
  have pA : H <+: A := by rw [← hA]; exact List.prefix_append _ _
  have cA : A[H.length]? = some (.cells [.int .i64 n, v] 26 false) := by rw [← hA]; exact at_new ..
  have rA := hr.pre pA
  have wA := hw.pre pA
  simp (maxSteps := 1000000) (disch := omega) only [ld_agg ag26 cs26 cA, S, S1, S2, S3, S4, S5, ST, eq_self, reduceIte, reduceCtorEq, Nat.reduceEqDiff, Nat.reduceAdd]
  refine CallH.by (isTreeCase_c n v w es T e A rA hl wA hlen) ?_
  rintro _ B ⟨rfl, pB⟩
  have cB := pre_at pB cA
  by_cases e1 : CtOk n es T e
  rotate_left
  · simp (maxSteps := 1000000) (disch := omega) only [decide_eq_false e1, S, S1, S2, S3, S4, S5, ST, eq_self, reduceIte, reduceCtorEq, Nat.reduceEqDiff, Nat.reduceAdd]
    refine hQ _ _ _ ?_
    simp (maxSteps := 1000000) (disch := omega) only [S, S1, S2, S3, S4, S5, ST, eq_self, reduceIte, reduceCtorEq, Nat.reduceEqDiff, Nat.reduceAdd]
    have e2 : ¬ CiOk n es T e := fun h => e1 h.1
    exact ⟨_, by rw [decide_eq_false e2], by rw [ciR, if_neg e2]; exact .inl ⟨rfl, rfl⟩, pA.trans pB⟩
  have wB := wA.pre pB
  simp (maxSteps := 1000000) (disch := omega) only [decide_eq_true e1, S, S1, S2, S3, S4, S5, ST, eq_self, reduceIte, reduceCtorEq, Nat.reduceEqDiff, Nat.reduceAdd]
  refine CallH.by (Contains_c w T e B wB hlen) ?_
  rintro _ _ ⟨rfl, rfl⟩
  by_cases e2 : e ∈ T
  · simp (maxSteps := 1000000) (disch := omega) only [decide_eq_true e2, S, S1, S2, S3, S4, S5, ST, eq_self, reduceIte, reduceCtorEq, Nat.reduceEqDiff, Nat.reduceAdd]
    refine hQ _ _ _ ?_
    simp (maxSteps := 1000000) (disch := omega) only [S, S1, S2, S3, S4, S5, ST, eq_self, reduceIte, reduceCtorEq, Nat.reduceEqDiff, Nat.reduceAdd]
    have e3 : ¬ CiOk n es T e := fun h => h.2 e2
    exact ⟨_, by rw [decide_eq_false e3], by rw [ciR, if_neg e3]; exact .inl ⟨rfl, rfl⟩, pA.trans pB⟩
  have e3 : CiOk n es T e := ⟨e1, e2⟩
  obtain ⟨N, rfl⟩ : ∃ N : Nat, n = N := ⟨n.toNat, by have := e1.1.1.2; omega⟩
  simp (maxSteps := 1000000) (disch := omega) only [decide_eq_false e2, ld_agg ag26 cs26 cB, S, S1, S2, S3, S4, S5, ST, eq_self, reduceIte, reduceCtorEq, Nat.reduceEqDiff, Nat.reduceAdd]
  refine CallH.by (circle_c N (by have := e1.1.1.2; omega) v w es T e B (rA.pre pB) e1.1.1.1 wB (by have := e1.1.2; rwa [Int.toNat_natCast] at this) e1.2 e2) ?_
  rintro g C ⟨hC, pC⟩
  simp (maxSteps := 1000000) (disch := omega) only [S, S1, S2, S3, S4, S5, ST, eq_self, reduceIte, reduceCtorEq, Nat.reduceEqDiff, Nat.reduceAdd]
  refine hQ _ _ _ ?_
  simp (maxSteps := 1000000) (disch := omega) only [hC.row.tup, S, S1, S2, S3, S4, S5, ST, eq_self, reduceIte, reduceCtorEq, Nat.reduceEqDiff, Nat.reduceAdd]
  exact ⟨_, by rw [decide_eq_true e3], by rw [ciR, if_pos e3, Int.toNat_natCast]; exact hC.base (pA.trans pB), pA.trans (pB.trans pC)⟩
set_option maxHeartbeats 2000000 in
theorem CiS_c (n : Int) (v w : Value) (es : List (Int × Int)) (T : List Int) (e : Int) (H : AH) (hr : RowP 71 H v es) (hl : es.length ≤ 1099511627776) (hw : Row 3 H w T) (hlen : T.length ≤ 1099511627776) :
    ACalls Try.prog 10 [.agg (List.toArray [.int .i64 n, v]), w, .int .i64 e] H fun r H' => ∃ g, r = .tuple (List.toArray [g, .bool (decide (CiOk n es T e))]) ∧ Mine 3 H H' g (ciR n es T e) ∧ H <+: H' := by
  refine in10 rfl ?_
  intro Q hQ
  simp (maxSteps := 1000000) (disch := omega) only [cd10, hr.boxG, S, S1, S2, S3, S4, S5, ST, eq_self, reduceIte, reduceCtorEq, Nat.reduceEqDiff, Nat.reduceAdd]
  generalize hA : H ++ [AObj.cells [.int .i64 n, v] 26 false] = A
  have pA : H <+: A := by rw [← hA]; exact List.prefix_append _ _
  have cA : A[H.length]? = some (.cells [.int .i64 n, v] 26 false) := by rw [← hA]; exact at_new ..
  have rA := hr.pre pA
  have wA := hw.pre pA
  simp (maxSteps := 1000000) (disch := omega) only [ld_agg ag26 cs26 cA, S, S1, S2, S3, S4, S5, ST, eq_self, reduceIte, reduceCtorEq, Nat.reduceEqDiff, Nat.reduceAdd]
  refine CallH.by (l7Two_c n v w es T e A rA hl wA hlen) ?_
  rintro _ B ⟨rfl, pB⟩
  have cB := pre_at pB cA
  have no : ¬ CiOk n es T e → ∃ g, (Value.tuple (List.toArray [.slice (some ⟨B.length, 0, none⟩) 0 0, .bool false])) = .tuple (List.toArray [g, .bool (decide (CiOk n es T e))]) ∧ Mine 3 H (B ++ [AObj.cells [] 3 false]) g (ciR n es T e) ∧ H <+: B ++ [AObj.cells [] 3 false] := fun h => by
    refine ⟨_, by rw [decide_eq_false h], ?_, pre_app (pA.trans pB) _⟩
    rw [ciR, if_neg h]
    exact .inr ⟨B.length, [], rfl, (pA.trans pB).length_le, at_new .., rfl⟩
  by_cases e1 : CtOk n es T e
  rotate_left
  · simp (maxSteps := 1000000) (disch := omega) only [decide_eq_false e1, S, S1, S2, S3, S4, S5, ST, eq_self, reduceIte, reduceCtorEq, Nat.reduceEqDiff, Nat.reduceAdd]
    refine hQ _ _ _ ?_
    simp (maxSteps := 1000000) (disch := omega) only [S, S1, S2, S3, S4, S5, ST, eq_self, reduceIte, reduceCtorEq, Nat.reduceEqDiff, Nat.reduceAdd]
    exact no fun h => e1 h.1
  have wB := wA.pre pB
  simp (maxSteps := 1000000) (disch := omega) only [decide_eq_true e1, S, S1, S2, S3, S4, S5, ST, eq_self, reduceIte, reduceCtorEq, Nat.reduceEqDiff, Nat.reduceAdd]
  refine CallH.by (l1Has_c w T e B wB hlen) ?_
  rintro _ _ ⟨rfl, rfl⟩
  by_cases e2 : e ∈ T
  · simp (maxSteps := 1000000) (disch := omega) only [decide_eq_true e2, S, S1, S2, S3, S4, S5, ST, eq_self, reduceIte, reduceCtorEq, Nat.reduceEqDiff, Nat.reduceAdd]
    refine hQ _ _ _ ?_
    simp (maxSteps := 1000000) (disch := omega) only [S, S1, S2, S3, S4, S5, ST, eq_self, reduceIte, reduceCtorEq, Nat.reduceEqDiff, Nat.reduceAdd]
    exact no fun h => h.2 e2
  have e3 : CiOk n es T e := ⟨e1, e2⟩
  obtain ⟨N, rfl⟩ : ∃ N : Nat, n = N := ⟨n.toNat, by have := e1.1.1.2; omega⟩
  simp (maxSteps := 1000000) (disch := omega) only [decide_eq_false e2, ld_agg ag26 cs26 cB, S, S1, S2, S3, S4, S5, ST, eq_self, reduceIte, reduceCtorEq, Nat.reduceEqDiff, Nat.reduceAdd]
  refine CallH.by (l7Round_c N v w es T e B (rA.pre pB) e1.1.1.1 wB (by have := e1.1.2; rwa [Int.toNat_natCast] at this) e1.2 e2) ?_
  rintro g C ⟨hC, pC⟩
  simp (maxSteps := 1000000) (disch := omega) only [S, S1, S2, S3, S4, S5, ST, eq_self, reduceIte, reduceCtorEq, Nat.reduceEqDiff, Nat.reduceAdd]
  refine hQ _ _ _ ?_
  simp (maxSteps := 1000000) (disch := omega) only [hC.row.tup, S, S1, S2, S3, S4, S5, ST, eq_self, reduceIte, reduceCtorEq, Nat.reduceEqDiff, Nat.reduceAdd]
  exact ⟨_, by rw [decide_eq_true e3], by rw [ciR, if_pos e3, Int.toNat_natCast]; exact hC.mine.base (pA.trans pB), pA.trans (pB.trans pC)⟩
set_option maxHeartbeats 2000000 in
theorem CuS_c (n : Int) (v w : Value) (es : List (Int × Int)) (T : List Int) (e : Int) (H : AH) (hr : RowP 71 H v es) (hl : es.length ≤ 1099511627776) (hw : Row 3 H w T) (hlen : T.length ≤ 1099511627776) :
    ACalls Try.prog 12 [.agg (List.toArray [.int .i64 n, v]), w, .int .i64 e] H fun r H' => ∃ g, r = .tuple (List.toArray [g, .bool (decide (CuOk n es T e))]) ∧ Mine 3 H H' g (cuR n es T e) ∧ H <+: H' := by
  refine in12 rfl ?_
  intro Q hQ
  simp (maxSteps := 1000000) (disch := omega) only [cd12, hr.boxG, S, S1, S2, S3, S4, S5, ST, eq_self, reduceIte, reduceCtorEq, Nat.reduceEqDiff, Nat.reduceAdd]
  generalize hA : H ++ [AObj.cells [.int .i64 n, v] 26 false] = A
  have pA : H <+: A := by rw [← hA]; exact List.prefix_append _ _
  have cA : A[H.length]? = some (.cells [.int .i64 n, v] 26 false) := by rw [← hA]; exact at_new ..
  have rA := hr.pre pA
  have wA := hw.pre pA
  simp (maxSteps := 1000000) (disch := omega) only [ld_agg ag26 cs26 cA, S, S1, S2, S3, S4, S5, ST, eq_self, reduceIte, reduceCtorEq, Nat.reduceEqDiff, Nat.reduceAdd]
  refine CallH.by (l7Two_c n v w es T e A rA hl wA hlen) ?_
  rintro _ B ⟨rfl, pB⟩
  have cB := pre_at pB cA
  have no : ¬ CuOk n es T e → ∃ g, (Value.tuple (List.toArray [.slice (some ⟨B.length, 0, none⟩) 0 0, .bool false])) = .tuple (List.toArray [g, .bool (decide (CuOk n es T e))]) ∧ Mine 3 H (B ++ [AObj.cells [] 3 false]) g (cuR n es T e) ∧ H <+: B ++ [AObj.cells [] 3 false] := fun h => by
    refine ⟨_, by rw [decide_eq_false h], ?_, pre_app (pA.trans pB) _⟩
    rw [cuR, if_neg h]
    exact .inr ⟨B.length, [], rfl, (pA.trans pB).length_le, at_new .., rfl⟩
  by_cases e1 : CtOk n es T e
  rotate_left
  · simp (maxSteps := 1000000) (disch := omega) only [decide_eq_false e1, S, S1, S2, S3, S4, S5, ST, eq_self, reduceIte, reduceCtorEq, Nat.reduceEqDiff, Nat.reduceAdd]
    refine hQ _ _ _ ?_
    simp (maxSteps := 1000000) (disch := omega) only [S, S1, S2, S3, S4, S5, ST, eq_self, reduceIte, reduceCtorEq, Nat.reduceEqDiff, Nat.reduceAdd]
    exact no fun h => e1 h.1
  have wB := wA.pre pB
  simp (maxSteps := 1000000) (disch := omega) only [decide_eq_true e1, S, S1, S2, S3, S4, S5, ST, eq_self, reduceIte, reduceCtorEq, Nat.reduceEqDiff, Nat.reduceAdd]
  refine CallH.by (l1Has_c w T e B wB hlen) ?_
  rintro _ _ ⟨rfl, rfl⟩
  by_cases e2 : e ∈ T
  rotate_left
  · simp (maxSteps := 1000000) (disch := omega) only [decide_eq_false e2, S, S1, S2, S3, S4, S5, ST, eq_self, reduceIte, reduceCtorEq, Nat.reduceEqDiff, Nat.reduceAdd]
    refine hQ _ _ _ ?_
    simp (maxSteps := 1000000) (disch := omega) only [S, S1, S2, S3, S4, S5, ST, eq_self, reduceIte, reduceCtorEq, Nat.reduceEqDiff, Nat.reduceAdd]
    exact no fun h => e2 h.2
  have e3 : CuOk n es T e := ⟨e1, e2⟩
  obtain ⟨N, rfl⟩ : ∃ N : Nat, n = N := ⟨n.toNat, by have := e1.1.1.2; omega⟩
  simp (maxSteps := 1000000) (disch := omega) only [decide_eq_true e2, ld_agg ag26 cs26 cB, S, S1, S2, S3, S4, S5, ST, eq_self, reduceIte, reduceCtorEq, Nat.reduceEqDiff, Nat.reduceAdd]
  refine CallH.by (l7Cut_c N v w es T e B (rA.pre pB) e1.1.1.1 wB (by have := e1.1.2; rwa [Int.toNat_natCast] at this) e2) ?_
  rintro g C ⟨hC, pC⟩
  simp (maxSteps := 1000000) (disch := omega) only [S, S1, S2, S3, S4, S5, ST, eq_self, reduceIte, reduceCtorEq, Nat.reduceEqDiff, Nat.reduceAdd]
  refine hQ _ _ _ ?_
  simp (maxSteps := 1000000) (disch := omega) only [hC.row.tup, S, S1, S2, S3, S4, S5, ST, eq_self, reduceIte, reduceCtorEq, Nat.reduceEqDiff, Nat.reduceAdd]
  exact ⟨_, by rw [decide_eq_true e3], by rw [cuR, if_pos e3, Int.toNat_natCast]; exact hC.mine.base (pA.trans pB), pA.trans (pB.trans pC)⟩
theorem cutL_succ (n : Nat) (es : List (Int × Int)) (T : List Int) (e : Int) (k : Nat) : ((alls (k + 1)).filter fun f => !jnB es n (wo1 T e) (enA es f) (enB es f)) = ((alls k).filter fun f => !jnB es n (wo1 T e) (enA es f) (enB es f)) ++ if jnB es n (wo1 T e) (enA es (k : Int)) (enB es (k : Int)) = true then [] else [(k : Int)] := by
  rw [alls_succ, List.filter_append]
  congr 1
  cases h : jnB es n (wo1 T e) (enA es (k : Int)) (enB es (k : Int)) <;> simp [h]
set_option maxRecDepth 20000 in
set_option maxHeartbeats 8000000 in
theorem CuI_c (n : Int) (v w : Value) (es : List (Int × Int)) (T : List Int) (e : Int) (H : AH) (hr : RowP 71 H v es) (hl : es.length ≤ 1099511627776) (hw : Row 3 H w T) (hlen : T.length ≤ 1099511627776) :
    ACalls Try.prog 11 [.agg (List.toArray [.int .i64 n, v]), w, .int .i64 e] H fun r H' => ∃ g, r = .tuple (List.toArray [g, .bool (decide (CuOk n es T e))]) ∧ Mine 3 H H' g (cuR n es T e) ∧ H <+: H' := by
  refine in11 rfl ?_
  intro Q hQ
  simp (maxSteps := 1000000) (disch := omega) only [cd11, hr.boxG, S, S1, S2, S3, S4, S5, ST, eq_self, reduceIte, reduceCtorEq, Nat.reduceEqDiff, Nat.reduceAdd]
  generalize hA : H ++ [AObj.cells [.int .i64 n, v] 26 false] = A
  have pA : H <+: A := by rw [← hA]; exact List.prefix_append _ _
  have cA : A[H.length]? = some (.cells [.int .i64 n, v] 26 false) := by rw [← hA]; exact at_new ..
  have rA := hr.pre pA
  have wA := hw.pre pA
  simp (maxSteps := 1000000) (disch := omega) only [ld_agg ag26 cs26 cA, S, S1, S2, S3, S4, S5, ST, eq_self, reduceIte, reduceCtorEq, Nat.reduceEqDiff, Nat.reduceAdd]
  refine CallH.by (isTreeCase_c n v w es T e A rA hl wA hlen) ?_
  rintro _ B ⟨rfl, pB⟩
  have cB := pre_at pB cA
  by_cases e1 : CtOk n es T e
  rotate_left
  · simp (maxSteps := 1000000) (disch := omega) only [decide_eq_false e1, S, S1, S2, S3, S4, S5, ST, eq_self, reduceIte, reduceCtorEq, Nat.reduceEqDiff, Nat.reduceAdd]
    refine hQ _ _ _ ?_
    simp (maxSteps := 1000000) (disch := omega) only [S, S1, S2, S3, S4, S5, ST, eq_self, reduceIte, reduceCtorEq, Nat.reduceEqDiff, Nat.reduceAdd]
    have e2 : ¬ CuOk n es T e := fun h => e1 h.1
    exact ⟨_, by rw [decide_eq_false e2], by rw [cuR, if_neg e2]; exact .inl ⟨rfl, rfl⟩, pA.trans pB⟩
  have wB := wA.pre pB
  simp (maxSteps := 1000000) (disch := omega) only [decide_eq_true e1, S, S1, S2, S3, S4, S5, ST, eq_self, reduceIte, reduceCtorEq, Nat.reduceEqDiff, Nat.reduceAdd]
  refine CallH.by (Contains_c w T e B wB hlen) ?_
  rintro _ _ ⟨rfl, rfl⟩
  by_cases e2 : e ∈ T
  rotate_left
  · simp (maxSteps := 1000000) (disch := omega) only [decide_eq_false e2, S, S1, S2, S3, S4, S5, ST, eq_self, reduceIte, reduceCtorEq, Nat.reduceEqDiff, Nat.reduceAdd]
    refine hQ _ _ _ ?_
    simp (maxSteps := 1000000) (disch := omega) only [S, S1, S2, S3, S4, S5, ST, eq_self, reduceIte, reduceCtorEq, Nat.reduceEqDiff, Nat.reduceAdd]
    have e3 : ¬ CuOk n es T e := fun h => e2 h.2
    exact ⟨_, by rw [decide_eq_false e3], by rw [cuR, if_neg e3]; exact .inl ⟨rfl, rfl⟩, pA.trans pB⟩
  have e3 : CuOk n es T e := ⟨e1, e2⟩
  obtain ⟨N, rfl⟩ : ∃ N : Nat, n = N := ⟨n.toNat, by have := e1.1.1.2; omega⟩
  have hg := e1.1.1.1
  have hn1 := e1.1.1.2
  have hT : TreL N es T := by have := e1.1.2; rwa [Int.toNat_natCast] at this
  have h28 : es.length ≤ 28 := grd_len hg
  have hn8 : N ≤ 8 := by have := hg.1; omega
  have htl := hT.1
  have rB := rA.pre pB
  simp (maxSteps := 1000000) (disch := omega) only [decide_eq_true e2, cell_of cB, S, S1, S2, S3, S4, S5, ST, eq_self, reduceIte, reduceCtorEq, Nat.reduceEqDiff, Nat.reduceAdd]
  refine CallH.by (newJoiner_c N B (by omega)) ?_
  rintro w1 C ⟨hC, pC⟩
  obtain ⟨o, rfl, ho1, ho2⟩ := own_sl hC (by rw [alls_len]; omega)
  rw [alls_len]
  have wC := wB.pre pC
  simp (maxSteps := 1000000) (disch := omega) only [wC.len Try.underlying27, S, S1, S2, S3, S4, S5, ST, eq_self, reduceIte, reduceCtorEq, Nat.reduceEqDiff, Nat.reduceAdd]
  refine LoopH.by (fun m' s' G => ∃ (j : Nat) (J : List Int), m' + j = T.length ∧ s' 2 = .int .i64 e ∧ s' 3 = .pointer (some ⟨H.length, 0, none⟩) ∧ s' 8 = .slice (some ⟨o, 0, none⟩) N N ∧ s' 28 = w ∧ s' 29 = .int .i64 (T.length : Int) ∧ s' 30 = .int .i64 ((j : Nat) : Int) ∧ G[o]? = some (.cells (ints J) 3 false) ∧ JR es (wo1 (T.take j) e) N J ∧ Keeps o C G) T.length ?_ ?_
  · refine ⟨0, alls N, by simp, ?_⟩
    simp (maxSteps := 1000000) (disch := omega) only [S, S1, S2, S3, S4, S5, ST, eq_self, reduceIte, reduceCtorEq, Nat.reduceEqDiff, Nat.reduceAdd]
    have f1 : JR es (wo1 (T.take 0) e) N (alls N) := by rw [List.take_zero]; exact JR.zero es N
    have f2 : Keeps o C C := .of_pre (List.prefix_refl _)
    (repeat' first | exact ho2 | exact f1 | exact f2 | apply And.intro) <;> first | (simp only [Value.int.injEq, true_and]; omega) | omega | rfl | assumption | (simp; done) | (simp; omega)
  rintro m' s' G ⟨j, J, hm', g2, g3, g8, g28, g29, g30, hJ, hjr, kG⟩
  have pBG : B <+: G := keepsA kG pC ho1
  have wG := wB.pre pBG
  have rG := rB.pre pBG
  have cG := pre_at pBG cB
  simp (maxSteps := 1000000) (disch := omega) only [g2, g3, g8, g28, g29, g30, S, S1, S2, S3, S4, S5, ST, eq_self, reduceIte, reduceCtorEq, Nat.reduceEqDiff, Nat.reduceAdd]
  refine brD.intro (fun q => ?_) (fun q => ?_)
  · have hj : j < T.length := by omega
    have hcj := wG.cell hj
    have hmj : T.getD j 0 ∈ T := by simp [hj]
    have htj : T.take (j + 1) = T.take j ++ [T.getD j 0] := by rw [List.take_succ_eq_append_getElem hj]; simp [hj]
    obtain ⟨x, hx⟩ : ∃ x, x = T.getD j 0 := ⟨_, rfl⟩
    rw [← hx] at hcj hmj htj
    have hxr := hT.2.2.1 x hmj
    have hxe := en_eq hg hxr
    have hx2 : x.toNat < es.length := by omega
    have hst := wo1_snoc (T.take j) e x
    rw [← htj] at hst
    simp (maxSteps := 1000000) (disch := omega) only [g2, g3, g8, g28, g29, g30, wG.ix Try.underlying27 cs3, Int.toNat_natCast, hcj, S, S1, S2, S3, S4, S5, ST, eq_self, reduceIte, reduceCtorEq, Nat.reduceEqDiff, Nat.reduceAdd]
    refine brD.intro (fun z => ?_) (fun z => ?_)
    · rw [if_pos z] at hst
      simp (maxSteps := 1000000) (disch := omega) only [g2, g3, g8, g28, g29, g30, cell_of cG, rG.ix Try.underlying24 cs71, rG.ld ag71 cs71 hx2, S, S1, S2, S3, S4, S5, ST, eq_self, reduceIte, reduceCtorEq, Nat.reduceEqDiff, Nat.reduceAdd]
      refine CallH.by (join_c hjr o G hJ x (by omega) (by omega) (congrArg Prod.fst hxe.1) (congrArg Prod.snd hxe.1)) ?_
      rintro _ G2 ⟨b, J', rfl, _, hJ', hjr', k2⟩
      rw [← hst] at hjr'
      have f1 := kG.trans k2
      simp (maxSteps := 1000000) (disch := omega) only [g2, g3, g8, g28, g29, g30, wrap64, S, S1, S2, S3, S4, S5, ST, eq_self, reduceIte, reduceCtorEq, Nat.reduceEqDiff, Nat.reduceAdd]
      refine ⟨m' - 1, by omega, j + 1, J', ?_⟩
      (repeat' first | exact hJ' | exact hjr' | exact f1 | apply And.intro) <;> first | (simp only [Value.int.injEq, true_and]; omega) | omega | rfl | assumption | (simp; done) | (simp; omega)
    · rw [if_neg z] at hst
      rw [← hst] at hjr
      simp (maxSteps := 1000000) (disch := omega) only [g2, g3, g8, g28, g29, g30, wrap64, S, S1, S2, S3, S4, S5, ST, eq_self, reduceIte, reduceCtorEq, Nat.reduceEqDiff, Nat.reduceAdd]
      refine ⟨m' - 1, by omega, j + 1, J, ?_⟩
      (repeat' first | exact hJ | exact hjr | exact kG | apply And.intro) <;> first | (simp only [Value.int.injEq, true_and]; omega) | omega | rfl | assumption | (simp; done) | (simp; omega)
  have hj : j = T.length := by omega
  subst hj
  rw [List.take_length] at hjr
  obtain ⟨rt, dd, hs, hrt⟩ := hjr
  have jl := hs.len
  have jrow : Row 3 G (.slice (some ⟨o, 0, none⟩) N N) J := by
    have := (show Own 3 [] G (.slice (some ⟨o, 0, none⟩) J.length J.length) J from .inr ⟨o, rfl, Nat.zero_le _, hJ⟩).row
    rwa [jl] at this
  simp (maxSteps := 1000000) (disch := omega) only [g2, g3, g8, S, S1, S2, S3, S4, S5, ST, eq_self, reduceIte, reduceCtorEq, Nat.reduceEqDiff, Nat.reduceAdd]
  generalize hD : G ++ [AObj.cells [] 3 false] = D
  have pD : G <+: D := by rw [← hD]; exact List.prefix_append _ _
  have own0 : Own 3 G D (.slice (some ⟨G.length, 0, none⟩) 0 0) [] := .inr ⟨G.length, rfl, Nat.le_refl _, by rw [← hD]; exact at_new ..⟩
  have cD := pre_at pD cG
  simp (maxSteps := 1000000) (disch := omega) only [g2, g3, g8, cell_of cD, (rG.pre pD).len Try.underlying24, S, S1, S2, S3, S4, S5, ST, eq_self, reduceIte, reduceCtorEq, Nat.reduceEqDiff, Nat.reduceAdd]
  refine LoopH.by (fun m s K => ∃ i : Nat, m + i = es.length ∧ s 8 = .slice (some ⟨o, 0, none⟩) N N ∧ s 47 = v ∧ s 48 = .int .i64 (es.length : Int) ∧ s 49 = .int .i64 ((i : Nat) : Int) ∧ Own 3 G K (s 11) ((alls i).filter fun f => !jnB es N (wo1 T e) (enA es f) (enB es f)) ∧ G <+: K) es.length ?_ ?_
  · refine ⟨0, by simp, ?_⟩
    simp (maxSteps := 1000000) (disch := omega) only [g2, g3, g8, S, S1, S2, S3, S4, S5, ST, eq_self, reduceIte, reduceCtorEq, Nat.reduceEqDiff, Nat.reduceAdd]
    have f1 : Own 3 G D (.slice (some ⟨G.length, 0, none⟩) 0 0) ((alls 0).filter fun f => !jnB es N (wo1 T e) (enA es f) (enB es f)) := own0
    (repeat' first | exact f1 | exact pD | apply And.intro) <;> first | (simp only [Value.int.injEq, true_and]; omega) | omega | rfl | assumption | (simp; done) | (simp; omega)
  rintro m s K ⟨i, hm, s8, s47, s48, s49, hO, pK⟩
  generalize hU : s 11 = U at *
  have rK := rG.pre pK
  simp (maxSteps := 1000000) (disch := omega) only [s8, s47, s48, s49, hU, S, S1, S2, S3, S4, S5, ST, eq_self, reduceIte, reduceCtorEq, Nat.reduceEqDiff, Nat.reduceAdd]
  refine brD.intro (fun q => ?_) (fun q => ?_)
  rotate_left
  · have : i = es.length := by omega
    subst this
    simp (maxSteps := 1000000) (disch := omega) only [hU, S, S1, S2, S3, S4, S5, ST, eq_self, reduceIte, reduceCtorEq, Nat.reduceEqDiff, Nat.reduceAdd]
    refine hQ _ _ _ ?_
    simp (maxSteps := 1000000) (disch := omega) only [hU, hO.row.tup, S, S1, S2, S3, S4, S5, ST, eq_self, reduceIte, reduceCtorEq, Nat.reduceEqDiff, Nat.reduceAdd]
    have pHG := pA.trans (pB.trans pBG)
    exact ⟨_, by rw [decide_eq_true e3], by rw [cuR, if_pos e3, Int.toNat_natCast]; exact hO.mine.base pHG, pHG.trans pK⟩
  have hi : i < es.length := by omega
  have hir : (0 : Int) ≤ ((i : Nat) : Int) ∧ ((i : Nat) : Int) < es.length := by omega
  have hie := en_eq hg hir
  rw [Int.toNat_natCast] at hie
  simp (maxSteps := 1000000) (disch := omega) only [s8, s47, s48, s49, hU, rK.ix Try.underlying24 cs71, Int.toNat_natCast, rK.ld ag71 cs71 hi, S, S1, S2, S3, S4, S5, ST, eq_self, reduceIte, reduceCtorEq, Nat.reduceEqDiff, Nat.reduceAdd]
  rw [hie.1]
  have st := store_a2 K [.int .i64 0, .int .i64 0] rfl (.int .i64 (enA es (i : Int) : Int)) (.int .i64 (enB es (i : Int) : Int))
  simp (maxSteps := 1000000) (disch := omega) only [alloc_a2, st, S, S1, S2, S3, S4, S5, ST, eq_self, reduceIte, reduceCtorEq, Nat.reduceEqDiff, Nat.reduceAdd]
  generalize hL : K ++ [AObj.cells [.int .i64 (enA es (i : Int) : Int), .int .i64 (enB es (i : Int) : Int)] 71 false] = L
  have pL : K <+: L := by rw [← hL]; exact List.prefix_append _ _
  have cL : L[K.length]? = some (.cells [.int .i64 (enA es (i : Int) : Int), .int .i64 (enB es (i : Int) : Int)] 71 false) := by rw [← hL]; exact at_new ..
  have jL := jrow.pre (pK.trans pL)
  simp (maxSteps := 1000000) (disch := omega) only [s8, cell_of cL, S, S1, S2, S3, S4, S5, ST, eq_self, reduceIte, reduceCtorEq, Nat.reduceEqDiff, Nat.reduceAdd]
  refine CallH.by (root_c hs _ L jL (enA es (i : Int)) (by omega)) ?_
  rintro _ _ ⟨rfl, rfl⟩
  simp (maxSteps := 1000000) (disch := omega) only [s8, cell_of cL, S, S1, S2, S3, S4, S5, ST, eq_self, reduceIte, reduceCtorEq, Nat.reduceEqDiff, Nat.reduceAdd]
  refine CallH.by (root_c hs _ L jL (enB es (i : Int)) (by omega)) ?_
  rintro _ _ ⟨rfl, rfl⟩
  have hjn := hrt (enA es (i : Int)) (enB es (i : Int)) (by omega) (by omega)
  have hjb := jnB_iff hg (wo1_in hT.2.2.1 e) (i := enA es (i : Int)) (j := enB es (i : Int)) (by omega) (by omega)
  have hsc := cutL_succ N es T e i
  have hcl : ((alls i).filter fun f => !jnB es N (wo1 T e) (enA es f) (enB es f)).length ≤ i := Nat.le_trans (List.length_filter_le _ _) (by rw [alls_len]; exact Nat.le_refl _)
  have hOL := hO.pre pL
  have pGL := pK.trans pL
  simp (maxSteps := 1000000) (disch := omega) only [S, S1, S2, S3, S4, S5, ST, eq_self, reduceIte, reduceCtorEq, Nat.reduceEqDiff, Nat.reduceAdd]
  refine brD.intro (fun z => ?_) (fun z => ?_)
  · rw [if_neg (fun h => z (by have := hjn.1 (hjb.1 h); omega))] at hsc
    obtain ⟨w2, M, a1, a2, a3, a4, a5, a6⟩ := own1_27 hOL pGL (by omega) (i : Int)
    rw [← hsc] at a2
    simp (maxSteps := 1000000) (disch := omega) only [s8, s47, s48, s49, hU, a1, wrap64, S, S1, S2, S3, S4, S5, ST, eq_self, reduceIte, reduceCtorEq, Nat.reduceEqDiff, Nat.reduceAdd]
    refine ⟨m - 1, by omega, i + 1, ?_⟩
    (repeat' first | exact a2 | exact a3 | apply And.intro) <;> first | (simp only [Value.int.injEq, true_and]; omega) | omega | rfl | assumption | (simp; done) | (simp; omega)
  · rw [if_pos (hjb.2 (hjn.2 (by omega))), List.append_nil] at hsc
    rw [← hsc] at hOL
    simp (maxSteps := 1000000) (disch := omega) only [s8, s47, s48, s49, hU, wrap64, S, S1, S2, S3, S4, S5, ST, eq_self, reduceIte, reduceCtorEq, Nat.reduceEqDiff, Nat.reduceAdd]
    refine ⟨m - 1, by omega, i + 1, ?_⟩
    (repeat' first | exact hOL | exact pGL | apply And.intro) <;> first | (simp only [Value.int.injEq, true_and]; omega) | omega | rfl | assumption | (simp; done) | (simp; omega)
end Go.Proofs.Ytldcbmmmheookaa.Ai
namespace Go.Proofs.Ytldcbmmmheookaa.Ai
open Go
set_option linter.unusedVariables false
/-- a tree with an edge for another one -/
def nxL (m : Nat) (T : List Int) (x f : Int) : List Int := (alls m).filter fun e => decide (e = f ∨ (e ≠ x ∧ e ∈ T))
theorem nxL_succ (m : Nat) (T : List Int) (x f : Int) : nxL (m + 1) T x f = nxL m T x f ++ if (m : Int) = f ∨ ((m : Int) ≠ x ∧ (m : Int) ∈ T) then [(m : Int)] else [] := by
  unfold nxL
  rw [alls_succ, List.filter_append]
  congr 1
  rw [List.filter_cons, List.filter_nil]
  by_cases h : (m : Int) = f ∨ ((m : Int) ≠ x ∧ (m : Int) ∈ T)
  · rw [if_pos (decide_eq_true h), if_pos h]
  · rw [if_neg (by rw [decide_eq_false h]; decide), if_neg h]
theorem nxL_len (m : Nat) (T : List Int) (x f : Int) : (nxL m T x f).length ≤ m := by
  have := List.length_filter_le (fun e : Int => decide (e = f ∨ (e ≠ x ∧ e ∈ T))) (alls m)
  rw [alls_len] at this
  exact this
theorem nx_tree {n : Nat} {es : List (Int × Int)} (hg : Grd (n : Int) es) {T : List Int} (hT : TreL n es T) {f : Int} (hf : 0 ≤ f ∧ f < es.length) (hfT : f ∉ T) {x : Int} (hx : x ∈ T) : TreL n es (nxL es.length T x f) ↔ x ∈ cirL n es T f := by
  have tT := hT.tree hg
  have hfe := en_eq hg hf
  have hs : (nxL es.length T x f).Pairwise (· < ·) := (alls_srt _).sublist List.filter_sublist
  have hm : ∀ y, y ∈ nxL es.length T x f ↔ y = f ∨ (y ∈ T ∧ y ≠ x) := fun y => by
    unfold nxL
    rw [List.mem_filter, alls_mem, decide_eq_true_eq]
    constructor
    · rintro ⟨_, h | h⟩
      · exact .inl h
      · exact .inr ⟨h.2, h.1⟩
    · rintro (h | h)
      · rw [h]; exact ⟨hf, .inl rfl⟩
      · exact ⟨hT.2.2.1 y h.1, .inr ⟨h.2, h.1⟩⟩
  rw [cir_mem hg hT.2.2.1 hf]
  constructor
  · intro h
    refine Classical.byContradiction fun hc => tT.noswap hx hc (fun y hy => ?_) h.2.2.2
    rcases (hm y).1 hy with q | q
    · exact .inr q
    · exact .inl (wo1_mem.2 q)
  · intro hc
    have hw : (wo1 T x).Pairwise (· < ·) := hT.2.1.sublist List.filter_sublist
    have e : nxL es.length T x f = put (wo1 T x) f := srt_ext hs (put_sorted _ _ hw) fun y => by rw [hm, put_mem, wo1_mem]
    have hp : (nxL es.length T x f).Perm (wo1 T x ++ [f]) := by
      rw [e]
      exact (put_perm _ _ (fun q => hfT (wo1_mem.1 q).1)).trans (List.perm_append_comm (l₁ := [f]) (l₂ := wo1 T x))
    have tS := tT.swap hc hfT (by omega) hp
    refine ⟨tS.len, hs, fun y hy => ?_, tS.conn⟩
    rcases (hm y).1 hy with q | q
    · rw [q]; exact hf
    · exact hT.2.2.1 y q.1
theorem cut_own {n : Nat} {es : List (Int × Int)} (hg : Grd (n : Int) es) {T : List Int} (hT : TreL n es T) {e : Int} (he : e ∈ T) : e ∈ cutL n es T e :=
  (cut_mem hg hT.2.2.1).2 ⟨hT.2.2.1 e he, (hT.tree hg).bridge he⟩
end Go.Proofs.Ytldcbmmmheookaa.Ai
namespace Go.Proofs.Ytldcbmmmheookaa.Ai
open Go
def ords13 : List (Nat × List (Nat × Bool)) := [(6, [(0, false), (1, false), (2, false), (3, false), (4, false), (5, false), (6, false), (7, false), (8, false)])]
def cd13 : Cd := (.seq (.reg [⟨⟨some 4, Op.assign (Operand.const (Value.bool false)), none⟩, []⟩]) (.seq (.seq (.reg [⟨⟨some 6, Op.move (Operand.tmp 0), none⟩, []⟩,
  ⟨⟨some 7, Op.call { callee := (Callee.builtin Builtin.len), args := #[(Operand.tmp 6)], argTypes := #[27] }, none⟩, []⟩,
  ⟨⟨some 8, Op.move (Operand.tmp 1), none⟩, []⟩,
  ⟨⟨some 9, Op.call { callee := (Callee.builtin Builtin.len), args := #[(Operand.tmp 8)], argTypes := #[27] }, none⟩, []⟩,
  ⟨⟨some 10, Op.binOp BinOp.neq 3 (Operand.tmp 7) (Operand.tmp 9) 3, none⟩, []⟩]) (.cond (Operand.tmp 10) (.seq (.reg [⟨⟨some 4, Op.assign (Operand.const (Value.bool false)), none⟩, []⟩]) .ret) .skip)) (.seq (.seq (.reg [⟨⟨some 5, Op.assign (Operand.const (Value.int IntKind.i64 0)), none⟩, []⟩]) (.block 0 (.loop (.seq (.seq (.reg [⟨⟨some 11, Op.move (Operand.tmp 5), none⟩, []⟩,
  ⟨⟨some 12, Op.move (Operand.tmp 0), none⟩, []⟩,
  ⟨⟨some 13, Op.call { callee := (Callee.builtin Builtin.len), args := #[(Operand.tmp 12)], argTypes := #[27] }, none⟩, []⟩,
  ⟨⟨some 14, Op.binOp BinOp.lss 3 (Operand.tmp 11) (Operand.tmp 13) 3, none⟩, []⟩]) (.cond (Operand.tmp 14) .skip (.exit 0))) (.seq (.block 1 (.seq (.reg [⟨⟨some 17, Op.move (Operand.tmp 0), none⟩, []⟩,
  ⟨⟨some 18, Op.move (Operand.tmp 5), none⟩, []⟩,
  ⟨⟨some 19, Op.indexAddr 27 (Operand.tmp 17) (Operand.tmp 18), none⟩, []⟩,
  ⟨⟨some 20, Op.load 3 (Operand.tmp 19), none⟩, []⟩,
  ⟨⟨some 21, Op.move (Operand.tmp 1), none⟩, []⟩,
  ⟨⟨some 22, Op.move (Operand.tmp 5), none⟩, []⟩,
  ⟨⟨some 23, Op.indexAddr 27 (Operand.tmp 21) (Operand.tmp 22), none⟩, []⟩,
  ⟨⟨some 24, Op.load 3 (Operand.tmp 23), none⟩, []⟩,
  ⟨⟨some 25, Op.binOp BinOp.neq 3 (Operand.tmp 20) (Operand.tmp 24) 3, none⟩, []⟩]) (.cond (Operand.tmp 25) (.seq (.reg [⟨⟨some 4, Op.assign (Operand.const (Value.bool false)), none⟩, []⟩]) .ret) .skip))) (.reg [⟨⟨some 15, Op.move (Operand.tmp 5), none⟩, []⟩,
  ⟨⟨some 16, Op.binOp BinOp.add 3 (Operand.tmp 15) (Operand.const (Value.int IntKind.i64 1)) 3, none⟩, []⟩,
  ⟨⟨some 5, Op.assign (Operand.tmp 16), none⟩, []⟩])))))) (.seq (.reg [⟨⟨some 4, Op.assign (Operand.const (Value.bool true)), none⟩, []⟩]) .ret))))
theorem sl13 : slim Try.f13.ntmps ords13 (Try.f13.body.getD .skip) = some cd13 := by kernel_rfl
theorem in13 {args : List Value} {H : AH} {R : Value → AH → Prop} (hl : args.length = 2) (h : ∀ (Q : Exit → Sl → AH → Prop), (∀ e s H, endA Try.prog [ResultVar.tmp 4] R e s H → Q e s H) → wpC Try.prog cd13 Q (enterA args) H) : ACalls Try.prog 13 args H R :=
  ACalls.intro (by kernel_rfl) Try.func13 rfl (by kernel_rfl) sl13 hl (of_decide_eq_true (by kernel_rfl)) (by kernel_rfl) h
def ords14 : List (Nat × List (Nat × Bool)) := []
def cd14 : Cd := (.seq (.reg [⟨⟨some 4, Op.assign (Operand.const (Value.bool false)), none⟩, []⟩]) (.seq (.seq (.reg [⟨⟨some 5, Op.assign (Operand.const (Value.int IntKind.i64 0)), none⟩, []⟩]) (.block 0 (.loop (.seq (.seq (.reg [⟨⟨some 6, Op.move (Operand.tmp 5), none⟩, []⟩,
  ⟨⟨some 7, Op.move (Operand.tmp 0), none⟩, []⟩,
  ⟨⟨some 8, Op.call { callee := (Callee.builtin Builtin.len), args := #[(Operand.tmp 7)], argTypes := #[27] }, none⟩, []⟩,
  ⟨⟨some 9, Op.binOp BinOp.lss 3 (Operand.tmp 6) (Operand.tmp 8) 3, none⟩, []⟩]) (.cond (Operand.tmp 9) .skip (.exit 0))) (.seq (.block 1 (.seq (.reg [⟨⟨some 12, Op.move (Operand.tmp 0), none⟩, []⟩,
  ⟨⟨some 13, Op.move (Operand.tmp 5), none⟩, []⟩,
  ⟨⟨some 14, Op.indexAddr 27 (Operand.tmp 12) (Operand.tmp 13), none⟩, []⟩,
  ⟨⟨some 15, Op.load 3 (Operand.tmp 14), none⟩, []⟩,
  ⟨⟨some 16, Op.move (Operand.tmp 1), none⟩, []⟩,
  ⟨⟨some 17, Op.binOp BinOp.eql 3 (Operand.tmp 15) (Operand.tmp 16) 3, none⟩, []⟩]) (.cond (Operand.tmp 17) (.seq (.reg [⟨⟨some 4, Op.assign (Operand.const (Value.bool true)), none⟩, []⟩]) .ret) .skip))) (.reg [⟨⟨some 10, Op.move (Operand.tmp 5), none⟩, []⟩,
  ⟨⟨some 11, Op.binOp BinOp.add 3 (Operand.tmp 10) (Operand.const (Value.int IntKind.i64 1)) 3, none⟩, []⟩,
  ⟨⟨some 5, Op.assign (Operand.tmp 11), none⟩, []⟩])))))) (.seq (.reg [⟨⟨some 4, Op.assign (Operand.const (Value.bool false)), none⟩, []⟩]) .ret)))
theorem sl14 : slim Try.f14.ntmps ords14 (Try.f14.body.getD .skip) = some cd14 := by kernel_rfl
theorem in14 {args : List Value} {H : AH} {R : Value → AH → Prop} (hl : args.length = 2) (h : ∀ (Q : Exit → Sl → AH → Prop), (∀ e s H, endA Try.prog [ResultVar.tmp 4] R e s H → Q e s H) → wpC Try.prog cd14 Q (enterA args) H) : ACalls Try.prog 14 args H R :=
  ACalls.intro (by kernel_rfl) Try.func14 rfl (by kernel_rfl) sl14 hl (of_decide_eq_true (by kernel_rfl)) (by kernel_rfl) h
end Go.Proofs.Ytldcbmmmheookaa.Ai
namespace Go.Proofs.Ytldcbmmmheookaa.Ai
open Go Go.RowKit
set_option linter.unusedVariables false
set_option linter.unusedSimpArgs false
theorem vInts_c (v w : Value) (xs : List Int) (H : AH) (hr : Row 3 H v xs) (hs : Row 3 H w xs) (hl : xs.length ≤ 1000000) : ACalls Try.prog 13 [v, w] H fun r H' => r = .bool true ∧ H = H' := by
  refine in13 rfl ?_
  intro Q hQ
  have e0 : ¬ ¬ ((xs.length : Nat) : Int) = ((xs.length : Nat) : Int) := fun h => h rfl
  simp (maxSteps := 1000000) (disch := omega) only [cd13, hr.len Try.underlying27, hs.len Try.underlying27, decide_eq_false e0, S, S1, S2, S3, S4, S5, ST, eq_self, reduceIte, reduceCtorEq, Nat.reduceEqDiff, Nat.reduceAdd]
  refine LoopH.by (fun m s H' => ∃ (i : Nat), m + i = xs.length ∧ s 0 = v ∧ s 1 = w ∧ s 5 = .int .i64 ((i : Nat) : Int) ∧ H = H') xs.length ?_ ?_
  · exact ⟨0, by simp, rfl, rfl, rfl, rfl⟩
  rintro m s H' ⟨i, hm, h0, h1, h5, rfl⟩
  simp (maxSteps := 1000000) (disch := omega) only [h0, h1, h5, hr.len Try.underlying27, S, S1, S2, S3, S4, S5, ST, eq_self, reduceIte, reduceCtorEq, Nat.reduceEqDiff, Nat.reduceAdd]
  refine brD.intro (fun g => ?_) (fun g => ?_)
  · have hi : i < xs.length := by omega
    have c1 := hr.cell hi
    have c2 := hs.cell hi
    have e1 : ¬ ¬ xs.getD i 0 = xs.getD i 0 := fun h => h rfl
    simp (maxSteps := 1000000) (disch := omega) only [h0, h1, h5, hr.ix Try.underlying27 cs3, hs.ix Try.underlying27 cs3, Int.toNat_natCast, c1, c2, decide_eq_false e1, wrap64, S, S1, S2, S3, S4, S5, ST, eq_self, reduceIte, reduceCtorEq, Nat.reduceEqDiff, Nat.reduceAdd]
    refine ⟨m - 1, by omega, i + 1, ?_⟩
    (repeat' first | exact rfl | apply And.intro) <;> first | (simp only [Value.int.injEq, true_and]; omega) | omega | rfl | assumption | (simp; done) | (simp; omega)
  · simp (maxSteps := 1000000) (disch := omega) only [S, S1, S2, S3, S4, S5, ST, eq_self, reduceIte, reduceCtorEq, Nat.reduceEqDiff, Nat.reduceAdd]
    refine hQ _ _ _ ?_
    simp (maxSteps := 1000000) (disch := omega) only [S, S1, S2, S3, S4, S5, ST, eq_self, reduceIte, reduceCtorEq, Nat.reduceEqDiff, Nat.reduceAdd]
theorem vHas_c (v : Value) (xs : List Int) (x : Int) (H : AH) (hr : Row 3 H v xs) (hlen : xs.length ≤ 1099511627776) : ACalls Try.prog 14 [v, .int .i64 x] H fun r H' => r = .bool (decide (x ∈ xs)) ∧ H = H' := by
  refine in14 rfl ?_
  intro Q hQ
  simp (maxSteps := 1000000) (disch := omega) only [cd14, S, S1, S2, S3, S4, S5, ST, eq_self, reduceIte, reduceCtorEq, Nat.reduceEqDiff, Nat.reduceAdd]
  refine LoopH.by (fun m s H' => ∃ i, m + i = xs.length ∧ s 0 = v ∧ s 1 = .int .i64 x ∧ s 5 = .int .i64 ((i : Nat) : Int) ∧ H = H' ∧ x ∉ xs.take i) xs.length ?_ ?_
  · exact ⟨0, by simp, rfl, rfl, rfl, rfl, by simp⟩
  · rintro m s H' ⟨i, hm, h0, h1, h5, rfl, hn⟩
    simp (maxSteps := 1000000) (disch := omega) only [h0, h1, h5, hr.len Try.underlying27, S, S1, S2, S3, S4, S5, ST, eq_self, reduceIte, reduceCtorEq, Nat.reduceEqDiff, Nat.reduceAdd]
    refine brD.intro (fun g => ?_) (fun g => ?_)
    · have hi : i < xs.length := by omega
      have htk : xs.take (i + 1) = xs.take i ++ [xs.getD i 0] := by rw [List.take_succ_eq_append_getElem hi]; simp [hi]
      have hm1 : xs.getD i 0 ∈ xs := by simp [hi]
      simp (maxSteps := 1000000) (disch := omega) only [h0, h1, h5, hr.ix Try.underlying27 cs3, hr.cell, Int.toNat_natCast, S, S1, S2, S3, S4, S5, ST, eq_self, reduceIte, reduceCtorEq, Nat.reduceEqDiff, Nat.reduceAdd]
      refine brD.intro (fun e => ?_) (fun e => ?_)
      · simp (maxSteps := 1000000) (disch := omega) only [S, S1, S2, S3, S4, S5, ST, eq_self, reduceIte, reduceCtorEq, Nat.reduceEqDiff, Nat.reduceAdd]
        refine hQ _ _ _ ?_
        simp (maxSteps := 1000000) (disch := omega) only [S, S1, S2, S3, S4, S5, ST, eq_self, reduceIte, reduceCtorEq, Nat.reduceEqDiff, Nat.reduceAdd]
        rw [decide_eq_true (by rw [← e]; exact hm1)]
      · have f1 : x ∉ xs.take (i + 1) := by
          rw [htk, List.mem_append, List.mem_singleton]
          rintro (q | q)
          · exact hn q
          · exact e q.symm
        simp (maxSteps := 1000000) (disch := omega) only [h0, h1, h5, wrap64, S, S1, S2, S3, S4, S5, ST, eq_self, reduceIte, reduceCtorEq, Nat.reduceEqDiff, Nat.reduceAdd]
        refine ⟨m - 1, by omega, i + 1, ?_⟩
        (repeat' apply And.intro) <;> first | exact f1 | (simp only [Value.int.injEq, true_and]; omega) | omega | rfl | assumption | (simp; done) | (simp; omega)
    · have : i = xs.length := by omega
      subst this
      rw [List.take_length] at hn
      simp (maxSteps := 1000000) (disch := omega) only [S, S1, S2, S3, S4, S5, ST, eq_self, reduceIte, reduceCtorEq, Nat.reduceEqDiff, Nat.reduceAdd]
      refine hQ _ _ _ ?_
      simp (maxSteps := 1000000) (disch := omega) only [S, S1, S2, S3, S4, S5, ST, eq_self, reduceIte, reduceCtorEq, Nat.reduceEqDiff, Nat.reduceAdd]
      rw [decide_eq_false hn]
end Go.Proofs.Ytldcbmmmheookaa.Ai
namespace Go.Proofs.Ytldcbmmmheookaa.Ai
open Go Go.RowKit
set_option linter.unusedVariables false
set_option linter.unusedSimpArgs false
theorem RowP.cells {P : Program} {e : TypeId} (hc : P.cellsOf e = 2) {H : AH} {v : Value} {ps : List (Int × Int)} (h : RowP e H v ps) : sliceCells P e v H = some (ps.length, ints (flat ps)) := by
  rcases h with ⟨h1, h2⟩ | ⟨o, k, vs, ro, e1, h2, h3, h4⟩
  · subst h1; subst h2; rfl
  · subst e1
    simp only [sliceCells, h2, hc]
    rw [Nat.mul_comm ps.length 2, if_pos ⟨h3, trivial⟩, h4]
theorem MineP.app {P : Program} {t e : TypeId} (hu : P.underlying t = some (.slice e)) (hc : P.cellsOf e = 2) (hby : P.bytesOf e ≤ 64) (hz : zeroOk P e = true) {H0 H : AH} {v x : Value} {ps qs : List (Int × Int)} (h : MineP e H0 H v ps) (hx : RowP e H x qs) (hp : H0 <+: H) (hb : ps.length + qs.length ≤ 1099511627776) :
    ∃ v' H', appendA P t t v x H = some (v', H') ∧ MineP e H0 H' v' (ps ++ qs) ∧ H0 <+: H' ∧ Kept v H H' ∧ (H.length ≤ rowO v' ∨ (v' = v ∧ H' = H)) ∧ H.length ≤ H'.length := by
  have hcells := hx.cells (P := P) hc
  have hb2 : (ps.length + qs.length) * P.bytesOf e ≤ 140737488355328 := by
    refine Nat.le_trans (Nat.mul_le_mul_left _ hby) ?_
    omega
  by_cases hm : qs.length = 0
  · have hx0 : qs = [] := List.eq_nil_of_length_eq_zero hm
    subst hx0
    refine ⟨v, H, ?_, by simpa using h, hp, fun o y _ hy => hy, .inr ⟨rfl, rfl⟩, Nat.le_refl _⟩
    have hsl : isSl v = true := by rcases h with ⟨h1, _⟩ | ⟨o, zs, h1, _⟩ <;> subst h1 <;> rfl
    simp only [appendA, hu, hc, hcells, hsl]
    simp
  · rcases h with ⟨h1, h2⟩ | ⟨o, zs, h1, h2, h3, h4⟩
    · subst h1; subst h2
      refine ⟨.slice (some ⟨H.length, 0, none⟩) qs.length qs.length, H ++ [.cells (ints (flat qs)) e false], ?_, .inr ⟨H.length, flat qs, rfl, hp.length_le, at_new .., ?_⟩, pre_app hp _, fun o y _ hy => at_app hy _, .inl (Nat.le_refl _), by simp⟩
      · simp only [appendA, hu, hc, hcells, hz]
        simp only [List.length_nil, Nat.zero_add] at hb hb2
        simp [hm, hb2]; omega
      · show (flat qs).take (2 * qs.length) = flat qs
        rw [List.take_of_length_le (by rw [flat_len]; omega)]
    · subst h1
      have hl := take_flat_len h4
      have lo := hp.length_le
      refine ⟨.slice (some ⟨H.length, 0, none⟩) (ps.length + qs.length) (ps.length + qs.length), H.set o .dead ++ [.cells (ints (flat (ps ++ qs))) e false], ?_, .inr ⟨H.length, flat (ps ++ qs), by simp, by omega, ?_, ?_⟩, pre_app (pre_set hp h2 _) _, ?_, .inl (Nat.le_refl _), by simp⟩
      · simp only [appendA, hu, hc, hcells, hz, h3]
        rw [if_pos (by simp), if_neg hm, if_pos ⟨trivial, by rw [ints_len]; omega, hb2, by omega, trivial⟩]
        have : ((ints zs).drop 0).take (ps.length * 2) ++ ints (flat qs) = ints (flat (ps ++ qs)) := by
          rw [flat_app, ints_app, ← h4, List.drop_zero, Nat.mul_comm]
          simp [ints, List.map_take]
        rw [this]
      · rw [List.getElem?_append_right (by simp)]; simp
      · rw [List.take_of_length_le (by rw [flat_len]; omega)]
      · intro o' y hne hy
        refine at_old hy ?_ _
        rcases hne with hne | hne
        · cases hne
        · exact fun e => hne e.symm
/-- a part of a row of pairs -/
def subP (v : Value) (l h : Nat) : Value :=
  match v with
  | .slice (some p) _ _ => .slice (some ⟨p.block, p.off + 2 * l, none⟩) (h - l) (h - l)
  | _ => .slice none 0 0
theorem RowP.slice {P : Program} {t e : TypeId} (hu : P.underlying t = some (.slice e)) (hc : P.cellsOf e = 2) {H : AH} {v : Value} {ps : List (Int × Int)} (h : RowP e H v ps) {lo hi : Option Value} {l r : Nat} (h1 : boundA lo 0 = some l) (h2 : boundA hi ps.length = some r) (hl : l ≤ r) (hr : r ≤ ps.length) :
    sliceA P t v lo hi none H = some (subP v l r) ∧ RowP e H (subP v l r) ((ps.drop l).take (r - l)) ∧ rowO (subP v l r) = rowO v := by
  rcases h with ⟨e1, e2⟩ | ⟨o, k, vs, ro, e1, g2, g3, g4⟩
  · subst e1; subst e2
    have hr0 : r = 0 := by simpa using hr
    have hl0 : l = 0 := by omega
    subst hr0; subst hl0
    refine ⟨?_, .inl ⟨rfl, by simp⟩, rfl⟩
    simp only [List.length_nil] at h2
    simp only [sliceA, hu, h1, h2, hc, subP]; rfl
  · subst e1
    have hlen : ((ps.drop l).take (r - l)).length = r - l := by simp; omega
    refine ⟨?_, .inr ⟨o, k + 2 * l, vs, ro, ?_, g2, ?_, ?_⟩, rfl⟩
    · simp only [sliceA, hu, h1, h2, g2, hc, subP]
      rw [if_pos ⟨hl, hr, trivial, by decide⟩, Nat.mul_comm l 2]
    · simp only [subP, hlen]
    · rw [hlen]; omega
    · rw [hlen, ← List.drop_drop]
      have e4 : ints (flat ((ps.drop l).take (r - l))) = ((ints (flat ps)).drop (2 * l)).take (2 * (r - l)) := by
        rw [← flat_take, ← flat_drop]; simp [ints, List.map_drop, List.map_take]
      rw [e4, ← g4, List.drop_take, List.take_take, Nat.min_eq_left (by omega)]
end Go.Proofs.Ytldcbmmmheookaa.Ai
namespace Go.Proofs.Ytldcbmmmheookaa.Ai
open Go
def ords83 : List (Nat × List (Nat × Bool)) := [(2, [(0, false), (1, false), (2, false), (3, false), (4, false), (5, false), (6, false), (7, false), (8, false), (9, true), (10, false)]), (4, [(0, false), (1, false), (2, false), (3, false), (4, false), (5, false), (6, false), (7, false), (8, false), (9, false), (10, false)]), (6, [(0, false), (1, false), (2, false), (3, false), (5, false), (6, false), (8, false), (9, false), (10, false), (4, true), (7, true), (11, true), (12, false)])]
def cd83 : Cd := (.seq (.reg [⟨⟨some 3, Op.box 71 (Operand.tmp 1), none⟩, []⟩,
  ⟨⟨some 4, Op.assign (Operand.const (Value.slice none 0 0)), none⟩, []⟩]) (.seq (.reg [⟨⟨some 6, Op.move (Operand.tmp 0), none⟩, []⟩,
  ⟨⟨some 7, Op.call { callee := (Callee.builtin Builtin.len), args := #[(Operand.tmp 6)], argTypes := #[24] }, none⟩, []⟩,
  ⟨⟨some 5, Op.assign (Operand.tmp 7), none⟩, []⟩]) (.seq (.block 0 (.loop (.seq (.seq (.reg [⟨⟨some 8, Op.move (Operand.tmp 5), none⟩, []⟩,
  ⟨⟨some 9, Op.binOp BinOp.gtr 3 (Operand.tmp 8) (Operand.const (Value.int IntKind.i64 0)) 3, none⟩, []⟩,
  ⟨⟨some 10, Op.move (Operand.tmp 9), none⟩, []⟩,
  ⟨⟨some 11, Op.load 71 (Operand.tmp 3), some (10, true)⟩, []⟩,
  ⟨⟨some 12, Op.move (Operand.tmp 0), some (10, true)⟩, []⟩,
  ⟨⟨some 13, Op.move (Operand.tmp 5), some (10, true)⟩, []⟩,
  ⟨⟨some 14, Op.binOp BinOp.sub 3 (Operand.tmp 13) (Operand.const (Value.int IntKind.i64 1)) 3, some (10, true)⟩, []⟩,
  ⟨⟨some 15, Op.indexAddr 24 (Operand.tmp 12) (Operand.tmp 14), some (10, true)⟩, []⟩,
  ⟨⟨some 16, Op.load 71 (Operand.tmp 15), some (10, true)⟩, []⟩,
  ⟨⟨some 17, Op.call { callee := (Callee.value (Operand.func 117)), args := #[(Operand.tmp 11), (Operand.tmp 16)], argTypes := #[71, 71] }, some (10, true)⟩, []⟩,
  ⟨⟨some 18, Op.pick (Operand.tmp 10) (Operand.tmp 17) (Operand.const (Value.bool false)), none⟩, []⟩]) (.cond (Operand.tmp 18) .skip (.exit 0))) (.block 1 (.reg [⟨⟨some 19, Op.move (Operand.tmp 5), none⟩, []⟩,
  ⟨⟨some 20, Op.binOp BinOp.sub 3 (Operand.tmp 19) (Operand.const (Value.int IntKind.i64 1)) 3, none⟩, []⟩,
  ⟨⟨some 5, Op.assign (Operand.tmp 20), none⟩, []⟩]))))) (.seq (.seq (.reg [⟨⟨some 21, Op.move (Operand.tmp 5), none⟩, []⟩,
  ⟨⟨some 22, Op.binOp BinOp.gtr 3 (Operand.tmp 21) (Operand.const (Value.int IntKind.i64 0)) 3, none⟩, []⟩,
  ⟨⟨some 23, Op.move (Operand.tmp 22), none⟩, []⟩,
  ⟨⟨some 24, Op.move (Operand.tmp 0), some (23, true)⟩, []⟩,
  ⟨⟨some 25, Op.move (Operand.tmp 5), some (23, true)⟩, []⟩,
  ⟨⟨some 26, Op.binOp BinOp.sub 3 (Operand.tmp 25) (Operand.const (Value.int IntKind.i64 1)) 3, some (23, true)⟩, []⟩,
  ⟨⟨some 27, Op.indexAddr 24 (Operand.tmp 24) (Operand.tmp 26), some (23, true)⟩, []⟩,
  ⟨⟨some 28, Op.load 71 (Operand.tmp 27), some (23, true)⟩, []⟩,
  ⟨⟨some 29, Op.load 71 (Operand.tmp 3), some (23, true)⟩, []⟩,
  ⟨⟨some 30, Op.binOp BinOp.eql 71 (Operand.tmp 28) (Operand.tmp 29) 71, some (23, true)⟩, []⟩,
  ⟨⟨some 31, Op.pick (Operand.tmp 23) (Operand.tmp 30) (Operand.const (Value.bool false)), none⟩, []⟩]) (.cond (Operand.tmp 31) (.seq (.reg [⟨⟨some 32, Op.move (Operand.tmp 0), none⟩, []⟩,
  ⟨⟨some 4, Op.assign (Operand.tmp 32), none⟩, []⟩]) .ret) .skip)) (.seq (.reg [⟨⟨some 33, Op.buildSlice 24 0 #[], none⟩, []⟩,
  ⟨⟨some 34, Op.move (Operand.tmp 0), none⟩, []⟩,
  ⟨⟨some 35, Op.move (Operand.tmp 5), none⟩, []⟩,
  ⟨⟨some 36, Op.slice 24 (Operand.tmp 34) none (some (Operand.tmp 35)) none, none⟩, []⟩,
  ⟨⟨some 38, Op.load 71 (Operand.tmp 3), none⟩, []⟩,
  ⟨⟨some 39, Op.buildSlice 24 1 #[(0, (Operand.tmp 38))], none⟩, []⟩,
  ⟨⟨some 41, Op.move (Operand.tmp 0), none⟩, []⟩,
  ⟨⟨some 42, Op.move (Operand.tmp 5), none⟩, []⟩,
  ⟨⟨some 43, Op.slice 24 (Operand.tmp 41) (some (Operand.tmp 42)) none none, none⟩, []⟩,
  ⟨⟨some 37, Op.call { callee := (Callee.builtin Builtin.append), args := #[(Operand.tmp 33), (Operand.tmp 36)], argTypes := #[24, 24] }, none⟩, [⟨some 43, Op.slice 24 (Operand.tmp 41) (some (Operand.tmp 42)) none none, none⟩, ⟨some 39, Op.buildSlice 24 1 #[(0, (Operand.tmp 38))], none⟩, ⟨some 38, Op.load 71 (Operand.tmp 3), none⟩]⟩,
  ⟨⟨some 40, Op.call { callee := (Callee.builtin Builtin.append), args := #[(Operand.tmp 37), (Operand.tmp 39)], argTypes := #[24, 24] }, none⟩, [⟨some 43, Op.slice 24 (Operand.tmp 41) (some (Operand.tmp 42)) none none, none⟩]⟩,
  ⟨⟨some 44, Op.call { callee := (Callee.builtin Builtin.append), args := #[(Operand.tmp 40), (Operand.tmp 43)], argTypes := #[24, 24] }, none⟩, []⟩,
  ⟨⟨some 4, Op.assign (Operand.tmp 44), none⟩, []⟩]) .ret)))))
theorem sl83 : slim Try.f83.ntmps ords83 (Try.f83.body.getD .skip) = some cd83 := by kernel_rfl
theorem in83 {args : List Value} {H : AH} {R : Value → AH → Prop} (hl : args.length = 2) (h : ∀ (Q : Exit → Sl → AH → Prop), (∀ e s H, endA Try.prog [ResultVar.tmp 4] R e s H → Q e s H) → wpC Try.prog cd83 Q (enterA args) H) : ACalls Try.prog 83 args H R :=
  ACalls.intro (by kernel_rfl) Try.func83 rfl (by kernel_rfl) sl83 hl (of_decide_eq_true (by kernel_rfl)) (by kernel_rfl) h
end Go.Proofs.Ytldcbmmmheookaa.Ai
namespace Go.Proofs.Ytldcbmmmheookaa.Ai
open Go Go.RowKit
set_option linter.unusedVariables false
set_option linter.unusedSimpArgs false
/-- a text in two parts: the first one ends in what the second one begins with -/
theorem cutC {P : Program} {a b : Cd} {Q : Exit → Sl → AH → Prop} {s : Sl} {H : AH} (R : Sl → AH → Prop) (h1 : ∀ c, (∀ s H, R s H → wpC P c Q s H) → wpC P a (thenA (wpC P c Q) Q) s H) (h2 : ∀ s H, R s H → wpC P b Q s H) : wpC P (.seq a b) Q s H := h1 b h2
set_option maxHeartbeats 1000000 in
theorem pick2_c {H : AH} {o : Nat} {v : Value} {us : List Value} {N : Nat} (h : Cur H o v us N) (hN : N ≤ 900000000) (n : Int) (hn : n ≤ 60000) :
    ACalls Try.prog 84 [.pointer (some ⟨o, 0, none⟩), .int .i64 n] H fun r H' => (∃ x : Nat, r = .int .i64 (x : Int) ∧ ((x : Int) < n ∨ x = 0)) ∧ Cur H' o v us (N + 2) ∧ OnlyO o H H' := by
  refine in84 rfl ?_
  intro Q hQ
  simp (maxSteps := 1000000) (disch := omega) only [cd84, S, S1, S2, S3, S4, S5, ST, eq_self, reduceIte, reduceCtorEq, Nat.reduceEqDiff, Nat.reduceAdd]
  refine brD.intro (fun g => ?_) (fun g => ?_)
  · simp (maxSteps := 1000000) (disch := omega) only [S, S1, S2, S3, S4, S5, ST, eq_self, reduceIte, reduceCtorEq, Nat.reduceEqDiff, Nat.reduceAdd]
    refine hQ _ _ _ ?_
    simp (maxSteps := 1000000) (disch := omega) only [S, S1, S2, S3, S4, S5, ST, eq_self, reduceIte, reduceCtorEq, Nat.reduceEqDiff, Nat.reduceAdd]
    exact ⟨⟨0, rfl, .inr rfl⟩, h.more (by omega), OnlyO.refl o H⟩
  simp (maxSteps := 1000000) (disch := omega) only [S, S1, S2, S3, S4, S5, ST, eq_self, reduceIte, reduceCtorEq, Nat.reduceEqDiff, Nat.reduceAdd]
  refine CallH.by (next_c h (by omega)) ?_
  rintro _ K ⟨⟨x, rfl, hx⟩, hK, oK⟩
  have hn0 : n ≠ 0 := by omega
  have hmod : ∀ x : Nat, (x : Int).tmod n = ((x % n.toNat : Nat) : Int) := fun x => by
    rw [Int.tmod_eq_emod_of_nonneg (by omega)]
    have : n = (n.toNat : Int) := by omega
    conv => lhs; rw [this]
    exact (Int.natCast_emod x n.toNat).symm
  have hlt : ∀ x : Nat, x % n.toNat < n.toNat := fun x => Nat.mod_lt x (by omega)
  simp (maxSteps := 1000000) (disch := omega) only [S, S1, S2, S3, S4, S5, ST, eq_self, reduceIte, reduceCtorEq, Nat.reduceEqDiff, Nat.reduceAdd]
  refine brD.intro (fun g2 => ?_) (fun g2 => ?_)
  · simp (maxSteps := 1000000) (disch := omega) only [S, S1, S2, S3, S4, S5, ST, eq_self, reduceIte, reduceCtorEq, Nat.reduceEqDiff, Nat.reduceAdd]
    refine CallH.by (next_c hK (by omega)) ?_
    rintro _ L ⟨⟨y, rfl, hy⟩, hL, oL⟩
    have hw : IntKind.i64.wrap (IntKind.i64.wrap ((x : Int) * 256) + (y : Int)) = ((x * 256 + y : Nat) : Int) := by
      rw [wrap64 (n := (x : Int) * 256) (by omega) (by omega), wrap64 (by omega) (by omega)]; omega
    simp (maxSteps := 1000000) (disch := omega) only [hn0, hw, hmod, S, S1, S2, S3, S4, S5, ST, eq_self, reduceIte, reduceCtorEq, Nat.reduceEqDiff, Nat.reduceAdd]
    refine hQ _ _ _ ?_
    simp (maxSteps := 1000000) (disch := omega) only [S, S1, S2, S3, S4, S5, ST, eq_self, reduceIte, reduceCtorEq, Nat.reduceEqDiff, Nat.reduceAdd]
    have := hlt (x * 256 + y)
    exact ⟨⟨_, rfl, .inl (by omega)⟩, hL, oK.trans oL⟩
  · simp (maxSteps := 1000000) (disch := omega) only [hn0, hmod, S, S1, S2, S3, S4, S5, ST, eq_self, reduceIte, reduceCtorEq, Nat.reduceEqDiff, Nat.reduceAdd]
    refine hQ _ _ _ ?_
    simp (maxSteps := 1000000) (disch := omega) only [S, S1, S2, S3, S4, S5, ST, eq_self, reduceIte, reduceCtorEq, Nat.reduceEqDiff, Nat.reduceAdd]
    have := hlt x
    exact ⟨⟨_, rfl, .inl (by omega)⟩, hK.more (by omega), oK⟩
theorem MineP.rebase {e : TypeId} {H0 H1 H : AH} {v : Value} {ps : List (Int × Int)} (h : MineP e H0 H v ps) (hl : H1.length = H0.length) : MineP e H1 H v ps := by
  rcases h with h | ⟨o, zs, h1, h2, h3, h4⟩
  · exact .inl h
  · exact .inr ⟨o, zs, h1, by omega, h3, h4⟩
theorem eq_pr (a b c d : Int) : binA Try.prog .eql 71 (.agg (List.toArray [.int .i64 a, .int .i64 b])) (.agg (List.toArray [.int .i64 c, .int .i64 d])) = some (.bool (decide ((a, b) = (c, d)))) := by
  have h : binA Try.prog .eql 71 (.agg (List.toArray [.int .i64 a, .int .i64 b])) (.agg (List.toArray [.int .i64 c, .int .i64 d])) = some (.bool (a == c && b == d)) := by kernel_rfl
  have e : (a == c && b == d) = decide ((a, b) = (c, d)) := by
    rw [Bool.eq_iff_iff, decide_eq_true_eq, Prod.mk.injEq, Bool.and_eq_true, beq_iff_eq, beq_iff_eq]
  rw [h, e]
set_option maxRecDepth 20000 in
set_option maxHeartbeats 8000000 in
theorem l2PutPair_c {Hb H : AH} (v : Value) (ps : List (Int × Int)) (a b : Int) (hm : MineP 71 Hb H v ps) (hbl : Hb.length ≤ H.length) (hl : ps.length ≤ 1000) :
    ACalls Try.prog 83 [v, .agg (List.toArray [.int .i64 a, .int .i64 b])] H fun r H' => ∃ qs, MineP 71 Hb H' r qs ∧ qs.length ≤ ps.length + 1 ∧ (∀ y ∈ qs, y ∈ ps ∨ y = (a, b)) ∧ (r = v ∨ H.length ≤ rowO r) ∧ H <+: H' := by
  obtain ⟨H0, hp0, hb0⟩ : ∃ H0 : AH, H0 <+: H ∧ H0.length = Hb.length := ⟨H.take Hb.length, List.take_prefix _ _, by simp; omega⟩
  have hm := hm.rebase hb0
  refine in83 rfl ?_
  intro Q hQ
  have bx : ∀ H : AH, boxA Try.prog 71 (.agg (List.toArray [.int .i64 a, .int .i64 b])) H = some (.pointer (some ⟨H.length, 0, none⟩), H ++ [.cells [.int .i64 a, .int .i64 b] 71 false]) := fun H => by kernel_rfl
  have hr := hm.row
  rw [cd83]
  generalize hA : H ++ [AObj.cells [.int .i64 a, .int .i64 b] 71 false] = A
  have pA : H <+: A := by rw [← hA]; exact List.prefix_append _ _
  have cA : A[H.length]? = some (.cells [.int .i64 a, .int .i64 b] 71 false) := by rw [← hA]; exact at_new ..
  have bxA := bx H
  rw [hA] at bxA
  have ldb : ∀ {K : AH}, K[H.length]? = some (.cells [.int .i64 a, .int .i64 b] 71 false) → loadA Try.prog 71 (.pointer (some ⟨H.length, 0, none⟩)) K = some (.agg (List.toArray [.int .i64 a, .int .i64 b])) := fun h => ld_agg ag71 cs71 h
  refine cutC (fun s K => s 0 = v ∧ s 3 = .pointer (some ⟨H.length, 0, none⟩) ∧ A <+: K) (fun c hc => ?_) ?_
  · simp (maxSteps := 1000000) (disch := omega) only [bxA, S, S1, S2, S3, S4, S5, ST, eq_self, reduceIte, reduceCtorEq, Nat.reduceEqDiff, Nat.reduceAdd]
    exact hc _ _ ⟨rfl, rfl, List.prefix_refl _⟩
  rintro s K ⟨s0, s3, pK⟩
  refine cutC (fun s K => s 0 = v ∧ s 3 = .pointer (some ⟨H.length, 0, none⟩) ∧ s 5 = .int .i64 (ps.length : Int) ∧ A <+: K) (fun c hc => ?_) ?_
  · simp (maxSteps := 1000000) (disch := omega) only [s0, s3, hr.len Try.underlying24, S, S1, S2, S3, S4, S5, ST, eq_self, reduceIte, reduceCtorEq, Nat.reduceEqDiff, Nat.reduceAdd]
    exact hc _ _ ⟨s0, s3, rfl, pK⟩
  clear s0 s3 pK s K
  rintro s K ⟨s0, s3, s5, pK⟩
  refine cutC (fun s K => ∃ k : Nat, k ≤ ps.length ∧ s 0 = v ∧ s 3 = .pointer (some ⟨H.length, 0, none⟩) ∧ s 5 = .int .i64 (k : Int) ∧ A <+: K) (fun c hc => ?_) ?_
  · simp (maxSteps := 1000000) (disch := omega) only [s0, s3, s5, S, S1, S2, S3, S4, S5, ST, eq_self, reduceIte, reduceCtorEq, Nat.reduceEqDiff, Nat.reduceAdd]
    refine LoopH.by (fun m s H' => ∃ k : Nat, m = k ∧ k ≤ ps.length ∧ s 0 = v ∧ s 3 = .pointer (some ⟨H.length, 0, none⟩) ∧ s 5 = .int .i64 ((k : Nat) : Int) ∧ A <+: H') ps.length ?_ ?_
    · exact ⟨ps.length, rfl, Nat.le_refl _, s0, s3, s5, pK⟩
    rintro m s B ⟨k, rfl, hk, s0, s3, s5, pB⟩
    have rB := hr.pre (pA.trans pB)
    have cB := pre_at pB cA
    simp (maxSteps := 1000000) (disch := omega) only [s0, s3, s5, S, S1, S2, S3, S4, S5, ST, eq_self, reduceIte, reduceCtorEq, Nat.reduceEqDiff, Nat.reduceAdd]
    by_cases g : (0 : Int) < (m : Int)
    rotate_left
    · simp (maxSteps := 1000000) (disch := omega) only [decide_eq_false g, S, S1, S2, S3, S4, S5, ST, eq_self, reduceIte, reduceCtorEq, Nat.reduceEqDiff, Nat.reduceAdd]
      exact hc _ _ ⟨m, hk, s0, s3, s5, pB⟩
    have hm1 : m - 1 < ps.length := by omega
    have hw1 : IntKind.i64.wrap ((m : Int) - 1) = ((m - 1 : Nat) : Int) := by rw [wrap64 (by omega) (by omega)]; omega
    simp (maxSteps := 1000000) (disch := omega) only [decide_eq_true g, s0, s3, s5, ldb cB, hw1, rB.ix Try.underlying24 cs71, Int.toNat_natCast, rB.ld ag71 cs71 hm1, S, S1, S2, S3, S4, S5, ST, eq_self, reduceIte, reduceCtorEq, Nat.reduceEqDiff, Nat.reduceAdd]
    refine CallH.by (l2Edge_c (a, b) (ps.getD (m - 1) (0, 0)) B) ?_
    rintro _ C ⟨rfl, pC⟩
    simp (maxSteps := 1000000) (disch := omega) only [S, S1, S2, S3, S4, S5, ST, eq_self, reduceIte, reduceCtorEq, Nat.reduceEqDiff, Nat.reduceAdd]
    by_cases z : pairLt (a, b) (ps.getD (m - 1) (0, 0))
    · simp (maxSteps := 1000000) (disch := omega) only [decide_eq_true z, s0, s3, s5, hw1, S, S1, S2, S3, S4, S5, ST, eq_self, reduceIte, reduceCtorEq, Nat.reduceEqDiff, Nat.reduceAdd]
      have f1 := pB.trans pC
      refine ⟨m - 1, by omega, m - 1, ?_⟩
      (repeat' first | exact f1 | exact s0 | exact s3 | apply And.intro) <;> first | (simp only [Value.int.injEq, true_and]; omega) | omega | rfl | assumption | (simp; done) | (simp; omega)
    · simp (maxSteps := 1000000) (disch := omega) only [decide_eq_false z, S, S1, S2, S3, S4, S5, ST, eq_self, reduceIte, reduceCtorEq, Nat.reduceEqDiff, Nat.reduceAdd]
      exact hc _ _ ⟨m, hk, s0, s3, s5, pB.trans pC⟩
  clear s0 s3 s5 pK s K
  rintro s K ⟨k, hk, s0, s3, s5, pK⟩
  have rK := hr.pre (pA.trans pK)
  have cK := pre_at pK cA
  refine cutC (fun s K' => K = K' ∧ s 0 = v ∧ s 3 = .pointer (some ⟨H.length, 0, none⟩) ∧ s 5 = .int .i64 (k : Int)) (fun c hc => ?_) ?_
  · simp (maxSteps := 1000000) (disch := omega) only [s0, s3, s5, S, S1, S2, S3, S4, S5, ST, eq_self, reduceIte, reduceCtorEq, Nat.reduceEqDiff, Nat.reduceAdd]
    by_cases g : (0 : Int) < (k : Int)
    rotate_left
    · simp (maxSteps := 1000000) (disch := omega) only [decide_eq_false g, S, S1, S2, S3, S4, S5, ST, eq_self, reduceIte, reduceCtorEq, Nat.reduceEqDiff, Nat.reduceAdd]
      exact hc _ _ ⟨rfl, s0, s3, s5⟩
    have hm1 : k - 1 < ps.length := by omega
    have hw1 : IntKind.i64.wrap ((k : Int) - 1) = ((k - 1 : Nat) : Int) := by rw [wrap64 (by omega) (by omega)]; omega
    simp (maxSteps := 1000000) (disch := omega) only [decide_eq_true g, s0, s3, s5, ldb cK, hw1, rK.ix Try.underlying24 cs71, Int.toNat_natCast, rK.ld ag71 cs71 hm1, eq_pr, S, S1, S2, S3, S4, S5, ST, eq_self, reduceIte, reduceCtorEq, Nat.reduceEqDiff, Nat.reduceAdd]
    refine brD.intro (fun z => ?_) (fun z => ?_)
    · simp (maxSteps := 1000000) (disch := omega) only [s0, S, S1, S2, S3, S4, S5, ST, eq_self, reduceIte, reduceCtorEq, Nat.reduceEqDiff, Nat.reduceAdd]
      refine hQ _ _ _ ?_
      simp (maxSteps := 1000000) (disch := omega) only [s0, hr.tup, S, S1, S2, S3, S4, S5, ST, eq_self, reduceIte, reduceCtorEq, Nat.reduceEqDiff, Nat.reduceAdd]
      exact ⟨ps, (hm.pre (pA.trans pK)).rebase hb0.symm, by omega, fun y hy => .inl hy, .inl trivial, pA.trans pK⟩
    · simp (maxSteps := 1000000) (disch := omega) only [S, S1, S2, S3, S4, S5, ST, eq_self, reduceIte, reduceCtorEq, Nat.reduceEqDiff, Nat.reduceAdd]
      exact hc _ _ ⟨rfl, s0, s3, s5⟩
  clear s0 s3 s5 s
  rintro s _ ⟨rfl, s0, s3, s5⟩
  have lK := (hp0.trans (pA.trans pK)).length_le
  generalize hC : K ++ [AObj.cells [] 71 false] = C
  have pC : K <+: C := by rw [← hC]; exact List.prefix_append _ _
  have lC : C.length = K.length + 1 := by rw [← hC]; simp
  have m0 : MineP 71 H0 C (.slice (some ⟨K.length, 0, none⟩) 0 0) [] := by rw [← hC]; exact MineP.nil0 (P := Try.prog) H0 K lK
  generalize hD : C ++ [AObj.cells [.int .i64 a, .int .i64 b] 71 false] = D
  have pD : C <+: D := by rw [← hD]; exact List.prefix_append _ _
  have lD : D.length = C.length + 1 := by rw [← hD]; simp
  have at1 : D[C.length]? = some (.cells [.int .i64 a, .int .i64 b] 71 false) := by rw [← hD]; exact at_new ..
  have pKD := pC.trans pD
  have ks := bound_some (k := .i64) (i := (k : Int)) (by omega)
  have sl1 : ∀ {G : AH}, RowP 71 G v ps → sliceA Try.prog 24 v none (some (.int .i64 (k : Int))) none G = some (subP v 0 k) ∧ RowP 71 G (subP v 0 k) (ps.take k) ∧ rowO (subP v 0 k) = rowO v := fun {G} h => by
    have := h.slice (P := Try.prog) (t := 24) Try.underlying24 cs71 lo_none (ks ps.length) (Nat.zero_le _) (by rw [Int.toNat_natCast]; exact hk)
    rw [Int.toNat_natCast, List.drop_zero, Nat.sub_zero] at this
    exact this
  have sl2 : ∀ {G : AH}, RowP 71 G v ps → sliceA Try.prog 24 v (some (.int .i64 (k : Int))) none none G = some (subP v k ps.length) ∧ RowP 71 G (subP v k ps.length) (ps.drop k) ∧ rowO (subP v k ps.length) = rowO v := fun {G} h => by
    have := h.slice (P := Try.prog) (t := 24) Try.underlying24 cs71 (ks 0) (hi_none ps.length) (by rw [Int.toNat_natCast]; exact hk) (Nat.le_refl _)
    rw [Int.toNat_natCast, List.take_of_length_le (by simp)] at this
    exact this
  have rD := rK.pre pKD
  have hby : Try.prog.bytesOf 71 ≤ 64 := by rw [by71]; decide
  obtain ⟨v1, E, a1, a2, a3, a4, a5, a6⟩ := (m0.pre pD).app (P := Try.prog) (t := 24) Try.underlying24 cs71 hby zk71 (sl1 rD).2.1 (hp0.trans (pA.trans (pK.trans pKD))) (by simp; omega)
  rw [List.nil_append] at a2
  have kE : ∀ {j : Nat} {y : AObj}, j ≠ K.length → D[j]? = some y → E[j]? = some y := fun hj hy => a4 _ _ (.inr hj) hy
  have pKE : K <+: E := prefix_of fun j y hy => kE (by have := at_lt hy; omega) (pre_at pKD hy)
  have rE := rK.pre pKE
  have at2 := kE (by omega) at1
  have rx : RowP 71 E (.slice (some ⟨C.length, 0, none⟩) 1 1) [(a, b)] := .inr ⟨C.length, 0, _, false, rfl, at2, by simp, rfl⟩
  have v1o : v1 = .slice (some ⟨K.length, 0, none⟩) 0 0 ∨ D.length ≤ rowO v1 := by
    rcases a5 with q | q
    · exact .inr q
    · exact .inl q.1
  obtain ⟨v2, F, b1, b2, b3, b4, b5, b6⟩ := a2.app (P := Try.prog) (t := 24) Try.underlying24 cs71 hby zk71 rx a3 (by simp; omega)
  have kF : ∀ {j : Nat} {y : AObj}, j < K.length → E[j]? = some y → F[j]? = some y := fun {j y} hj hy => b4 _ _ (.inr (by
    rcases v1o with q | q
    · rw [q]; show j ≠ K.length; omega
    · omega)) hy
  have pKF : K <+: F := prefix_of fun j y hy => kF (at_lt hy) (pre_at pKE hy)
  have rF := rK.pre pKF
  have cE : E[C.length]? = D[C.length]? := by rw [at2, at1]
  obtain ⟨v3, G, c1, c2, c3, c4, c5, c6⟩ := b2.app (P := Try.prog) (t := 24) Try.underlying24 cs71 hby zk71 (sl2 rF).2.1 b3 (by simp; omega)
  have v2o : K.length ≤ rowO v2 := by
    rcases b5 with q | q
    · omega
    · rw [q.1]
      rcases v1o with z | z
      · rw [z]; exact Nat.le_refl _
      · omega
  have pKG : K <+: G := prefix_of fun j y hy => c4 _ _ (.inr (by have := at_lt hy; omega)) (pre_at pKF hy)
  simp (maxSteps := 1000000) (disch := omega) only [s0, s3, s5, hC, (sl1 (rK.pre pC)).1, ldb (pre_at pC cK), hD, (sl2 rD).1, a1, (sl2 rE).1, cE, ldb (pre_at pKE cK), b1, (sl2 rF).1, c1, S, S1, S2, S3, S4, S5, ST, eq_self, reduceIte, reduceCtorEq, Nat.reduceEqDiff, Nat.reduceAdd]
  refine hQ _ _ _ ?_
  simp (maxSteps := 1000000) (disch := omega) only [c2.row.tup, S, S1, S2, S3, S4, S5, ST, eq_self, reduceIte, reduceCtorEq, Nat.reduceEqDiff, Nat.reduceAdd]
  have v3o : H.length ≤ rowO v3 := by
    have l1 := (pA.trans pK).length_le
    have l2 := pKF.length_le
    rcases c5 with q | q
    · omega
    · rw [q.1]; omega
  refine ⟨_, c2.rebase hb0.symm, by simp; omega, fun y hy => ?_, .inr v3o, pA.trans (pK.trans pKG)⟩
  rcases List.mem_append.1 hy with hy | hy
  · rcases List.mem_append.1 hy with hy | hy
    · exact .inl (List.mem_of_mem_take hy)
    · exact .inr (by simpa using hy)
  · exact .inl (List.mem_of_mem_drop hy)
end Go.Proofs.Ytldcbmmmheookaa.Ai
namespace Go.Proofs.Ytldcbmmmheookaa.Ai
open Go Go.RowKit
set_option linter.unusedVariables false
set_option linter.unusedSimpArgs false
end Go.Proofs.Ytldcbmmmheookaa.Ai
namespace Go.Proofs.Ytldcbmmmheookaa.Ai
open Go Go.RowKit
set_option linter.unusedVariables false
set_option linter.unusedSimpArgs false
/-- the diagonals at a corner, as far as b -/
def dgRow (n a : Int) : Nat → List Int
  | 0 => []
  | k + 1 => dgRow n a k ++ (if 0 < a ∨ a + 2 + (k : Int) < n - 1 then [10 * a + (a + 2 + (k : Int))] else [])
def dgs (n : Int) : Nat → List Int
  | 0 => []
  | a + 1 => dgs n a ++ dgRow n a (n - a - 2).toNat
def triOkS (n : Int) (xs : List Int) (i : Nat) : Bool := decide (xs.getD i 0 ∈ dgs n n.toNat) && (decide (i = 0) || decide (xs.getD (i - 1) 0 < xs.getD i 0)) && !(xs.take i).any fun y => decide (Crs y (xs.getD i 0))
def triS (n : Int) (xs : List Int) : Bool := (List.range xs.length).all (triOkS n xs) && decide ((xs.length : Int) = n - 3)
end Go.Proofs.Ytldcbmmmheookaa.Ai
namespace Go.Proofs.Ytldcbmmmheookaa.Ai
open Go Go.RowKit
set_option linter.unusedVariables false
set_option linter.unusedSimpArgs false
/-- a diagonal is at a corner -/
def At (d c : Int) : Prop := d.tdiv 10 = c ∨ d.tmod 10 = c
instance (d c : Int) : Decidable (At d c) := inferInstanceAs (Decidable (_ ∨ _))
def Tri1 (n : Int) (xs : List Int) : Prop := (3 ≤ n ∧ n ≤ 8) ∧ triS n xs = true
instance (n : Int) (xs : List Int) : Decidable (Tri1 n xs) := inferInstanceAs (Decidable (_ ∧ _))
def Tri2 (n : Int) (xs ys : List Int) : Prop := (3 ≤ n ∧ n ≤ 8) ∧ triS n xs = true ∧ triS n ys = true
instance (n : Int) (xs ys : List Int) : Decidable (Tri2 n xs ys) := inferInstanceAs (Decidable (_ ∧ _))
theorem Tri1.len {n : Int} {xs : List Int} (h : Tri1 n xs) : (xs.length : Int) = n - 3 := by
  have h := h.2
  unfold triS at h
  simp only [Bool.and_eq_true, decide_eq_true_eq] at h
  exact h.2
theorem Tri2.a {n : Int} {xs ys : List Int} (h : Tri2 n xs ys) : Tri1 n xs := ⟨h.1, h.2.1⟩
theorem Tri2.b {n : Int} {xs ys : List Int} (h : Tri2 n xs ys) : Tri1 n ys := ⟨h.1, h.2.2⟩
theorem Tri1.mem {n : Int} {xs : List Int} (h : Tri1 n xs) {d : Int} (hd : d ∈ xs) : d ∈ dgs n n.toNat := by
  have h := h.2
  unfold triS triOkS at h
  simp only [Bool.and_eq_true, List.all_eq_true, decide_eq_true_eq] at h
  obtain ⟨i, hi, e⟩ := List.getElem_of_mem hd
  have := (h.1 i (List.mem_range.2 hi)).1.1
  rw [List.getD_eq_getElem?_getD, List.getElem?_eq_getElem hi, Option.getD_some, e] at this
  exact this
end Go.Proofs.Ytldcbmmmheookaa.Ai
namespace Go.Proofs.Ytldcbmmmheookaa.Ai
open Go
def ords86 : List (Nat × List (Nat × Bool)) := []
def cd86 : Cd := (.seq (.reg [⟨⟨some 4, Op.assign (Operand.const (Value.int IntKind.i64 0)), none⟩, []⟩]) (.seq (.seq (.reg [⟨⟨some 5, Op.move (Operand.tmp 0), none⟩, []⟩,
  ⟨⟨some 6, Op.move (Operand.tmp 1), none⟩, []⟩,
  ⟨⟨some 7, Op.binOp BinOp.lss 3 (Operand.tmp 5) (Operand.tmp 6) 3, none⟩, []⟩]) (.cond (Operand.tmp 7) (.seq (.reg [⟨⟨some 8, Op.move (Operand.tmp 0), none⟩, []⟩,
  ⟨⟨some 4, Op.assign (Operand.tmp 8), none⟩, []⟩]) .ret) .skip)) (.seq (.reg [⟨⟨some 9, Op.move (Operand.tmp 1), none⟩, []⟩,
  ⟨⟨some 4, Op.assign (Operand.tmp 9), none⟩, []⟩]) .ret)))
theorem sl86 : slim Try.f86.ntmps ords86 (Try.f86.body.getD .skip) = some cd86 := by kernel_rfl
theorem in86 {args : List Value} {H : AH} {R : Value → AH → Prop} (hl : args.length = 2) (h : ∀ (Q : Exit → Sl → AH → Prop), (∀ e s H, endA Try.prog [ResultVar.tmp 4] R e s H → Q e s H) → wpC Try.prog cd86 Q (enterA args) H) : ACalls Try.prog 86 args H R :=
  ACalls.intro (by kernel_rfl) Try.func86 rfl (by kernel_rfl) sl86 hl (of_decide_eq_true (by kernel_rfl)) (by kernel_rfl) h
end Go.Proofs.Ytldcbmmmheookaa.Ai
namespace Go.Proofs.Ytldcbmmmheookaa.Ai
open Go Go.RowKit
set_option linter.unusedVariables false
set_option linter.unusedSimpArgs false
theorem l1Least_c (a b : Int) (H : AH) : ACalls Try.prog 86 [.int .i64 a, .int .i64 b] H fun r H' => r = .int .i64 (if a < b then a else b) ∧ H = H' := by
  refine in86 rfl ?_
  intro Q hQ
  simp (maxSteps := 1000000) (disch := omega) only [cd86, S, S1, S2, S3, S4, S5, ST, eq_self, reduceIte, reduceCtorEq, Nat.reduceEqDiff, Nat.reduceAdd]
  refine brD.intro (fun h => ?_) (fun h => ?_) <;> simp (maxSteps := 1000000) (disch := omega) only [h, S, S1, S2, S3, S4, S5, ST, eq_self, reduceIte, reduceCtorEq, Nat.reduceEqDiff, Nat.reduceAdd] <;> refine hQ _ _ _ ?_ <;> simp (maxSteps := 1000000) (disch := omega) only [h, S, S1, S2, S3, S4, S5, ST, eq_self, reduceIte, reduceCtorEq, Nat.reduceEqDiff, Nat.reduceAdd]
end Go.Proofs.Ytldcbmmmheookaa.Ai
namespace Go.Proofs.Ytldcbmmmheookaa.Ai
open Go
def ords116 : List (Nat × List (Nat × Bool)) := [(15, [(0, false), (1, false), (2, false), (3, false), (5, false), (4, true), (6, false), (7, true), (8, false), (9, true)]), (20, [(0, false), (1, false), (2, false), (4, false), (3, true), (5, true), (6, false), (7, false), (8, false), (9, true), (10, false), (11, true)]), (23, [(0, false), (1, false), (2, false), (3, false), (4, false), (5, false), (6, false), (7, false), (8, true), (9, false), (10, false), (11, false), (12, true), (13, false), (14, true)])]
def cd116 : Cd := (.seq (.reg [⟨⟨some 4, Op.alloc 26, none⟩, []⟩]) (.seq (.reg [⟨⟨some 11, Op.move (Operand.tmp 0), none⟩, []⟩,
  ⟨⟨some 12, Op.buildSlice 27 7 #[(0, (Operand.const (Value.int IntKind.i64 4))), (1, (Operand.const (Value.int IntKind.i64 5))), (2, (Operand.const (Value.int IntKind.i64 3))), (3, (Operand.const (Value.int IntKind.i64 6))), (4, (Operand.const (Value.int IntKind.i64 2))), (5, (Operand.const (Value.int IntKind.i64 1))), (6, (Operand.const (Value.int IntKind.i64 0)))], none⟩, []⟩,
  ⟨⟨some 13, Op.call { callee := (Callee.value (Operand.func 82)), args := #[(Operand.tmp 11), (Operand.tmp 12)], argTypes := #[58, 27] }, none⟩, []⟩,
  ⟨⟨some 5, Op.assign (Operand.tmp 13), none⟩, []⟩]) (.seq (.seq (.reg [⟨⟨some 14, Op.move (Operand.tmp 1), none⟩, []⟩,
  ⟨⟨some 15, Op.binOp BinOp.gtr 3 (Operand.tmp 14) (Operand.const (Value.int IntKind.i64 6)) 3, none⟩, []⟩,
  ⟨⟨some 16, Op.move (Operand.tmp 15), none⟩, []⟩,
  ⟨⟨some 17, Op.move (Operand.tmp 0), some (16, true)⟩, []⟩,
  ⟨⟨some 18, Op.call { callee := (Callee.value (Operand.func 80)), args := #[(Operand.tmp 17), (Operand.const (Value.int IntKind.i64 4))], argTypes := #[58, 3] }, some (16, true)⟩, []⟩,
  ⟨⟨some 19, Op.pick (Operand.tmp 16) (Operand.tmp 18) (Operand.const (Value.bool false)), none⟩, []⟩]) (.cond (Operand.tmp 19) (.reg [⟨⟨some 20, Op.move (Operand.tmp 0), none⟩, []⟩,
  ⟨⟨some 21, Op.call { callee := (Callee.value (Operand.func 84)), args := #[(Operand.tmp 20), (Operand.const (Value.int IntKind.i64 2))], argTypes := #[58, 3] }, none⟩, []⟩,
  ⟨⟨some 22, Op.binOp BinOp.add 3 (Operand.const (Value.int IntKind.i64 7)) (Operand.tmp 21) 3, none⟩, []⟩,
  ⟨⟨some 5, Op.assign (Operand.tmp 22), none⟩, []⟩]) .skip)) (.seq (.reg [⟨⟨some 23, Op.move (Operand.tmp 5), none⟩, []⟩,
  ⟨⟨some 24, Op.move (Operand.tmp 1), none⟩, []⟩,
  ⟨⟨some 25, Op.call { callee := (Callee.value (Operand.func 86)), args := #[(Operand.tmp 23), (Operand.tmp 24)], argTypes := #[3, 3] }, none⟩, []⟩,
  ⟨⟨some 5, Op.assign (Operand.tmp 25), none⟩, []⟩]) (.seq (.reg [⟨⟨some 26, Op.move (Operand.tmp 5), none⟩, []⟩,
  ⟨⟨some 27, Op.buildSlice 24 0 #[], none⟩, []⟩,
  ⟨⟨some 28, Op.build 26 #[(0, (Operand.tmp 26)), (1, (Operand.tmp 27))], none⟩, []⟩,
  ⟨⟨some 29, Op.move (Operand.tmp 0), none⟩, []⟩,
  ⟨⟨some 30, Op.buildSlice 27 4 #[(0, (Operand.const (Value.int IntKind.i64 1))), (1, (Operand.const (Value.int IntKind.i64 3))), (2, (Operand.const (Value.int IntKind.i64 4))), (3, (Operand.const (Value.int IntKind.i64 6)))], none⟩, []⟩,
  ⟨⟨some 31, Op.call { callee := (Callee.value (Operand.func 82)), args := #[(Operand.tmp 29), (Operand.tmp 30)], argTypes := #[58, 27] }, none⟩, []⟩,
  ⟨⟨some 32, Op.move (Operand.tmp 0), none⟩, []⟩,
  ⟨⟨some 33, Op.call { callee := (Callee.value (Operand.func 80)), args := #[(Operand.tmp 32), (Operand.const (Value.int IntKind.i64 5))], argTypes := #[58, 3] }, none⟩, []⟩,
  ⟨⟨some 6, Op.alloc 26, none⟩, []⟩,
  ⟨⟨none, Op.store 26 (Operand.tmp 6) (Operand.tmp 28), none⟩, []⟩,
  ⟨⟨some 7, Op.assign (Operand.tmp 31), none⟩, []⟩,
  ⟨⟨some 8, Op.assign (Operand.tmp 33), none⟩, []⟩]) (.seq (.seq (.reg [⟨⟨some 9, Op.assign (Operand.const (Value.int IntKind.i64 0)), none⟩, []⟩]) (.block 0 (.loop (.seq (.seq (.reg [⟨⟨some 34, Op.move (Operand.tmp 9), none⟩, []⟩,
  ⟨⟨some 35, Op.move (Operand.tmp 5), none⟩, []⟩,
  ⟨⟨some 36, Op.binOp BinOp.lss 3 (Operand.tmp 34) (Operand.tmp 35) 3, none⟩, []⟩]) (.cond (Operand.tmp 36) .skip (.exit 0))) (.seq (.block 1 (.seq (.seq (.reg [⟨⟨some 39, Op.move (Operand.tmp 9), none⟩, []⟩,
  ⟨⟨some 40, Op.binOp BinOp.add 3 (Operand.tmp 39) (Operand.const (Value.int IntKind.i64 1)) 3, none⟩, []⟩,
  ⟨⟨some 10, Op.assign (Operand.tmp 40), none⟩, []⟩]) (.block 2 (.loop (.seq (.seq (.reg [⟨⟨some 41, Op.move (Operand.tmp 10), none⟩, []⟩,
  ⟨⟨some 42, Op.move (Operand.tmp 5), none⟩, []⟩,
  ⟨⟨some 43, Op.binOp BinOp.lss 3 (Operand.tmp 41) (Operand.tmp 42) 3, none⟩, []⟩]) (.cond (Operand.tmp 43) .skip (.exit 2))) (.seq (.block 3 (.seq (.reg [⟨⟨some 46, Op.move (Operand.tmp 0), none⟩, []⟩,
  ⟨⟨some 47, Op.move (Operand.tmp 7), none⟩, []⟩,
  ⟨⟨some 48, Op.call { callee := (Callee.value (Operand.func 84)), args := #[(Operand.tmp 46), (Operand.tmp 47)], argTypes := #[58, 3] }, none⟩, []⟩,
  ⟨⟨some 49, Op.binOp BinOp.eql 3 (Operand.tmp 48) (Operand.const (Value.int IntKind.i64 0)) 3, none⟩, []⟩]) (.cond (Operand.tmp 49) (.reg [⟨⟨some 50, Op.fieldAddr 26 (Operand.tmp 6) 1, none⟩, []⟩,
  ⟨⟨some 51, Op.load 24 (Operand.tmp 50), none⟩, []⟩,
  ⟨⟨some 52, Op.move (Operand.tmp 9), none⟩, []⟩,
  ⟨⟨some 53, Op.move (Operand.tmp 10), none⟩, []⟩,
  ⟨⟨some 54, Op.build 71 #[(0, (Operand.tmp 52)), (1, (Operand.tmp 53))], none⟩, []⟩,
  ⟨⟨some 55, Op.call { callee := (Callee.value (Operand.func 83)), args := #[(Operand.tmp 51), (Operand.tmp 54)], argTypes := #[24, 71] }, none⟩, []⟩,
  ⟨⟨some 56, Op.fieldAddr 26 (Operand.tmp 6) 1, none⟩, []⟩,
  ⟨⟨none, Op.store 24 (Operand.tmp 56) (Operand.tmp 55), none⟩, []⟩]) .skip))) (.reg [⟨⟨some 44, Op.move (Operand.tmp 10), none⟩, []⟩,
  ⟨⟨some 45, Op.binOp BinOp.add 3 (Operand.tmp 44) (Operand.const (Value.int IntKind.i64 1)) 3, none⟩, []⟩,
  ⟨⟨some 10, Op.assign (Operand.tmp 45), none⟩, []⟩])))))) (.seq (.reg [⟨⟨some 57, Op.move (Operand.tmp 9), none⟩, []⟩,
  ⟨⟨some 58, Op.binOp BinOp.gtr 3 (Operand.tmp 57) (Operand.const (Value.int IntKind.i64 0)) 3, none⟩, []⟩,
  ⟨⟨some 59, Op.move (Operand.tmp 58), none⟩, []⟩,
  ⟨⟨some 60, Op.move (Operand.tmp 8), some (59, true)⟩, []⟩,
  ⟨⟨some 61, Op.unOp UnOp.not 4 (Operand.tmp 60), some (59, true)⟩, []⟩,
  ⟨⟨some 62, Op.pick (Operand.tmp 59) (Operand.tmp 61) (Operand.const (Value.bool false)), none⟩, []⟩]) (.cond (Operand.tmp 62) (.reg [⟨⟨some 63, Op.fieldAddr 26 (Operand.tmp 6) 1, none⟩, []⟩,
  ⟨⟨some 64, Op.load 24 (Operand.tmp 63), none⟩, []⟩,
  ⟨⟨some 65, Op.move (Operand.tmp 0), none⟩, []⟩,
  ⟨⟨some 66, Op.move (Operand.tmp 9), none⟩, []⟩,
  ⟨⟨some 68, Op.move (Operand.tmp 9), none⟩, []⟩,
  ⟨⟨some 67, Op.call { callee := (Callee.value (Operand.func 84)), args := #[(Operand.tmp 65), (Operand.tmp 66)], argTypes := #[58, 3] }, none⟩, [⟨some 64, Op.load 24 (Operand.tmp 63), none⟩]⟩,
  ⟨⟨some 69, Op.build 71 #[(0, (Operand.tmp 67)), (1, (Operand.tmp 68))], none⟩, []⟩,
  ⟨⟨some 70, Op.call { callee := (Callee.value (Operand.func 83)), args := #[(Operand.tmp 64), (Operand.tmp 69)], argTypes := #[24, 71] }, none⟩, []⟩,
  ⟨⟨some 71, Op.fieldAddr 26 (Operand.tmp 6) 1, none⟩, []⟩,
  ⟨⟨none, Op.store 24 (Operand.tmp 71) (Operand.tmp 70), none⟩, []⟩]) .skip)))) (.reg [⟨⟨some 37, Op.move (Operand.tmp 9), none⟩, []⟩,
  ⟨⟨some 38, Op.binOp BinOp.add 3 (Operand.tmp 37) (Operand.const (Value.int IntKind.i64 1)) 3, none⟩, []⟩,
  ⟨⟨some 9, Op.assign (Operand.tmp 38), none⟩, []⟩])))))) (.seq (.seq (.reg [⟨⟨some 72, Op.move (Operand.tmp 0), none⟩, []⟩,
  ⟨⟨some 73, Op.call { callee := (Callee.value (Operand.func 84)), args := #[(Operand.tmp 72), (Operand.const (Value.int IntKind.i64 50))], argTypes := #[58, 3] }, none⟩, []⟩]) (.block 4 (.seq (.reg [⟨⟨some 75, Op.binOp BinOp.eql 3 (Operand.tmp 73) (Operand.const (Value.int IntKind.i64 0)) 3, none⟩, []⟩,
  ⟨⟨some 74, Op.assign (Operand.tmp 75), none⟩, []⟩]) (.cond (Operand.tmp 74) (.reg [⟨⟨some 76, Op.move (Operand.tmp 0), none⟩, []⟩,
  ⟨⟨some 77, Op.buildSlice 27 5 #[(0, (Operand.const (Value.int IntKind.i64 (-1)))), (1, (Operand.const (Value.int IntKind.i64 8))), (2, (Operand.const (Value.int IntKind.i64 9))), (3, (Operand.const (Value.int IntKind.i64 0))), (4, (Operand.const (Value.int IntKind.i64 4611686018427387904)))], none⟩, []⟩,
  ⟨⟨some 78, Op.call { callee := (Callee.value (Operand.func 82)), args := #[(Operand.tmp 76), (Operand.tmp 77)], argTypes := #[58, 27] }, none⟩, []⟩,
  ⟨⟨some 79, Op.fieldAddr 26 (Operand.tmp 6) 0, none⟩, []⟩,
  ⟨⟨none, Op.store 3 (Operand.tmp 79) (Operand.tmp 78), none⟩, []⟩]) (.seq (.reg [⟨⟨some 81, Op.binOp BinOp.eql 3 (Operand.tmp 73) (Operand.const (Value.int IntKind.i64 1)) 3, none⟩, []⟩,
  ⟨⟨some 80, Op.assign (Operand.tmp 81), none⟩, []⟩]) (.cond (Operand.tmp 80) (.reg [⟨⟨some 82, Op.fieldAddr 26 (Operand.tmp 6) 1, none⟩, []⟩,
  ⟨⟨some 83, Op.load 24 (Operand.tmp 82), none⟩, []⟩,
  ⟨⟨some 84, Op.move (Operand.tmp 0), none⟩, []⟩,
  ⟨⟨some 86, Op.move (Operand.tmp 0), none⟩, []⟩,
  ⟨⟨some 85, Op.call { callee := (Callee.value (Operand.func 84)), args := #[(Operand.tmp 84), (Operand.const (Value.int IntKind.i64 4))], argTypes := #[58, 3] }, none⟩, [⟨some 83, Op.load 24 (Operand.tmp 82), none⟩]⟩,
  ⟨⟨some 87, Op.call { callee := (Callee.value (Operand.func 84)), args := #[(Operand.tmp 86), (Operand.const (Value.int IntKind.i64 9))], argTypes := #[58, 3] }, none⟩, [⟨some 83, Op.load 24 (Operand.tmp 82), none⟩]⟩,
  ⟨⟨some 88, Op.binOp BinOp.sub 3 (Operand.tmp 87) (Operand.const (Value.int IntKind.i64 1)) 3, none⟩, []⟩,
  ⟨⟨some 89, Op.build 71 #[(0, (Operand.tmp 85)), (1, (Operand.tmp 88))], none⟩, []⟩,
  ⟨⟨some 90, Op.buildSlice 24 1 #[(0, (Operand.tmp 89))], none⟩, []⟩,
  ⟨⟨some 91, Op.call { callee := (Callee.builtin Builtin.append), args := #[(Operand.tmp 83), (Operand.tmp 90)], argTypes := #[24, 24] }, none⟩, []⟩,
  ⟨⟨some 92, Op.fieldAddr 26 (Operand.tmp 6) 1, none⟩, []⟩,
  ⟨⟨none, Op.store 24 (Operand.tmp 92) (Operand.tmp 91), none⟩, []⟩]) (.seq (.reg [⟨⟨some 94, Op.binOp BinOp.eql 3 (Operand.tmp 73) (Operand.const (Value.int IntKind.i64 2)) 3, none⟩, []⟩,
  ⟨⟨some 93, Op.assign (Operand.tmp 94), none⟩, []⟩]) (.cond (Operand.tmp 93) (.seq (.reg [⟨⟨some 95, Op.fieldAddr 26 (Operand.tmp 6) 1, none⟩, []⟩,
  ⟨⟨some 96, Op.load 24 (Operand.tmp 95), none⟩, []⟩,
  ⟨⟨some 97, Op.call { callee := (Callee.builtin Builtin.len), args := #[(Operand.tmp 96)], argTypes := #[24] }, none⟩, []⟩,
  ⟨⟨some 98, Op.binOp BinOp.gtr 3 (Operand.tmp 97) (Operand.const (Value.int IntKind.i64 0)) 3, none⟩, []⟩]) (.cond (Operand.tmp 98) (.reg [⟨⟨some 99, Op.fieldAddr 26 (Operand.tmp 6) 1, none⟩, []⟩,
  ⟨⟨some 100, Op.load 24 (Operand.tmp 99), none⟩, []⟩,
  ⟨⟨some 101, Op.fieldAddr 26 (Operand.tmp 6) 1, none⟩, []⟩,
  ⟨⟨some 102, Op.load 24 (Operand.tmp 101), none⟩, []⟩,
  ⟨⟨some 103, Op.move (Operand.tmp 0), none⟩, []⟩,
  ⟨⟨some 104, Op.fieldAddr 26 (Operand.tmp 6) 1, none⟩, []⟩,
  ⟨⟨some 105, Op.load 24 (Operand.tmp 104), none⟩, []⟩,
  ⟨⟨some 106, Op.call { callee := (Callee.builtin Builtin.len), args := #[(Operand.tmp 105)], argTypes := #[24] }, none⟩, []⟩,
  ⟨⟨some 107, Op.call { callee := (Callee.value (Operand.func 84)), args := #[(Operand.tmp 103), (Operand.tmp 106)], argTypes := #[58, 3] }, none⟩, [⟨some 102, Op.load 24 (Operand.tmp 101), none⟩, ⟨some 100, Op.load 24 (Operand.tmp 99), none⟩]⟩,
  ⟨⟨some 108, Op.indexAddr 24 (Operand.tmp 102) (Operand.tmp 107), none⟩, []⟩,
  ⟨⟨some 109, Op.load 71 (Operand.tmp 108), none⟩, []⟩,
  ⟨⟨some 110, Op.buildSlice 24 1 #[(0, (Operand.tmp 109))], none⟩, []⟩,
  ⟨⟨some 111, Op.call { callee := (Callee.builtin Builtin.append), args := #[(Operand.tmp 100), (Operand.tmp 110)], argTypes := #[24, 24] }, none⟩, []⟩,
  ⟨⟨some 112, Op.fieldAddr 26 (Operand.tmp 6) 1, none⟩, []⟩,
  ⟨⟨none, Op.store 24 (Operand.tmp 112) (Operand.tmp 111), none⟩, []⟩]) .skip)) .skip)))))))) (.seq (.reg [⟨⟨some 113, Op.load 26 (Operand.tmp 6), none⟩, []⟩,
  ⟨⟨none, Op.store 26 (Operand.tmp 4) (Operand.tmp 113), none⟩, []⟩]) .ret))))))))
theorem sl116 : slim Try.f116.ntmps ords116 (Try.f116.body.getD .skip) = some cd116 := by kernel_rfl
set_option maxRecDepth 20000 in
theorem in116 {args : List Value} {H : AH} {R : Value → AH → Prop} (hl : args.length = 2) (h : ∀ (Q : Exit → Sl → AH → Prop), (∀ e s H, endA Try.prog [ResultVar.cell 4 26] R e s H → Q e s H) → wpC Try.prog cd116 Q (enterA args) H) : ACalls Try.prog 116 args H R :=
  ACalls.intro (by kernel_rfl) Try.func116 rfl (by kernel_rfl) sl116 hl (of_decide_eq_true (by kernel_rfl)) (by kernel_rfl) h
end Go.Proofs.Ytldcbmmmheookaa.Ai
namespace Go.Proofs.Ytldcbmmmheookaa.Ai
open Go Go.RowKit
set_option linter.unusedVariables false
set_option linter.unusedSimpArgs false
/-- small pairs -/
def Sml (ps : List (Int × Int)) : Prop := ∀ y ∈ ps, (-1 ≤ y.1 ∧ y.1 ≤ 9) ∧ -1 ≤ y.2 ∧ y.2 ≤ 9
/-- a graph that is drawn, in a variable of its own (gp); another variable (R), untouched -/
def GSt (H : AH) (o gp : Nat) (v : Value) (us : List Value) (N L : Nat) (H' : AH) : Prop :=
  ∃ (n : Int) (w : Value) (ps : List (Int × Int)), H'[H.length]? = some (.cells [.int .i64 0, .slice none 0 0] 26 false) ∧ H'[gp]? = some (.cells [.int .i64 n, w] 26 false) ∧ MineP 71 H H' w ps ∧ rowO w ≠ gp ∧ (rowO w ≠ H.length ∨ w = .slice none 0 0) ∧ I64 n ∧ ps.length ≤ L ∧ Sml ps ∧ Cur H' o v us N ∧ Keeps o H H'
theorem MineP.onlyP {e : TypeId} {H0 H H' : AH} {o : Nat} {v : Value} {ps : List (Int × Int)} (h : MineP e H0 H v ps) (hk : OnlyO o H H') (ho : o < H0.length) : MineP e H0 H' v ps := h.keepsP hk.keeps ho
theorem GSt.cur {H : AH} {o gp : Nat} {v : Value} {us : List Value} {N M L : Nat} {H' K : AH} (h : GSt H o gp v us N L H') (ho : o < H.length) (hg : o ≠ gp) (hk : OnlyO o H' K) (hc : Cur K o v us M) : GSt H o gp v us M L K := by
  obtain ⟨n, w, ps, h1, h2, h3, h4, h5, h6, h7, h8, h9, h10⟩ := h
  exact ⟨n, w, ps, hk.2 _ _ (by omega) h1, hk.2 _ _ (fun e => hg e.symm) h2, h3.onlyP hk ho, h4, h5, h6, h7, h8, hc, h10.trans hk.keeps⟩
theorem GSt.pre {H : AH} {o gp : Nat} {v : Value} {us : List Value} {N L : Nat} {H' K : AH} (h : GSt H o gp v us N L H') (hp : H' <+: K) : GSt H o gp v us N L K := by
  obtain ⟨n, w, ps, h1, h2, h3, h4, h5, h6, h7, h8, h9, h10⟩ := h
  exact ⟨n, w, ps, pre_at hp h1, pre_at hp h2, h3.pre hp, h4, h5, h6, h7, h8, h9.pre hp, h10.trans (.of_pre hp)⟩
theorem GSt.more {H : AH} {o gp : Nat} {v : Value} {us : List Value} {N L N' L' : Nat} {H' : AH} (h : GSt H o gp v us N L H') (hN : N ≤ N') (hL : L ≤ L') : GSt H o gp v us N' L' H' := by
  obtain ⟨n, w, ps, h1, h2, h3, h4, h5, h6, h7, h8, h9, h10⟩ := h
  exact ⟨n, w, ps, h1, h2, h3, h4, h5, h6, by omega, h8, h9.more hN, h10⟩
theorem MineP.low {e : TypeId} {H0 H : AH} {v : Value} {ps : List (Int × Int)} (h : MineP e H0 H v ps) : v = .slice none 0 0 ∨ H0.length ≤ rowO v := by
  rcases h with h | ⟨o, zs, h1, h2, _⟩
  · exact .inl h.1
  · exact .inr (by rw [h1]; exact h2)
/-- other edges, or another size -/
theorem GSt.put {H : AH} {o gp : Nat} {v : Value} {us : List Value} {N M : Nat} {H' K : AH} {n z : Int} {w w2 : Value} {ps qs : List (Int × Int)} {N0 : Nat} (hv : Cur H o v us N0) (ho : o < H.length) (hg : H.length < gp)
    (h1 : H'[H.length]? = some (.cells [.int .i64 0, .slice none 0 0] 26 false)) (h2 : H'[gp]? = some (.cells [.int .i64 n, w] 26 false)) (h3 : MineP 71 H H' w ps) (h3g : rowO w ≠ gp) (h3r : rowO w ≠ H.length ∨ w = .slice none 0 0) (hk : Kept w H' K) (hl : H'.length ≤ K.length)
    (h4 : MineP 71 H K w2 qs) (h5 : rowO w2 ≠ gp) (h5b : rowO w2 ≠ H.length ∨ w2 = .slice none 0 0) (h6 : I64 z) (h7 : qs.length ≤ M) (h8 : Sml qs) (h9 : Cur H' o v us N) (h10 : Keeps o H H') :
    GSt H o gp v us N M (K.set gp (.cells [.int .i64 z, w2] 26 false)) := by
  have low := h3.low
  have hk' : ∀ {j : Nat} {y : AObj}, (w = .slice none 0 0 ∨ j ≠ rowO w) → H'[j]? = some y → K[j]? = some y := fun hj hy => hk _ _ hj hy
  have kg := hk' (j := gp) (.inr fun e => h3g e.symm) h2
  have hgl := at_lt kg
  have at_ : ∀ {j : Nat} {y : AObj}, j ≠ gp → K[j]? = some y → (K.set gp (.cells [.int .i64 z, w2] 26 false))[j]? = some y := fun hj hy => by rw [List.getElem?_set_ne (fun e => hj e.symm)]; exact hy
  have old : ∀ {j : Nat} {y : AObj}, j < H.length → H'[j]? = some y → (K.set gp (.cells [.int .i64 z, w2] 26 false))[j]? = some y := fun {j y} hj hy => at_ (by omega) (hk' (by
    rcases low with e | e
    · exact .inl e
    · exact .inr (by omega)) hy)
  obtain ⟨a, sd, c1, c2, c3⟩ := h9.cur
  refine ⟨z, w2, qs, at_ (by omega) (hk' (by
    rcases h3r with e | e
    · exact .inr fun q => e q.symm
    · exact .inl e) h1), List.getElem?_set_self hgl, h4.keep fun y hy => at_ h5 hy, h5, h5b, h6, h7, h8, ⟨⟨a, sd, old ho c1, c2, c3⟩, h9.row.mono fun y hy => old ?_ hy, h9.byt, h9.ap, h9.le⟩, ⟨by have := h10.1; simp; omega, fun j y hj hy => old (at_lt hy) (h10.2 j y hj hy)⟩⟩
  rcases hv.row with q | ⟨o', k', vs', ro', e1, g2, _⟩
  · rw [q.1]
    show (0 : Nat) < H.length
    omega
  · rw [e1]
    exact at_lt g2
set_option maxRecDepth 20000 in
set_option maxHeartbeats 16000000 in
theorem someGraph_c {H : AH} {o : Nat} {v : Value} {us : List Value} {N : Nat} (h : Cur H o v us N) (hN : N ≤ 100000000) (most : Int) (hmost : 0 ≤ most ∧ most ≤ 8) :
    ACalls Try.prog 116 [.pointer (some ⟨o, 0, none⟩), .int .i64 most] H fun r H' => ∃ (n : Int) (w : Value) (ps : List (Int × Int)), r = .agg (List.toArray [.int .i64 n, w]) ∧ MineP 71 H H' w ps ∧ I64 n ∧ ps.length ≤ 200 ∧ Sml ps ∧ Cur H' o v us (N + 1000) ∧ Keeps o H H' := by
  have ho : o < H.length := by
    obtain ⟨_, _, g, _⟩ := h.cur
    exact at_lt g
  refine in116 rfl ?_
  intro Q hQ
  rw [cd116]
  -- the result's variable
  generalize hA : H ++ [AObj.cells [.int .i64 0, .slice none 0 0] 26 false] = A
  have pA : H <+: A := by rw [← hA]; exact List.prefix_append _ _
  have cA : A[H.length]? = some (.cells [.int .i64 0, .slice none 0 0] 26 false) := by rw [← hA]; exact at_new ..
  have lA : A.length = H.length + 1 := by rw [← hA]; simp
  have al := alloc_G H
  rw [hA] at al
  -- B: any heap in which only the cursor has moved
  refine cutC (fun s K => A = K ∧ s 0 = .pointer (some ⟨o, 0, none⟩) ∧ s 1 = .int .i64 most ∧ s 4 = .pointer (some ⟨H.length, 0, none⟩)) (fun c hc => ?_) ?_
  · simp (maxSteps := 1000000) (disch := omega) only [al, S, S1, S2, S3, S4, S5, ST, eq_self, reduceIte, reduceCtorEq, Nat.reduceEqDiff, Nat.reduceAdd]
    exact hc _ _ ⟨rfl, rfl, rfl, rfl⟩
  rintro s _ ⟨rfl, s0, s1, s4⟩
  have hCA := h.pre pA
  have blK1 : ∀ H0 : AH, buildSliceA Try.prog 27 7 [(0, .int .i64 4), (1, .int .i64 5), (2, .int .i64 3), (3, .int .i64 6), (4, .int .i64 2), (5, .int .i64 1), (6, .int .i64 0)] H0 = some (.slice (some ⟨H0.length, 0, none⟩) 7 7, H0 ++ [.cells [.int .i64 4, .int .i64 5, .int .i64 3, .int .i64 6, .int .i64 2, .int .i64 1, .int .i64 0] 3 false]) := fun H0 => by kernel_rfl
  refine cutC (fun s K => s 0 = .pointer (some ⟨o, 0, none⟩) ∧ s 1 = .int .i64 most ∧ s 4 = .pointer (some ⟨H.length, 0, none⟩) ∧ (∃ n : Int, s 5 = .int .i64 n ∧ 0 ≤ n ∧ n ≤ 8) ∧ Cur K o v us (N + 1) ∧ Keeps o A K) (fun c hc => ?_) ?_
  · simp (maxSteps := 1000000) (disch := omega) only [s0, s1, s4, blK1, S, S1, S2, S3, S4, S5, ST, eq_self, reduceIte, reduceCtorEq, Nat.reduceEqDiff, Nat.reduceAdd]
    generalize hK1 : A ++ [AObj.cells [.int .i64 4, .int .i64 5, .int .i64 3, .int .i64 6, .int .i64 2, .int .i64 1, .int .i64 0] 3 false] = K1
    have pK1 : A <+: K1 := by rw [← hK1]; exact List.prefix_append _ _
    have aK1 : K1[A.length]? = some (.cells [.int .i64 4, .int .i64 5, .int .i64 3, .int .i64 6, .int .i64 2, .int .i64 1, .int .i64 0] 3 false) := by rw [← hK1]; exact at_new ..
    have wK1 : Row 3 K1 (.slice (some ⟨A.length, 0, none⟩) 7 7) [4, 5, 3, 6, 2, 1, 0] := .inr ⟨A.length, 0, _, false, rfl, aK1, by simp, rfl⟩
    refine CallH.by (among_c (hCA.pre pK1) (by omega) wK1 (by show A.length ≠ o; omega) (by simp)) ?_
    rintro _ L ⟨⟨x, rfl, hx⟩, hCL, oL⟩
    simp (maxSteps := 1000000) (disch := omega) only [s0, s1, s4, S, S1, S2, S3, S4, S5, ST, eq_self, reduceIte, reduceCtorEq, Nat.reduceEqDiff, Nat.reduceAdd]
    exact hc _ _ ⟨s0, s1, s4, ⟨x, rfl, by simp at hx; omega⟩, hCL, (Keeps.of_pre pK1).trans oL.keeps⟩
  clear s0 s1 s4 hCA s
  rintro s B ⟨s0, s1, s4, ⟨n0, s5, hn0⟩, hCB, kB⟩
  refine cutC (fun s K => s 0 = .pointer (some ⟨o, 0, none⟩) ∧ s 1 = .int .i64 most ∧ s 4 = .pointer (some ⟨H.length, 0, none⟩) ∧ (∃ n : Int, s 5 = .int .i64 n ∧ 0 ≤ n ∧ n ≤ 8) ∧ Cur K o v us (N + 3) ∧ Keeps o A K) (fun c hc => ?_) ?_
  · simp (maxSteps := 1000000) (disch := omega) only [s0, s1, s4, s5, S, S1, S2, S3, S4, S5, ST, eq_self, reduceIte, reduceCtorEq, Nat.reduceEqDiff, Nat.reduceAdd]
    by_cases g : (6 : Int) < most
    · simp (maxSteps := 1000000) (disch := omega) only [decide_eq_true g, s0, S, S1, S2, S3, S4, S5, ST, eq_self, reduceIte, reduceCtorEq, Nat.reduceEqDiff, Nat.reduceAdd]
      refine CallH.by (one_c hCB (by omega) 4 (by omega)) ?_
      rintro _ K ⟨⟨b, rfl⟩, hCK, oK⟩
      simp (maxSteps := 1000000) (disch := omega) only [S, S1, S2, S3, S4, S5, ST, eq_self, reduceIte, reduceCtorEq, Nat.reduceEqDiff, Nat.reduceAdd]
      cases b with
      | true =>
        refine brH.intro (fun _ => ?_) (fun q => by cases q)
        simp (maxSteps := 1000000) (disch := omega) only [s0, S, S1, S2, S3, S4, S5, ST, eq_self, reduceIte, reduceCtorEq, Nat.reduceEqDiff, Nat.reduceAdd]
        refine CallH.by (pick_c hCK (by omega) 2 (by omega)) ?_
        rintro _ L ⟨⟨k, rfl, hk⟩, hCL, oL⟩
        simp (maxSteps := 1000000) (disch := omega) only [wrap64, S, S1, S2, S3, S4, S5, ST, eq_self, reduceIte, reduceCtorEq, Nat.reduceEqDiff, Nat.reduceAdd]
        exact hc _ _ ⟨s0, s1, s4, ⟨7 + (k : Int), rfl, by omega⟩, hCL, kB.trans (oK.keeps.trans oL.keeps)⟩
      | false =>
        refine brH.intro (fun q => by cases q) (fun _ => ?_)
        simp (maxSteps := 1000000) (disch := omega) only [S, S1, S2, S3, S4, S5, ST, eq_self, reduceIte, reduceCtorEq, Nat.reduceEqDiff, Nat.reduceAdd]
        exact hc _ _ ⟨s0, s1, s4, ⟨n0, s5, hn0⟩, hCK.more (by omega), kB.trans oK.keeps⟩
    · simp (maxSteps := 1000000) (disch := omega) only [decide_eq_false g, S, S1, S2, S3, S4, S5, ST, eq_self, reduceIte, reduceCtorEq, Nat.reduceEqDiff, Nat.reduceAdd]
      exact hc _ _ ⟨s0, s1, s4, ⟨n0, s5, hn0⟩, hCB.more (by omega), kB⟩
  clear s0 s1 s4 s5 hCB kB s B hn0 n0
  rintro s B ⟨s0, s1, s4, ⟨n0, s5, hn0⟩, hCB, kB⟩
  refine cutC (fun s K => B = K ∧ s 0 = .pointer (some ⟨o, 0, none⟩) ∧ s 4 = .pointer (some ⟨H.length, 0, none⟩) ∧ (∃ n : Nat, s 5 = .int .i64 (n : Int) ∧ n ≤ 8)) (fun c hc => ?_) ?_
  · simp (maxSteps := 1000000) (disch := omega) only [s0, s1, s4, s5, S, S1, S2, S3, S4, S5, ST, eq_self, reduceIte, reduceCtorEq, Nat.reduceEqDiff, Nat.reduceAdd]
    refine CallH.by (l1Least_c n0 most B) ?_
    rintro _ _ ⟨rfl, rfl⟩
    obtain ⟨m, hm, hm8⟩ : ∃ m : Nat, (if n0 < most then n0 else most) = (m : Int) ∧ m ≤ 8 := by
      split
      · exact ⟨n0.toNat, by omega, by omega⟩
      · exact ⟨most.toNat, by omega, by omega⟩
    rw [hm]
    simp (maxSteps := 1000000) (disch := omega) only [s0, s4, S, S1, S2, S3, S4, S5, ST, eq_self, reduceIte, reduceCtorEq, Nat.reduceEqDiff, Nat.reduceAdd]
    exact hc _ _ ⟨rfl, s0, s4, m, rfl, hm8⟩
  clear s0 s1 s4 s5 hn0 n0 s
  rintro s _ ⟨rfl, s0, s4, ⟨n, s5, hn⟩⟩
  have hAB := kB.1
  have cB := kB.2 _ _ (by omega) cA
  have kHB : Keeps o H B := (Keeps.of_pre pA).trans kB
  have blK2 : ∀ H0 : AH, buildSliceA Try.prog 27 4 [(0, .int .i64 1), (1, .int .i64 3), (2, .int .i64 4), (3, .int .i64 6)] H0 = some (.slice (some ⟨H0.length, 0, none⟩) 4 4, H0 ++ [.cells [.int .i64 1, .int .i64 3, .int .i64 4, .int .i64 6] 3 false]) := fun H0 => by kernel_rfl
  have blG : ∀ (n : Int) (p : Option Addr) (k c : Nat), buildA Try.prog 26 [(0, .int .i64 n), (1, .slice p k c)] = some (.agg (List.toArray [.int .i64 n, .slice p k c])) := fun _ _ _ _ => by kernel_rfl
  refine cutC (fun s K => s 0 = .pointer (some ⟨o, 0, none⟩) ∧ s 4 = .pointer (some ⟨H.length, 0, none⟩) ∧ s 5 = .int .i64 (n : Int) ∧ (∃ gp : Nat, s 6 = .pointer (some ⟨gp, 0, none⟩) ∧ H.length < gp ∧ GSt H o gp v us (N + 5) 0 K) ∧ (∃ d : Int, s 7 = .int .i64 d ∧ 1 ≤ d ∧ d ≤ 6) ∧ ∃ b : Bool, s 8 = .bool b) (fun c hc => ?_) ?_
  · generalize hC : B ++ [AObj.cells [] 71 false] = C
    have pC : B <+: C := by rw [← hC]; exact List.prefix_append _ _
    have lC : C.length = B.length + 1 := by rw [← hC]; simp
    have m0 : MineP 71 H C (.slice (some ⟨B.length, 0, none⟩) 0 0) [] := by rw [← hC]; exact MineP.nil0 (P := Try.prog) H B (by omega)
    generalize hD : C ++ [AObj.cells [.int .i64 1, .int .i64 3, .int .i64 4, .int .i64 6] 3 false] = D
    have pD : C <+: D := by rw [← hD]; exact List.prefix_append _ _
    have aD : D[C.length]? = some (.cells [.int .i64 1, .int .i64 3, .int .i64 4, .int .i64 6] 3 false) := by rw [← hD]; exact at_new ..
    have wD : Row 3 D (.slice (some ⟨C.length, 0, none⟩) 4 4) [1, 3, 4, 6] := .inr ⟨C.length, 0, _, false, rfl, aD, by simp, rfl⟩
    simp (maxSteps := 1000000) (disch := omega) only [s0, s4, s5, hC, blG, blK2, hD, S, S1, S2, S3, S4, S5, ST, eq_self, reduceIte, reduceCtorEq, Nat.reduceEqDiff, Nat.reduceAdd]
    refine CallH.by (among_c (hCB.pre (pC.trans pD)) (by omega) wD (by show C.length ≠ o; omega) (by simp)) ?_
    rintro _ E ⟨⟨d, rfl, hd⟩, hCE, oE⟩
    simp (maxSteps := 1000000) (disch := omega) only [s0, s4, s5, S, S1, S2, S3, S4, S5, ST, eq_self, reduceIte, reduceCtorEq, Nat.reduceEqDiff, Nat.reduceAdd]
    refine CallH.by (one_c hCE (by omega) 5 (by omega)) ?_
    rintro _ F ⟨⟨b, rfl⟩, hCF, oF⟩
    have kBF : Keeps o B F := (Keeps.of_pre (pC.trans pD)).trans (oE.keeps.trans oF.keeps)
    have mF : MineP 71 H F (.slice (some ⟨B.length, 0, none⟩) 0 0) [] := ((m0.pre pD).onlyP oE ho).onlyP oF ho
    have st1 := st_G mF.row (at_new F (.cells [.int .i64 0, .slice none 0 0] 26 false)) rfl (n : Int)
    rw [set_new] at st1
    simp (maxSteps := 1000000) (disch := omega) only [s0, s4, s5, alloc_G, st1, S, S1, S2, S3, S4, S5, ST, eq_self, reduceIte, reduceCtorEq, Nat.reduceEqDiff, Nat.reduceAdd]
    have pG : F <+: F ++ [AObj.cells [.int .i64 (n : Int), .slice (some ⟨B.length, 0, none⟩) 0 0] 26 false] := List.prefix_append _ _
    have lF := kBF.1
    have lD : D.length = C.length + 1 := by rw [← hD]; simp
    have lEF : F.length = D.length := by rw [oF.1, oE.1]
    refine hc _ _ ⟨s0, s4, s5, ⟨F.length, rfl, by omega, n, .slice (some ⟨B.length, 0, none⟩) 0 0, [], ?_, at_new .., mF.pre pG, ?_, .inl ?_, ⟨by omega, by omega⟩, Nat.le_refl _, fun y hy => by simp at hy, (hCF.more (by omega)).pre pG, kHB.trans (kBF.trans (.of_pre pG))⟩, ⟨d, rfl, by simp at hd; omega⟩, b, rfl⟩
    · exact pre_at pG (kBF.2 _ _ (by omega) cB)
    · show B.length ≠ F.length; omega
    · show B.length ≠ H.length; omega
  clear s0 s4 s5 cB kHB hAB hCB kB s
  rintro s K ⟨s0, s4, s5, ⟨gp, s6, hgp, hG⟩, ⟨d, s7, hd⟩, lb, s8⟩
  clear B
  -- one more pair
  have put : ∀ {N1 L1 : Nat} {K1 : AH} (a b : Int), GSt H o gp v us N1 L1 K1 → L1 ≤ 500 → ((-1 ≤ a ∧ a ≤ 9) ∧ -1 ≤ b ∧ b ≤ 9) → ∃ n' w', cellA K1 gp 1 = some w' ∧ K1[gp]? = some (.cells [.int .i64 n', w'] 26 false) ∧ ACalls Try.prog 83 [w', .agg (List.toArray [.int .i64 a, .int .i64 b])] K1 fun r K2 => ∃ K3, storeA Try.prog 24 (.pointer (some ⟨gp, 1, none⟩)) r K2 = some K3 ∧ isTup r = false ∧ GSt H o gp v us N1 (L1 + 1) K3 := by
    rintro N1 L1 K1 a b ⟨n', w', ps, q1, q2, q3, q4, q5, q6, q7, q8, q9, q10⟩ hL hab
    refine ⟨n', w', cell_of q2 1, q2, (l2PutPair_c w' ps a b q3 (by have := q10.1; omega) (by omega)).mono fun r K2 hr => ?_⟩
    obtain ⟨qs, r1, r2, r3, r4, r5⟩ := hr
    have lgp := at_lt q2
    have r6 : rowO r ≠ gp := by
      rcases r4 with e | e
      · rw [e]; exact q4
      · omega
    have r7 : rowO r ≠ H.length ∨ r = .slice none 0 0 := by
      rcases r4 with e | e
      · rw [e]; exact q5
      · exact .inl (by omega)
    obtain ⟨q, hq⟩ := r1.row.shape
    have t2 : r.cells.toList = [r] := by rw [hq]; rfl
    have hst := st_at (P := Try.prog) (t := 24) (i := 1) (y := r) cs24 (pre_at r5 q2) (by show 1 < 2; decide) r1.row.tup t2
    exact ⟨_, hst, r1.row.tup, GSt.put h ho hgp q1 q2 q3 q4 q5 (fun j y _ hy => pre_at r5 hy) r5.length_le r1 r6 r7 q6 (by omega : qs.length ≤ L1 + 1) (fun y hy => by
      rcases r3 y hy with e | e
      · exact q8 y e
      · rw [e]; exact hab) q9 q10⟩
  refine cutC (fun s K => s 0 = .pointer (some ⟨o, 0, none⟩) ∧ s 4 = .pointer (some ⟨H.length, 0, none⟩) ∧ s 6 = .pointer (some ⟨gp, 0, none⟩) ∧ GSt H o gp v us (N + 200) 100 K) (fun c hc => ?_) ?_
  · simp (maxSteps := 1000000) (disch := omega) only [s0, s4, s5, s6, s7, s8, S, S1, S2, S3, S4, S5, ST, eq_self, reduceIte, reduceCtorEq, Nat.reduceEqDiff, Nat.reduceAdd]
    refine LoopH.by (fun m s K => ∃ x : Nat, m + x = n ∧ s 0 = .pointer (some ⟨o, 0, none⟩) ∧ s 4 = .pointer (some ⟨H.length, 0, none⟩) ∧ s 5 = .int .i64 (n : Int) ∧ s 6 = .pointer (some ⟨gp, 0, none⟩) ∧ s 7 = .int .i64 d ∧ s 8 = .bool lb ∧ s 9 = .int .i64 (x : Int) ∧ GSt H o gp v us (N + 5 + x * 10) (x * 10) K) n ?_ ?_
    · refine ⟨0, by omega, ?_⟩
      simp (maxSteps := 1000000) (disch := omega) only [s0, s4, s5, s6, s7, s8, S, S1, S2, S3, S4, S5, ST, eq_self, reduceIte, reduceCtorEq, Nat.reduceEqDiff, Nat.reduceAdd]
      have f1 := hG.more (show N + 5 ≤ N + 5 + 0 * 10 by omega) (show 0 ≤ 0 * 10 by omega)
      (repeat' first | exact f1 | apply And.intro) <;> first | (simp only [Value.int.injEq, true_and]; omega) | omega | rfl | assumption | (simp; done) | (simp; omega)
    clear s0 s4 s5 s6 s7 s8 hG s K
    rintro m s K ⟨x, hm, s0, s4, s5, s6, s7, s8, s9, hG⟩
    simp (maxSteps := 1000000) (disch := omega) only [s0, s4, s5, s6, s7, s8, s9, S, S1, S2, S3, S4, S5, ST, eq_self, reduceIte, reduceCtorEq, Nat.reduceEqDiff, Nat.reduceAdd]
    refine brD.intro (fun g => ?_) (fun g => ?_)
    rotate_left
    · simp (maxSteps := 1000000) (disch := omega) only [s0, s4, s6, S, S1, S2, S3, S4, S5, ST, eq_self, reduceIte, reduceCtorEq, Nat.reduceEqDiff, Nat.reduceAdd]
      exact hc _ _ ⟨s0, s4, s6, hG.more (by omega) (by omega)⟩
    have hx : x < n := by omega
    simp (maxSteps := 1000000) (disch := omega) only [s0, s4, s5, s6, s7, s8, s9, wrap64, S, S1, S2, S3, S4, S5, ST, eq_self, reduceIte, reduceCtorEq, Nat.reduceEqDiff, Nat.reduceAdd]
    refine LoopH.by (fun m' s K => ∃ j : Nat, m' + j = n - (x + 1) ∧ s 0 = .pointer (some ⟨o, 0, none⟩) ∧ s 4 = .pointer (some ⟨H.length, 0, none⟩) ∧ s 5 = .int .i64 (n : Int) ∧ s 6 = .pointer (some ⟨gp, 0, none⟩) ∧ s 7 = .int .i64 d ∧ s 8 = .bool lb ∧ s 9 = .int .i64 (x : Int) ∧ s 10 = .int .i64 ((x + 1 + j : Nat) : Int) ∧ GSt H o gp v us (N + 5 + x * 10 + j) (x * 10 + j) K) (n - (x + 1)) ?_ ?_
    · refine ⟨0, by omega, ?_⟩
      simp (maxSteps := 1000000) (disch := omega) only [s0, s4, s5, s6, s7, s8, s9, S, S1, S2, S3, S4, S5, ST, eq_self, reduceIte, reduceCtorEq, Nat.reduceEqDiff, Nat.reduceAdd]
      (repeat' first | exact hG | apply And.intro) <;> first | (simp only [Value.int.injEq, true_and]; omega) | omega | rfl | assumption | (simp; done) | (simp; omega)
    clear s0 s4 s5 s6 s7 s8 s9 hG s K
    rintro m' s K ⟨j, hm', s0, s4, s5, s6, s7, s8, s9, s10, hG⟩
    simp (maxSteps := 1000000) (disch := omega) only [s0, s4, s5, s6, s7, s8, s9, s10, S, S1, S2, S3, S4, S5, ST, eq_self, reduceIte, reduceCtorEq, Nat.reduceEqDiff, Nat.reduceAdd]
    refine brD.intro (fun g2 => ?_) (fun g2 => ?_)
    · have hC : ∃ a, Cur K o v us a ∧ a = N + 5 + x * 10 + j := by
        obtain ⟨_, _, _, _, _, _, _, _, _, _, _, q, _⟩ := hG
        exact ⟨_, q, rfl⟩
      obtain ⟨_, hC, rfl⟩ := hC
      simp (maxSteps := 1000000) (disch := omega) only [s0, s7, S, S1, S2, S3, S4, S5, ST, eq_self, reduceIte, reduceCtorEq, Nat.reduceEqDiff, Nat.reduceAdd]
      refine CallH.by (pick_c hC (by omega) d (by omega)) ?_
      rintro _ L ⟨⟨k, rfl, _⟩, hCL, oL⟩
      have hGL := hG.cur ho (by omega) oL hCL
      simp (maxSteps := 1000000) (disch := omega) only [S, S1, S2, S3, S4, S5, ST, eq_self, reduceIte, reduceCtorEq, Nat.reduceEqDiff, Nat.reduceAdd]
      refine brD.intro (fun z => ?_) (fun z => ?_)
      · obtain ⟨n', w', c1, c2, hput⟩ := put (x : Int) ((x + 1 + j : Nat) : Int) hGL (by omega) (by omega)
        simp (maxSteps := 1000000) (disch := omega) only [s6, c1, s9, s10, build_a2, S, S1, S2, S3, S4, S5, ST, eq_self, reduceIte, reduceCtorEq, Nat.reduceEqDiff, Nat.reduceAdd]
        refine CallH.by hput ?_
        rintro r K2 ⟨K3, e2, e1, e3⟩
        simp (maxSteps := 1000000) (disch := omega) only [s6, e2, s0, s4, s5, s7, s8, s9, s10, wrap64, S, S1, S2, S3, S4, S5, ST, eq_self, reduceIte, reduceCtorEq, Nat.reduceEqDiff, Nat.reduceAdd]
        have f1 := e3.more (show N + 5 + x * 10 + j + 1 ≤ N + 5 + x * 10 + (j + 1) by omega) (show x * 10 + j + 1 ≤ x * 10 + (j + 1) by omega)
        refine ⟨m' - 1, by omega, j + 1, ?_⟩
        (repeat' first | exact f1 | apply And.intro) <;> first | (simp only [Value.int.injEq, true_and]; omega) | omega | rfl | assumption | (simp; done) | (simp; omega)
      · simp (maxSteps := 1000000) (disch := omega) only [s6, s0, s4, s5, s7, s8, s9, s10, wrap64, S, S1, S2, S3, S4, S5, ST, eq_self, reduceIte, reduceCtorEq, Nat.reduceEqDiff, Nat.reduceAdd]
        have f1 := hGL.more (show N + 5 + x * 10 + j + 1 ≤ N + 5 + x * 10 + (j + 1) by omega) (show x * 10 + j ≤ x * 10 + (j + 1) by omega)
        refine ⟨m' - 1, by omega, j + 1, ?_⟩
        (repeat' first | exact f1 | apply And.intro) <;> first | (simp only [Value.int.injEq, true_and]; omega) | omega | rfl | assumption | (simp; done) | (simp; omega)
    have hjn : j ≤ 8 := by omega
    have next : ∀ {K3 : AH}, GSt H o gp v us (N + 5 + x * 10 + 9) (x * 10 + 9) K3 → GSt H o gp v us (N + 5 + (x + 1) * 10) ((x + 1) * 10) K3 := fun q => q.more (by omega) (by omega)
    have hG9 := hG.more (show N + 5 + x * 10 + j ≤ N + 5 + x * 10 + 8 by omega) (show x * 10 + j ≤ x * 10 + 8 by omega)
    simp (maxSteps := 1000000) (disch := omega) only [s0, s4, s5, s6, s7, s8, s9, S, S1, S2, S3, S4, S5, ST, eq_self, reduceIte, reduceCtorEq, Nat.reduceEqDiff, Nat.reduceAdd]
    by_cases z : (0 : Int) < (x : Int)
    · cases lb with
      | false =>
        have hC : ∃ a, Cur K o v us a ∧ a = N + 5 + x * 10 + 8 := by
          obtain ⟨_, _, _, _, _, _, _, _, _, _, _, q, _⟩ := hG9
          exact ⟨_, q, rfl⟩
        obtain ⟨_, hC, rfl⟩ := hC
        have hG9' := hG9
        obtain ⟨n0, w0, _, g1, g2, _⟩ := hG9'
        have g3 := cell_of g2 1
        simp (maxSteps := 1000000) (disch := omega) only [decide_eq_true z, s8, s0, s6, s9, g3, S, S1, S2, S3, S4, S5, ST, eq_self, reduceIte, reduceCtorEq, Nat.reduceEqDiff, Nat.reduceAdd]
        refine CallH.by (pick_c hC (by omega) (x : Int) (by omega)) ?_
        rintro _ L ⟨⟨k, rfl, hk⟩, hCL, oL⟩
        have hGL := hG9.cur ho (by omega) oL hCL
        obtain ⟨n', w', c1, c2, hput⟩ := put (k : Int) (x : Int) hGL (by omega) (by omega)
        have e0 : w0 = w' := by
          have := (oL.2 gp _ (by omega) g2).symm.trans c2
          simp only [Option.some.injEq, AObj.cells.injEq, List.cons.injEq] at this
          exact this.1.2.1
        subst e0
        simp (maxSteps := 1000000) (disch := omega) only [s6, s9, c1, build_a2, S, S1, S2, S3, S4, S5, ST, eq_self, reduceIte, reduceCtorEq, Nat.reduceEqDiff, Nat.reduceAdd]
        refine CallH.by hput ?_
        rintro r K2 ⟨K3, e2, e1, e3⟩
        simp (maxSteps := 1000000) (disch := omega) only [s6, e2, s0, s4, s5, s7, s8, s9, wrap64, S, S1, S2, S3, S4, S5, ST, eq_self, reduceIte, reduceCtorEq, Nat.reduceEqDiff, Nat.reduceAdd]
        have f1 := next (e3.more (by omega) (by omega))
        refine ⟨m - 1, by omega, x + 1, ?_⟩
        (repeat' first | exact f1 | apply And.intro) <;> first | (simp only [Value.int.injEq, true_and]; omega) | omega | rfl | assumption | (simp; done) | (simp; omega)
      | true =>
        simp (maxSteps := 1000000) (disch := omega) only [decide_eq_true z, s0, s4, s5, s6, s7, s8, s9, wrap64, S, S1, S2, S3, S4, S5, ST, eq_self, reduceIte, reduceCtorEq, Nat.reduceEqDiff, Nat.reduceAdd]
        have f1 := next (hG9.more (by omega) (by omega))
        refine ⟨m - 1, by omega, x + 1, ?_⟩
        (repeat' first | exact f1 | apply And.intro) <;> first | (simp only [Value.int.injEq, true_and]; omega) | omega | rfl | assumption | (simp; done) | (simp; omega)
    · simp (maxSteps := 1000000) (disch := omega) only [decide_eq_false z, s0, s4, s5, s6, s7, s8, s9, wrap64, S, S1, S2, S3, S4, S5, ST, eq_self, reduceIte, reduceCtorEq, Nat.reduceEqDiff, Nat.reduceAdd]
      have f1 := next (hG9.more (by omega) (by omega))
      refine ⟨m - 1, by omega, x + 1, ?_⟩
      (repeat' first | exact f1 | apply And.intro) <;> first | (simp only [Value.int.injEq, true_and]; omega) | omega | rfl | assumption | (simp; done) | (simp; omega)
  clear s0 s4 s5 s6 s7 s8 hG s K put
  rintro s K ⟨s0, s4, s6, hG⟩
  refine cutC (fun s K => s 4 = .pointer (some ⟨H.length, 0, none⟩) ∧ s 6 = .pointer (some ⟨gp, 0, none⟩) ∧ GSt H o gp v us (N + 250) 150 K) (fun c hc => ?_) ?_
  · have hG' := hG
    obtain ⟨n1, w, ps, q1, q2, q3, q4, q5, q6, q7, q8, q9, q10⟩ := hG'
    simp (maxSteps := 1000000) (disch := omega) only [s0, S, S1, S2, S3, S4, S5, ST, eq_self, reduceIte, reduceCtorEq, Nat.reduceEqDiff, Nat.reduceAdd]
    refine CallH.by (pick_c q9 (by omega) 50 (by omega)) ?_
    rintro _ L ⟨⟨k, rfl, _⟩, hCL, oL⟩
    have hGL := hG.cur ho (by omega) oL hCL
    clear hG q1 q2 q3 q4 q5 q6 q7 q8 q9 q10 w ps n1
    have hGL' := hGL
    obtain ⟨n1, w, ps, q1, q2, q3, q4, q5, q6, q7, q8, q9, q10⟩ := hGL'
    have lgp := at_lt q2
    have lHL := q10.1
    simp (maxSteps := 1000000) (disch := omega) only [s0, s4, s6, S, S1, S2, S3, S4, S5, ST, eq_self, reduceIte, reduceCtorEq, Nat.reduceEqDiff, Nat.reduceAdd]
    by_cases z0 : (k : Int) = 0
    · simp (maxSteps := 1000000) (disch := omega) only [decide_eq_true z0, s0, s4, s6, S, S1, S2, S3, S4, S5, ST, eq_self, reduceIte, reduceCtorEq, Nat.reduceEqDiff, Nat.reduceAdd]
      have blK3 : ∀ H0 : AH, buildSliceA Try.prog 27 5 [(0, .int .i64 (-1)), (1, .int .i64 8), (2, .int .i64 9), (3, .int .i64 0), (4, .int .i64 4611686018427387904)] H0 = some (.slice (some ⟨H0.length, 0, none⟩) 5 5, H0 ++ [.cells [.int .i64 (-1), .int .i64 8, .int .i64 9, .int .i64 0, .int .i64 4611686018427387904] 3 false]) := fun H0 => by kernel_rfl
      simp (maxSteps := 1000000) (disch := omega) only [blK3, S, S1, S2, S3, S4, S5, ST, eq_self, reduceIte, reduceCtorEq, Nat.reduceEqDiff, Nat.reduceAdd]
      generalize hK1 : L ++ [AObj.cells [.int .i64 (-1), .int .i64 8, .int .i64 9, .int .i64 0, .int .i64 4611686018427387904] 3 false] = K1
      have pK1 : L <+: K1 := by rw [← hK1]; exact List.prefix_append _ _
      have aK1 : K1[L.length]? = some (.cells [.int .i64 (-1), .int .i64 8, .int .i64 9, .int .i64 0, .int .i64 4611686018427387904] 3 false) := by rw [← hK1]; exact at_new ..
      have wK1 : Row 3 K1 (.slice (some ⟨L.length, 0, none⟩) 5 5) [-1, 8, 9, 0, 4611686018427387904] := .inr ⟨L.length, 0, _, false, rfl, aK1, by simp, rfl⟩
      refine CallH.by (among_c (q9.pre pK1) (by omega) wK1 (by show L.length ≠ o; omega) (by simp)) ?_
      rintro _ M ⟨⟨y, rfl, hy⟩, hCM, oM⟩
      have hGM := (hGL.pre pK1).cur ho (by omega) oM hCM
      obtain ⟨n2, w2, ps2, t1, t2, t3, t4, t5, t6, t7, t8, t9, t10⟩ := hGM
      have hst := st_at (P := Try.prog) (t := 3) (i := 0) (y := .int .i64 y) cs3 t2 (by show 0 < 2; decide) rfl rfl
      have hy64 : I64 y := by simp at hy; exact ⟨by omega, by omega⟩
      simp (maxSteps := 1000000) (disch := omega) only [s6, hst, S, S1, S2, S3, S4, S5, ST, eq_self, reduceIte, reduceCtorEq, Nat.reduceEqDiff, Nat.reduceAdd]
      exact hc _ _ ⟨s4, s6, (GSt.put h ho hgp t1 t2 t3 t4 t5 (fun j y _ hy => hy) (Nat.le_refl _) t3 t4 t5 hy64 t7 t8 t9 t10).more (by omega) (by omega)⟩
    by_cases z1 : (k : Int) = 1
    · have hz0 : ¬ (k : Int) = 0 := z0
      simp (maxSteps := 1000000) (disch := omega) only [decide_eq_false hz0, decide_eq_true z1, s0, s4, s6, cell_of q2, S, S1, S2, S3, S4, S5, ST, eq_self, reduceIte, reduceCtorEq, Nat.reduceEqDiff, Nat.reduceAdd]
      refine CallH.by (pick_c q9 (by omega) 4 (by omega)) ?_
      rintro _ M ⟨⟨a, rfl, ha⟩, hCM, oM⟩
      have c2 := oM.2 gp _ (by omega) q2
      simp (maxSteps := 1000000) (disch := omega) only [s0, s6, cell_of c2, S, S1, S2, S3, S4, S5, ST, eq_self, reduceIte, reduceCtorEq, Nat.reduceEqDiff, Nat.reduceAdd]
      refine CallH.by (pick_c hCM (by omega) 9 (by omega)) ?_
      rintro _ P ⟨⟨b, rfl, hb⟩, hCP, oP⟩
      have hGP := (hGL.cur ho (by omega) oM hCM).cur ho (by omega) oP hCP
      obtain ⟨n2, w2, ps2, t1, t2, t3, t4, t5, t6, t7, t8, t9, t10⟩ := hGP
      have e0 : w = w2 := by
        have := (oP.2 gp _ (by omega) c2).symm.trans t2
        simp only [Option.some.injEq, AObj.cells.injEq, List.cons.injEq] at this
        exact this.1.2.1
      subst e0
      obtain ⟨H0, hp0, hb0⟩ : ∃ H0 : AH, H0 <+: P ∧ H0.length = H.length := ⟨P.take H.length, List.take_prefix _ _, by have := t10.1; simp; omega⟩
      have hw1 : IntKind.i64.wrap ((b : Int) - 1) = (b : Int) - 1 := wrap64 (by omega) (by omega)
      obtain ⟨w3, K3, k1, k2, k3, k4, k5, k6⟩ := own1_24 (t3.rebase hb0) hp0 (by omega) (a : Int) ((b : Int) - 1)
      obtain ⟨q, hq⟩ := k2.row.shape
      have tt : w3.cells.toList = [w3] := by rw [hq]; rfl
      have lP := at_lt t2
      have kg := k4 gp _ (.inr fun e => t4 e.symm) t2
      have hst := st_at (P := Try.prog) (t := 24) (i := 1) (y := w3) cs24 kg (by show 1 < 2; decide) k6 tt
      simp (maxSteps := 1000000) (disch := omega) only [s6, cell_of t2, hw1, build_a2, k1, hst, S, S1, S2, S3, S4, S5, ST, eq_self, reduceIte, reduceCtorEq, Nat.reduceEqDiff, Nat.reduceAdd]
      have l3 : P.length ≤ K3.length := by
        obtain ⟨o3, z3, e1, e2, e3, _⟩ : ∃ o3 zs, w3 = .slice (some ⟨o3, 0, none⟩) (ps2 ++ [((a : Int), (b : Int) - 1)]).length (ps2 ++ [((a : Int), (b : Int) - 1)]).length ∧ H0.length ≤ o3 ∧ K3[o3]? = some (.cells (ints zs) 71 false) ∧ True := by
          rcases k2 with ⟨_, e⟩ | ⟨o3, zs, e1, e2, e3, _⟩
          · simp at e
          · exact ⟨o3, zs, e1, e2, e3, trivial⟩
        have := at_lt e3
        rw [e1] at k5
        have k5' : P.length ≤ o3 := k5
        omega
      exact hc _ _ ⟨s4, s6, (GSt.put (M := 200 - 50) h ho hgp t1 t2 t3 t4 t5 k4 l3 (k2.rebase hb0.symm) (by omega) (.inl (by omega)) t6 (by simp; omega) (fun y hy => by
        rcases List.mem_append.1 hy with e | e
        · exact t8 y e
        · rw [List.mem_singleton] at e; rw [e]; simp only; omega) t9 t10).more (by omega) (by omega)⟩
    by_cases z2 : (k : Int) = 2
    · have hz0 : ¬ (k : Int) = 0 := z0
      have hz1 : ¬ (k : Int) = 1 := z1
      simp (maxSteps := 1000000) (disch := omega) only [decide_eq_false hz0, decide_eq_false hz1, decide_eq_true z2, s0, s4, s6, cell_of q2, q3.row.len Try.underlying24, S, S1, S2, S3, S4, S5, ST, eq_self, reduceIte, reduceCtorEq, Nat.reduceEqDiff, Nat.reduceAdd]
      by_cases z3 : (0 : Int) < (ps.length : Int)
      rotate_left
      · simp (maxSteps := 1000000) (disch := omega) only [decide_eq_false z3, S, S1, S2, S3, S4, S5, ST, eq_self, reduceIte, reduceCtorEq, Nat.reduceEqDiff, Nat.reduceAdd]
        exact hc _ _ ⟨s4, s6, hGL.more (by omega) (by omega)⟩
      simp (maxSteps := 1000000) (disch := omega) only [decide_eq_true z3, s0, s4, s6, cell_of q2, q3.row.len Try.underlying24, S, S1, S2, S3, S4, S5, ST, eq_self, reduceIte, reduceCtorEq, Nat.reduceEqDiff, Nat.reduceAdd]
      refine CallH.by (pick_c q9 (by omega) (ps.length : Int) (by omega)) ?_
      rintro _ P ⟨⟨a, rfl, ha⟩, hCP, oP⟩
      have hal : a < ps.length := by omega
      have t2 := oP.2 gp _ (by omega) q2
      have t3 := q3.onlyP oP ho
      have t1 := oP.2 H.length _ (by omega) q1
      have t10 := q10.trans oP.keeps
      obtain ⟨H0, hp0, hb0⟩ : ∃ H0 : AH, H0 <+: P ∧ H0.length = H.length := ⟨P.take H.length, List.take_prefix _ _, by have := t10.1; simp; omega⟩
      have hm := q8 (ps.getD a (0, 0)) (by simp [hal])
      obtain ⟨w3, K3, k1, k2, k3, k4, k5, k6⟩ := own1_24 (t3.rebase hb0) hp0 (by omega) (ps.getD a (0, 0)).1 (ps.getD a (0, 0)).2
      obtain ⟨q, hq⟩ := k2.row.shape
      have tt : w3.cells.toList = [w3] := by rw [hq]; rfl
      have lP := at_lt t2
      have kg := k4 gp _ (.inr fun e => q4 e.symm) t2
      have hst := st_at (P := Try.prog) (t := 24) (i := 1) (y := w3) cs24 kg (by show 1 < 2; decide) k6 tt
      simp (maxSteps := 1000000) (disch := omega) only [s6, cell_of t2, t3.row.ix Try.underlying24 cs71, Int.toNat_natCast, t3.row.ld ag71 cs71 hal, k1, hst, S, S1, S2, S3, S4, S5, ST, eq_self, reduceIte, reduceCtorEq, Nat.reduceEqDiff, Nat.reduceAdd]
      have l3 : P.length ≤ K3.length := by
        obtain ⟨o3, z3, e1, e2, e3, _⟩ : ∃ o3 zs, w3 = .slice (some ⟨o3, 0, none⟩) (ps ++ [((ps.getD a (0, 0)).1, (ps.getD a (0, 0)).2)]).length (ps ++ [((ps.getD a (0, 0)).1, (ps.getD a (0, 0)).2)]).length ∧ H0.length ≤ o3 ∧ K3[o3]? = some (.cells (ints zs) 71 false) ∧ True := by
          rcases k2 with ⟨_, e⟩ | ⟨o3, zs, e1, e2, e3, _⟩
          · simp at e
          · exact ⟨o3, zs, e1, e2, e3, trivial⟩
        have := at_lt e3
        rw [e1] at k5
        have k5' : P.length ≤ o3 := k5
        omega
      exact hc _ _ ⟨s4, s6, (GSt.put (M := 200 - 50) h ho hgp t1 t2 t3 q4 q5 k4 l3 (k2.rebase hb0.symm) (by omega) (.inl (by omega)) q6 (by simp; omega) (fun y hy => by
        rcases List.mem_append.1 hy with e | e
        · exact q8 y e
        · rw [List.mem_singleton] at e; rw [e]; exact hm) hCP t10).more (by omega) (by omega)⟩
    · have hz0 : ¬ (k : Int) = 0 := z0
      have hz1 : ¬ (k : Int) = 1 := z1
      have hz2 : ¬ (k : Int) = 2 := z2
      simp (maxSteps := 1000000) (disch := omega) only [decide_eq_false hz0, decide_eq_false hz1, decide_eq_false hz2, s0, s4, s6, S, S1, S2, S3, S4, S5, ST, eq_self, reduceIte, reduceCtorEq, Nat.reduceEqDiff, Nat.reduceAdd]
      exact hc _ _ ⟨s4, s6, hGL.more (by omega) (by omega)⟩
  clear s0 s4 s6 hG s K
  rintro s K ⟨s4, s6, n1, w, ps, q1, q2, q3, q4, q5, q6, q7, q8, q9, q10⟩
  have hst := st_G q3.row q1 rfl n1
  simp (maxSteps := 1000000) (disch := omega) only [s4, s6, ld_agg ag26 cs26 q2, hst, S, S1, S2, S3, S4, S5, ST, eq_self, reduceIte, reduceCtorEq, Nat.reduceEqDiff, Nat.reduceAdd]
  have d4 := at_set (d := .cells [.int .i64 n1, w] 26 false) q1
  have at_ : ∀ {j : Nat} {y : AObj}, j ≠ H.length → K[j]? = some y → (K.set H.length (.cells [.int .i64 n1, w] 26 false))[j]? = some y := fun hj hy => by rw [List.getElem?_set_ne (fun e => hj e.symm)]; exact hy
  obtain ⟨a, sd, c1, c2, c3⟩ := q9.cur
  refine hQ _ _ _ (end_cell _ _ _ _ _ _ (.agg (List.toArray [.int .i64 n1, w])) ?_ rfl ⟨n1, w, ps, rfl, ?_, q6, by omega, q8, ⟨⟨a, sd, at_ (by omega) c1, by omega, c3⟩, q9.row.mono fun y hy => at_ ?_ hy, q9.byt, q9.ap, q9.le⟩, ⟨by have := q10.1; simp; omega, fun j y hj hy => at_ (by have := at_lt hy; omega) (q10.2 j y hj hy)⟩⟩)
  · simp (maxSteps := 1000000) (disch := omega) only [s4, ld_agg ag26 cs26 d4, S, S1, S2, S3, S4, S5, ST, eq_self, reduceIte, reduceCtorEq, Nat.reduceEqDiff, Nat.reduceAdd]
  · rcases q5 with e | e
    · exact q3.keep fun y hy => at_ e hy
    · rcases q3 with z | ⟨_, _, z, _⟩
      · exact .inl z
      · rw [z] at e; cases e
  · rcases h.row with q | ⟨o', k', vs', ro', e1, g2, _⟩
    · rw [q.1]
      show (0 : Nat) ≠ H.length
      omega
    · rw [e1]
      have := at_lt g2
      show o' ≠ H.length
      omega
end Go.Proofs.Ytldcbmmmheookaa.Ai
namespace Go.Proofs.Ytldcbmmmheookaa.Ai
open Go Go.RowKit
set_option linter.unusedVariables false
set_option linter.unusedSimpArgs false
theorem bin_shrI (P : Program) (t : TypeId) (b y : Nat) (hy : y < 64) : binA P .shr t (.int .i64 (b : Int)) (.int .i64 (y : Int)) = some (.int .i64 ((b / 2 ^ y : Nat) : Int)) := by
  have : ¬ ((y : Int) < 0) := by omega
  simp only [binA, shiftA, this, if_false, IntKind.bits]
  rw [if_pos (.inr trivial)]
  have := shr_nat b y (by omega)
  simp only [this]
theorem bin_and1 (P : Program) (t : TypeId) (a : Nat) (ha : a < 2 ^ 63) : binA P .and t (.int .i64 (a : Int)) (.int .i64 1) = some (.int .i64 ((a % 2 : Nat) : Int)) := by
  have e : bitsA .and .i64 (a : Int) 1 = ((a % 2 : Nat) : Int) := by
    have e : (BitVec.ofInt 64 (a : Int) &&& BitVec.ofInt 64 ((1 : Nat) : Int)).toNat = a % 2 := by rw [BitVec.toNat_and, ofInt_nat a (by omega), ofInt_nat 1 (by decide), Nat.and_one_is_mod]
    show IntKind.i64.wrap (((BitVec.ofInt 64 (a : Int) &&& BitVec.ofInt 64 ((1 : Nat) : Int)).toNat : Nat) : Int) = _
    rw [e, wrap64 (by omega) (by omega)]
  simp only [binA, intA, e]
  simp
/-- the numbers below n whose bits are set -/
def bitsL (n c : Nat) : List Int := (alls n).filter fun x => decide (c / 2 ^ x.toNat % 2 = 1)
theorem bitsL_succ (n c : Nat) : bitsL (n + 1) c = bitsL n c ++ if c / 2 ^ n % 2 = 1 then [(n : Int)] else [] := by
  unfold bitsL
  rw [alls_succ, List.filter_append]
  congr 1
  rw [List.filter_cons, List.filter_nil, Int.toNat_natCast]
  by_cases h : c / 2 ^ n % 2 = 1
  · rw [if_pos (decide_eq_true h), if_pos h]
  · rw [if_neg (by rw [decide_eq_false h]; decide), if_neg h]
theorem bitsL_len (n c : Nat) : (bitsL n c).length ≤ n := by
  have := List.length_filter_le (fun x : Int => decide (c / 2 ^ x.toNat % 2 = 1)) (alls n)
  rw [alls_len] at this
  exact this
theorem bitsL_mem {n c : Nat} {x : Int} (h : x ∈ bitsL n c) : 0 ≤ x ∧ x < n := (alls_mem _ _).1 (List.mem_filter.1 h).1
set_option maxRecDepth 20000 in
set_option maxHeartbeats 2000000 in
theorem l2BitsA_c (n : Int) (c : Nat) (H : AH) (hn : n ≤ 60) (hc : c < 2 ^ 62) :
    ACalls Try.prog 99 [.int .i64 n, .int .i64 (c : Int)] H fun r H' => Own 3 H H' r (bitsL n.toNat c) ∧ H <+: H' := by
  refine in99 rfl ?_
  intro Q hQ
  simp (maxSteps := 1000000) (disch := omega) only [cd99, S, S1, S2, S3, S4, S5, ST, eq_self, reduceIte, reduceCtorEq, Nat.reduceEqDiff, Nat.reduceAdd]
  refine LoopH.by (fun m s H' => ∃ i, m + i = n.toNat ∧ s 0 = .int .i64 n ∧ s 1 = .int .i64 (c : Int) ∧ s 6 = .int .i64 ((i : Nat) : Int) ∧ Own 3 H H' (s 5) (bitsL i c) ∧ H <+: H') n.toNat ?_ ?_
  · exact ⟨0, by simp, rfl, rfl, rfl, .inr ⟨H.length, rfl, Nat.le_refl _, at_new ..⟩, List.prefix_append _ _⟩
  · rintro m s H' ⟨i, hm, h0, h1, h6, ho, hp⟩
    have hl := bitsL_len i c
    generalize hw : s 5 = w at *
    simp (maxSteps := 1000000) (disch := omega) only [h0, h1, h6, hw, S, S1, S2, S3, S4, S5, ST, eq_self, reduceIte, reduceCtorEq, Nat.reduceEqDiff, Nat.reduceAdd]
    refine brD.intro (fun g => ?_) (fun g => ?_)
    · have hi : i < n.toNat := by omega
      have z1 := bin_shrI Try.prog 3 c i (by omega)
      have hd : c / 2 ^ i < 2 ^ 63 := Nat.lt_of_le_of_lt (Nat.div_le_self _ _) (by omega)
      have z2 := bin_and1 Try.prog 3 (c / 2 ^ i) hd
      have hs := bitsL_succ i c
      simp (maxSteps := 1000000) (disch := omega) only [h0, h1, h6, hw, z1, z2, S, S1, S2, S3, S4, S5, ST, eq_self, reduceIte, reduceCtorEq, Nat.reduceEqDiff, Nat.reduceAdd]
      refine brD.intro (fun q => ?_) (fun q => ?_)
      · rw [if_pos (by omega)] at hs
        obtain ⟨w', H2, k1, k2, k3, k4, k5, k6⟩ := own1_27 ho hp (by omega) (i : Int)
        simp (maxSteps := 1000000) (disch := omega) only [h0, h1, h6, hw, k1, wrap64, S, S1, S2, S3, S4, S5, ST, eq_self, reduceIte, reduceCtorEq, Nat.reduceEqDiff, Nat.reduceAdd]
        rw [← hs] at k2
        refine ⟨m - 1, by omega, i + 1, ?_⟩
        (repeat' first | exact k2 | exact k3 | apply And.intro) <;> first | (simp only [Value.int.injEq, true_and]; omega) | omega | rfl | assumption | (simp; done) | (simp; omega)
      · rw [if_neg (by omega), List.append_nil] at hs
        rw [← hs] at ho
        simp (maxSteps := 1000000) (disch := omega) only [h0, h1, h6, hw, wrap64, S, S1, S2, S3, S4, S5, ST, eq_self, reduceIte, reduceCtorEq, Nat.reduceEqDiff, Nat.reduceAdd]
        refine ⟨m - 1, by omega, i + 1, ?_⟩
        (repeat' first | exact ho | exact hp | apply And.intro) <;> first | (simp only [Value.int.injEq, true_and]; omega) | omega | rfl | assumption | (simp; done) | (simp; omega)
    · simp (maxSteps := 1000000) (disch := omega) only [hw, S, S1, S2, S3, S4, S5, ST, eq_self, reduceIte, reduceCtorEq, Nat.reduceEqDiff, Nat.reduceAdd]
      refine hQ _ _ _ ?_
      simp (maxSteps := 1000000) (disch := omega) only [hw, ho.row.tup, S, S1, S2, S3, S4, S5, ST, eq_self, reduceIte, reduceCtorEq, Nat.reduceEqDiff, Nat.reduceAdd]
      have : i = n.toNat := by omega
      subst this
      exact ⟨ho, hp⟩
end Go.Proofs.Ytldcbmmmheookaa.Ai
namespace Go.Proofs.Ytldcbmmmheookaa.Ai
open Go
set_option linter.unusedVariables false
def pmT (rec : List Int → List (List Int)) (b : List Int) : Nat → Nat → List (List Int)
  | 0, _ => []
  | d + 1, c => (if (c : Int) ∈ b then [] else rec (b ++ [(c : Int)])) ++ pmT rec b d (c + 1)
/-- all lists of different numbers below n that have so many more than those that they begin with -/
def pmG (n : Nat) : Nat → List Int → List (List Int)
  | 0 => fun b => [b]
  | f + 1 => fun b => pmT (pmG n f) b n 0
def pms (n : Nat) : List (List Int) := pmG n n []
theorem pmT_mem {rec : List Int → List (List Int)} {b q : List Int} {x : Nat} (hx : (x : Int) ∉ b) (hq : q ∈ rec (b ++ [(x : Int)])) : ∀ d c, c ≤ x → x < c + d → q ∈ pmT rec b d c
  | 0, c, h1, h2 => by omega
  | d + 1, c, h1, h2 => by
    simp only [pmT, List.mem_append]
    by_cases e : c = x
    · subst e; left; rw [if_neg hx]; exact hq
    · right; exact pmT_mem hx hq d (c + 1) (by omega) (by omega)
theorem pmG_mem (n : Nat) : ∀ (r b : List Int), (∀ x ∈ r, 0 ≤ x ∧ x < n) → (b ++ r).Nodup → b ++ r ∈ pmG n r.length b
  | [], b, _, _ => by simp [pmG]
  | x :: r, b, hr, hn => by
    have hx := hr x (by simp)
    obtain ⟨k, rfl⟩ : ∃ k : Nat, x = k := ⟨x.toNat, by omega⟩
    have hp := List.pairwise_append.1 hn
    have hxb : (k : Int) ∉ b := fun h => hp.2.2 _ h _ (by simp) rfl
    have e : b ++ (k : Int) :: r = (b ++ [(k : Int)]) ++ r := by simp
    rw [e] at hn ⊢
    show _ ∈ pmT (pmG n r.length) b n 0
    exact pmT_mem hxb (pmG_mem n r (b ++ [(k : Int)]) (fun y hy => hr y (by simp [hy])) hn) n 0 (by omega) (by omega)
theorem allIn_le : ∀ (m : Nat) (l : List Int), (∀ z : Nat, z < m → (z : Int) ∈ l) → m ≤ l.length
  | 0, _, _ => Nat.zero_le _
  | m + 1, l, h => by
    have hm := h m (by omega)
    have := allIn_le m (l.erase (m : Int)) (fun z hz => (List.mem_erase_of_ne (by omega)).2 (h z (by omega)))
    rw [List.length_erase_of_mem hm] at this
    have : 0 < l.length := List.length_pos_of_mem hm
    omega
theorem erase_all {p : List Int} {m : Nat} (h : ∀ z : Nat, z < m → (z : Int) ∈ p) (hl : p.length = m) {j : Nat} (hj : j < p.length) (hd : ∀ z : Nat, z < m → (z : Int) = p[j] → (z : Int) ∈ p.take j ++ p.drop (j + 1)) : False := by
  have := allIn_le m (p.take j ++ p.drop (j + 1)) (fun z hz => by
    have hm := h z hz
    by_cases e : (z : Int) = p[j]
    · exact hd z hz e
    · have e2 : p = p.take j ++ p[j] :: p.drop (j + 1) := by rw [List.getElem_cons_drop]; exact (List.take_append_drop j p).symm
      rw [e2] at hm
      simp only [List.mem_append, List.mem_cons] at hm ⊢
      rcases hm with hm | hm | hm
      · exact .inl hm
      · exact absurd hm e
      · exact .inr hm)
  simp only [List.length_append, List.length_take, List.length_drop] at this
  omega
theorem prm_nodup {p : List Int} (h : Prm p) : p.Nodup := by
  rw [List.Nodup, List.pairwise_iff_getElem]
  intro i j hi hj hij e
  refine erase_all h.2 rfl hj (fun z hz ez => ?_)
  rw [ez, ← e]
  refine List.mem_append.2 (.inl ?_)
  have : (p.take j)[i]'(by simp; omega) = p[i] := by simp
  rw [← this]; exact List.getElem_mem _
theorem prm_rng {p : List Int} (h : Prm p) : ∀ x ∈ p, 0 ≤ x ∧ x < p.length := by
  intro x hx
  apply Decidable.byContradiction
  intro hn
  obtain ⟨j, hj, e⟩ := List.getElem_of_mem hx
  refine erase_all h.2 rfl hj (fun z hz ez => ?_)
  rw [e] at ez
  exact absurd ⟨by omega, by omega⟩ hn
theorem pms_mem {p : List Int} (h : Prm p) : p ∈ pms p.length := pmG_mem p.length p [] (prm_rng h) (by simpa using prm_nodup h)
def cdF : Int → List Int → Int
  | c, [] => c
  | c, x :: r => cdF (c * ((r.length : Int) + 1) + ((r.countP fun y => decide (y < x) : Nat) : Int)) r
def cod (p : List Int) : Int := cdF 0 p
def mny : Nat → Nat
  | 0 => 1
  | n + 1 => mny n * (n + 1)
def codOk (n : Nat) : Bool := decide ((pms n).map cod = (List.range (mny n)).map fun z : Nat => (z : Int))
theorem cod0 : codOk 0 = true := by decide +kernel
theorem cod1 : codOk 1 = true := by decide +kernel
theorem cod2 : codOk 2 = true := by decide +kernel
theorem cod3 : codOk 3 = true := by decide +kernel
theorem cod4 : codOk 4 = true := by decide +kernel
set_option maxRecDepth 20000 in
theorem cod5 : codOk 5 = true := by decide +kernel
set_option maxRecDepth 20000 in
theorem cod6 : codOk 6 = true := by decide +kernel
theorem cod_all {n : Nat} (hn : n ≤ 6) : (pms n).map cod = (List.range (mny n)).map fun z : Nat => (z : Int) := by
  have h : codOk n = true := by
    have : n = 0 ∨ n = 1 ∨ n = 2 ∨ n = 3 ∨ n = 4 ∨ n = 5 ∨ n = 6 := by omega
    rcases this with rfl | rfl | rfl | rfl | rfl | rfl | rfl
    · exact cod0
    · exact cod1
    · exact cod2
    · exact cod3
    · exact cod4
    · exact cod5
    · exact cod6
  exact of_decide_eq_true h
theorem inj_nd {α β : Type} {L : List α} {f : α → β} (h : (L.map f).Nodup) {a b : α} (ha : a ∈ L) (hb : b ∈ L) (e : f a = f b) : a = b := by
  obtain ⟨i, hi, ei⟩ := List.getElem_of_mem ha
  obtain ⟨j, hj, ej⟩ := List.getElem_of_mem hb
  rw [List.Nodup, List.pairwise_iff_getElem] at h
  rcases Nat.lt_trichotomy i j with hij | hij | hij
  · have := h i j (by simpa using hi) (by simpa using hj) hij
    simp only [List.getElem_map, ei, ej] at this
    exact absurd e this
  · subst hij; rw [← ei, ← ej]
  · have := h j i (by simpa using hj) (by simpa using hi) hij
    simp only [List.getElem_map, ei, ej] at this
    exact absurd e.symm this
theorem range_nd (m : Nat) : ((List.range m).map fun z : Nat => (z : Int)).Nodup := by
  rw [List.Nodup, List.pairwise_map]
  exact List.nodup_range.imp fun h e => h (by omega)
theorem cod_rng {p : List Int} (h : Prm p) (hl : p.length ≤ 6) : 0 ≤ cod p ∧ cod p < mny p.length := by
  have hm : cod p ∈ (pms p.length).map cod := List.mem_map.2 ⟨p, pms_mem h, rfl⟩
  rw [cod_all hl, List.mem_map] at hm
  obtain ⟨z, hz, e⟩ := hm
  have := List.mem_range.1 hz
  omega
theorem cod_inj {p q : List Int} (hp : Prm p) (hq : Prm q) (hl : p.length ≤ 6) (e : p.length = q.length) (hc : cod p = cod q) : p = q := by
  refine inj_nd (L := pms p.length) (f := cod) ?_ (pms_mem hp) (by rw [e]; exact pms_mem hq) hc
  rw [cod_all hl]; exact range_nd _
end Go.Proofs.Ytldcbmmmheookaa.Ai
namespace Go.Proofs.Ytldcbmmmheookaa.Ai
open Go
set_option linter.unusedVariables false
/-- the boards of a list that are not known yet, behind those that are -/
def bdIn (d : Int) : List (List Int) → List (List Int × Int) → List (List Int × Int)
  | [], st => st
  | b :: r, st => bdIn d r (if b ∈ st.map (·.1) then st else st ++ [(b, d)])
/-- boards of n places -/
def Bd (n : Nat) (p : List Int) : Prop := Prm p ∧ p.length = n
structure BdI (n : Nat) (nx : List Int → List (List Int)) (p : List Int) (st : List (List Int × Int)) (k : Nat) : Prop where
  ok : ∀ e ∈ st, Bd n e.1
  nd : (st.map (·.1)).Nodup
  rng : ∀ e ∈ st, 0 ≤ e.2 ∧ e.2 < st.length
  src : ∀ e ∈ st, e = (p, 0) ∨ ∃ u ∈ st, e.1 ∈ nx u.1 ∧ e.2 = u.2 + 1
  cl : ∀ j, j < k → ∀ b ∈ nx (st.getD j ([], 0)).1, b ∈ st.map (·.1)
  le : k ≤ st.length
  start : st.getD 0 ([], 0) = (p, 0) ∧ 0 < st.length
theorem nodupI_le : ∀ (n : Nat) (l : List Int), l.Nodup → (∀ x ∈ l, 0 ≤ x ∧ x < n) → l.length ≤ n
  | 0, l, _, h => by
    cases l with
    | nil => simp
    | cons a l => have := h a (by simp); omega
  | n + 1, l, hn, h => by
    have := nodupI_le n (l.erase (n : Int)) (hn.erase _) (fun x hx => by
      have h1 := h x (List.mem_of_mem_erase hx)
      have h2 : x ≠ n := fun e => by subst e; exact (hn.not_mem_erase) hx
      omega)
    have h3 : l.length ≤ (l.erase (n : Int)).length + 1 := by rw [List.length_erase]; split <;> omega
    omega
theorem BdI.len_le {n : Nat} (hn : n ≤ 6) {nx : List Int → List (List Int)} {p : List Int} {st : List (List Int × Int)} {k : Nat} (h : BdI n nx p st k) : st.length ≤ mny n := by
  have := nodupI_le (mny n) ((st.map (·.1)).map cod) (by
    rw [List.Nodup, List.pairwise_map]
    refine List.Pairwise.imp_of_mem ?_ h.nd
    intro a b ha hb hab e
    obtain ⟨u, hu, rfl⟩ := List.mem_map.1 ha
    obtain ⟨v, hv, rfl⟩ := List.mem_map.1 hb
    have h1 := h.ok u hu
    have h2 := h.ok v hv
    exact hab (cod_inj h1.1 h2.1 (by rw [h1.2]; exact hn) (by rw [h1.2, h2.2]) e)) (fun x hx => by
    obtain ⟨a, ha, rfl⟩ := List.mem_map.1 hx
    obtain ⟨u, hu, rfl⟩ := List.mem_map.1 ha
    have h1 := h.ok u hu
    have := cod_rng h1.1 (by rw [h1.2]; exact hn)
    rw [h1.2] at this; exact this)
  simpa using this
theorem bdIn_pre (d : Int) : ∀ (l : List (List Int)) (st : List (List Int × Int)), st <+: bdIn d l st
  | [], st => List.prefix_refl _
  | b :: r, st => by
    simp only [bdIn]
    split
    · exact bdIn_pre d r st
    · exact (List.prefix_append _ _).trans (bdIn_pre d r _)
theorem bdIn_mem (d : Int) : ∀ (l : List (List Int)) (st : List (List Int × Int)) (e : List Int × Int), e ∈ bdIn d l st → e ∈ st ∨ (e.2 = d ∧ e.1 ∈ l)
  | [], st, e, h => .inl h
  | b :: r, st, e, h => by
    simp only [bdIn] at h
    rcases bdIn_mem d r _ e h with h1 | ⟨h1, h2⟩
    · split at h1
      · exact .inl h1
      · rcases List.mem_append.1 h1 with h1 | h1
        · exact .inl h1
        · simp only [List.mem_cons, List.not_mem_nil, or_false] at h1
          subst h1; exact .inr ⟨rfl, by simp⟩
    · exact .inr ⟨h1, by simp [h2]⟩
theorem bdIn_get (d : Int) : ∀ (l : List (List Int)) (st : List (List Int × Int)), ∀ b ∈ l, b ∈ (bdIn d l st).map (·.1)
  | [], st, b, h => by simp at h
  | c :: r, st, b, h => by
    simp only [bdIn]
    rcases List.mem_cons.1 h with rfl | h
    · obtain ⟨t, ht⟩ := bdIn_pre d r (if b ∈ st.map (·.1) then st else st ++ [(b, d)])
      rw [← ht, List.map_append]
      refine List.mem_append.2 (.inl ?_)
      split
      · assumption
      · simp
    · exact bdIn_get d r _ b h
theorem bdIn_nd (d : Int) : ∀ (l : List (List Int)) (st : List (List Int × Int)), (st.map (·.1)).Nodup → ((bdIn d l st).map (·.1)).Nodup
  | [], st, h => h
  | b :: r, st, h => by
    simp only [bdIn]
    refine bdIn_nd d r _ ?_
    split
    · exact h
    · rename_i hb
      rw [List.map_append, List.Nodup, List.pairwise_append]
      refine ⟨h, by simp, fun x hx y hy e => ?_⟩
      simp only [List.map_cons, List.map_nil, List.mem_cons, List.not_mem_nil, or_false] at hy
      subst hy; subst e; exact hb hx
theorem BdI.step {n : Nat} {nx : List Int → List (List Int)} (hnx : ∀ b, Bd n b → ∀ c ∈ nx b, Bd n c) {p : List Int} {st : List (List Int × Int)} {k : Nat} (h : BdI n nx p st k) (hk : k < st.length) :
    BdI n nx p (bdIn ((st.getD k ([], 0)).2 + 1) (nx (st.getD k ([], 0)).1) st) (k + 1) := by
  have hm : st.getD k ([], 0) ∈ st := by simp [hk]
  generalize hu : st.getD k ([], 0) = u at *
  have hpre := bdIn_pre (u.2 + 1) (nx u.1) st
  have hle := hpre.length_le
  have keep : ∀ j, j < st.length → (bdIn (u.2 + 1) (nx u.1) st).getD j ([], 0) = st.getD j ([], 0) := by
    intro j hj
    obtain ⟨t, ht⟩ := hpre
    rw [← ht, List.getD_eq_getElem?_getD, List.getElem?_append_left hj, ← List.getD_eq_getElem?_getD]
  have hku := h.rng u hm
  have hgrow : ∀ e ∈ bdIn (u.2 + 1) (nx u.1) st, e ∉ st → st.length < (bdIn (u.2 + 1) (nx u.1) st).length := by
    intro e he hn
    obtain ⟨t, ht⟩ := hpre
    rw [← ht] at he ⊢
    rcases List.mem_append.1 he with h1 | h1
    · exact absurd h1 hn
    · rw [List.length_append]
      have := List.length_pos_of_mem h1
      omega
  refine ⟨?_, bdIn_nd _ _ _ h.nd, ?_, ?_, ?_, by omega, ?_⟩
  · intro e he
    rcases bdIn_mem _ _ _ e he with h1 | ⟨_, h2⟩
    · exact h.ok e h1
    · exact hnx u.1 (h.ok u hm) _ h2
  · intro e he
    by_cases h1 : e ∈ st
    · have := h.rng e h1; omega
    · have := hgrow e he h1
      rcases bdIn_mem _ _ _ e he with h3 | ⟨h3, _⟩
      · exact absurd h3 h1
      · omega
  · intro e he
    rcases bdIn_mem _ _ _ e he with h1 | ⟨h1, h2⟩
    · rcases h.src e h1 with h3 | ⟨v, h3, h4⟩
      · exact .inl h3
      · exact .inr ⟨v, hpre.subset h3, h4⟩
    · exact .inr ⟨u, hpre.subset hm, h2, h1⟩
  · intro j hj b hb
    rw [keep j (by omega)] at hb
    by_cases e : j = k
    · subst e; rw [hu] at hb
      exact bdIn_get _ _ _ b hb
    · have := h.cl j (by omega) b hb
      obtain ⟨e, h1, h2⟩ := List.mem_map.1 this
      exact List.mem_map.2 ⟨e, hpre.subset h1, h2⟩
  · exact ⟨by rw [keep 0 h.start.2]; exact h.start.1, by have := h.start.2; omega⟩
theorem BdI.zero {n : Nat} {nx : List Int → List (List Int)} {p : List Int} (hp : Bd n p) : BdI n nx p [(p, 0)] 0 := by
  refine ⟨fun e he => ?_, by simp, fun e he => ?_, fun e he => .inl (by simpa using he), fun j hj => absurd hj (Nat.not_lt_zero j), Nat.zero_le _, ⟨rfl, by simp⟩⟩
  · simp only [List.mem_cons, List.not_mem_nil, or_false] at he
    subst he; exact hp
  · simp only [List.mem_cons, List.not_mem_nil, or_false] at he
    subst he; simp
end Go.Proofs.Ytldcbmmmheookaa.Ai
namespace Go.Proofs.Ytldcbmmmheookaa.Ai
open Go
set_option linter.unusedVariables false
/-- is the hole at an edge -/
def holeB (p : List Int) (e : Int × Int) : Bool := decide (p.getD e.1.toNat 0 = 0) || decide (p.getD e.2.toNat 0 = 0)
def mvs (es : List (Int × Int)) (sl : Bool) (p : List Int) : List (Int × Int) := es.filter fun e => !sl || holeB p e
def nxt (es : List (Int × Int)) (sl : Bool) (p : List Int) : List (List Int) := (mvs es sl p).map fun e => swp p e.1.toNat e.2.toNat
end Go.Proofs.Ytldcbmmmheookaa.Ai
namespace Go.Proofs.Ytldcbmmmheookaa.Ai
open Go Go.RowKit
set_option linter.unusedVariables false
set_option linter.unusedSimpArgs false
/-- an object that is no row of ints -/
def NoInt (x : AObj) : Prop := ∀ vs ro, x ≠ .cells vs 3 ro
theorem Row.ne {H : AH} {v : Value} {xs : List Int} (h : Row 3 H v xs) {o : Nat} {x : AObj} (ho : H[o]? = some x) (hx : NoInt x) : v = .slice none 0 0 ∨ rowO v ≠ o := by
  rcases h with h | ⟨o', k, vs, ro, h1, h2, _⟩
  · exact .inl h.1
  · refine .inr fun e => ?_
    rw [h1] at e
    have e' : o' = o := e
    rw [e', ho] at h2
    exact hx vs ro (by simpa using h2)
theorem Row.but {H H' : AH} {v : Value} {xs : List Int} (h : Row 3 H v xs) {o : Nat} {x : AObj} (ho : H[o]? = some x) (hx : NoInt x) (hk : ∀ (j : Nat) (y : AObj), j ≠ o → H[j]? = some y → H'[j]? = some y) : Row 3 H' v xs := by
  rcases h.ne ho hx with g | g
  · exact .inl ⟨g, h.nilv g⟩
  · exact h.mono fun y hy => hk _ _ g hy
theorem noInt_ll (vs : List Value) (ro : Bool) : NoInt (.cells vs 27 ro) := fun ws r h => by
  simp only [AObj.cells.injEq] at h
  exact absurd h.2.1 (by decide)
/-- appending to a part of an object of values -/
theorem app_qV {P : Program} {t e : TypeId} (hu : P.underlying t = some (.slice e)) (hc : P.cellsOf e = 1) (hby : P.bytesOf e ≤ 64) (hz : zeroOk P e = true) {H : AH} {o k n c : Nat} {zs : List Value} {x : Value} (ho : H[o]? = some (.cells zs e false)) (hn : k + n ≤ zs.length) (hb : n ≤ 1099511627775) :
    appendA P t t (.slice (some ⟨o, k, none⟩) n c) (.slice (some ⟨H.length, 0, none⟩) 1 1) (H ++ [.cells [x] e false]) = some (.slice (some ⟨H.length + 1, 0, none⟩) (n + 1) (n + 1), H.set o .dead ++ [.cells [x] e false, .cells ((zs.drop k).take n ++ [x]) e false]) := by
  have hlt : o < H.length := at_lt ho
  have hb2 : (n + 1) * P.bytesOf e ≤ 140737488355328 := by
    refine Nat.le_trans (Nat.mul_le_mul_left _ hby) ?_
    omega
  have ho2 : (H ++ [AObj.cells [x] e false])[o]? = some (.cells zs e false) := at_app ho _
  have hsc : sliceCells P e (.slice (some ⟨H.length, 0, none⟩) 1 1) (H ++ [.cells [x] e false]) = some (1, [x]) := by
    simp only [sliceCells, at_new, hc]; simp
  simp only [appendA, hu, hc, hsc, ho2, hz]
  rw [if_pos (by simp), if_neg (by simp), if_pos ⟨trivial, by omega, hb2, by omega, trivial⟩]
  rw [Nat.mul_one, List.length_append, List.set_append_left _ _ hlt]
  simp
/-- a queue of boards in the heap -/
def QV (H : AH) (oq kq nq : Nat) (bs : List (List Int)) : Prop :=
  ∃ zs, H[oq]? = some (.cells zs 27 false) ∧ kq + nq ≤ zs.length ∧ nq = bs.length ∧ ∀ j, j < nq → Row 3 H (zs.getD (kq + j) undef) (bs.getD j [])
theorem QV.tail {H : AH} {oq kq nq : Nat} {b : List Int} {bs : List (List Int)} (h : QV H oq kq nq (b :: bs)) : QV H oq (kq + 1) (nq - 1) bs ∧ 0 < nq ∧ ∃ u, cellA H oq kq = some u ∧ Row 3 H u b := by
  obtain ⟨zs, h1, h2, h3, h4⟩ := h
  rw [List.length_cons] at h3
  refine ⟨⟨zs, h1, by omega, by omega, fun j hj => ?_⟩, by omega, zs.getD kq undef, ?_, ?_⟩
  · have := h4 (j + 1) (by omega)
    rw [show kq + (j + 1) = kq + 1 + j by omega] at this
    simpa using this
  · rw [cell_of h1]
    have : kq < zs.length := by omega
    simp [this]
  · have := h4 0 (by omega)
    simpa using this
theorem QV.but {H H' : AH} {oq kq nq : Nat} {bs : List (List Int)} (h : QV H oq kq nq bs) {o : Nat} {x : AObj} (ho : H[o]? = some x) (hx : NoInt x) (hq : oq ≠ o) (hk : ∀ (j : Nat) (y : AObj), j ≠ o → H[j]? = some y → H'[j]? = some y) : QV H' oq kq nq bs := by
  obtain ⟨zs, h1, h2, h3, h4⟩ := h
  exact ⟨zs, hk _ _ hq h1, h2, h3, fun j hj => (h4 j hj).but ho hx hk⟩
theorem QV.pre {H H' : AH} {oq kq nq : Nat} {bs : List (List Int)} (h : QV H oq kq nq bs) (hp : H <+: H') : QV H' oq kq nq bs := by
  obtain ⟨zs, h1, h2, h3, h4⟩ := h
  exact ⟨zs, pre_at hp h1, h2, h3, fun j hj => (h4 j hj).pre hp⟩
theorem QV.push {H : AH} {oq kq nq : Nat} {bs : List (List Int)} (h : QV H oq kq nq bs) {x : Value} {b : List Int} (hx : Row 3 H x b) (hb : nq ≤ 1099511627775) :
    ∃ H2, appendA Try.prog 38 38 (.slice (some ⟨oq, kq, none⟩) nq nq) (.slice (some ⟨H.length, 0, none⟩) 1 1) (H ++ [.cells [x] 27 false]) = some (.slice (some ⟨H.length + 1, 0, none⟩) (nq + 1) (nq + 1), H2) ∧
      QV H2 (H.length + 1) 0 (nq + 1) (bs ++ [b]) ∧ H2.length = H.length + 2 ∧ (∀ (j : Nat) (y : AObj), j ≠ oq → H[j]? = some y → H2[j]? = some y) := by
  obtain ⟨zs, h1, h2, h3, h4⟩ := h
  have k1 := app_qV (P := Try.prog) (t := 38) (k := kq) (n := nq) (c := nq) (x := x) Try.underlying38 cs27 (by rw [by27]; decide) zk27 h1 h2 hb
  have keep : ∀ (j : Nat) (y : AObj), j ≠ oq → H[j]? = some y → (H.set oq .dead ++ [AObj.cells [x] 27 false, .cells ((zs.drop kq).take nq ++ [x]) 27 false])[j]? = some y := fun j y hj hy => at_old hy (fun e => hj e.symm) _
  refine ⟨_, k1, ⟨(zs.drop kq).take nq ++ [x], at_new1 .., by simp; omega, by simp; omega, fun j hj => ?_⟩, by simp, keep⟩
  have hl : ((zs.drop kq).take nq).length = nq := by simp; omega
  rw [Nat.zero_add, List.getD_eq_getElem?_getD, List.getElem?_append, hl]
  by_cases hj2 : j < nq
  · have := h4 j hj2
    rw [if_pos hj2, List.getElem?_take, if_pos hj2, List.getElem?_drop, ← List.getD_eq_getElem?_getD]
    have e : (bs ++ [b]).getD j [] = bs.getD j [] := by
      rw [List.getD_eq_getElem?_getD, List.getElem?_append_left (by omega), ← List.getD_eq_getElem?_getD]
    rw [e]
    exact this.but h1 (noInt_ll _ _) keep
  · have e : (bs ++ [b]).getD j [] = b := by
      rw [List.getD_eq_getElem?_getD, List.getElem?_append_right (by omega), show j - bs.length = 0 by omega]; rfl
    rw [if_neg hj2, e, show j - nq = 0 by omega]
    exact hx.but h1 (noInt_ll _ _) keep
end Go.Proofs.Ytldcbmmmheookaa.Ai
namespace Go.Proofs.Ytldcbmmmheookaa.Ai
open Go Go.RowKit
set_option linter.unusedVariables false
set_option linter.unusedSimpArgs false
/-- a graph and a permutation of its nodes -/
def Tkn (n : Int) (es : List (Int × Int)) (p : List Int) : Prop := (Grd n es ∧ Prm p) ∧ (p.length : Int) = n
instance (n : Int) (es : List (Int × Int)) (p : List Int) : Decidable (Tkn n es p) := by unfold Tkn; infer_instance
/-- at most so many nodes -/
def Brd (n : Int) (es : List (Int × Int)) (p : List Int) : Prop := Tkn n es p ∧ (1 ≤ n ∧ n ≤ 6)
instance (n : Int) (es : List (Int × Int)) (p : List Int) : Decidable (Brd n es p) := by unfold Brd; infer_instance
def Fld (n : Int) (es : List (Int × Int)) (p : List Int) : Prop := Tkn n es p ∧ n ≤ 6
instance (n : Int) (es : List (Int × Int)) (p : List Int) : Decidable (Fld n es p) := by unfold Fld; infer_instance
end Go.Proofs.Ytldcbmmmheookaa.Ai
namespace Go.Proofs.Ytldcbmmmheookaa.Ai
open Go
def ords119 : List (Nat × List (Nat × Bool)) := []
def cd119 : Cd := (.seq (.reg [⟨⟨some 4, Op.assign (Operand.const (Value.int IntKind.i64 0)), none⟩, []⟩]) (.seq (.seq (.reg [⟨⟨some 5, Op.move (Operand.tmp 0), none⟩, []⟩,
  ⟨⟨some 6, Op.move (Operand.tmp 1), none⟩, []⟩,
  ⟨⟨some 7, Op.binOp BinOp.gtr 3 (Operand.tmp 5) (Operand.tmp 6) 3, none⟩, []⟩]) (.cond (Operand.tmp 7) (.seq (.reg [⟨⟨some 8, Op.move (Operand.tmp 0), none⟩, []⟩,
  ⟨⟨some 4, Op.assign (Operand.tmp 8), none⟩, []⟩]) .ret) .skip)) (.seq (.reg [⟨⟨some 9, Op.move (Operand.tmp 1), none⟩, []⟩,
  ⟨⟨some 4, Op.assign (Operand.tmp 9), none⟩, []⟩]) .ret)))
theorem sl119 : slim Try.f119.ntmps ords119 (Try.f119.body.getD .skip) = some cd119 := by kernel_rfl
theorem in119 {args : List Value} {H : AH} {R : Value → AH → Prop} (hl : args.length = 2) (h : ∀ (Q : Exit → Sl → AH → Prop), (∀ e s H, endA Try.prog [ResultVar.tmp 4] R e s H → Q e s H) → wpC Try.prog cd119 Q (enterA args) H) : ACalls Try.prog 119 args H R :=
  ACalls.intro (by kernel_rfl) Try.func119 rfl (by kernel_rfl) sl119 hl (of_decide_eq_true (by kernel_rfl)) (by kernel_rfl) h
end Go.Proofs.Ytldcbmmmheookaa.Ai
namespace Go.Proofs.Ytldcbmmmheookaa.Ai
open Go Go.RowKit
set_option linter.unusedVariables false
set_option linter.unusedSimpArgs false
theorem l1MostK_c (a b : Int) (H : AH) : ACalls Try.prog 119 [.int .i64 a, .int .i64 b] H fun r H' => r = .int .i64 (if b < a then a else b) ∧ H = H' := by
  refine in119 rfl ?_
  intro Q hQ
  simp (maxSteps := 1000000) (disch := omega) only [cd119, S, S1, S2, S3, S4, S5, ST, eq_self, reduceIte, reduceCtorEq, Nat.reduceEqDiff, Nat.reduceAdd]
  refine brD.intro (fun e => ?_) (fun e => ?_) <;> simp (maxSteps := 1000000) (disch := omega) only [S, S1, S2, S3, S4, S5, ST, eq_self, reduceIte, reduceCtorEq, Nat.reduceEqDiff, Nat.reduceAdd]
  · refine hQ _ _ _ ?_
    simp (maxSteps := 1000000) (disch := omega) only [if_pos e, S, S1, S2, S3, S4, S5, ST, eq_self, reduceIte, reduceCtorEq, Nat.reduceEqDiff, Nat.reduceAdd]
  · refine hQ _ _ _ ?_
    simp (maxSteps := 1000000) (disch := omega) only [if_neg e, S, S1, S2, S3, S4, S5, ST, eq_self, reduceIte, reduceCtorEq, Nat.reduceEqDiff, Nat.reduceAdd]
/-- a queue of boards, none of which lies in an object -/
def QA (H : AH) (so oq nq : Nat) (bs : List (List Int)) : Prop :=
  ∃ zs, H[oq]? = some (.cells zs 27 false) ∧ nq ≤ zs.length ∧ nq = bs.length ∧ ∀ j, j < nq → Row 3 H (zs.getD j undef) (bs.getD j []) ∧ (zs.getD j undef = .slice none 0 0 ∨ rowO (zs.getD j undef) ≠ so)
theorem QA.pre {H H' : AH} {so oq nq : Nat} {bs : List (List Int)} (h : QA H so oq nq bs) (hp : H <+: H') : QA H' so oq nq bs := by
  obtain ⟨zs, h1, h2, h3, h4⟩ := h
  exact ⟨zs, pre_at hp h1, h2, h3, fun j hj => ⟨(h4 j hj).1.pre hp, (h4 j hj).2⟩⟩
theorem QA.set {H H' : AH} {so oq nq : Nat} {bs : List (List Int)} (h : QA H so oq nq bs) (hq : oq ≠ so) (hk : ∀ (j : Nat) (y : AObj), j ≠ so → H[j]? = some y → H'[j]? = some y) : QA H' so oq nq bs := by
  obtain ⟨zs, h1, h2, h3, h4⟩ := h
  refine ⟨zs, hk _ _ hq h1, h2, h3, fun j hj => ?_⟩
  obtain ⟨g1, g2⟩ := h4 j hj
  refine ⟨?_, g2⟩
  rcases g2 with g | g
  · exact .inl ⟨g, g1.nilv g⟩
  · exact g1.mono fun y hy => hk _ _ g hy
theorem QA.at_ {H : AH} {so oq nq : Nat} {bs : List (List Int)} (h : QA H so oq nq bs) {j : Nat} (hj : j < nq) : ∃ u, cellA H oq j = some u ∧ Row 3 H u (bs.getD j []) := by
  obtain ⟨zs, h1, h2, h3, h4⟩ := h
  refine ⟨zs.getD j undef, ?_, (h4 j hj).1⟩
  rw [cell_of h1]
  have : j < zs.length := by omega
  simp [this]
theorem QA.push {H : AH} {so oq nq : Nat} {bs : List (List Int)} (h : QA H so oq nq bs) {x : Value} {b : List Int} (hx : Row 3 H x b) (hxs : x = .slice none 0 0 ∨ rowO x ≠ so) (hb : nq ≤ 1099511627775) :
    ∃ H2, appendA Try.prog 38 38 (.slice (some ⟨oq, 0, none⟩) nq nq) (.slice (some ⟨H.length, 0, none⟩) 1 1) (H ++ [.cells [x] 27 false]) = some (.slice (some ⟨H.length + 1, 0, none⟩) (nq + 1) (nq + 1), H2) ∧
      QA H2 so (H.length + 1) (nq + 1) (bs ++ [b]) ∧ H2.length = H.length + 2 ∧ (∀ (j : Nat) (y : AObj), j ≠ oq → H[j]? = some y → H2[j]? = some y) := by
  obtain ⟨zs, h1, h2, h3, h4⟩ := h
  have k1 := app_qV (P := Try.prog) (t := 38) (k := 0) (n := nq) (c := nq) (x := x) Try.underlying38 cs27 (by rw [by27]; decide) zk27 h1 (by omega) hb
  have keep : ∀ (j : Nat) (y : AObj), j ≠ oq → H[j]? = some y → (H.set oq .dead ++ [AObj.cells [x] 27 false, .cells ((zs.drop 0).take nq ++ [x]) 27 false])[j]? = some y := fun j y hj hy => at_old hy (fun e => hj e.symm) _
  refine ⟨_, k1, ⟨(zs.drop 0).take nq ++ [x], at_new1 .., by simp; omega, by simp; omega, fun j hj => ?_⟩, by simp, keep⟩
  rw [List.drop_zero]
  have hl : (zs.take nq).length = nq := by simp; omega
  rw [List.getD_eq_getElem?_getD, List.getElem?_append, hl]
  by_cases hj2 : j < nq
  · obtain ⟨g1, g2⟩ := h4 j hj2
    rw [if_pos hj2, List.getElem?_take, if_pos hj2, ← List.getD_eq_getElem?_getD]
    have e : (bs ++ [b]).getD j [] = bs.getD j [] := by
      rw [List.getD_eq_getElem?_getD, List.getElem?_append_left (by omega), ← List.getD_eq_getElem?_getD]
    rw [e]
    exact ⟨g1.but h1 (noInt_ll _ _) (by simpa using keep), g2⟩
  · have e : (bs ++ [b]).getD j [] = b := by
      rw [List.getD_eq_getElem?_getD, List.getElem?_append_right (by omega), show j - bs.length = 0 by omega]; rfl
    rw [if_neg hj2, e, show j - nq = 0 by omega]
    exact ⟨hx.but h1 (noInt_ll _ _) (by simpa using keep), hxs⟩
end Go.Proofs.Ytldcbmmmheookaa.Ai
namespace Go.Proofs.Ytldcbmmmheookaa.Ai
open Go
def ords81 : List (Nat × List (Nat × Bool)) := []
def cd81 : Cd := (.seq (.reg [⟨⟨some 2, Op.alloc 26, none⟩, []⟩]) (.seq (.reg [⟨⟨some 3, Op.move (Operand.tmp 0), none⟩, []⟩,
  ⟨⟨some 4, Op.call { callee := (Callee.value (Operand.func 116)), args := #[(Operand.tmp 3), (Operand.const (Value.int IntKind.i64 6))], argTypes := #[58, 3] }, none⟩, []⟩,
  ⟨⟨none, Op.store 26 (Operand.tmp 2) (Operand.tmp 4), none⟩, []⟩]) .ret))
theorem sl81 : slim Try.f81.ntmps ords81 (Try.f81.body.getD .skip) = some cd81 := by kernel_rfl
set_option maxRecDepth 20000 in
theorem in81 {args : List Value} {H : AH} {R : Value → AH → Prop} (hl : args.length = 1) (h : ∀ (Q : Exit → Sl → AH → Prop), (∀ e s H, endA Try.prog [ResultVar.cell 2 26] R e s H → Q e s H) → wpC Try.prog cd81 Q (enterA args) H) : ACalls Try.prog 81 args H R :=
  ACalls.intro (by kernel_rfl) Try.func81 rfl (by kernel_rfl) sl81 hl (of_decide_eq_true (by kernel_rfl)) (by kernel_rfl) h
def ords85 : List (Nat × List (Nat × Bool)) := []
def cd85 : Cd := (.seq (.reg [⟨⟨some 3, Op.box 26 (Operand.tmp 1), none⟩, []⟩,
  ⟨⟨some 4, Op.assign (Operand.const (Value.slice none 0 0)), none⟩, []⟩]) (.seq (.reg [⟨⟨some 6, Op.fieldAddr 26 (Operand.tmp 3) 0, none⟩, []⟩,
  ⟨⟨some 7, Op.load 3 (Operand.tmp 6), none⟩, []⟩,
  ⟨⟨some 8, Op.call { callee := (Callee.value (Operand.func 86)), args := #[(Operand.tmp 7), (Operand.const (Value.int IntKind.i64 8))], argTypes := #[3, 3] }, none⟩, []⟩,
  ⟨⟨some 9, Op.call { callee := (Callee.value (Operand.func 119)), args := #[(Operand.tmp 8), (Operand.const (Value.int IntKind.i64 0))], argTypes := #[3, 3] }, none⟩, []⟩,
  ⟨⟨some 10, Op.move (Operand.tmp 0), none⟩, []⟩,
  ⟨⟨some 11, Op.call { callee := (Callee.value (Operand.func 84)), args := #[(Operand.tmp 10), (Operand.const (Value.int IntKind.i64 256))], argTypes := #[58, 3] }, none⟩, []⟩,
  ⟨⟨some 12, Op.call { callee := (Callee.value (Operand.func 99)), args := #[(Operand.tmp 9), (Operand.tmp 11)], argTypes := #[3, 3] }, none⟩, []⟩,
  ⟨⟨some 5, Op.assign (Operand.tmp 12), none⟩, []⟩]) (.seq (.seq (.reg [⟨⟨some 13, Op.move (Operand.tmp 0), none⟩, []⟩,
  ⟨⟨some 14, Op.call { callee := (Callee.value (Operand.func 80)), args := #[(Operand.tmp 13), (Operand.const (Value.int IntKind.i64 20))], argTypes := #[58, 3] }, none⟩, []⟩]) (.cond (Operand.tmp 14) (.reg [⟨⟨some 15, Op.move (Operand.tmp 5), none⟩, []⟩,
  ⟨⟨some 16, Op.move (Operand.tmp 0), none⟩, []⟩,
  ⟨⟨some 17, Op.buildSlice 27 3 #[(0, (Operand.const (Value.int IntKind.i64 (-1)))), (1, (Operand.const (Value.int IntKind.i64 0))), (2, (Operand.const (Value.int IntKind.i64 8)))], none⟩, []⟩,
  ⟨⟨some 18, Op.call { callee := (Callee.value (Operand.func 82)), args := #[(Operand.tmp 16), (Operand.tmp 17)], argTypes := #[58, 27] }, none⟩, []⟩,
  ⟨⟨some 19, Op.buildSlice 27 1 #[(0, (Operand.tmp 18))], none⟩, []⟩,
  ⟨⟨some 20, Op.call { callee := (Callee.builtin Builtin.append), args := #[(Operand.tmp 15), (Operand.tmp 19)], argTypes := #[27, 27] }, none⟩, []⟩,
  ⟨⟨some 5, Op.assign (Operand.tmp 20), none⟩, []⟩]) .skip)) (.seq (.reg [⟨⟨some 21, Op.move (Operand.tmp 5), none⟩, []⟩,
  ⟨⟨some 4, Op.assign (Operand.tmp 21), none⟩, []⟩]) .ret))))
theorem sl85 : slim Try.f85.ntmps ords85 (Try.f85.body.getD .skip) = some cd85 := by kernel_rfl
theorem in85 {args : List Value} {H : AH} {R : Value → AH → Prop} (hl : args.length = 2) (h : ∀ (Q : Exit → Sl → AH → Prop), (∀ e s H, endA Try.prog [ResultVar.tmp 4] R e s H → Q e s H) → wpC Try.prog cd85 Q (enterA args) H) : ACalls Try.prog 85 args H R :=
  ACalls.intro (by kernel_rfl) Try.func85 rfl (by kernel_rfl) sl85 hl (of_decide_eq_true (by kernel_rfl)) (by kernel_rfl) h
end Go.Proofs.Ytldcbmmmheookaa.Ai
namespace Go.Proofs.Ytldcbmmmheookaa.Ai
open Go Go.RowKit
set_option linter.unusedVariables false
set_option linter.unusedSimpArgs false
theorem GSt.putc {H : AH} {o gp : Nat} {v : Value} {us : List Value} {N0 : Nat} (h : Cur H o v us N0) (ho : o < H.length) (hgp : H.length < gp) {N1 L1 : Nat} {K1 : AH} (a b : Int) (hG : GSt H o gp v us N1 L1 K1) (hL : L1 ≤ 500) (hab : (-1 ≤ a ∧ a ≤ 9) ∧ -1 ≤ b ∧ b ≤ 9) :
    ∃ n' w', cellA K1 gp 1 = some w' ∧ K1[gp]? = some (.cells [.int .i64 n', w'] 26 false) ∧ ACalls Try.prog 83 [w', .agg (List.toArray [.int .i64 a, .int .i64 b])] K1 fun r K2 => ∃ K3, storeA Try.prog 24 (.pointer (some ⟨gp, 1, none⟩)) r K2 = some K3 ∧ isTup r = false ∧ GSt H o gp v us N1 (L1 + 1) K3 ∧ K3[gp]? = some (.cells [.int .i64 n', r] 26 false) := by
  obtain ⟨n', w', ps, q1, q2, q3, q4, q5, q6, q7, q8, q9, q10⟩ := hG
  refine ⟨n', w', cell_of q2 1, q2, (l2PutPair_c w' ps a b q3 (by have := q10.1; omega) (by omega)).mono fun r K2 hr => ?_⟩
  obtain ⟨qs, r1, r2, r3, r4, r5⟩ := hr
  have lgp := at_lt q2
  have r6 : rowO r ≠ gp := by
    rcases r4 with e | e
    · rw [e]; exact q4
    · omega
  have r7 : rowO r ≠ H.length ∨ r = .slice none 0 0 := by
    rcases r4 with e | e
    · rw [e]; exact q5
    · exact .inl (by omega)
  obtain ⟨q, hq⟩ := r1.row.shape
  have t2 : r.cells.toList = [r] := by rw [hq]; rfl
  have hst := st_at (P := Try.prog) (t := 24) (i := 1) (y := r) cs24 (pre_at r5 q2) (by show 1 < 2; decide) r1.row.tup t2
  exact ⟨_, hst, r1.row.tup, GSt.put h ho hgp q1 q2 q3 q4 q5 (fun j y _ hy => pre_at r5 hy) r5.length_le r1 r6 r7 q6 (by omega : qs.length ≤ L1 + 1) (fun y hy => by
    rcases r3 y hy with e | e
    · exact q8 y e
    · rw [e]; exact hab) q9 q10, List.getElem?_set_self (at_lt (pre_at r5 q2))⟩
theorem GSt.cr {H : AH} {o gp : Nat} {v : Value} {us : List Value} {N L : Nat} {H' : AH} (h : GSt H o gp v us N L H') : Cur H' o v us N := by
  obtain ⟨_, _, _, _, _, _, _, _, _, _, _, q, _⟩ := h
  exact q
theorem own_slD {e : TypeId} {H0 H : AH} {v : Value} {xs : List Int} (h : Own e H0 H v xs) (hn : 0 < xs.length) : ∃ o, v = .slice (some ⟨o, 0, none⟩) xs.length xs.length ∧ H0.length ≤ o ∧ H[o]? = some (.cells (ints xs) e false) := by
  rcases h with ⟨_, h⟩ | ⟨o, h1, h2, h3⟩
  · rw [h] at hn; simp at hn
  · exact ⟨o, h1, h2, h3⟩
theorem graph_c {H : AH} {o : Nat} {v : Value} {us : List Value} {N : Nat} (h : Cur H o v us N) (hN : N ≤ 100000000) :
    ACalls Try.prog 81 [.pointer (some ⟨o, 0, none⟩)] H fun r H' => ∃ (n : Int) (w : Value) (ps : List (Int × Int)), r = .agg (List.toArray [.int .i64 n, w]) ∧ MineP 71 H H' w ps ∧ I64 n ∧ ps.length ≤ 200 ∧ Sml ps ∧ Cur H' o v us (N + 1000) ∧ Keeps o H H' := by
  have ho : o < H.length := by
    obtain ⟨_, _, g, _⟩ := h.cur
    exact at_lt g
  refine in81 rfl ?_
  intro Q hQ
  simp (maxSteps := 1000000) (disch := omega) only [cd81, alloc_G, S, S1, S2, S3, S4, S5, ST, eq_self, reduceIte, reduceCtorEq, Nat.reduceEqDiff, Nat.reduceAdd]
  generalize hA : H ++ [AObj.cells [.int .i64 0, .slice none 0 0] 26 false] = A
  have pA : H <+: A := by rw [← hA]; exact List.prefix_append _ _
  have cA : A[H.length]? = some (.cells [.int .i64 0, .slice none 0 0] 26 false) := by rw [← hA]; exact at_new ..
  have lA : A.length = H.length + 1 := by rw [← hA]; simp
  refine CallH.by (someGraph_c (h.pre pA) hN 6 (by omega)) ?_
  rintro _ K ⟨n, w, ps, rfl, hm, hn, hl, hs, hC, hK⟩
  have c1 := hK.2 _ _ (by omega) cA
  have hst := st_G hm.row c1 rfl n
  simp (maxSteps := 1000000) (disch := omega) only [hst, S, S1, S2, S3, S4, S5, ST, eq_self, reduceIte, reduceCtorEq, Nat.reduceEqDiff, Nat.reduceAdd]
  have d4 := at_set (d := .cells [.int .i64 n, w] 26 false) c1
  have at_ : ∀ {j : Nat} {y : AObj}, j ≠ H.length → K[j]? = some y → (K.set H.length (.cells [.int .i64 n, w] 26 false))[j]? = some y := fun hj hy => by rw [List.getElem?_set_ne (fun e => hj e.symm)]; exact hy
  obtain ⟨a, sd, c1', c2, c3⟩ := hC.cur
  refine hQ _ _ _ (end_cell _ _ _ _ _ _ (.agg (List.toArray [.int .i64 n, w])) ?_ rfl ⟨n, w, ps, rfl, ?_, hn, hl, hs, ⟨⟨a, sd, at_ (by omega) c1', c2, c3⟩, hC.row.mono fun y hy => at_ ?_ hy, hC.byt, hC.ap, hC.le⟩, ⟨by have := hK.1; simp; omega, fun j y hj hy => at_ (by have := at_lt hy; omega) (hK.2 j y hj (pre_at pA hy))⟩⟩)
  · simp (maxSteps := 1000000) (disch := omega) only [ld_agg ag26 cs26 d4, S, S1, S2, S3, S4, S5, ST, eq_self, reduceIte, reduceCtorEq, Nat.reduceEqDiff, Nat.reduceAdd]
  · rcases hm with z | ⟨q, zs, z1, z2, z3, z4⟩
    · exact .inl z
    · exact .inr ⟨q, zs, z1, by omega, at_ (by omega) z3, z4⟩
  · rcases h.row with q | ⟨o', k', vs', ro', e1, g2, _⟩
    · rw [q.1]
      show (0 : Nat) ≠ H.length
      omega
    · rw [e1]
      have := at_lt g2
      show o' ≠ H.length
      omega
set_option maxRecDepth 20000 in
set_option maxHeartbeats 2000000 in
theorem nodes_c {H : AH} {o : Nat} {v w : Value} {us : List Value} {N : Nat} {ps : List (Int × Int)} (h : Cur H o v us N) (hN : N ≤ 100000000) (n : Int) (hw : RowP 71 H w ps) :
    ACalls Try.prog 85 [.pointer (some ⟨o, 0, none⟩), .agg (List.toArray [.int .i64 n, w])] H fun r H' => ∃ xs : List Int, Own 3 H H' r xs ∧ xs.length ≤ 9 ∧ (∀ y ∈ xs, -1 ≤ y ∧ y ≤ 8) ∧ Cur H' o v us (N + 4) ∧ Keeps o H H' := by
  have ho : o < H.length := by
    obtain ⟨_, _, g, _⟩ := h.cur
    exact at_lt g
  refine in85 rfl ?_
  intro Q hQ
  simp (maxSteps := 1000000) (disch := omega) only [cd85, hw.boxG, S, S1, S2, S3, S4, S5, ST, eq_self, reduceIte, reduceCtorEq, Nat.reduceEqDiff, Nat.reduceAdd]
  generalize hA : H ++ [AObj.cells [.int .i64 n, w] 26 false] = A
  have pA : H <+: A := by rw [← hA]; exact List.prefix_append _ _
  have cA : A[H.length]? = some (.cells [.int .i64 n, w] 26 false) := by rw [← hA]; exact at_new ..
  have rA := hw.pre pA
  simp (maxSteps := 1000000) (disch := omega) only [cell_of cA, S, S1, S2, S3, S4, S5, ST, eq_self, reduceIte, reduceCtorEq, Nat.reduceEqDiff, Nat.reduceAdd]
  refine CallH.by (l1Least_c n 8 A) ?_
  rintro _ _ ⟨rfl, rfl⟩
  simp (maxSteps := 1000000) (disch := omega) only [S, S1, S2, S3, S4, S5, ST, eq_self, reduceIte, reduceCtorEq, Nat.reduceEqDiff, Nat.reduceAdd]
  refine CallH.by (l1MostK_c _ 0 A) ?_
  rintro _ _ ⟨rfl, rfl⟩
  obtain ⟨m, hm, hm8⟩ : ∃ m : Nat, (if (0 : Int) < (if n < 8 then n else 8) then (if n < 8 then n else 8) else 0) = (m : Int) ∧ m ≤ 8 := by
    by_cases e : n < 8
    · rw [if_pos e]
      by_cases e2 : 0 < n
      · rw [if_pos e2]; exact ⟨n.toNat, by omega, by omega⟩
      · rw [if_neg e2]; exact ⟨0, rfl, by omega⟩
    · rw [if_neg e, if_pos (by omega)]; exact ⟨8, rfl, by omega⟩
  rw [hm]
  simp (maxSteps := 1000000) (disch := omega) only [S, S1, S2, S3, S4, S5, ST, eq_self, reduceIte, reduceCtorEq, Nat.reduceEqDiff, Nat.reduceAdd]
  refine CallH.by (pick2_c (h.pre pA) (by omega) 256 (by omega)) ?_
  rintro _ B ⟨⟨k, rfl, hk⟩, hCB, oB⟩
  simp (maxSteps := 1000000) (disch := omega) only [S, S1, S2, S3, S4, S5, ST, eq_self, reduceIte, reduceCtorEq, Nat.reduceEqDiff, Nat.reduceAdd]
  refine CallH.by (l2BitsA_c (m : Int) k B (by omega) (by omega)) ?_
  rintro u C ⟨hu, pC⟩
  rw [Int.toNat_natCast] at hu
  have hbl := bitsL_len m k
  have kAC : Keeps o H C := (Keeps.of_pre pA).trans (oB.keeps.trans (.of_pre pC))
  have lB : B.length = A.length := oB.1
  have lA := pA.length_le
  have hu0 : Own 3 H C u (bitsL m k) := ownB hu (by omega)
  simp (maxSteps := 1000000) (disch := omega) only [S, S1, S2, S3, S4, S5, ST, eq_self, reduceIte, reduceCtorEq, Nat.reduceEqDiff, Nat.reduceAdd]
  refine CallH.by (one_c (hCB.pre pC) (by omega) 20 (by omega)) ?_
  rintro _ D ⟨⟨b, rfl⟩, hCD, oD⟩
  have huD := hu0.keeps oD.keeps ho
  simp (maxSteps := 1000000) (disch := omega) only [S, S1, S2, S3, S4, S5, ST, eq_self, reduceIte, reduceCtorEq, Nat.reduceEqDiff, Nat.reduceAdd]
  cases b with
  | false =>
    refine brH.intro (fun q => by cases q) (fun _ => ?_)
    simp (maxSteps := 1000000) (disch := omega) only [S, S1, S2, S3, S4, S5, ST, eq_self, reduceIte, reduceCtorEq, Nat.reduceEqDiff, Nat.reduceAdd]
    refine hQ _ _ _ ?_
    simp (maxSteps := 1000000) (disch := omega) only [huD.row.tup, S, S1, S2, S3, S4, S5, ST, eq_self, reduceIte, reduceCtorEq, Nat.reduceEqDiff, Nat.reduceAdd]
    exact ⟨_, huD, by omega, fun y hy => by have := bitsL_mem hy; omega, hCD.more (by omega), kAC.trans oD.keeps⟩
  | true =>
    refine brH.intro (fun _ => ?_) (fun q => by cases q)
    have blK1 : ∀ H0 : AH, buildSliceA Try.prog 27 3 [(0, .int .i64 (-1)), (1, .int .i64 0), (2, .int .i64 8)] H0 = some (.slice (some ⟨H0.length, 0, none⟩) 3 3, H0 ++ [.cells [.int .i64 (-1), .int .i64 0, .int .i64 8] 3 false]) := fun H0 => by kernel_rfl
    simp (maxSteps := 1000000) (disch := omega) only [blK1, S, S1, S2, S3, S4, S5, ST, eq_self, reduceIte, reduceCtorEq, Nat.reduceEqDiff, Nat.reduceAdd]
    generalize hK1 : D ++ [AObj.cells [.int .i64 (-1), .int .i64 0, .int .i64 8] 3 false] = K1
    have pK1 : D <+: K1 := by rw [← hK1]; exact List.prefix_append _ _
    have aK1 : K1[D.length]? = some (.cells [.int .i64 (-1), .int .i64 0, .int .i64 8] 3 false) := by rw [← hK1]; exact at_new ..
    have wK1 : Row 3 K1 (.slice (some ⟨D.length, 0, none⟩) 3 3) [-1, 0, 8] := .inr ⟨D.length, 0, _, false, rfl, aK1, by simp, rfl⟩
    have lD := oD.1
    have lC := pC.length_le
    refine CallH.by (among_c (hCD.pre pK1) (by omega) wK1 (by show D.length ≠ o; omega) (by simp)) ?_
    rintro _ L ⟨⟨x, rfl, hx⟩, hCL, oL⟩
    have huL := (huD.pre pK1).keeps oL.keeps ho
    have kHL := kAC.trans (oD.keeps.trans ((Keeps.of_pre pK1).trans oL.keeps))
    obtain ⟨H0, hp0, hb0⟩ : ∃ H0 : AH, H0 <+: L ∧ H0.length = H.length := ⟨L.take H.length, List.take_prefix _ _, by have := kHL.1; simp; omega⟩
    have huL0 : Own 3 H0 L u (bitsL m k) := ownB huL (by omega)
    obtain ⟨w', M, a1, a2, a3, a4, a5, a6⟩ := own1_27 huL0 hp0 (by omega) x
    have a2' : Own 3 H M w' (bitsL m k ++ [x]) := ownB a2 (by omega)
    have low : u = .slice none 0 0 ∨ H.length ≤ rowO u := by
      rcases huL with ⟨q, _⟩ | ⟨q, q1, q2, _⟩
      · exact .inl q
      · exact .inr (by rw [q1]; exact q2)
    have old : ∀ {j : Nat} {y : AObj}, j < H.length → L[j]? = some y → M[j]? = some y := fun {j y} hj hy => a4 _ _ (by
      rcases low with e | e
      · exact .inl e
      · exact .inr (by omega)) hy
    have lML : L.length ≤ M.length := by
      obtain ⟨q, q1, q2, q3⟩ := own_slD a2' (by simp)
      have := at_lt q3
      rw [q1] at a5
      have a5' : L.length ≤ q := a5
      omega
    obtain ⟨a, sd, c1, c2, c3⟩ := hCL.cur
    simp (maxSteps := 1000000) (disch := omega) only [a1, S, S1, S2, S3, S4, S5, ST, eq_self, reduceIte, reduceCtorEq, Nat.reduceEqDiff, Nat.reduceAdd]
    refine hQ _ _ _ ?_
    simp (maxSteps := 1000000) (disch := omega) only [a6, S, S1, S2, S3, S4, S5, ST, eq_self, reduceIte, reduceCtorEq, Nat.reduceEqDiff, Nat.reduceAdd]
    refine ⟨_, a2', by simp; omega, fun y hy => ?_, ⟨⟨a, sd, old ho c1, by omega, c3⟩, hCL.row.mono fun y hy => old ?_ hy, hCL.byt, hCL.ap, hCL.le⟩, ⟨by have := kHL.1; omega, fun j y hj hy => old (at_lt hy) (kHL.2 j y hj hy)⟩⟩
    · rcases List.mem_append.1 hy with e | e
      · have := bitsL_mem e; omega
      · rw [List.mem_singleton] at e
        subst e
        simp at hx; omega
    · rcases h.row with q | ⟨o', k', vs', ro', e1, g2, _⟩
      · rw [q.1]
        show (0 : Nat) < H.length
        omega
      · rw [e1]
        exact at_lt g2
end Go.Proofs.Ytldcbmmmheookaa.Ai
namespace Go.Proofs.Ytldcbmmmheookaa.Ai
open Go
end Go.Proofs.Ytldcbmmmheookaa.Ai
namespace Go.Proofs.Ytldcbmmmheookaa.Ai
open Go Go.RowKit
set_option linter.unusedVariables false
set_option linter.unusedSimpArgs false
/-- the order of lists -/
def cmpL : List Int → List Int → Int
  | [], [] => 0
  | [], _ :: _ => -1
  | _ :: _, [] => 1
  | a :: xs, b :: ys => if cmpI a b ≠ 0 then cmpI a b else cmpL xs ys
/-- in strict order -/
def SrtL (ls : List (List Int)) : Prop := ∀ i j, i < j → j < ls.length → 0 < cmpL (ls.getD j []) (ls.getD i [])
/-- such lists in memory -/
structure Sts (H : AH) (v : Value) (us : List Value) (ls : List (List Int)) : Prop where
  row : RowV 27 H v us
  len : us.length = ls.length
  each : ∀ i, i < ls.length → Row 3 H (us.getD i undef) (ls.getD i [])
  small : ∀ i, i < ls.length → (ls.getD i []).length ≤ 1099511627776
  bnd : ls.length ≤ 60000
  srt : SrtL ls
theorem Sts.pre {H H' : AH} {v : Value} {us : List Value} {ls : List (List Int)} (h : Sts H v us ls) (hp : H <+: H') : Sts H' v us ls := ⟨h.row.pre hp, h.len, fun i hi => (h.each i hi).pre hp, h.small, h.bnd, h.srt⟩
theorem cmpL_self : ∀ xs : List Int, cmpL xs xs = 0
  | [] => rfl
  | a :: xs => by
    have : cmpI a a = 0 := by unfold cmpI; rw [if_neg (by omega), if_neg (by omega)]
    rw [cmpL, if_neg (by rw [this]; decide)]; exact cmpL_self xs
theorem Sts.le {H : AH} {v : Value} {us : List Value} {ls : List (List Int)} (h : Sts H v us ls) {i j : Nat} (hij : i ≤ j) (hj : j < ls.length) : ¬ cmpL (ls.getD j []) (ls.getD i []) < 0 := by
  by_cases e : i = j
  · subst e; rw [cmpL_self]; omega
  · have := h.srt i j (by omega) hj; omega
section
variable {v : Value} {us : List Value} {ls : List (List Int)} {H : AH}
theorem Sts.cell (h : Sts H v us ls) {i : Nat} (hi : i < ls.length) : cellA H (rowO v) (rowK v + i) = some (us.getD i undef) := h.row.cell (by have := h.len; omega)
end
end Go.Proofs.Ytldcbmmmheookaa.Ai
