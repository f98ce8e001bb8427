/- SlidePlan, SlideDistance: spec's side. -/
import Derived.Test.YthhnpchjjbjabaaSld
import Derived.Test.YthhnpchjjbjabaaProg
import Derived.Test.YthhnpchjjbjabaaAiM2
import Derived.KernelRfl
/- Slim code of this translation. By the kernel. -/
namespace Go.Proofs.Ythhnpchjjbjabaa.Ai
open Go

/- loop.example/g01128/spec.SlidePlan -/
def ords51 : List (Nat × List (Nat × Bool)) := [(12, [(0, false), (1, false), (2, false), (3, false), (4, false), (5, false), (6, false), (7, false), (8, false), (9, false), (10, false), (11, false), (12, false), (13, true)])]
def cd51 : Cd := (.seq (.reg [⟨⟨some 3, Op.box 28 (Operand.tmp 0), none⟩, []⟩,
  ⟨⟨some 6, Op.assign (Operand.const (Value.slice none 0 0)), none⟩, []⟩,
  ⟨⟨some 7, Op.assign (Operand.const (Value.bool false)), none⟩, []⟩]) (.seq (.reg [⟨⟨some 13, Op.buildSlice 32 0 #[], none⟩, []⟩,
  ⟨⟨some 8, Op.assign (Operand.tmp 13), none⟩, []⟩]) (.seq (.seq (.reg [⟨⟨some 14, Op.load 28 (Operand.tmp 3), none⟩, []⟩,
  ⟨⟨some 15, Op.move (Operand.tmp 1), none⟩, []⟩,
  ⟨⟨some 16, Op.call { callee := (Callee.value (Operand.func 69)), args := #[(Operand.tmp 14), (Operand.tmp 15)], argTypes := #[28, 32] }, none⟩, []⟩,
  ⟨⟨some 17, Op.unOp UnOp.not 4 (Operand.tmp 16), none⟩, []⟩,
  ⟨⟨some 18, Op.move (Operand.tmp 17), none⟩, []⟩,
  ⟨⟨some 19, Op.load 28 (Operand.tmp 3), some (18, false)⟩, []⟩,
  ⟨⟨some 20, Op.move (Operand.tmp 2), some (18, false)⟩, []⟩,
  ⟨⟨some 21, Op.call { callee := (Callee.value (Operand.func 69)), args := #[(Operand.tmp 19), (Operand.tmp 20)], argTypes := #[28, 32] }, some (18, false)⟩, []⟩,
  ⟨⟨some 22, Op.unOp UnOp.not 4 (Operand.tmp 21), some (18, false)⟩, []⟩,
  ⟨⟨some 23, Op.pick (Operand.tmp 18) (Operand.const (Value.bool true)) (Operand.tmp 22), none⟩, []⟩]) (.cond (Operand.tmp 23) (.seq (.reg [⟨⟨some 24, Op.move (Operand.tmp 8), none⟩, []⟩,
  ⟨⟨some 6, Op.assign (Operand.tmp 24), none⟩, []⟩,
  ⟨⟨some 7, Op.assign (Operand.const (Value.bool false)), none⟩, []⟩]) .ret) .skip)) (.seq (.reg [⟨⟨some 25, Op.load 28 (Operand.tmp 3), none⟩, []⟩,
  ⟨⟨some 26, Op.move (Operand.tmp 2), none⟩, []⟩,
  ⟨⟨some 27, Op.call { callee := (Callee.value (Operand.func 66)), args := #[(Operand.tmp 25), (Operand.tmp 26), (Operand.const (Value.bool true))], argTypes := #[28, 32, 4] }, none⟩, []⟩,
  ⟨⟨some 9, Op.assign (Operand.tmp 27), none⟩, []⟩]) (.seq (.seq (.reg [⟨⟨some 28, Op.move (Operand.tmp 9), none⟩, []⟩,
  ⟨⟨some 29, Op.move (Operand.tmp 1), none⟩, []⟩,
  ⟨⟨some 30, Op.call { callee := (Callee.value (Operand.func 68)), args := #[(Operand.tmp 29)], argTypes := #[32] }, none⟩, []⟩,
  ⟨⟨some 31, Op.indexAddr 32 (Operand.tmp 28) (Operand.tmp 30), none⟩, []⟩,
  ⟨⟨some 32, Op.load 3 (Operand.tmp 31), none⟩, []⟩,
  ⟨⟨some 33, Op.binOp BinOp.lss 3 (Operand.tmp 32) (Operand.const (Value.int IntKind.i64 0)) 3, none⟩, []⟩]) (.cond (Operand.tmp 33) (.seq (.reg [⟨⟨some 34, Op.move (Operand.tmp 8), none⟩, []⟩,
  ⟨⟨some 6, Op.assign (Operand.tmp 34), none⟩, []⟩,
  ⟨⟨some 7, Op.assign (Operand.const (Value.bool false)), none⟩, []⟩]) .ret) .skip)) (.seq (.reg [⟨⟨some 35, Op.load 28 (Operand.tmp 3), none⟩, []⟩,
  ⟨⟨some 36, Op.move (Operand.tmp 9), none⟩, []⟩,
  ⟨⟨some 37, Op.move (Operand.tmp 1), none⟩, []⟩,
  ⟨⟨some 38, Op.call { callee := (Callee.value (Operand.func 82)), args := #[(Operand.tmp 35), (Operand.tmp 36), (Operand.tmp 37), (Operand.const (Value.bool true))], argTypes := #[28, 32, 32, 4] }, none⟩, []⟩,
  ⟨⟨some 10, Op.assign (Operand.tmp 38), none⟩, []⟩]) (.seq (.reg [⟨⟨some 39, Op.move (Operand.tmp 1), none⟩, []⟩,
  ⟨⟨some 40, Op.call { callee := (Callee.value (Operand.func 99)), args := #[(Operand.tmp 39), (Operand.const (Value.int IntKind.i64 0))], argTypes := #[32, 3] }, none⟩, []⟩,
  ⟨⟨some 11, Op.assign (Operand.tmp 40), none⟩, []⟩]) (.seq (.seq (.reg [⟨⟨some 12, Op.assign (Operand.const (Value.int IntKind.i64 0)), none⟩, []⟩]) (.block 0 (.loop (.seq (.seq (.reg [⟨⟨some 41, Op.move (Operand.tmp 12), none⟩, []⟩,
  ⟨⟨some 42, Op.move (Operand.tmp 10), none⟩, []⟩,
  ⟨⟨some 43, Op.call { callee := (Callee.builtin Builtin.len), args := #[(Operand.tmp 42)], argTypes := #[22] }, none⟩, []⟩,
  ⟨⟨some 44, Op.binOp BinOp.lss 3 (Operand.tmp 41) (Operand.tmp 43) 3, none⟩, []⟩]) (.cond (Operand.tmp 44) .skip (.exit 0))) (.seq (.block 1 (.seq (.reg [⟨⟨some 47, Op.move (Operand.tmp 10), none⟩, []⟩,
  ⟨⟨some 48, Op.move (Operand.tmp 12), none⟩, []⟩,
  ⟨⟨some 49, Op.indexAddr 22 (Operand.tmp 47) (Operand.tmp 48), none⟩, []⟩,
  ⟨⟨some 50, Op.indexAddr 76 (Operand.tmp 49) (Operand.const (Value.int IntKind.i64 0)), none⟩, []⟩,
  ⟨⟨some 51, Op.load 3 (Operand.tmp 50), none⟩, []⟩,
  ⟨⟨some 52, Op.move (Operand.tmp 10), none⟩, []⟩,
  ⟨⟨some 53, Op.move (Operand.tmp 12), none⟩, []⟩,
  ⟨⟨some 54, Op.indexAddr 22 (Operand.tmp 52) (Operand.tmp 53), none⟩, []⟩,
  ⟨⟨some 55, Op.indexAddr 76 (Operand.tmp 54) (Operand.const (Value.int IntKind.i64 1)), none⟩, []⟩,
  ⟨⟨some 56, Op.load 3 (Operand.tmp 55), none⟩, []⟩,
  ⟨⟨some 57, Op.binOp BinOp.add 3 (Operand.tmp 51) (Operand.tmp 56) 3, none⟩, []⟩,
  ⟨⟨some 58, Op.move (Operand.tmp 11), none⟩, []⟩,
  ⟨⟨some 59, Op.binOp BinOp.sub 3 (Operand.tmp 57) (Operand.tmp 58) 3, none⟩, []⟩,
  ⟨⟨some 11, Op.assign (Operand.tmp 59), none⟩, []⟩]) (.reg [⟨⟨some 60, Op.move (Operand.tmp 8), none⟩, []⟩,
  ⟨⟨some 61, Op.move (Operand.tmp 11), none⟩, []⟩,
  ⟨⟨some 62, Op.buildSlice 32 1 #[(0, (Operand.tmp 61))], none⟩, []⟩,
  ⟨⟨some 63, Op.call { callee := (Callee.builtin Builtin.append), args := #[(Operand.tmp 60), (Operand.tmp 62)], argTypes := #[32, 32] }, none⟩, []⟩,
  ⟨⟨some 8, Op.assign (Operand.tmp 63), none⟩, []⟩]))) (.reg [⟨⟨some 45, Op.move (Operand.tmp 12), none⟩, []⟩,
  ⟨⟨some 46, Op.binOp BinOp.add 3 (Operand.tmp 45) (Operand.const (Value.int IntKind.i64 1)) 3, none⟩, []⟩,
  ⟨⟨some 12, Op.assign (Operand.tmp 46), none⟩, []⟩])))))) (.seq (.reg [⟨⟨some 64, Op.move (Operand.tmp 8), none⟩, []⟩,
  ⟨⟨some 6, Op.assign (Operand.tmp 64), none⟩, []⟩,
  ⟨⟨some 7, Op.assign (Operand.const (Value.bool true)), none⟩, []⟩]) .ret)))))))))
theorem sl51 : slim Try.f51.ntmps ords51 (Try.f51.body.getD .skip) = some cd51 := by kernel_rfl
theorem in51 {args : List Value} {H : AH} {R : Value → AH → Prop} (hl : args.length = 3) (h : ∀ (Q : Exit → Sl → AH → Prop), (∀ e s H, endA Try.prog [ResultVar.tmp 6, ResultVar.tmp 7] R e s H → Q e s H) → wpC Try.prog cd51 Q (enterA args) H) : ACalls Try.prog 51 args H R :=
  ACalls.intro (by kernel_rfl) Try.func51 rfl (by kernel_rfl) sl51 hl (of_decide_eq_true (by kernel_rfl)) (by kernel_rfl) h

/- loop.example/g01128/spec.SlideDistance -/
def ords34 : List (Nat × List (Nat × Bool)) := []
def cd34 : Cd := (.seq (.reg [⟨⟨some 3, Op.box 28 (Operand.tmp 0), none⟩, []⟩,
  ⟨⟨some 6, Op.assign (Operand.const (Value.int IntKind.i64 0)), none⟩, []⟩,
  ⟨⟨some 7, Op.assign (Operand.const (Value.bool false)), none⟩, []⟩]) (.seq (.seq (.reg [⟨⟨some 8, Op.load 28 (Operand.tmp 3), none⟩, []⟩,
  ⟨⟨some 9, Op.move (Operand.tmp 1), none⟩, []⟩,
  ⟨⟨some 10, Op.call { callee := (Callee.value (Operand.func 69)), args := #[(Operand.tmp 8), (Operand.tmp 9)], argTypes := #[28, 32] }, none⟩, []⟩,
  ⟨⟨some 11, Op.unOp UnOp.not 4 (Operand.tmp 10), none⟩, []⟩,
  ⟨⟨some 12, Op.move (Operand.tmp 11), none⟩, []⟩,
  ⟨⟨some 13, Op.load 28 (Operand.tmp 3), some (12, false)⟩, []⟩,
  ⟨⟨some 14, Op.move (Operand.tmp 2), some (12, false)⟩, []⟩,
  ⟨⟨some 15, Op.call { callee := (Callee.value (Operand.func 69)), args := #[(Operand.tmp 13), (Operand.tmp 14)], argTypes := #[28, 32] }, some (12, false)⟩, []⟩,
  ⟨⟨some 16, Op.unOp UnOp.not 4 (Operand.tmp 15), some (12, false)⟩, []⟩,
  ⟨⟨some 17, Op.pick (Operand.tmp 12) (Operand.const (Value.bool true)) (Operand.tmp 16), none⟩, []⟩]) (.cond (Operand.tmp 17) (.seq (.reg [⟨⟨some 6, Op.assign (Operand.const (Value.int IntKind.i64 0)), none⟩, []⟩,
  ⟨⟨some 7, Op.assign (Operand.const (Value.bool false)), none⟩, []⟩]) .ret) .skip)) (.seq (.reg [⟨⟨some 18, Op.load 28 (Operand.tmp 3), none⟩, []⟩,
  ⟨⟨some 19, Op.move (Operand.tmp 2), none⟩, []⟩,
  ⟨⟨some 20, Op.call { callee := (Callee.value (Operand.func 66)), args := #[(Operand.tmp 18), (Operand.tmp 19), (Operand.const (Value.bool true))], argTypes := #[28, 32, 4] }, none⟩, []⟩,
  ⟨⟨some 21, Op.move (Operand.tmp 1), none⟩, []⟩,
  ⟨⟨some 22, Op.call { callee := (Callee.value (Operand.func 68)), args := #[(Operand.tmp 21)], argTypes := #[32] }, none⟩, []⟩,
  ⟨⟨some 23, Op.indexAddr 32 (Operand.tmp 20) (Operand.tmp 22), none⟩, []⟩,
  ⟨⟨some 24, Op.load 3 (Operand.tmp 23), none⟩, []⟩,
  ⟨⟨some 25, Op.call { callee := (Callee.value (Operand.func 65)), args := #[(Operand.tmp 24)], argTypes := #[3] }, none⟩, []⟩,
  ⟨⟨some 26, Op.extract (Operand.tmp 25) 0, none⟩, []⟩,
  ⟨⟨some 27, Op.extract (Operand.tmp 25) 1, none⟩, []⟩,
  ⟨⟨some 6, Op.assign (Operand.tmp 26), none⟩, []⟩,
  ⟨⟨some 7, Op.assign (Operand.tmp 27), none⟩, []⟩]) .ret)))
theorem sl34 : slim Try.f34.ntmps ords34 (Try.f34.body.getD .skip) = some cd34 := by kernel_rfl
theorem in34 {args : List Value} {H : AH} {R : Value → AH → Prop} (hl : args.length = 3) (h : ∀ (Q : Exit → Sl → AH → Prop), (∀ e s H, endA Try.prog [ResultVar.tmp 6, ResultVar.tmp 7] R e s H → Q e s H) → wpC Try.prog cd34 Q (enterA args) H) : ACalls Try.prog 34 args H R :=
  ACalls.intro (by kernel_rfl) Try.func34 rfl (by kernel_rfl) sl34 hl (of_decide_eq_true (by kernel_rfl)) (by kernel_rfl) h
end Go.Proofs.Ythhnpchjjbjabaa.Ai

namespace Go.Proofs.Ythhnpchjjbjabaa.Ai
open Go Go.RowKit
set_option linter.unusedVariables false
set_option linter.unusedSimpArgs false

/-- where the hole goes, by the edges -/
def hlF : Int → List (Int × Int) → List Int
  | _, [] => []
  | h, e :: r => (e.1 + e.2 - h) :: hlF (e.1 + e.2 - h) r
theorem hlF_pth {n : Nat} (hn : n ≤ 6) {es : List (Int × Int)} (hg : Grd (n : Int) es) {p : List Int} (hp : Bd n p) : ∀ (d : Nat) (q : List Int) (h : Nat), Bd n q → bdD (bdR es true p) q = some (d : Int) → h < n → q.getD h 0 = 0 →
    hlF (h : Int) ((pthL (bdR es true p) es true d q).map (·.1)) = (pthL (bdR es true p) es true d q).map (fun t => othB t.2 t.1) ∧ ∀ x ∈ (pthL (bdR es true p) es true d q).map (fun t => othB t.2 t.1), 0 ≤ x ∧ x < n
  | 0, q, h, _, _, _, _ => ⟨rfl, fun x hx => by simp [pthL] at hx⟩
  | d + 1, q, h, hq, hd, hh, h0 => by
    obtain ⟨e, h1, h2, h3⟩ := fst1_some hn hg true hp hd
    obtain ⟨k0, k1, k2⟩ := (oth_srt hg hq hh h0).2 e h2
    obtain ⟨g1, g2, g3⟩ := grd_mem hg (mvs_mem h2).1
    have hsum : e.1 + e.2 - (h : Int) = othB q e := by
      rcases k1 with g | g
      · have e1 := congrArg Prod.fst g
        have e2 := congrArg Prod.snd g
        simp only at e1 e2
        omega
      · have e1 := congrArg Prod.fst g
        have e2 := congrArg Prod.snd g
        simp only at e1 e2
        omega
    have hor : 0 ≤ othB q e ∧ othB q e < n := by
      rcases k1 with g | g
      · have e2 := congrArg Prod.snd g
        simp only at e2
        omega
      · have e1 := congrArg Prod.fst g
        simp only at e1
        omega
    have hql := hq.2
    obtain ⟨x, hx⟩ : ∃ x : Nat, othB q e = x := ⟨(othB q e).toNat, by omega⟩
    have hq2 := nxt_bd hg true hq (swp q e.1.toNat e.2.toNat) (List.mem_map.2 ⟨e, h2, rfl⟩)
    have hz : (swp q e.1.toNat e.2.toNat).getD x 0 = 0 := by
      rw [k2, hx, Int.toNat_natCast, swp_at q x h x (by omega) (by omega) (by omega), if_neg (by omega), if_pos rfl]
      exact h0
    obtain ⟨r1, r2⟩ := hlF_pth hn hg hp d (swp q e.1.toNat e.2.toNat) x hq2 h3 (by omega) hz
    simp only [pthL, h1, List.map_cons, hlF]
    rw [hsum, hx, r1]
    refine ⟨rfl, fun y hy => ?_⟩
    rcases List.mem_cons.1 hy with rfl | hy
    · omega
    · exact r2 y hy
theorem pthL_es (S0 : List (List Int × Int)) (es : List (Int × Int)) (sl : Bool) : ∀ (d : Nat) (q : List Int), ∀ t ∈ pthL S0 es sl d q, t.1 ∈ es
  | 0, q, t, h => by simp [pthL] at h
  | d + 1, q, t, h => by
    simp only [pthL] at h
    split at h
    · rename_i e he
      rcases List.mem_cons.1 h with rfl | h
      · exact (mvs_mem (List.mem_of_find?_eq_some he)).1
      · exact pthL_es S0 es sl d _ t h
    · simp at h
theorem hlF_step (h : Int) (P : List (Int × Int)) (i : Nat) (hi : i < P.length) : hlF h (P.drop i) = ((P.getD i (0, 0)).1 + (P.getD i (0, 0)).2 - h) :: hlF ((P.getD i (0, 0)).1 + (P.getD i (0, 0)).2 - h) (P.drop (i + 1)) := by
  rw [List.drop_eq_getElem_cons hi]
  have : P.getD i (0, 0) = P[i] := by simp [hi]
  rw [this]; rfl

set_option maxRecDepth 20000 in
set_option maxHeartbeats 8000000 in
theorem SlS_c (n : Int) (v w u : Value) (es : List (Int × Int)) (a b : List Int) (H : AH) (hr : RowP 76 H v es) (hlen : es.length ≤ 1099511627776) (hes : ∀ y ∈ es, I64 y.1 ∧ I64 y.2) (ha : Row 3 H w a) (hla : a.length ≤ 1099511627776) (hxa : ∀ y ∈ a, I64 y) (hb : Row 3 H u b) (hlb : b.length ≤ 1099511627776) (hxb : ∀ y ∈ b, I64 y) (hn : I64 n) :
    ACalls Try.prog 51 [.agg (List.toArray [.int .i64 n, v]), w, u] H fun r H' => ∃ g, r = .tuple (List.toArray [g, .bool (slD n es a b).isSome]) ∧ Mine 3 H H' g (slP n es a b) ∧ H <+: H' := by
  refine in51 rfl ?_
  intro Q hQ
  simp (maxSteps := 1000000) (disch := omega) only [cd51, hr.boxG, S, S1, S2, S3, S4, S5, ST, eq_self, reduceIte, reduceCtorEq, Nat.reduceEqDiff, Nat.reduceAdd]
  generalize hA0 : H ++ [AObj.cells [.int .i64 n, v] 28 false] = A0
  have pA0 : H <+: A0 := by rw [← hA0]; exact List.prefix_append _ _
  have cA0 : A0[H.length]? = some (.cells [.int .i64 n, v] 28 false) := by rw [← hA0]; exact at_new ..
  have rA0 := hr.pre pA0
  try simp (maxSteps := 1000000) (disch := omega) only [S, S1, S2, S3, S4, S5, ST, eq_self, reduceIte, reduceCtorEq, Nat.reduceEqDiff, Nat.reduceAdd]
  generalize hA : A0 ++ [AObj.cells [] 3 false] = A
  have pA1 : A0 <+: A := by rw [← hA]; exact List.prefix_append _ _
  have lA0 : A0.length = H.length + 1 := by rw [← hA0]; simp
  have cA1 : A[A0.length]? = some (.cells (ints []) 3 false) := by rw [← hA]; exact at_new ..
  have lA : A.length = A0.length + 1 := by rw [← hA]; simp
  have pA := pA0.trans pA1
  have cA := pre_at pA1 cA0
  have rA := rA0.pre pA1
  simp (maxSteps := 1000000) (disch := omega) only [ld_agg ag28 cs28 cA, S, S1, S2, S3, S4, S5, ST, eq_self, reduceIte, reduceCtorEq, Nat.reduceEqDiff, Nat.reduceAdd]
  refine CallH.by (l9Board_c n v w es a A rA hlen (ha.pre pA) hla) ?_
  rintro _ B ⟨rfl, pB⟩
  have cB := pre_at pB cA
  have pHB := pA.trans pB
  have rB := rA.pre pB
  have own0 : ∀ K : AH, A <+: K → Own 3 A0 K (.slice (some ⟨A0.length, 0, none⟩) 0 0) [] := fun K hK => .inr ⟨A0.length, rfl, Nat.le_refl _, pre_at hK cA1⟩
  have no : slD n es a b = none → ∀ K : AH, A <+: K → ∃ g, (Value.tuple (List.toArray [.slice (some ⟨A0.length, 0, none⟩) 0 0, .bool false])) = .tuple (List.toArray [g, .bool (slD n es a b).isSome]) ∧ Mine 3 H K g (slP n es a b) := fun h K hK => ⟨_, by rw [h]; rfl, by
    have : slP n es a b = [] := by unfold slP; rw [h]
    rw [this]; exact ((own0 K hK).base pA0).mine⟩
  simp (maxSteps := 1000000) (disch := omega) only [S, S1, S2, S3, S4, S5, ST, eq_self, reduceIte, reduceCtorEq, Nat.reduceEqDiff, Nat.reduceAdd]
  refine brD.intro (fun e => ?_) (fun e => ?_) <;> simp (maxSteps := 1000000) (disch := omega) only [e, S, S1, S2, S3, S4, S5, ST, eq_self, reduceIte, reduceCtorEq, Nat.reduceEqDiff, Nat.reduceAdd]
  rotate_left
  · refine hQ _ _ _ ?_
    simp (maxSteps := 1000000) (disch := omega) only [S, S1, S2, S3, S4, S5, ST, eq_self, reduceIte, reduceCtorEq, Nat.reduceEqDiff, Nat.reduceAdd]
    obtain ⟨g, h1, h2⟩ := no (by unfold slD; rw [if_neg (fun h => e h.1)]) B pB
    exact ⟨g, h1, h2, pHB⟩
  simp (maxSteps := 1000000) (disch := omega) only [e, ld_agg ag28 cs28 cB, S, S1, S2, S3, S4, S5, ST, eq_self, reduceIte, reduceCtorEq, Nat.reduceEqDiff, Nat.reduceAdd]
  refine CallH.by (l9Board_c n v u es b B rB hlen (hb.pre pHB) hlb) ?_
  rintro _ C ⟨rfl, pC⟩
  have cC := pre_at pC cB
  have pHC := pHB.trans pC
  have pAC := pB.trans pC
  have rC := rB.pre pC
  simp (maxSteps := 1000000) (disch := omega) only [e, S, S1, S2, S3, S4, S5, ST, eq_self, reduceIte, reduceCtorEq, Nat.reduceEqDiff, Nat.reduceAdd]
  refine brD.intro (fun e2 => ?_) (fun e2 => ?_) <;> simp (maxSteps := 1000000) (disch := omega) only [e, e2, S, S1, S2, S3, S4, S5, ST, eq_self, reduceIte, reduceCtorEq, Nat.reduceEqDiff, Nat.reduceAdd]
  rotate_left
  · refine hQ _ _ _ ?_
    simp (maxSteps := 1000000) (disch := omega) only [S, S1, S2, S3, S4, S5, ST, eq_self, reduceIte, reduceCtorEq, Nat.reduceEqDiff, Nat.reduceAdd]
    obtain ⟨g, h1, h2⟩ := no (by unfold slD; rw [if_neg (fun h => e2 h.2)]) C pAC
    exact ⟨g, h1, h2, pHC⟩
  have hD0 : slD n es a b = bdD (bdR es true b) a := by unfold slD; rw [if_pos ⟨e, e2⟩]
  obtain ⟨k, hk, hg, hbb, h1, h6⟩ := brd_bdS e2
  subst hk
  have hba : Bd k a := by
    obtain ⟨k', hk', _, hb', _, _⟩ := brd_bdS e
    have : k = k' := by omega
    rw [this]; exact hb'
  have hl := grd_few hg
  simp (maxSteps := 1000000) (disch := omega) only [ld_agg ag28 cs28 cC, S, S1, S2, S3, S4, S5, ST, eq_self, reduceIte, reduceCtorEq, Nat.reduceEqDiff, Nat.reduceAdd]
  refine CallH.by (l9Spread_c k v u es b true C rC (by omega) (hb.pre pHC) hg hbb h6) ?_
  rintro f D ⟨hf, pD⟩
  have pHD := pHC.trans pD
  have pAD := pAC.trans pD
  have cD := pre_at pD cC
  have rD := rC.pre pD
  have aD := ha.pre pHD
  have hI := bdR_I h6 hg true hbb
  obtain ⟨zp, hzp, hzpl⟩ := cod_nat h6 hba
  have hat := spL_at h6 hba hI.ok
  rw [hzp, Int.toNat_natCast, ← hD0] at hat
  have hfr := hf.row
  have hcz := hfr.cell (show zp < (spL (mny k) (bdR es true b)).length by rw [spL_len]; exact hzpl)
  rw [hat] at hcz
  have hslen := spL_len (mny k) (bdR es true b)
  have hal := hba.2
  simp (maxSteps := 1000000) (disch := omega) only [S, S1, S2, S3, S4, S5, ST, eq_self, reduceIte, reduceCtorEq, Nat.reduceEqDiff, Nat.reduceAdd]
  refine CallH.by (l9Code_c w a D aD (by omega)) ?_
  rintro _ _ ⟨rfl, rfl⟩
  rw [hzp]
  simp (maxSteps := 1000000) (disch := omega) only [hfr.ix Try.underlying32 cs3, Int.toNat_natCast, hcz, S, S1, S2, S3, S4, S5, ST, eq_self, reduceIte, reduceCtorEq, Nat.reduceEqDiff, Nat.reduceAdd]
  cases hd : slD (k : Int) es a b with
  | none =>
    rw [hd] at no
    have hlt : ((-1 : Int) < 0) := by decide
    simp (maxSteps := 1000000) (disch := omega) only [Option.getD_none, decide_eq_true hlt, S, S1, S2, S3, S4, S5, ST, eq_self, reduceIte, reduceCtorEq, Nat.reduceEqDiff, Nat.reduceAdd]
    refine hQ _ _ _ ?_
    simp (maxSteps := 1000000) (disch := omega) only [S, S1, S2, S3, S4, S5, ST, eq_self, reduceIte, reduceCtorEq, Nat.reduceEqDiff, Nat.reduceAdd]
    obtain ⟨g, h1, h2⟩ := no rfl D pAD
    rw [hd]
    exact ⟨g, h1, h2, pHD⟩
  | some x =>
  obtain ⟨hd0, hd7⟩ := slD_rng hd
  have hK : slP (k : Int) es a b = (pthL (bdR es true b) es true x.toNat a).map (fun t => othB t.2 t.1) := by unfold slP; rw [hd]
  have hnlt : ¬ (x < 0) := by omega
  rw [hd] at hD0
  have hDx : bdD (bdR es true b) a = some ((x.toNat : Nat) : Int) := by rw [Int.toNat_of_nonneg hd0]; exact hD0.symm
  simp (maxSteps := 1000000) (disch := omega) only [Option.getD_some, decide_eq_false hnlt, ld_agg ag28 cs28 cD, S, S1, S2, S3, S4, S5, ST, eq_self, reduceIte, reduceCtorEq, Nat.reduceEqDiff, Nat.reduceAdd]
  refine CallH.by (l9Steps_c k v f w es b a true x.toNat D rD (by omega) aD hg hbb hba h6 (fun _ => h1) hfr hDx (by omega)) ?_
  rintro g E ⟨hgE, pE⟩
  have aE := aD.pre pE
  have pHE := pHD.trans pE
  have pAE := pAD.trans pE
  have hz : (0 : Int) ∈ a := hba.1.2 0 (by omega)
  obtain ⟨h, hh1, hh2, hh3⟩ := ax_at hz
  simp (maxSteps := 1000000) (disch := omega) only [S, S1, S2, S3, S4, S5, ST, eq_self, reduceIte, reduceCtorEq, Nat.reduceEqDiff, Nat.reduceAdd]
  refine CallH.by (l9At_c w a 0 E aE (by omega) hz) ?_
  rintro _ _ ⟨rfl, rfl⟩
  rw [hh2]
  obtain ⟨r1, r2⟩ := hlF_pth h6 hg hbb x.toNat a h hba hDx (by omega) hh3
  have hpl := pthL_len h6 hg true hbb x.toNat a hDx
  have hPes : ∀ e ∈ (pthL (bdR es true b) es true x.toNat a).map (·.1), 0 ≤ e.1 ∧ e.1 < e.2 ∧ e.2 < (k : Int) := fun e he => by
    obtain ⟨t, ht, rfl⟩ := List.mem_map.1 he
    exact grd_mem hg (pthL_es _ _ _ _ _ t ht)
  have hPl : ((pthL (bdR es true b) es true x.toNat a).map (·.1)).length = x.toNat := by rw [List.length_map]; exact hpl
  have hgr := hgE.row
  rw [hd, hK] at hQ
  generalize hP : (pthL (bdR es true b) es true x.toNat a).map (·.1) = P at *
  generalize hO : (pthL (bdR es true b) es true x.toNat a).map (fun t => othB t.2 t.1) = O at *
  have own1 := own0 E pAE
  have pA0E := pA1.trans pAE
  -- nothing of the list of steps lies in what is put together
  have hgo : g = .slice none 0 0 ∨ (A0.length + 1 ≤ rowO g ∧ rowO g < E.length) := by
    rcases InP.of hgE with q | ⟨oo, zs, q1, q2, q3, _⟩
    · exact .inl q.1
    · refine .inr ?_
      rw [q1]
      have := pAD.length_le
      show A0.length + 1 ≤ oo ∧ oo < E.length
      omega
  simp (maxSteps := 1000000) (disch := omega) only [S, S1, S2, S3, S4, S5, ST, eq_self, reduceIte, reduceCtorEq, Nat.reduceEqDiff, Nat.reduceAdd]
  refine LoopH.by (fun m s H' => ∃ (i : Nat) (c : Int) (out : List Int), m + i = P.length ∧ s 10 = g ∧ s 11 = .int .i64 c ∧ s 12 = .int .i64 ((i : Nat) : Int) ∧ (0 ≤ c ∧ c < 8) ∧ out ++ hlF c (P.drop i) = O ∧ out.length = i ∧ i ≤ P.length ∧ Own 3 A0 H' (s 8) out ∧ (rowO (s 8) = A0.length ∨ E.length ≤ rowO (s 8)) ∧ RowP 76 H' g P ∧ E.length ≤ H'.length ∧ A0 <+: H') P.length ?_ ?_
  · refine ⟨0, (h : Int), [], ?_⟩
    have f1 : [] ++ hlF (h : Int) (P.drop 0) = O := r1
    have f2 : rowO (.slice (some ⟨A0.length, 0, none⟩) 0 0) = A0.length ∨ E.length ≤ rowO (.slice (some ⟨A0.length, 0, none⟩) 0 0) := .inl rfl
    simp (maxSteps := 1000000) (disch := omega) only [S, S1, S2, S3, S4, S5, ST, eq_self, reduceIte, reduceCtorEq, Nat.reduceEqDiff, Nat.reduceAdd]
    (repeat' first | exact f1 | exact own1 | exact f2 | exact hgr | exact pA0E | apply And.intro) <;> first | (simp only [Value.int.injEq, true_and]; omega) | omega | rfl | assumption | (simp; done) | (simp; omega)
  rintro m s H' ⟨i, c, out, hm, k10, k11, k12, hc, hout, hol, hiP, hmo, hUo, hgH, hEl, hpp⟩
  generalize hU : s 8 = U at *
  simp (maxSteps := 1000000) (disch := omega) only [k10, k11, k12, hU, hgH.len Try.underlying22, S, S1, S2, S3, S4, S5, ST, eq_self, reduceIte, reduceCtorEq, Nat.reduceEqDiff, Nat.reduceAdd]
  refine brD.intro (fun q => ?_) (fun q => ?_)
  · have hi : i < P.length := by omega
    rw [hlF_step c P i hi] at hout
    have hc0 := hgH.cell0 hi
    have hc1 := hgH.cell1 hi
    have hmem : (P.getD i (0, 0)).1 + (P.getD i (0, 0)).2 - c ∈ O := by rw [← hout]; simp
    have hrg := r2 _ hmem
    have hpm : P.getD i (0, 0) ∈ P := by simp [hi]
    obtain ⟨z1, z2, z3⟩ := hPes _ hpm
    have hgap : Apart g U := by
      rcases hgo with q1 | q1
      · exact .inr (.inl q1)
      · exact .inr (.inr (by omega))
    generalize hc2 : (P.getD i (0, 0)).1 + (P.getD i (0, 0)).2 - c = c2 at *
    obtain ⟨U', H2, j1, j2, j3, j4, j5, j6⟩ := own1_32 hmo hpp (by omega) c2
    have f1 := hgH.kept hgap j4
    have f2 : (out ++ [c2]) ++ hlF c2 (P.drop (i + 1)) = O := by rw [← hout, List.append_assoc]; rfl
    have f3 : (out ++ [c2]).length = i + 1 := by rw [List.length_append, hol]; rfl
    have f4 : rowO U' = A0.length ∨ E.length ≤ rowO U' := .inr (by omega)
    have f5 : E.length ≤ H2.length := by
      rcases j2 with q1 | ⟨oo, q1, q2, q3⟩
      · have := congrArg List.length q1.2; simp at this
      · have := at_lt q3
        rw [q1] at j5
        have j5' : H'.length ≤ oo := j5
        omega
    simp (maxSteps := 1000000) (disch := omega) only [k10, k11, k12, hU, hgH.ix Try.underlying22 cs76, Int.toNat_natCast, hc0, hc1, wrap64, hc2, j1, S, S1, S2, S3, S4, S5, ST, eq_self, reduceIte, reduceCtorEq, Nat.reduceEqDiff, Nat.reduceAdd]
    refine ⟨m - 1, by omega, i + 1, c2, out ++ [c2], ?_⟩
    (repeat' first | exact f1 | exact f2 | exact f3 | exact f4 | exact f5 | exact j2 | exact j3 | apply And.intro) <;> first | (simp only [Value.int.injEq, true_and]; omega) | omega | rfl | assumption | (simp; done) | (simp; omega)
  · simp (maxSteps := 1000000) (disch := omega) only [hU, S, S1, S2, S3, S4, S5, ST, eq_self, reduceIte, reduceCtorEq, Nat.reduceEqDiff, Nat.reduceAdd]
    refine hQ _ _ _ ?_
    simp (maxSteps := 1000000) (disch := omega) only [hU, hmo.row.tup, S, S1, S2, S3, S4, S5, ST, eq_self, reduceIte, reduceCtorEq, Nat.reduceEqDiff, Nat.reduceAdd]
    rw [List.drop_of_length_le (by omega)] at hout
    have hout' : out = O := by rw [← hout]; simp [hlF]
    rw [← hout']
    exact ⟨U, rfl, (hmo.base pA0).mine, pA0.trans hpp⟩

set_option maxRecDepth 20000 in
set_option maxHeartbeats 4000000 in
theorem SlDS_c (n : Int) (v w u : Value) (es : List (Int × Int)) (a b : List Int) (H : AH) (hr : RowP 76 H v es) (hlen : es.length ≤ 1099511627776) (hes : ∀ y ∈ es, I64 y.1 ∧ I64 y.2) (ha : Row 3 H w a) (hla : a.length ≤ 1099511627776) (hxa : ∀ y ∈ a, I64 y) (hb : Row 3 H u b) (hlb : b.length ≤ 1099511627776) (hxb : ∀ y ∈ b, I64 y) (hn : I64 n) :
    ACalls Try.prog 34 [.agg (List.toArray [.int .i64 n, v]), w, u] H fun r H' => r = .tuple (List.toArray [.int .i64 ((slD n es a b).getD 0), .bool (slD n es a b).isSome]) ∧ H <+: H' := by
  refine in34 rfl ?_
  intro Q hQ
  simp (maxSteps := 1000000) (disch := omega) only [cd34, hr.boxG, S, S1, S2, S3, S4, S5, ST, eq_self, reduceIte, reduceCtorEq, Nat.reduceEqDiff, Nat.reduceAdd]
  generalize hA : H ++ [AObj.cells [.int .i64 n, v] 28 false] = A
  have pA : H <+: A := by rw [← hA]; exact List.prefix_append _ _
  have cA : A[H.length]? = some (.cells [.int .i64 n, v] 28 false) := by rw [← hA]; exact at_new ..
  have rA := hr.pre pA
  simp (maxSteps := 1000000) (disch := omega) only [ld_agg ag28 cs28 cA, S, S1, S2, S3, S4, S5, ST, eq_self, reduceIte, reduceCtorEq, Nat.reduceEqDiff, Nat.reduceAdd]
  refine CallH.by (l9Board_c n v w es a A rA hlen (ha.pre pA) hla) ?_
  rintro _ B ⟨rfl, pB⟩
  have cB := pre_at pB cA
  have pHB := pA.trans pB
  have rB := rA.pre pB
  simp (maxSteps := 1000000) (disch := omega) only [S, S1, S2, S3, S4, S5, ST, eq_self, reduceIte, reduceCtorEq, Nat.reduceEqDiff, Nat.reduceAdd]
  refine brD.intro (fun e => ?_) (fun e => ?_) <;> simp (maxSteps := 1000000) (disch := omega) only [e, S, S1, S2, S3, S4, S5, ST, eq_self, reduceIte, reduceCtorEq, Nat.reduceEqDiff, Nat.reduceAdd]
  rotate_left
  · refine hQ _ _ _ ?_
    simp (maxSteps := 1000000) (disch := omega) only [S, S1, S2, S3, S4, S5, ST, eq_self, reduceIte, reduceCtorEq, Nat.reduceEqDiff, Nat.reduceAdd]
    have : slD n es a b = none := by unfold slD; rw [if_neg (fun h => e h.1)]
    rw [this]
    exact ⟨rfl, pHB⟩
  simp (maxSteps := 1000000) (disch := omega) only [e, ld_agg ag28 cs28 cB, S, S1, S2, S3, S4, S5, ST, eq_self, reduceIte, reduceCtorEq, Nat.reduceEqDiff, Nat.reduceAdd]
  refine CallH.by (l9Board_c n v u es b B rB hlen (hb.pre pHB) hlb) ?_
  rintro _ C ⟨rfl, pC⟩
  have cC := pre_at pC cB
  have pHC := pHB.trans pC
  have rC := rB.pre pC
  simp (maxSteps := 1000000) (disch := omega) only [e, S, S1, S2, S3, S4, S5, ST, eq_self, reduceIte, reduceCtorEq, Nat.reduceEqDiff, Nat.reduceAdd]
  refine brD.intro (fun e2 => ?_) (fun e2 => ?_) <;> simp (maxSteps := 1000000) (disch := omega) only [e, e2, S, S1, S2, S3, S4, S5, ST, eq_self, reduceIte, reduceCtorEq, Nat.reduceEqDiff, Nat.reduceAdd]
  rotate_left
  · refine hQ _ _ _ ?_
    simp (maxSteps := 1000000) (disch := omega) only [S, S1, S2, S3, S4, S5, ST, eq_self, reduceIte, reduceCtorEq, Nat.reduceEqDiff, Nat.reduceAdd]
    have : slD n es a b = none := by unfold slD; rw [if_neg (fun h => e2 h.2)]
    rw [this]
    exact ⟨rfl, pHC⟩
  have hD0 : slD n es a b = bdD (bdR es true b) a := by unfold slD; rw [if_pos ⟨e, e2⟩]
  obtain ⟨k, hk, hg, hbb, h1, h6⟩ := brd_bdS e2
  subst hk
  have hba : Bd k a := by
    obtain ⟨k', hk', _, hb', _, _⟩ := brd_bdS e
    have : k = k' := by omega
    rw [this]; exact hb'
  have hl := grd_few hg
  simp (maxSteps := 1000000) (disch := omega) only [ld_agg ag28 cs28 cC, S, S1, S2, S3, S4, S5, ST, eq_self, reduceIte, reduceCtorEq, Nat.reduceEqDiff, Nat.reduceAdd]
  refine CallH.by (l9Spread_c k v u es b true C rC (by omega) (hb.pre pHC) hg hbb h6) ?_
  rintro f D ⟨hf, pD⟩
  have pHD := pHC.trans pD
  have aD := ha.pre pHD
  have hI := bdR_I h6 hg true hbb
  obtain ⟨zp, hzp, hzpl⟩ := cod_nat h6 hba
  have hat := spL_at h6 hba hI.ok
  rw [hzp, Int.toNat_natCast, ← hD0] at hat
  have hfr := hf.row
  have hcz := hfr.cell (show zp < (spL (mny k) (bdR es true b)).length by rw [spL_len]; exact hzpl)
  rw [hat] at hcz
  have hslen := spL_len (mny k) (bdR es true b)
  have hal := hba.2
  simp (maxSteps := 1000000) (disch := omega) only [S, S1, S2, S3, S4, S5, ST, eq_self, reduceIte, reduceCtorEq, Nat.reduceEqDiff, Nat.reduceAdd]
  refine CallH.by (l9Code_c w a D aD (by omega)) ?_
  rintro _ _ ⟨rfl, rfl⟩
  rw [hzp]
  simp (maxSteps := 1000000) (disch := omega) only [hfr.ix Try.underlying32 cs3, Int.toNat_natCast, hcz, S, S1, S2, S3, S4, S5, ST, eq_self, reduceIte, reduceCtorEq, Nat.reduceEqDiff, Nat.reduceAdd]
  refine CallH.by (l9Told_c _ D) ?_
  rintro _ _ ⟨rfl, rfl⟩
  simp (maxSteps := 1000000) (disch := omega) only [S, S1, S2, S3, S4, S5, ST, eq_self, reduceIte, reduceCtorEq, Nat.reduceEqDiff, Nat.reduceAdd]
  refine hQ _ _ _ ?_
  simp (maxSteps := 1000000) (disch := omega) only [S, S1, S2, S3, S4, S5, ST, eq_self, reduceIte, reduceCtorEq, Nat.reduceEqDiff, Nat.reduceAdd]
  refine ⟨?_, pHD⟩
  cases hd : slD (k : Int) es a b with
  | none => rfl
  | some x =>
    obtain ⟨hd0, hd7⟩ := slD_rng hd
    simp only [Option.getD_some, Option.isSome_some]
    rw [decide_eq_true hd0]
    by_cases hx0 : 0 < x
    · rw [if_pos hx0]
    · rw [if_neg hx0]
      have : x = 0 := by omega
      rw [this]
end Go.Proofs.Ythhnpchjjbjabaa.Ai
