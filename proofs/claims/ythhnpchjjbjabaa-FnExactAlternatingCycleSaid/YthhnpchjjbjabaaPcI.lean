/- (impl.Graph).pieces. -/
import Derived.Test.YthhnpchjjbjabaaDfB
import Derived.Test.YthhnpchjjbjabaaDelL
import Derived.Test.YthhnpchjjbjabaaPart
import Derived.Test.YthhnpchjjbjabaaTwo
import Derived.Test.YthhnpchjjbjabaaGrf
import Derived.Test.YthhnpchjjbjabaaProg
import Derived.Test.YthhnpchjjbjabaaAiM2
import Derived.KernelRfl
/- Slim code of this translation. By the kernel. -/
namespace Go.Proofs.Ythhnpchjjbjabaa.Ai
open Go

/- (loop.example/g01128/impl.Graph).pieces$1 -/
def ords141 : List (Nat × List (Nat × Bool)) := [(1, [(0, false), (1, false), (2, false), (3, false), (4, true), (5, false), (6, false)])]
def cd141 : Cd := (.seq (.reg [⟨⟨some 3, Op.assign (Operand.const (Value.bool false)), none⟩, []⟩]) (.seq (.reg [⟨⟨some 4, Op.load 117 (Operand.tmp 1), none⟩, []⟩,
  ⟨⟨some 5, Op.move (Operand.tmp 0), none⟩, []⟩,
  ⟨⟨some 6, Op.indexAddr 32 (Operand.tmp 5) (Operand.const (Value.int IntKind.i64 0)), none⟩, []⟩,
  ⟨⟨some 7, Op.load 3 (Operand.tmp 6), none⟩, []⟩,
  ⟨⟨some 8, Op.call { callee := (Callee.value (Operand.func 142)), args := #[(Operand.tmp 4), (Operand.tmp 7)], argTypes := #[117, 3] }, none⟩, []⟩,
  ⟨⟨some 9, Op.unOp UnOp.not 4 (Operand.tmp 8), none⟩, []⟩,
  ⟨⟨some 3, Op.assign (Operand.tmp 9), none⟩, []⟩]) .ret))
theorem sl141 : slim Try.f141.ntmps ords141 (Try.f141.body.getD .skip) = some cd141 := by kernel_rfl
theorem in141 {args : List Value} {H : AH} {R : Value → AH → Prop} (hl : args.length = 2) (h : ∀ (Q : Exit → Sl → AH → Prop), (∀ e s H, endA Try.prog [ResultVar.tmp 3] R e s H → Q e s H) → wpC Try.prog cd141 Q (enterA args) H) : ACalls Try.prog 141 args H R :=
  ACalls.intro (by kernel_rfl) Try.func141 rfl (by kernel_rfl) sl141 hl (of_decide_eq_true (by kernel_rfl)) (by kernel_rfl) h

/- (loop.example/g01128/impl.Graph).pieces -/
def ords92 : List (Nat × List (Nat × Bool)) := [(6, [(0, false), (1, false), (2, false), (3, false), (4, false), (5, false), (6, false), (7, false), (8, false), (9, false), (10, false), (11, false), (12, false), (13, false)]), (7, [(0, false), (1, false), (2, false), (3, false), (4, false), (5, false), (6, false), (7, false), (8, false), (9, false), (11, false), (12, false), (13, false), (14, false), (15, false), (16, false), (10, true), (17, true), (18, false), (19, true), (20, false), (21, true)])]
def cd92 : Cd := (.seq (.reg [⟨⟨some 3, Op.box 28 (Operand.tmp 0), none⟩, []⟩,
  ⟨⟨some 6, Op.assign (Operand.const (Value.slice none 0 0)), none⟩, []⟩]) (.seq (.reg [⟨⟨some 14, Op.fieldAddr 28 (Operand.tmp 3) 0, none⟩, []⟩,
  ⟨⟨some 15, Op.load 3 (Operand.tmp 14), none⟩, []⟩,
  ⟨⟨some 16, Op.makeSlice 38 (Operand.tmp 15) (Operand.tmp 15), none⟩, []⟩,
  ⟨⟨some 7, Op.assign (Operand.tmp 16), none⟩, []⟩]) (.seq (.reg [⟨⟨some 17, Op.move (Operand.tmp 1), none⟩, []⟩,
  ⟨⟨some 18, Op.move (Operand.tmp 2), none⟩, []⟩,
  ⟨⟨some 19, Op.call { callee := (Callee.value (Operand.func 138)), args := #[(Operand.tmp 17), (Operand.tmp 18)], argTypes := #[32, 32] }, none⟩, []⟩,
  ⟨⟨some 8, Op.assign (Operand.tmp 19), none⟩, []⟩]) (.seq (.seq (.reg [⟨⟨some 20, Op.move (Operand.tmp 8), none⟩, []⟩,
  ⟨⟨some 21, Op.call { callee := (Callee.builtin Builtin.len), args := #[(Operand.tmp 20)], argTypes := #[32] }, none⟩, []⟩,
  ⟨⟨some 22, Op.move (Operand.const (Value.int IntKind.i64 0)), none⟩, []⟩]) (.block 0 (.loop (.seq (.reg [⟨⟨some 23, Op.binOp BinOp.lss 3 (Operand.tmp 22) (Operand.tmp 21) 3, none⟩, []⟩]) (.seq (.cond (Operand.tmp 23) .skip (.exit 0)) (.seq (.block 1 (.seq (.reg [⟨⟨some 24, Op.indexAddr 32 (Operand.tmp 20) (Operand.tmp 22), none⟩, []⟩,
  ⟨⟨some 25, Op.load 3 (Operand.tmp 24), none⟩, []⟩,
  ⟨⟨some 10, Op.assign (Operand.tmp 25), none⟩, []⟩]) (.seq (.reg [⟨⟨some 26, Op.fieldAddr 28 (Operand.tmp 3) 1, none⟩, []⟩,
  ⟨⟨some 27, Op.load 22 (Operand.tmp 26), none⟩, []⟩,
  ⟨⟨some 28, Op.move (Operand.tmp 10), none⟩, []⟩,
  ⟨⟨some 29, Op.indexAddr 22 (Operand.tmp 27) (Operand.tmp 28), none⟩, []⟩,
  ⟨⟨some 30, Op.indexAddr 76 (Operand.tmp 29) (Operand.const (Value.int IntKind.i64 0)), none⟩, []⟩,
  ⟨⟨some 31, Op.load 3 (Operand.tmp 30), none⟩, []⟩,
  ⟨⟨some 32, Op.fieldAddr 28 (Operand.tmp 3) 1, none⟩, []⟩,
  ⟨⟨some 33, Op.load 22 (Operand.tmp 32), none⟩, []⟩,
  ⟨⟨some 34, Op.move (Operand.tmp 10), none⟩, []⟩,
  ⟨⟨some 35, Op.indexAddr 22 (Operand.tmp 33) (Operand.tmp 34), none⟩, []⟩,
  ⟨⟨some 36, Op.indexAddr 76 (Operand.tmp 35) (Operand.const (Value.int IntKind.i64 1)), none⟩, []⟩,
  ⟨⟨some 37, Op.load 3 (Operand.tmp 36), none⟩, []⟩,
  ⟨⟨some 11, Op.assign (Operand.tmp 31), none⟩, []⟩,
  ⟨⟨some 12, Op.assign (Operand.tmp 37), none⟩, []⟩]) (.reg [⟨⟨some 38, Op.move (Operand.tmp 7), none⟩, []⟩,
  ⟨⟨some 39, Op.move (Operand.tmp 11), none⟩, []⟩,
  ⟨⟨some 40, Op.move (Operand.tmp 7), none⟩, []⟩,
  ⟨⟨some 41, Op.move (Operand.tmp 12), none⟩, []⟩,
  ⟨⟨some 42, Op.move (Operand.tmp 7), none⟩, []⟩,
  ⟨⟨some 43, Op.move (Operand.tmp 11), none⟩, []⟩,
  ⟨⟨some 44, Op.indexAddr 38 (Operand.tmp 42) (Operand.tmp 43), none⟩, []⟩,
  ⟨⟨some 45, Op.load 32 (Operand.tmp 44), none⟩, []⟩,
  ⟨⟨some 46, Op.move (Operand.tmp 12), none⟩, []⟩,
  ⟨⟨some 47, Op.buildSlice 32 1 #[(0, (Operand.tmp 46))], none⟩, []⟩,
  ⟨⟨some 49, Op.move (Operand.tmp 7), none⟩, []⟩,
  ⟨⟨some 50, Op.move (Operand.tmp 12), none⟩, []⟩,
  ⟨⟨some 51, Op.indexAddr 38 (Operand.tmp 49) (Operand.tmp 50), none⟩, []⟩,
  ⟨⟨some 52, Op.load 32 (Operand.tmp 51), none⟩, []⟩,
  ⟨⟨some 53, Op.move (Operand.tmp 11), none⟩, []⟩,
  ⟨⟨some 54, Op.buildSlice 32 1 #[(0, (Operand.tmp 53))], none⟩, []⟩,
  ⟨⟨some 48, Op.call { callee := (Callee.builtin Builtin.append), args := #[(Operand.tmp 45), (Operand.tmp 47)], argTypes := #[32, 32] }, none⟩, [⟨some 54, Op.buildSlice 32 1 #[(0, (Operand.tmp 53))], none⟩, ⟨some 52, Op.load 32 (Operand.tmp 51), none⟩]⟩,
  ⟨⟨some 55, Op.call { callee := (Callee.builtin Builtin.append), args := #[(Operand.tmp 52), (Operand.tmp 54)], argTypes := #[32, 32] }, none⟩, []⟩,
  ⟨⟨some 56, Op.indexAddr 38 (Operand.tmp 38) (Operand.tmp 39), none⟩, []⟩,
  ⟨⟨none, Op.store 32 (Operand.tmp 56) (Operand.tmp 48), none⟩, []⟩,
  ⟨⟨some 57, Op.indexAddr 38 (Operand.tmp 40) (Operand.tmp 41), none⟩, []⟩,
  ⟨⟨none, Op.store 32 (Operand.tmp 57) (Operand.tmp 55), none⟩, []⟩])))) (.reg [⟨⟨some 58, Op.binOp BinOp.add 3 (Operand.tmp 22) (Operand.const (Value.int IntKind.i64 1)) 3, none⟩, []⟩,
  ⟨⟨some 22, Op.move (Operand.tmp 58), none⟩, []⟩]))))))) (.seq (.reg [⟨⟨some 59, Op.load 28 (Operand.tmp 3), none⟩, []⟩,
  ⟨⟨some 60, Op.move (Operand.tmp 8), none⟩, []⟩,
  ⟨⟨some 61, Op.call { callee := (Callee.value (Operand.func 139)), args := #[(Operand.tmp 59), (Operand.tmp 60)], argTypes := #[28, 32] }, none⟩, []⟩,
  ⟨⟨some 13, Op.alloc 117, none⟩, []⟩,
  ⟨⟨none, Op.store 117 (Operand.tmp 13) (Operand.tmp 61), none⟩, []⟩]) (.seq (.reg [⟨⟨some 62, Op.move (Operand.tmp 7), none⟩, []⟩,
  ⟨⟨some 63, Op.call { callee := (Callee.value (Operand.func 114)), args := #[(Operand.tmp 62), (Operand.const (Value.int IntKind.i64 (-1)))], argTypes := #[38, 3] }, none⟩, []⟩,
  ⟨⟨some 64, Op.makeFunc (Fn.func 141) #[] #[(Operand.tmp 13)], none⟩, []⟩,
  ⟨⟨some 65, Op.call { callee := (Callee.value (Operand.func 140)), args := #[(Operand.tmp 63), (Operand.tmp 64)], argTypes := #[38, 92] }, none⟩, []⟩,
  ⟨⟨some 6, Op.assign (Operand.tmp 65), none⟩, []⟩]) .ret))))))
theorem sl92 : slim Try.f92.ntmps ords92 (Try.f92.body.getD .skip) = some cd92 := by kernel_rfl
theorem in92 {args : List Value} {H : AH} {R : Value → AH → Prop} (hl : args.length = 3) (h : ∀ (Q : Exit → Sl → AH → Prop), (∀ e s H, endA Try.prog [ResultVar.tmp 6] R e s H → Q e s H) → wpC Try.prog cd92 Q (enterA args) H) : ACalls Try.prog 92 args H R :=
  ACalls.intro (by kernel_rfl) Try.func92 rfl (by kernel_rfl) sl92 hl (of_decide_eq_true (by kernel_rfl)) (by kernel_rfl) h
end Go.Proofs.Ythhnpchjjbjabaa.Ai

namespace Go.Proofs.Ythhnpchjjbjabaa.Ai
open Go Go.RowKit
set_option linter.unusedVariables false
set_option linter.unusedSimpArgs false

/- plain -/
theorem nodupP_le : ∀ (n : Nat) (l : List Int), l.Nodup → (∀ x ∈ l, 0 ≤ x ∧ x < n) → l.length ≤ n
  | 0, l, _, h => by
    cases l with
    | nil => simp
    | cons a l => have := h a (by simp); omega
  | n + 1, l, hn, h => by
    have := nodupP_le n (l.erase (n : Int)) (hn.erase _) (fun x hx => by
      have h1 := h x (List.mem_of_mem_erase hx)
      have h2 : x ≠ n := fun e => by subst e; exact (hn.not_mem_erase) hx
      omega)
    have h3 : l.length ≤ (l.erase (n : Int)).length + 1 := by rw [List.length_erase]; split <;> omega
    omega
theorem grd_pwP {n : Int} {es : List (Int × Int)} (hg : Grd n es) : es.Pairwise pairLt := by
  rw [List.pairwise_iff_getElem]
  have at_ : ∀ i (h : i < es.length), es.getD i (0, 0) = es[i] := fun i h => by simp [h]
  have key : ∀ (k i : Nat), i + k + 1 < es.length → pairLt (es.getD i (0, 0)) (es.getD (i + k + 1) (0, 0)) := by
    intro k
    induction k with
    | zero =>
      intro i hi
      have := (hg.2 (i + 1) hi).2.2.2 (by omega)
      simpa using this
    | succ k ih =>
      intro i hi
      have h1 := ih i (by omega)
      have h2 := (hg.2 (i + (k + 1) + 1) hi).2.2.2 (by omega)
      have e : i + (k + 1) + 1 - 1 = i + k + 1 := by omega
      rw [e] at h2
      unfold pairLt at *
      omega
  intro i j hi hj hij
  have := key (j - i - 1) i (by omega)
  rw [show i + (j - i - 1) + 1 = j by omega, at_ i hi, at_ j hj] at this
  exact this
def tri8 (b : Int) : Int := [0, 0, 1, 3, 6, 10, 15, 21].getD b.toNat 0
theorem tri8_at {a b : Int} (h : 0 ≤ a ∧ a < b ∧ b < 8) : (b = 1 ∧ tri8 b = 0) ∨ (b = 2 ∧ tri8 b = 1) ∨ (b = 3 ∧ tri8 b = 3) ∨ (b = 4 ∧ tri8 b = 6) ∨ (b = 5 ∧ tri8 b = 10) ∨ (b = 6 ∧ tri8 b = 15) ∨ (b = 7 ∧ tri8 b = 21) := by
  have : b = 1 ∨ b = 2 ∨ b = 3 ∨ b = 4 ∨ b = 5 ∨ b = 6 ∨ b = 7 := by omega
  rcases this with rfl | rfl | rfl | rfl | rfl | rfl | rfl <;> simp [tri8]
theorem grd_28 {n : Int} {es : List (Int × Int)} (hg : Grd n es) : es.length ≤ 28 := by
  have hp := grd_pwP hg
  have hn := hg.1
  have h8 : ∀ e ∈ es, 0 ≤ e.1 ∧ e.1 < e.2 ∧ e.2 < 8 := fun e he => by
    have := grd_mem hg he; omega
  have := nodupP_le 28 (es.map fun e => tri8 e.2 + e.1) (by
    rw [List.Nodup, List.pairwise_map]
    refine List.Pairwise.imp_of_mem ?_ hp
    intro a b ha hb hab e
    have h1 := h8 a ha
    have h2 := h8 b hb
    have t1 := tri8_at h1
    have t2 := tri8_at h2
    unfold pairLt at hab
    omega) (fun x hx => by
    obtain ⟨e, he, rfl⟩ := List.mem_map.1 hx
    have h1 := h8 e he
    have t1 := tri8_at h1
    omega)
  simpa using this
theorem mtc_rng {es : List (Int × Int)} {a : List Int} (h : Mtc es a) : ∀ x ∈ a, 0 ≤ x ∧ x < es.length := by
  intro x hx
  obtain ⟨i, hi, rfl⟩ := List.getElem_of_mem hx
  have := (h i hi).1.1
  have e : a.getD i 0 = a[i] := by simp [hi]
  rw [e] at this; omega
theorem seen_nb {n : Int} {es : List (Int × Int)} (hg : Grd n es) {ds : List Int} (hd : ∀ x ∈ ds, 0 ≤ x ∧ x < es.length) (x : Int) : x ∈ seenL es ds ↔ nbB (dED es ds) n.toNat x = true := by
  have hmem : ∀ e ∈ dED es ds, e ∈ es := fun e he => by
    unfold dED at he
    obtain ⟨i, hi, rfl⟩ := List.mem_map.1 he
    have := hd i hi
    simp [show i.toNat < es.length by omega]
  rw [nbB_iff]
  unfold seenL
  rw [List.mem_flatMap]
  constructor
  · rintro ⟨i, hi, hx⟩
    have he : es.getD i.toNat (0, 0) ∈ dED es ds := List.mem_map.2 ⟨i, hi, rfl⟩
    have hr := grd_mem hg (hmem _ he)
    simp only [ed1, ed2, List.mem_cons, List.not_mem_nil, or_false] at hx
    rcases hx with rfl | rfl
    · exact ⟨(es.getD i.toNat (0, 0)).2, by omega, (nearB_iff _ _ _).2 (.inl he)⟩
    · exact ⟨(es.getD i.toNat (0, 0)).1, by omega, (nearB_iff _ _ _).2 (.inr he)⟩
  · rintro ⟨y, hy, hn⟩
    rw [nearB_iff] at hn
    rcases hn with h | h
    · obtain ⟨i, hi, he⟩ := List.mem_map.1 h
      exact ⟨i, hi, by simp only [ed1, ed2, he]; simp⟩
    · obtain ⟨i, hi, he⟩ := List.mem_map.1 h
      exact ⟨i, hi, by simp only [ed1, ed2, he]; simp⟩
theorem adj1_sz (L : List (List Int)) (e : Int × Int) (x : Nat) : ((adj1 L e).getD x []).length ≤ (L.getD x []).length + 1 := by
  unfold adj1
  rw [List.getD_eq_getElem?_getD, List.getElem?_set]
  by_cases h2 : e.2.toNat = x
  · rw [if_pos h2]
    split
    · rw [h2]; simp
    · simp
  · rw [if_neg h2, List.getElem?_set]
    by_cases h1 : e.1.toNat = x
    · rw [if_pos h1]
      split
      · rw [h1]; simp
      · simp
    · rw [if_neg h1, ← List.getD_eq_getElem?_getD]; omega
theorem adjF_sz : ∀ (ps : List (Int × Int)) (L : List (List Int)) (x : Nat), ((ps.foldl adj1 L).getD x []).length ≤ (L.getD x []).length + ps.length
  | [], L, x => by simp
  | e :: ps, L, x => by
    rw [List.foldl_cons]
    have h1 := adjF_sz ps (adj1 L e) x
    have h2 := adj1_sz L e x
    rw [List.length_cons]; omega
theorem adjL_sz (n : Nat) (ps : List (Int × Int)) (x : Nat) : ((adjL n ps).getD x []).length ≤ ps.length := by
  have := adjF_sz ps (List.replicate n []) x
  have h0 : (List.replicate n ([] : List Int)).getD x [] = [] := by
    by_cases h : x < n
    · simp [h]
    · simp [h]
  rw [h0, List.length_nil, Nat.zero_add] at this
  exact this

/- in memory -/
theorem mk_lists {n : Int} (h0 : 0 ≤ n) (h1 : n ≤ 1099511627776) (H : AH) :
    makeSliceA Try.prog 38 (.int .i64 n) (.int .i64 n) H = some (.slice (some ⟨H.length, 0, none⟩) n.toNat n.toNat, H ++ [.cells (List.replicate n.toNat (.slice none 0 0)) 32 false]) := by
  have hb2 : n.toNat * Try.prog.bytesOf 32 ≤ 281474976710656 := by
    rw [by32]; omega
  have hzc : (Value.slice none 0 0).cells = #[.slice none 0 0] := rfl
  have hzs : zerosA (.slice none 0 0) (n.toNat * 1) = List.replicate n.toNat (.slice none 0 0) := by
    unfold zerosA
    rw [hzc, Nat.mul_one]
    apply List.ext_getElem
    · simp
    · intro i h1 h2
      simp [Nat.mod_one]
  simp only [makeSliceA, Try.underlying38, cs32, ze32]
  rw [if_pos ⟨trivial, h0, by omega, hb2, by omega⟩, if_pos ⟨by simp [plainCs, hzc, plainC], by simp [hzc]⟩, hzs]
theorem own_base {e : TypeId} {H0 H1 H : AH} {v : Value} {xs : List Int} (h : Own e H0 H v xs) (hl : H1.length ≤ H0.length) : Own e H1 H v xs := by
  rcases h with h | ⟨o, h1, h2, h3⟩
  · exact .inl h
  · exact .inr ⟨o, h1, by omega, h3⟩
theorem own_keep {e : TypeId} {H0 H H' : AH} {v : Value} {xs : List Int} (h : Own e H0 H v xs) (hh : ∀ y, v ≠ .slice none 0 0 → H[rowO v]? = some y → H'[rowO v]? = some y) : Own e H0 H' v xs := by
  rcases h with h | ⟨o, h1, h2, h3⟩
  · exact .inl h
  · exact .inr ⟨o, h1, h2, by subst h1; exact hh _ (by intro e; cases e) h3⟩
theorem own_nil {e : TypeId} {H0 H : AH} {v : Value} {xs : List Int} (h : Own e H0 H v xs) : v = .slice none 0 0 ∨ (H0.length ≤ rowO v ∧ rowO v < H.length) := by
  rcases h with h | ⟨o, h1, h2, h3⟩
  · exact .inl h.1
  · subst h1; exact .inr ⟨h2, at_lt h3⟩

/-- lists of neighbours that grow -/
structure Adj (C G : AH) (o : Nat) (us : List Value) (L : List (List Int)) : Prop where
  at_ : G[o]? = some (.cells us 32 false)
  olt : o < C.length
  len : us.length = L.length
  el : ∀ i, i < L.length → Own 3 C G (us.getD i undef) (L.getD i [])
  ap : ∀ i j, i ≠ j → i < L.length → j < L.length → Apart (us.getD i undef) (us.getD j undef)
  keep : ∀ (j : Nat) (y : AObj), j ≠ o → C[j]? = some y → G[j]? = some y
  le : C.length ≤ G.length
theorem Adj.ne {C G : AH} {o : Nat} {us : List Value} {L : List (List Int)} (h : Adj C G o us L) {i : Nat} (hi : i < L.length) : us.getD i undef = .slice none 0 0 ∨ rowO (us.getD i undef) ≠ o := by
  rcases own_nil (h.el i hi) with g | g
  · exact .inl g
  · right; have := h.olt; omega
theorem Adj.rowV {C G : AH} {o : Nat} {us : List Value} {L : List (List Int)} (h : Adj C G o us L) : RowV 32 G (.slice (some ⟨o, 0, none⟩) L.length L.length) us :=
  .inr ⟨o, 0, us, false, by rw [h.len], h.at_, by simp, by simp⟩
theorem Adj.inU {C G : AH} {o lo : Nat} {us : List Value} {L : List (List Int)} (h : Adj C G o us L) (hlo : lo ≤ o) : InU lo G.length 32 3 G o us L := by
  have := h.olt
  refine ⟨hlo, at_lt h.at_, h.at_, by rw [h.len]; exact Nat.le_refl _, fun i hi => ⟨(InI.of (h.el i hi).mine).wide (by omega) (Nat.le_refl _), h.ne hi⟩, h.ap⟩
/-- two more, at two places -/
theorem Adj.upd {C G K : AH} {o x y : Nat} {us : List Value} {L : List (List Int)} (h : Adj C G o us L) (hx : x < L.length) (hy : y < L.length) (hxy : x ≠ y) {v1 v2 : Value} {l1 l2 : List Int}
    (h1 : Own 3 C K v1 l1) (h2 : Own 3 C K v2 l2) (g1 : G.length ≤ rowO v1) (g2 : G.length ≤ rowO v2) (hap : rowO v1 ≠ rowO v2) (hl : G.length ≤ K.length)
    (hk : ∀ (j : Nat) (z : AObj), (us.getD x undef = .slice none 0 0 ∨ j ≠ rowO (us.getD x undef)) → (us.getD y undef = .slice none 0 0 ∨ j ≠ rowO (us.getD y undef)) → G[j]? = some z → K[j]? = some z) :
    Adj C (K.set o (.cells ((us.set x v1).set y v2) 32 false)) o ((us.set x v1).set y v2) ((L.set x l1).set y l2) := by
  have hol := h.olt
  have hle := h.le
  have hul := h.len
  have ax : us.getD x undef = .slice none 0 0 ∨ o ≠ rowO (us.getD x undef) := (h.ne hx).imp id fun e => fun q => e q.symm
  have ay : us.getD y undef = .slice none 0 0 ∨ o ≠ rowO (us.getD y undef) := (h.ne hy).imp id fun e => fun q => e q.symm
  have ko := hk o _ ax ay h.at_
  have gu : ∀ i, ((us.set x v1).set y v2).getD i undef = if y = i then (if y < us.length then v2 else undef) else if x = i then (if x < us.length then v1 else undef) else us.getD i undef := by
    intro i
    rw [List.getD_eq_getElem?_getD, List.getElem?_set, List.length_set]
    by_cases e2 : y = i
    · rw [if_pos e2, if_pos e2, if_pos (by omega), if_pos (by omega)]; rfl
    · rw [if_neg e2, if_neg e2, List.getElem?_set]
      by_cases e1 : x = i
      · rw [if_pos e1, if_pos e1, if_pos (by omega), if_pos (by omega)]; rfl
      · rw [if_neg e1, if_neg e1, List.getD_eq_getElem?_getD]
  have gl : ∀ i, ((L.set x l1).set y l2).getD i [] = if y = i then (if y < L.length then l2 else []) else if x = i then (if x < L.length then l1 else []) else L.getD i [] := by
    intro i
    rw [List.getD_eq_getElem?_getD, List.getElem?_set, List.length_set]
    by_cases e2 : y = i
    · rw [if_pos e2, if_pos e2, if_pos (by omega), if_pos (by omega)]; rfl
    · rw [if_neg e2, if_neg e2, List.getElem?_set]
      by_cases e1 : x = i
      · rw [if_pos e1, if_pos e1, if_pos (by omega), if_pos (by omega)]; rfl
      · rw [if_neg e1, if_neg e1, List.getD_eq_getElem?_getD]
  have setk : ∀ {j : Nat} {z : AObj}, j ≠ o → K[j]? = some z → (K.set o (.cells ((us.set x v1).set y v2) 32 false))[j]? = some z := fun hj hz => by
    rw [List.getElem?_set_ne (fun e => hj e.symm)]; exact hz
  have old : ∀ i, i < L.length → i ≠ x → i ≠ y → us.getD i undef ≠ .slice none 0 0 → rowO (us.getD i undef) < G.length ∧ ∀ z, G[rowO (us.getD i undef)]? = some z → K[rowO (us.getD i undef)]? = some z := by
    intro i hi ix iy hn
    rcases own_nil (h.el i hi) with q | q
    · exact absurd q hn
    refine ⟨q.2, fun z hz => hk _ _ ?_ ?_ hz⟩
    · rcases h.ap i x ix hi hx with q1 | q1 | q1
      · exact .inl q1
      · exact absurd q1 hn
      · exact .inr q1
    · rcases h.ap i y iy hi hy with q1 | q1 | q1
      · exact .inl q1
      · exact absurd q1 hn
      · exact .inr q1
  refine ⟨at_set ko, hol, by simp [hul], fun i hi => ?_, fun i j hij hi hj => ?_, fun j z hj hz => ?_, by simp; omega⟩
  · rw [List.length_set, List.length_set] at hi
    rw [gu, gl]
    by_cases e2 : y = i
    · rw [if_pos e2, if_pos e2, if_pos (by omega), if_pos (by omega)]
      exact own_keep h2 fun z _ hz => setk (by omega) hz
    · rw [if_neg e2, if_neg e2]
      by_cases e1 : x = i
      · rw [if_pos e1, if_pos e1, if_pos (by omega), if_pos (by omega)]
        exact own_keep h1 fun z _ hz => setk (by omega) hz
      · rw [if_neg e1, if_neg e1]
        refine own_keep (h.el i hi) fun z hn hz => ?_
        have hq := old i hi (fun e => e1 e.symm) (fun e => e2 e.symm) hn
        refine setk ?_ (hq.2 z hz)
        rcases h.ne hi with q | q
        · exact absurd q hn
        · exact q
  · rw [List.length_set, List.length_set] at hi hj
    have far : ∀ (q : Nat) (v : Value), q < L.length → q ≠ x → q ≠ y → G.length ≤ rowO v → us.getD q undef = .slice none 0 0 ∨ rowO (us.getD q undef) ≠ rowO v := by
      intro q v hq qx qy hv
      by_cases hn : us.getD q undef = .slice none 0 0
      · exact .inl hn
      · right; have := (old q hq qx qy hn).1; omega
    rw [gu, gu]
    by_cases e2 : y = i
    · rw [if_pos e2, if_pos (by omega), if_neg (show ¬ y = j by omega)]
      by_cases e1 : x = j
      · rw [if_pos e1, if_pos (by omega)]
        exact .inr (.inr fun e => hap e.symm)
      · rw [if_neg e1]
        rcases far j v2 hj (fun e => e1 e.symm) (by omega) g2 with q | q
        · exact .inl q
        · exact .inr (.inr fun e => q e.symm)
    · rw [if_neg e2]
      by_cases e1 : x = i
      · rw [if_pos e1, if_pos (by omega)]
        by_cases e3 : y = j
        · rw [if_pos e3, if_pos (by omega)]; exact .inr (.inr hap)
        · rw [if_neg e3, if_neg (show ¬ x = j by omega)]
          rcases far j v1 hj (by omega) (fun e => e3 e.symm) g1 with q | q
          · exact .inl q
          · exact .inr (.inr fun e => q e.symm)
      · rw [if_neg e1]
        by_cases e3 : y = j
        · rw [if_pos e3, if_pos (by omega)]
          rcases far i v2 hi (fun e => e1 e.symm) (fun e => e2 e.symm) g2 with q | q
          · exact .inr (.inl q)
          · exact .inr (.inr q)
        · rw [if_neg e3]
          by_cases e4 : x = j
          · rw [if_pos e4, if_pos (by omega)]
            rcases far i v1 hi (fun e => e1 e.symm) (fun e => e2 e.symm) g1 with q | q
            · exact .inr (.inl q)
            · exact .inr (.inr q)
          · rw [if_neg e4]; exact h.ap i j hij hi hj
  · refine setk hj ?_
    have hjl := at_lt hz
    have hC : ∀ q, q < L.length → us.getD q undef = .slice none 0 0 ∨ j ≠ rowO (us.getD q undef) := fun q hq => by
      rcases own_nil (h.el q hq) with g | g
      · exact .inl g
      · right; omega
    exact hk j z (hC x hx) (hC y hy) (h.keep j z hj hz)
theorem own_lens {e : TypeId} {H0 H1 H K : AH} {v : Value} {xs ys : List Int} (h : Own e H0 H v xs) (k : Own e H1 K v ys) : xs.length = ys.length := by
  obtain ⟨p, hp⟩ := h.row.shape
  obtain ⟨q, hq⟩ := k.row.shape
  rw [hp] at hq
  injection hq
theorem alloc_bagC (H : AH) : allocA Try.prog 117 H = some (.pointer (some ⟨H.length, 0, none⟩), H ++ [.cells [.int .u64 0] 117 false]) := by kernel_rfl
theorem mkf_1C (f : Fn) (p : Option Addr) : makeFuncA f [] [.pointer p] = some (.func f #[] (List.toArray [.pointer p])) := rfl

theorem pcClos_c (b o : Nat) (w : Value) (l s : List Int) (H : AH) (hb : BagI b s) (hr : Row 3 H w l) (hl : 0 < l.length) (hx : 0 ≤ l.getD 0 0 ∧ l.getD 0 0 < 8) (ho : cellA H o 0 = some (.int .u64 (b : Int))) :
    ACalls Try.prog 141 [w, .pointer (some ⟨o, 0, none⟩)] H fun r H' => r = .bool (!decide (l.getD 0 0 ∈ s)) ∧ H = H' := by
  refine in141 rfl ?_
  intro Q hQ
  have hc := hr.cell hl
  rw [Nat.add_zero] at hc
  obtain ⟨x, hxe⟩ : ∃ x : Nat, l.getD 0 0 = x := ⟨(l.getD 0 0).toNat, by omega⟩
  rw [hxe] at hc hQ
  simp (maxSteps := 1000000) (disch := omega) only [cd141, ho, hr.ix Try.underlying32 cs3, Int.toNat_zero, hc, S, S1, S2, S3, S4, S5, ST, eq_self, reduceIte, reduceCtorEq, Nat.reduceEqDiff, Nat.reduceAdd]
  refine CallH.by (has_c b x H (Nat.lt_of_lt_of_le hb.1 (by decide)) (by omega)) ?_
  rintro _ _ ⟨rfl, rfl⟩
  rw [hb.2 x (by omega)]
  simp (maxSteps := 1000000) (disch := omega) only [S, S1, S2, S3, S4, S5, ST, eq_self, reduceIte, reduceCtorEq, Nat.reduceEqDiff, Nat.reduceAdd]
  refine hQ _ _ _ ?_
  simp (maxSteps := 1000000) (disch := omega) only [S, S1, S2, S3, S4, S5, ST, eq_self, reduceIte, reduceCtorEq, Nat.reduceEqDiff, Nat.reduceAdd]

set_option maxRecDepth 20000 in
set_option maxHeartbeats 8000000 in
theorem pieces_c (n : Nat) (v w u : Value) (es : List (Int × Int)) (a b : List Int) (H : AH) (hr : RowP 76 H v es) (hlen : es.length ≤ 1099511627776) (hg : Grd (n : Int) es) (ha : Row 3 H w a) (hb : Row 3 H u b) (hla : a.length ≤ 1048576) (hlb : b.length ≤ 1048576) (hma : Mtc es a) (hmb : Mtc es b) :
    ACalls Try.prog 92 [.agg (List.toArray [.int .i64 (n : Int), v]), w, u] H fun r H' => InL H.length H'.length 32 3 H' r (piecesL (dE es a b) (domL (dE es a b) n n)) ∧ H <+: H' := by
  have hn8 : n ≤ 8 := by have := hg.1; omega
  have hes := grd_28 hg
  have ra := mtc_rng hma
  have rb := mtc_rng hmb
  have hrE : ∀ x y : Int, nearB (dE es a b) x y = true → (0 ≤ x ∧ x < n) ∧ (0 ≤ y ∧ y < n) := fun x y h => by have := dE_rng hg h; exact ⟨this.1, this.2.1⟩
  have hpd := pieces_dom hrE
  have hDr : ∀ x ∈ dix a b es.length, 0 ≤ x ∧ x < es.length := fun x hx => ((dix_mem a b x es.length).1 hx).1
  have hDl := dix_len a b es.length
  have hmore := dix_more a b (N := es.length) (fun x hx => (ra x hx).2) (fun x hx => (rb x hx).2) 32 (by omega)
  have hps : ∀ e ∈ dED es (dix a b es.length), 0 ≤ e.1 ∧ e.1 < e.2 ∧ e.2 < n := fun e he => grd_mem hg (dE_mem he)
  have hdE : dE es a b = dED es (dix a b es.length) := rfl
  rw [← hpd, hdE]
  clear hpd hrE hdE
  refine in92 rfl ?_
  intro Q hQ
  have mk := mk_lists (n := (n : Int)) (by omega) (by omega)
  simp only [Int.toNat_natCast] at mk
  simp (maxSteps := 1000000) (disch := omega) only [cd92, hr.boxG, S, S1, S2, S3, S4, S5, ST, eq_self, reduceIte, reduceCtorEq, Nat.reduceEqDiff, Nat.reduceAdd]
  generalize hA : H ++ [AObj.cells [.int .i64 ↑n, v] 28 false] = A
  have pA : H <+: A := by rw [← hA]; exact List.prefix_append _ _
  have cA : A[H.length]? = some (.cells [.int .i64 ↑n, v] 28 false) := by rw [← hA]; exact at_new ..
  have rA := hr.pre pA
  simp (maxSteps := 1000000) (disch := omega) only [cell_of cA, mk, S, S1, S2, S3, S4, S5, ST, eq_self, reduceIte, reduceCtorEq, Nat.reduceEqDiff, Nat.reduceAdd]
  generalize hB : A ++ [AObj.cells (List.replicate n (.slice none 0 0)) 32 false] = B
  have pB : A <+: B := by rw [← hB]; exact List.prefix_append _ _
  have cB : B[A.length]? = some (.cells (List.replicate n (.slice none 0 0)) 32 false) := by rw [← hB]; exact at_new ..
  have lA : A.length = H.length + 1 := by rw [← hA]; simp
  have lB : B.length = A.length + 1 := by rw [← hB]; simp
  refine CallH.by (difference_c w u a b B (ha.pre (pA.trans pB)) (hb.pre (pA.trans pB)) hla hlb (fun x hx => by have := ra x hx; omega) (fun x hx => by have := rb x hx; omega)) ?_
  rintro d C ⟨hd, pC⟩
  rw [hmore] at hd
  generalize hD : dix a b es.length = D at *
  have lC := pC.length_le
  have adj0 : Adj C C A.length (List.replicate n (.slice none 0 0)) (List.replicate n []) := by
    refine ⟨pre_at pC cB, by omega, by simp, fun i hi => ?_, fun i j _ hi _ => ?_, fun j y _ hy => hy, Nat.le_refl _⟩
    · rw [List.length_replicate] at hi
      exact .inl ⟨by simp [hi], by simp [hi]⟩
    · rw [List.length_replicate] at hi
      exact .inr (.inl (by simp [hi]))
  simp (maxSteps := 1000000) (disch := omega) only [hd.row.len Try.underlying32, S, S1, S2, S3, S4, S5, ST, eq_self, reduceIte, reduceCtorEq, Nat.reduceEqDiff, Nat.reduceAdd]
  refine LoopH.by (fun m s H' => ∃ (i : Nat) (us : List Value), m + i = D.length ∧ s 3 = .pointer (some ⟨H.length, 0, none⟩) ∧ s 7 = .slice (some ⟨A.length, 0, none⟩) n n ∧ s 8 = d ∧ s 20 = d ∧ s 21 = .int .i64 (D.length : Int) ∧ s 22 = .int .i64 ((i : Nat) : Int) ∧ Adj C H' A.length us ((dED es (D.take i)).foldl adj1 (List.replicate n []))) D.length ?_ ?_
  · refine ⟨0, List.replicate n (.slice none 0 0), by simp, rfl, rfl, rfl, rfl, rfl, rfl, ?_⟩
    simpa [dED] using adj0
  rintro m s H' ⟨i, us, hm, h3, h7, h8, h20, h21, h22, hJ⟩
  have hLl : ((dED es (D.take i)).foldl adj1 (List.replicate n [])).length = n := by rw [adjF_len]; simp
  have hLs : ∀ q, (((dED es (D.take i)).foldl adj1 (List.replicate n [])).getD q []).length ≤ 28 := fun q => by
    have h1 := adjF_sz (dED es (D.take i)) (List.replicate n []) q
    have h0 : (List.replicate n ([] : List Int)).getD q [] = [] := by
      by_cases h : q < n
      · simp [h]
      · simp [h]
    rw [h0, List.length_nil, Nat.zero_add] at h1
    have h2 : (dED es (D.take i)).length ≤ D.length := by unfold dED; rw [List.length_map, List.length_take]; omega
    omega
  have pAH : A <+: H' := prefix_of fun j y hy => hJ.keep j y (by have := at_lt hy; omega) (pre_at (pB.trans pC) hy)
  have rH := rA.pre pAH
  have cH := pre_at pAH cA
  have dH : Own 3 B H' d D := own_keep hd fun y hn hy => hJ.keep _ y (by
    rcases own_nil hd with q | q
    · exact absurd q hn
    · omega) hy
  have hle := hJ.le
  simp (maxSteps := 1000000) (disch := omega) only [h3, h7, h8, h20, h21, h22, S, S1, S2, S3, S4, S5, ST, eq_self, reduceIte, reduceCtorEq, Nat.reduceEqDiff, Nat.reduceAdd]
  refine brD.intro (fun g => ?_) (fun g => ?_)
  · have hi : i < D.length := by omega
    have hstep : (dED es (D.take (i + 1))).foldl adj1 (List.replicate n []) = adj1 ((dED es (D.take i)).foldl adj1 (List.replicate n [])) (es.getD (D.getD i 0).toNat (0, 0)) := by
      have e : D.take (i + 1) = D.take i ++ [D.getD i 0] := by
        rw [List.take_add_one, List.getElem?_eq_getElem hi]
        simp [hi]
      rw [e]
      unfold dED
      rw [List.map_append, List.foldl_append]; rfl
    generalize hL : (dED es (D.take i)).foldl adj1 (List.replicate n []) = L at *
    have hdm : D.getD i 0 ∈ D := by simp [hi]
    have hdr := hDr _ hdm
    have hei : (D.getD i 0).toNat < es.length := by omega
    obtain ⟨x, y, ex, ey, hxy, hyn, hy8⟩ := grd_ed hg hei
    have l0 := rH.cell0 hei
    have l1 := rH.cell1 hei
    rw [ex] at l0
    rw [ey] at l1
    have hul := hJ.len
    have hat := hJ.at_
    have cux : us[x]? = some (us.getD x undef) := by simp [show x < us.length by omega]
    have cuy : us[y]? = some (us.getD y undef) := by simp [show y < us.length by omega]
    have ox := hJ.el x (by omega)
    have oy := hJ.el y (by omega)
    have apxy := hJ.ap x y (by omega) (by omega) (by omega)
    have hax : us.getD x undef = .slice none 0 0 ∨ A.length ≠ rowO (us.getD x undef) := (hJ.ne (show x < L.length by omega)).imp id fun e => fun q => e q.symm
    have hay : us.getD y undef = .slice none 0 0 ∨ A.length ≠ rowO (us.getD y undef) := (hJ.ne (show y < L.length by omega)).imp id fun e => fun q => e q.symm
    have hcd := dH.row.cell hi
    -- the first
    have at1 : ((H' ++ [AObj.cells [.int .i64 (y : Int)] 3 false]) ++ [AObj.cells [.int .i64 (x : Int)] 3 false])[H'.length]? = some (.cells [.int .i64 (y : Int)] 3 false) := at_app (at_new H' _) _
    have hx1 : Row 3 ((H' ++ [AObj.cells [.int .i64 (y : Int)] 3 false]) ++ [AObj.cells [.int .i64 (x : Int)] 3 false]) (.slice (some ⟨H'.length, 0, none⟩) 1 1) [(y : Int)] := .inr ⟨H'.length, 0, [.int .i64 (y : Int)], false, rfl, at1, by simp, rfl⟩
    have pG2 : H' <+: (H' ++ [AObj.cells [.int .i64 (y : Int)] 3 false]) ++ [AObj.cells [.int .i64 (x : Int)] 3 false] := by rw [List.append_assoc]; exact List.prefix_append _ _
    have hat2 := pre_at pG2 hat
    have at2 : ((H' ++ [AObj.cells [.int .i64 (y : Int)] 3 false]) ++ [AObj.cells [.int .i64 (x : Int)] 3 false])[(H' ++ [AObj.cells [.int .i64 (y : Int)] 3 false]).length]? = some (.cells [.int .i64 (x : Int)] 3 false) := at_new ..
    have lG1 : (H' ++ [AObj.cells [.int .i64 (y : Int)] 3 false]).length = H'.length + 1 := by simp
    generalize hG2 : (H' ++ [AObj.cells [.int .i64 (y : Int)] 3 false]) ++ [AObj.cells [.int .i64 (x : Int)] 3 false] = G2 at *
    have lG2 : G2.length = H'.length + 2 := by rw [← hG2]; simp
    have ox2 : Own 3 (G2.take C.length) G2 (us.getD x undef) (L.getD x []) := own_base (own_keep ox fun z _ hz => pre_at pG2 hz) (by simp; omega)
    obtain ⟨v1, K1, j1, j2, j3, j4, j5⟩ := ox2.app (P := Try.prog) (t := 32) Try.underlying32 cs3 (by rw [by3]; decide) zk3 hx1 (List.take_prefix _ _) (by have := hLs x; simp only [List.length_cons, List.length_nil]; omega)
    have j5' : G2.length ≤ rowO v1 := by
      rcases j5 with q | ⟨q, _⟩
      · exact q
      · rw [q] at j2
        have := own_lens j2 ox2
        simp at this
    have jn := own_nil j2
    have hv1n : v1 ≠ .slice none 0 0 := by
      intro e
      rw [e] at j5'
      have : rowO (Value.slice none 0 0) = 0 := rfl
      omega
    have j2a := j2.row
    rcases jn with jn | jn
    · exact absurd jn hv1n
    have hatK := j4 _ _ hax hat2
    -- the second
    have oy2 : Own 3 (K1.take C.length) K1 (us.getD y undef) (L.getD y []) := own_base (own_keep oy fun z hn hz => j4 _ _ (by
      rcases apxy with q | q | q
      · exact absurd q hn
      · exact .inl q
      · exact .inr fun e => q e.symm) (pre_at pG2 hz)) (by simp; omega)
    have at3 := j4 _ _ (by
      rcases own_nil ox with q | q
      · exact .inl q
      · right; omega) at2
    have hkeq : K1[(H' ++ [AObj.cells [.int .i64 (y : Int)] 3 false]).length]? = G2[(H' ++ [AObj.cells [.int .i64 (y : Int)] 3 false]).length]? := by rw [at3, at2]
    have hx2 : Row 3 K1 (.slice (some ⟨(H' ++ [AObj.cells [.int .i64 (y : Int)] 3 false]).length, 0, none⟩) 1 1) [(x : Int)] := .inr ⟨_, 0, [.int .i64 (x : Int)], false, rfl, at3, by simp, rfl⟩
    obtain ⟨v2, K2, k1, k2, k3, k4, k5o⟩ := oy2.app (P := Try.prog) (t := 32) Try.underlying32 cs3 (by rw [by3]; decide) zk3 hx2 (List.take_prefix _ _) (by have := hLs y; simp only [List.length_cons, List.length_nil]; omega)
    have k5 : K1.length ≤ rowO v2 := by
      rcases k5o with q | ⟨q, _⟩
      · exact q
      · rw [q] at k2
        have := own_lens k2 oy2
        simp at this
    have kn := own_nil k2
    have hatK2 := k4 _ _ hay hatK
    have hv2n : v2 ≠ .slice none 0 0 := by
      intro e
      rw [e] at k5
      have : rowO (Value.slice none 0 0) = 0 := rfl
      omega
    rcases kn with kn | kn
    · exact absurd kn hv2n
    have hyr : us.getD y undef = .slice none 0 0 ∨ rowO v1 ≠ rowO (us.getD y undef) := by
      rcases own_nil oy with q | q
      · exact .inl q
      · right; omega
    have hv1K : Own 3 C K2 v1 (L.getD x [] ++ [(y : Int)]) := own_base (own_keep j2 fun z _ hz => k4 _ _ hyr hz) (by simp; omega)
    have hv2K : Own 3 C K2 v2 (L.getD y [] ++ [(x : Int)]) := own_base k2 (by simp; omega)
    obtain ⟨p1, hp1⟩ := hv1K.row.shape
    obtain ⟨p2, hp2⟩ := hv2K.row.shape
    have st1 := st_at (P := Try.prog) (t := 32) (i := x) (y := v1) cs32 hatK2 (by omega) (by rw [hp1]; rfl) (by rw [hp1]; rfl)
    have st2 := st_at (P := Try.prog) (t := 32) (i := y) (y := v2) cs32 (at_set (d := .cells (us.set x v1) 32 false) hatK2) (by simp; omega) (by rw [hp2]; rfl) (by rw [hp2]; rfl)
    rw [List.set_set] at st2
    have hJ2 := hJ.upd (x := x) (y := y) (by omega) (by omega) (by omega) hv1K hv2K (by omega) (by omega) (by omega) (by omega) (fun j z hjx hjy hz => k4 _ _ hjy (j4 _ _ hjx (pre_at pG2 hz)))
    have eA : (L.set x (L.getD x [] ++ [(y : Int)])).set y (L.getD y [] ++ [(x : Int)]) = adj1 L (es.getD (D.getD i 0).toNat (0, 0)) := by
      unfold adj1
      rw [ex, ey, Int.toNat_natCast, Int.toNat_natCast]
    rw [eA, ← hstep] at hJ2
    simp (maxSteps := 1000000) (disch := omega) only [h3, h7, h8, h20, h21, h22, cell_of cH, dH.row.ix Try.underlying32 cs3, hcd, rH.ix Try.underlying22 cs76, Int.toNat_natCast, Nat.zero_add, l0, l1, cell_of hat, cell_of (at_app hat _), cell_of hat2, cell_of hatK, cux, cuy, hG2, j1, hkeq, k1, st1, st2, wrap64, S, S1, S2, S3, S4, S5, ST, eq_self, reduceIte, reduceCtorEq, Nat.reduceEqDiff, Nat.reduceAdd]
    refine ⟨m - 1, by omega, i + 1, (us.set x v1).set y v2, ?_⟩
    (repeat' first | exact hJ2 | apply And.intro) <;> first | (simp only [Value.int.injEq, true_and]; omega) | omega | rfl | assumption | (simp; done) | (simp; omega)
  · have hi : i = D.length := by omega
    subst hi
    rw [List.take_length] at hJ hLl hLs
    have eL : (dED es D).foldl adj1 (List.replicate n []) = adjL n (dED es D) := rfl
    rw [eL] at hJ hLl hLs
    simp (maxSteps := 1000000) (disch := omega) only [h3, h7, h8, ld_agg ag28 cs28 cH, S, S1, S2, S3, S4, S5, ST, eq_self, reduceIte, reduceCtorEq, Nat.reduceEqDiff, Nat.reduceAdd]
    refine CallH.by (ends_c (n : Int) v d es D H' rH hlen hg dH.row (by omega) hDr) ?_
    rintro _ E ⟨bg, rfl, hbg, pE⟩
    have st0 := st_at (P := Try.prog) (t := 117) (i := 0) (y := .int .u64 (bg : Int)) cs117 (at_new E (.cells [.int .u64 0] 117 false)) (by show 0 < 1; decide) rfl rfl
    rw [set_new, List.set_cons_zero] at st0
    simp (maxSteps := 1000000) (disch := omega) only [h7, alloc_bagC, st0, S, S1, S2, S3, S4, S5, ST, eq_self, reduceIte, reduceCtorEq, Nat.reduceEqDiff, Nat.reduceAdd]
    generalize hF : E ++ [AObj.cells [.int .u64 (bg : Int)] 117 false] = F
    have pF : E <+: F := by rw [← hF]; exact List.prefix_append _ _
    have cF : F[E.length]? = some (.cells [.int .u64 (bg : Int)] 117 false) := by rw [← hF]; exact at_new ..
    have lF : F.length = E.length + 1 := by rw [← hF]; simp
    have lE := pE.length_le
    have hrowL := ((hJ.inU (lo := H.length) (by omega)).row).pre (pE.trans pF)
    rw [hLl] at hrowL
    have hadj := adjL_adj hps
    have hLok : LOk (adjL n (dED es D)).length (adjL n (dED es D)) := by
      intro q z hz
      by_cases hq : q < (adjL n (dED es D)).length
      · exact ((hadj q hq z).1 hz).1
      · rw [List.getD_eq_getElem?_getD, List.getElem?_eq_none (by omega)] at hz
        simp at hz
    refine CallH.by (parts_c (.slice (some ⟨A.length, 0, none⟩) n n) (adjL n (dED es D)) (-1) F hrowL hLok (by omega) (by omega) (fun q => by have := hLs q; omega)) ?_
    rintro r P ⟨hL2, pP⟩
    rw [parts_pieces hadj, adjL_len, setW_all] at hL2
    have hpl := pieces_le (dED es D) (alls n) (alls_sm hn8)
    have hal := alls_len n
    have lP := pP.length_le
    have hrO : r = .slice none 0 0 ∨ F.length ≤ rowO r := by
      rcases hL2 with q | ⟨o, us', q, h1, _⟩
      · exact .inl q.1
      · right; rw [q]; exact h1
    simp (maxSteps := 1000000) (disch := omega) only [mkf_1C, S, S1, S2, S3, S4, S5, ST, eq_self, reduceIte, reduceCtorEq, Nat.reduceEqDiff, Nat.reduceAdd]
    refine CallH.by (DelL_c r (piecesL (dED es D) (alls n)) (fun p => !decide (p.getD 0 0 ∈ seenL es D)) 141 [.pointer (some ⟨E.length, 0, none⟩)] P hL2 (by omega) (fun w' l H1 hrow hl hk => ?_)) ?_
    · have hf := piece_first hl
      have hf2 := (alls_mem n _).1 (piece_sub hl hf)
      have hlp : 0 < l.length := List.length_pos_of_mem hf
      exact pcClos_c bg E.length w' l (seenL es D) H1 hbg hrow hlp (by omega) (cell_of (hk _ _ (hrO.imp id fun q => by omega) (pre_at pP cF)) 0)
    rintro r2 Z ⟨hL3, hkZ, lZ⟩
    simp (maxSteps := 1000000) (disch := omega) only [S, S1, S2, S3, S4, S5, ST, eq_self, reduceIte, reduceCtorEq, Nat.reduceEqDiff, Nat.reduceAdd]
    refine hQ _ _ _ ?_
    simp (maxSteps := 1000000) (disch := omega) only [hL3.tup9, S, S1, S2, S3, S4, S5, ST, eq_self, reduceIte, reduceCtorEq, Nat.reduceEqDiff, Nat.reduceAdd]
    have ef : (piecesL (dED es D) (alls n)).filter (fun l => !(fun p : List Int => !decide (p.getD 0 0 ∈ seenL es D)) l) = (piecesL (dED es D) (alls n)).filter (fun p => nbB (dED es D) n (p.getD 0 0)) := by
      refine List.filter_congr fun p _ => ?_
      have := seen_nb hg hDr (p.getD 0 0)
      rw [Int.toNat_natCast] at this
      simp only [Bool.not_not]
      by_cases h : p.getD 0 0 ∈ seenL es D
      · rw [decide_eq_true h, this.1 h]
      · rw [decide_eq_false h]
        cases hh : nbB (dED es D) n (p.getD 0 0) with
        | true => exact absurd (this.2 hh) h
        | false => rfl
    rw [ef] at hL3
    refine ⟨hL3.wide (by have := pA.length_le; omega) lZ, prefix_of fun j y hy => hkZ j y ?_ (pre_at (pA.trans (pAH.trans (pE.trans (pF.trans pP)))) hy)⟩
    rcases hrO with q | q
    · exact .inl q
    · right; have := at_lt hy; have := pA.length_le; omega
end Go.Proofs.Ythhnpchjjbjabaa.Ai
