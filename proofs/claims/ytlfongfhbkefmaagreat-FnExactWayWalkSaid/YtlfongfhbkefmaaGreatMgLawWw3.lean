/- Texts of this claim, joined: MatP, Ty, Arr, Prs, Ints, Mark, MarkP, Grf, Base, PermP, PutP, Sort, Good, MatA. -/
import Derived.Test.YtlfongfhbkefmaaGreatProg
import Derived.KernelRfl
import Derived.Laws.BitsLemmas
import Derived.Laws.Bits64
import Derived.Test.YtlfongfhbkefmaaGreatMgLawWw2
namespace Go.Proofs.YtlfongfhbkefmaaGreat.Ai
open Go Go.RowKit
set_option linter.unusedVariables false
/-- both nodes of an edge -/
abbrev ed1 (es : List (Int × Int)) (e : Int) : Int := (es.getD e.toNat (0, 0)).1
abbrev ed2 (es : List (Int × Int)) (e : Int) : Int := (es.getD e.toNat (0, 0)).2
def seenL (es : List (Int × Int)) (xs : List Int) : List Int := xs.flatMap fun e => [ed1 es e, ed2 es e]
theorem seenL_snoc (es : List (Int × Int)) (xs : List Int) (e : Int) : seenL es (xs ++ [e]) = seenL es xs ++ [ed1 es e, ed2 es e] := by simp [seenL]
theorem seenL_len (es : List (Int × Int)) (xs : List Int) : (seenL es xs).length = 2 * xs.length := by
  induction xs with
  | nil => rfl
  | cons a xs ih => simp only [seenL, List.flatMap_cons, List.length_append] at ih ⊢; simp only [List.length_cons, List.length_nil, ih]; omega
def rsOk (n : Int) (xs : List Int) (i : Nat) : Prop := (0 ≤ xs.getD i 0 ∧ xs.getD i 0 ≤ n - 1) ∧ (0 < i → xs.getD (i - 1) 0 < xs.getD i 0)
instance (n : Int) (xs : List Int) (i : Nat) : Decidable (rsOk n xs i) := by unfold rsOk; infer_instance
def frOk (es : List (Int × Int)) (xs : List Int) (i : Nat) : Prop := ed1 es (xs.getD i 0) ∉ seenL es (xs.take i) ∧ ed2 es (xs.getD i 0) ∉ seenL es (xs.take i)
instance (es : List (Int × Int)) (xs : List Int) (i : Nat) : Decidable (frOk es xs i) := by unfold frOk; infer_instance
def MtU (es : List (Int × Int)) (xs : List Int) (k : Nat) : Prop := ∀ i, i < k → rsOk es.length xs i ∧ frOk es xs i
instance (es : List (Int × Int)) (xs : List Int) (k : Nat) : Decidable (MtU es xs k) := by unfold MtU; infer_instance
theorem MtU.zero (es : List (Int × Int)) (xs : List Int) : MtU es xs 0 := fun i h => absurd h (Nat.not_lt_zero i)
theorem MtU.succ {es : List (Int × Int)} {xs : List Int} {k : Nat} (h : MtU es xs k) (h1 : rsOk es.length xs k) (h2 : frOk es xs k) : MtU es xs (k + 1) := by
  intro i hi
  rcases Nat.lt_succ_iff_lt_or_eq.1 hi with g | g
  · exact h i g
  · rw [g]; exact ⟨h1, h2⟩
theorem MtU.no {es : List (Int × Int)} {xs : List Int} {k i : Nat} (hi : i < k) (h : ¬ (rsOk es.length xs i ∧ frOk es xs i)) : ¬ MtU es xs k := fun g => h (g i hi)
end Go.Proofs.YtlfongfhbkefmaaGreat.Ai
namespace Go.Proofs.YtlfongfhbkefmaaGreat.Ai
open Go
theorem cs3 : Tryz.prog.cellsOf 3 = 1 := by kernel_rfl
theorem by3 : Tryz.prog.bytesOf 3 = 8 := by kernel_rfl
theorem ag3 : isAggA Tryz.prog 3 = some false := by kernel_rfl
theorem ze3 : zeroA Tryz.prog 3 = some (.int .i64 0) := by kernel_rfl
theorem zk3 : zeroOk Tryz.prog 3 = true := by kernel_rfl
theorem cs4 : Tryz.prog.cellsOf 4 = 1 := by kernel_rfl
theorem ag4 : isAggA Tryz.prog 4 = some false := by kernel_rfl
theorem ze4 : zeroA Tryz.prog 4 = some (.bool false) := by kernel_rfl
theorem ag5 : isAggA Tryz.prog 5 = some false := by kernel_rfl
theorem ag9 : isAggA Tryz.prog 9 = some false := by kernel_rfl
theorem cs22 : Tryz.prog.cellsOf 22 = 1 := by kernel_rfl
theorem ag22 : isAggA Tryz.prog 22 = some false := by kernel_rfl
theorem cs24 : Tryz.prog.cellsOf 24 = 2 := by kernel_rfl
theorem ag24 : isAggA Tryz.prog 24 = some true := by kernel_rfl
theorem cs26 : Tryz.prog.cellsOf 26 = 1 := by kernel_rfl
theorem ag26 : isAggA Tryz.prog 26 = some false := by kernel_rfl
theorem cs28 : Tryz.prog.cellsOf 28 = 2 := by kernel_rfl
theorem ag28 : isAggA Tryz.prog 28 = some true := by kernel_rfl
theorem cs31 : Tryz.prog.cellsOf 31 = 2 := by kernel_rfl
theorem ag31 : isAggA Tryz.prog 31 = some true := by kernel_rfl
theorem ag32 : isAggA Tryz.prog 32 = some false := by kernel_rfl
theorem cs38 : Tryz.prog.cellsOf 38 = 1 := by kernel_rfl
theorem by38 : Tryz.prog.bytesOf 38 = 24 := by kernel_rfl
theorem ag38 : isAggA Tryz.prog 38 = some false := by kernel_rfl
theorem ze38 : zeroA Tryz.prog 38 = some (.slice none 0 0) := by kernel_rfl
theorem zk38 : zeroOk Tryz.prog 38 = true := by kernel_rfl
theorem ag58 : isAggA Tryz.prog 58 = some false := by kernel_rfl
theorem ag61 : isAggA Tryz.prog 61 = some false := by kernel_rfl
theorem ag68 : isAggA Tryz.prog 68 = some false := by kernel_rfl
theorem ag73 : isAggA Tryz.prog 73 = some false := by kernel_rfl
theorem cs83 : Tryz.prog.cellsOf 83 = 2 := by kernel_rfl
theorem by83 : Tryz.prog.bytesOf 83 = 16 := by kernel_rfl
theorem ag83 : isAggA Tryz.prog 83 = some true := by kernel_rfl
theorem ze83 : zeroA Tryz.prog 83 = some (.agg #[(.int .i64 0), (.int .i64 0)]) := by kernel_rfl
theorem zk83 : zeroOk Tryz.prog 83 = true := by kernel_rfl
theorem ag86 : isAggA Tryz.prog 86 = some false := by kernel_rfl
theorem ag89 : isAggA Tryz.prog 89 = some false := by kernel_rfl
theorem ag108 : isAggA Tryz.prog 108 = some false := by kernel_rfl
theorem ag109 : isAggA Tryz.prog 109 = some false := by kernel_rfl
theorem ag110 : isAggA Tryz.prog 110 = some false := by kernel_rfl
theorem ag129 : isAggA Tryz.prog 129 = some false := by kernel_rfl
theorem ag137 : isAggA Tryz.prog 137 = some false := by kernel_rfl
theorem ag159 : isAggA Tryz.prog 159 = some false := by kernel_rfl
theorem ag166 : isAggA Tryz.prog 166 = some false := by kernel_rfl
theorem own1_22 {H0 H : AH} {v : Value} {ps : List (Int × Int)} (h : MineP 83 H0 H v ps) (hp : H0 <+: H) (hb : ps.length ≤ 1099511627775) (a b : Int) : ∃ v' H', appendA Tryz.prog 22 22 v (.slice (some ⟨H.length, 0, none⟩) 1 1) (H ++ [.cells [.int .i64 a, .int .i64 b] 83 false]) = some (v', H') ∧ MineP 83 H0 H' v' (ps ++ [(a, b)]) ∧ H0 <+: H' ∧ Kept v H H' ∧ H.length ≤ rowO v' ∧ isTup v' = false := MineP.app1 Tryz.underlying22 cs83 (by rw [by83]; decide) zk83 h hp hb a b
theorem mks22 {n : Int} (h0 : 0 ≤ n) (h1 : n ≤ 1099511627776) (H : AH) : makeSliceA Tryz.prog 22 (.int .i64 n) (.int .i64 n) H = some (.slice (some ⟨H.length, 0, none⟩) n.toNat n.toNat, H ++ [.cells (ints (flat (List.replicate n.toNat (0, 0)))) 83 false]) := mk_prs Tryz.underlying22 cs83 (by rw [by83]; decide) ze83 h0 h1 H
theorem mks38 {n : Int} (h0 : 0 ≤ n) (h1 : n ≤ 1099511627776) (H : AH) : makeSliceA Tryz.prog 38 (.int .i64 n) (.int .i64 n) H = some (.slice (some ⟨H.length, 0, none⟩) n.toNat n.toNat, H ++ [.cells (ints (List.replicate n.toNat 0)) 3 false]) := mk_ints Tryz.underlying38 cs3 (by rw [by3]; decide) ze3 h0 h1 H
theorem own1_38 {H0 H : AH} {v : Value} {ys : List Int} (h : Own 3 H0 H v ys) (hp : H0 <+: H) (hb : ys.length ≤ 1099511627775) (x : Int) : ∃ v' H', appendA Tryz.prog 38 38 v (.slice (some ⟨H.length, 0, none⟩) 1 1) (H ++ [.cells [.int .i64 x] 3 false]) = some (v', H') ∧ Own 3 H0 H' v' (ys ++ [x]) ∧ H0 <+: H' ∧ Kept v H H' ∧ H.length ≤ rowO v' ∧ isTup v' = false := Own.app1 Tryz.underlying38 cs3 (by rw [by3]; decide) zk3 h hp hb x
theorem ixa83 (p : Addr) (k : IntKind) {i : Int} (h0 : 0 ≤ i) (h1 : i < 2) : indexAddrA Tryz.prog 83 (.pointer (some p)) (.int k i) = some (.pointer (some ⟨p.block, p.off + i.toNat, none⟩)) := ix_arr Tryz.underlying83 cs3 p k h0 h1
theorem ST : (∀ p H, loadA Tryz.prog 3 (.pointer (some p)) H = cellA H p.block p.off) ∧
    (∀ p H, loadA Tryz.prog 4 (.pointer (some p)) H = cellA H p.block p.off) ∧
    (∀ a b, binA Tryz.prog .eql 4 (.bool a) (.bool b) = some (.bool (decide (a = b)))) ∧
    (∀ a b, binA Tryz.prog .neq 4 (.bool a) (.bool b) = some (.bool (decide (a ≠ b)))) ∧
    (∀ p H, loadA Tryz.prog 5 (.pointer (some p)) H = cellA H p.block p.off) ∧
    (∀ p H, loadA Tryz.prog 9 (.pointer (some p)) H = cellA H p.block p.off) ∧
    (∀ p H, loadA Tryz.prog 22 (.pointer (some p)) H = cellA H p.block p.off) ∧
    (∀ H, buildSliceA Tryz.prog 22 0 [] H = some (.slice (some ⟨H.length, 0, none⟩) 0 0, H ++ [.cells [] 83 false])) ∧
    (∀ H a b, buildSliceA Tryz.prog 22 1 [(0, .agg (List.toArray [a, b]))] H = some (.slice (some ⟨H.length, 0, none⟩) 1 1, H ++ [.cells [a, b] 83 false])) ∧
    (∀ (p : Addr) (n c : Nat) (k : IntKind) {i : Int}, 0 ≤ i → i < (n : Int) → indexAddrA Tryz.prog 22 (.slice (some p) n c) (.int k i) = some (.pointer (some ⟨p.block, p.off + 2 * i.toNat, none⟩))) ∧
    (∀ a n c m d, binA Tryz.prog .eql 22 (.slice a n c) (.slice none m d) = some (.bool (a.isNone))) ∧
    (∀ a n c m d, binA Tryz.prog .neq 22 (.slice a n c) (.slice none m d) = some (.bool (!a.isNone))) ∧
    (∀ x H, lenS Tryz.prog 22 x H = lenA Tryz.prog 22 x) ∧
    (∀ p n c, lenA Tryz.prog 22 (.slice p n c) = some (.int .i64 n)) ∧
    (∀ (p : Addr), fieldAddrA Tryz.prog 24 (.pointer (some p)) 0 = some (.pointer (some ⟨p.block, p.off, none⟩))) ∧
    (∀ (p : Addr), fieldAddrA Tryz.prog 24 (.pointer (some p)) 1 = some (.pointer (some ⟨p.block, p.off + 1, none⟩))) ∧
    (∀ p H, loadA Tryz.prog 26 (.pointer (some p)) H = cellA H p.block p.off) ∧
    (∀ (p : Addr) (n c : Nat) (k : IntKind) {i : Int}, 0 ≤ i → i < (n : Int) → indexAddrA Tryz.prog 26 (.slice (some p) n c) (.int k i) = some (.pointer (some ⟨p.block, p.off + i.toNat, none⟩))) ∧
    (∀ H, buildSliceA Tryz.prog 26 0 [] H = some (.slice (some ⟨H.length, 0, none⟩) 0 0, H ++ [.cells [] 38 false])) ∧
    (∀ H p0 n0 c0, buildSliceA Tryz.prog 26 1 [(0, (.slice p0 n0 c0))] H = some (.slice (some ⟨H.length, 0, none⟩) 1 1, H ++ [.cells [(.slice p0 n0 c0)] 38 false])) ∧
    (∀ H p0 n0 c0 p1 n1 c1, buildSliceA Tryz.prog 26 2 [(0, (.slice p0 n0 c0)), (1, (.slice p1 n1 c1))] H = some (.slice (some ⟨H.length, 0, none⟩) 2 2, H ++ [.cells [(.slice p0 n0 c0), (.slice p1 n1 c1)] 38 false])) ∧
    (∀ H p0 n0 c0 p1 n1 c1 p2 n2 c2, buildSliceA Tryz.prog 26 3 [(0, (.slice p0 n0 c0)), (1, (.slice p1 n1 c1)), (2, (.slice p2 n2 c2))] H = some (.slice (some ⟨H.length, 0, none⟩) 3 3, H ++ [.cells [(.slice p0 n0 c0), (.slice p1 n1 c1), (.slice p2 n2 c2)] 38 false])) ∧
    (∀ a n c m d, binA Tryz.prog .eql 26 (.slice a n c) (.slice none m d) = some (.bool (a.isNone))) ∧
    (∀ a n c m d, binA Tryz.prog .neq 26 (.slice a n c) (.slice none m d) = some (.bool (!a.isNone))) ∧
    (∀ x H, lenS Tryz.prog 26 x H = lenA Tryz.prog 26 x) ∧
    (∀ p n c, lenA Tryz.prog 26 (.slice p n c) = some (.int .i64 n)) ∧
    (∀ (p : Addr), fieldAddrA Tryz.prog 28 (.pointer (some p)) 0 = some (.pointer (some ⟨p.block, p.off, none⟩))) ∧
    (∀ (p : Addr), fieldAddrA Tryz.prog 28 (.pointer (some p)) 1 = some (.pointer (some ⟨p.block, p.off + 1, none⟩))) ∧
    (∀ (p : Addr), fieldAddrA Tryz.prog 31 (.pointer (some p)) 0 = some (.pointer (some ⟨p.block, p.off, none⟩))) ∧
    (∀ (p : Addr), fieldAddrA Tryz.prog 31 (.pointer (some p)) 1 = some (.pointer (some ⟨p.block, p.off + 1, none⟩))) ∧
    (∀ p H, loadA Tryz.prog 32 (.pointer (some p)) H = cellA H p.block p.off) ∧
    (∀ p H, loadA Tryz.prog 38 (.pointer (some p)) H = cellA H p.block p.off) ∧
    (∀ (p : Addr) (n c : Nat) (k : IntKind) {i : Int}, 0 ≤ i → i < (n : Int) → indexAddrA Tryz.prog 38 (.slice (some p) n c) (.int k i) = some (.pointer (some ⟨p.block, p.off + i.toNat, none⟩))) ∧
    (∀ H, buildSliceA Tryz.prog 38 0 [] H = some (.slice (some ⟨H.length, 0, none⟩) 0 0, H ++ [.cells [] 3 false])) ∧
    (∀ H k0 x0, buildSliceA Tryz.prog 38 1 [(0, (.int k0 x0))] H = some (.slice (some ⟨H.length, 0, none⟩) 1 1, H ++ [.cells [(.int k0 x0)] 3 false])) ∧
    (∀ H k0 x0 k1 x1, buildSliceA Tryz.prog 38 2 [(0, (.int k0 x0)), (1, (.int k1 x1))] H = some (.slice (some ⟨H.length, 0, none⟩) 2 2, H ++ [.cells [(.int k0 x0), (.int k1 x1)] 3 false])) ∧
    (∀ H k0 x0 k1 x1 k2 x2, buildSliceA Tryz.prog 38 3 [(0, (.int k0 x0)), (1, (.int k1 x1)), (2, (.int k2 x2))] H = some (.slice (some ⟨H.length, 0, none⟩) 3 3, H ++ [.cells [(.int k0 x0), (.int k1 x1), (.int k2 x2)] 3 false])) ∧
    (∀ a n c m d, binA Tryz.prog .eql 38 (.slice a n c) (.slice none m d) = some (.bool (a.isNone))) ∧
    (∀ a n c m d, binA Tryz.prog .neq 38 (.slice a n c) (.slice none m d) = some (.bool (!a.isNone))) ∧
    (∀ x H, lenS Tryz.prog 38 x H = lenA Tryz.prog 38 x) ∧
    (∀ p n c, lenA Tryz.prog 38 (.slice p n c) = some (.int .i64 n)) ∧
    (∀ p H, loadA Tryz.prog 58 (.pointer (some p)) H = cellA H p.block p.off) ∧
    (∀ p H, loadA Tryz.prog 61 (.pointer (some p)) H = cellA H p.block p.off) ∧
    (∀ p H, loadA Tryz.prog 68 (.pointer (some p)) H = cellA H p.block p.off) ∧
    (∀ p H, loadA Tryz.prog 73 (.pointer (some p)) H = cellA H p.block p.off) ∧
    (∀ x H, lenS Tryz.prog 73 x H = lenMapA Tryz.prog 73 x H) ∧
    (∀ (p : Addr) (k : IntKind), indexAddrA Tryz.prog 83 (.pointer (some p)) (.int k 0) = some (.pointer (some ⟨p.block, p.off, none⟩))) ∧
    (∀ (p : Addr) (k : IntKind), indexAddrA Tryz.prog 83 (.pointer (some p)) (.int k 1) = some (.pointer (some ⟨p.block, p.off + 1, none⟩))) ∧
    (∀ p H, loadA Tryz.prog 86 (.pointer (some p)) H = cellA H p.block p.off) ∧
    (∀ p H, loadA Tryz.prog 89 (.pointer (some p)) H = cellA H p.block p.off) ∧
    (∀ p H, loadA Tryz.prog 108 (.pointer (some p)) H = cellA H p.block p.off) ∧
    (∀ p H, loadA Tryz.prog 109 (.pointer (some p)) H = cellA H p.block p.off) ∧
    (∀ p H, loadA Tryz.prog 110 (.pointer (some p)) H = cellA H p.block p.off) ∧
    (∀ p H, loadA Tryz.prog 129 (.pointer (some p)) H = cellA H p.block p.off) ∧
    (∀ p H, loadA Tryz.prog 137 (.pointer (some p)) H = cellA H p.block p.off) ∧
    (∀ (p : Addr) (n c : Nat) (k : IntKind) {i : Int}, 0 ≤ i → i < (n : Int) → indexAddrA Tryz.prog 137 (.slice (some p) n c) (.int k i) = some (.pointer (some ⟨p.block, p.off + i.toNat, none⟩))) ∧
    (∀ H, buildSliceA Tryz.prog 137 0 [] H = some (.slice (some ⟨H.length, 0, none⟩) 0 0, H ++ [.cells [] 4 false])) ∧
    (∀ H x0, buildSliceA Tryz.prog 137 1 [(0, (.bool x0))] H = some (.slice (some ⟨H.length, 0, none⟩) 1 1, H ++ [.cells [(.bool x0)] 4 false])) ∧
    (∀ H x0 x1, buildSliceA Tryz.prog 137 2 [(0, (.bool x0)), (1, (.bool x1))] H = some (.slice (some ⟨H.length, 0, none⟩) 2 2, H ++ [.cells [(.bool x0), (.bool x1)] 4 false])) ∧
    (∀ H x0 x1 x2, buildSliceA Tryz.prog 137 3 [(0, (.bool x0)), (1, (.bool x1)), (2, (.bool x2))] H = some (.slice (some ⟨H.length, 0, none⟩) 3 3, H ++ [.cells [(.bool x0), (.bool x1), (.bool x2)] 4 false])) ∧
    (∀ a n c m d, binA Tryz.prog .eql 137 (.slice a n c) (.slice none m d) = some (.bool (a.isNone))) ∧
    (∀ a n c m d, binA Tryz.prog .neq 137 (.slice a n c) (.slice none m d) = some (.bool (!a.isNone))) ∧
    (∀ x H, lenS Tryz.prog 137 x H = lenA Tryz.prog 137 x) ∧
    (∀ p n c, lenA Tryz.prog 137 (.slice p n c) = some (.int .i64 n)) ∧
    (∀ p H, loadA Tryz.prog 159 (.pointer (some p)) H = cellA H p.block p.off) ∧
    (∀ p H, loadA Tryz.prog 166 (.pointer (some p)) H = cellA H p.block p.off) ∧
    (∀ k n, convA Tryz.prog 3 5 (.int k n) = some (.int .u8 (IntKind.u8.wrap n))) ∧
    (∀ k n, convA Tryz.prog 3 86 (.int k n) = some (.int .u64 (IntKind.u64.wrap n))) ∧
    (∀ k n, convA Tryz.prog 3 108 (.int k n) = some (.int .u64 (IntKind.u64.wrap n))) ∧
    (∀ k n, convA Tryz.prog 3 109 (.int k n) = some (.int .u64 (IntKind.u64.wrap n))) ∧
    (∀ k n, convA Tryz.prog 3 159 (.int k n) = some (.int .u32 (IntKind.u32.wrap n))) ∧
    (∀ k n, convA Tryz.prog 5 3 (.int k n) = some (.int .i64 (IntKind.i64.wrap n))) ∧
    (∀ k n, convA Tryz.prog 5 86 (.int k n) = some (.int .u64 (IntKind.u64.wrap n))) ∧
    (∀ k n, convA Tryz.prog 5 108 (.int k n) = some (.int .u64 (IntKind.u64.wrap n))) ∧
    (∀ k n, convA Tryz.prog 5 109 (.int k n) = some (.int .u64 (IntKind.u64.wrap n))) ∧
    (∀ k n, convA Tryz.prog 5 159 (.int k n) = some (.int .u32 (IntKind.u32.wrap n))) ∧
    (∀ k n, convA Tryz.prog 86 3 (.int k n) = some (.int .i64 (IntKind.i64.wrap n))) ∧
    (∀ k n, convA Tryz.prog 86 5 (.int k n) = some (.int .u8 (IntKind.u8.wrap n))) ∧
    (∀ k n, convA Tryz.prog 86 108 (.int k n) = some (.int .u64 (IntKind.u64.wrap n))) ∧
    (∀ k n, convA Tryz.prog 86 109 (.int k n) = some (.int .u64 (IntKind.u64.wrap n))) ∧
    (∀ k n, convA Tryz.prog 86 159 (.int k n) = some (.int .u32 (IntKind.u32.wrap n))) ∧
    (∀ k n, convA Tryz.prog 108 3 (.int k n) = some (.int .i64 (IntKind.i64.wrap n))) ∧
    (∀ k n, convA Tryz.prog 108 5 (.int k n) = some (.int .u8 (IntKind.u8.wrap n))) ∧
    (∀ k n, convA Tryz.prog 108 86 (.int k n) = some (.int .u64 (IntKind.u64.wrap n))) ∧
    (∀ k n, convA Tryz.prog 108 109 (.int k n) = some (.int .u64 (IntKind.u64.wrap n))) ∧
    (∀ k n, convA Tryz.prog 108 159 (.int k n) = some (.int .u32 (IntKind.u32.wrap n))) ∧
    (∀ k n, convA Tryz.prog 109 3 (.int k n) = some (.int .i64 (IntKind.i64.wrap n))) ∧
    (∀ k n, convA Tryz.prog 109 5 (.int k n) = some (.int .u8 (IntKind.u8.wrap n))) ∧
    (∀ k n, convA Tryz.prog 109 86 (.int k n) = some (.int .u64 (IntKind.u64.wrap n))) ∧
    (∀ k n, convA Tryz.prog 109 108 (.int k n) = some (.int .u64 (IntKind.u64.wrap n))) ∧
    (∀ k n, convA Tryz.prog 109 159 (.int k n) = some (.int .u32 (IntKind.u32.wrap n))) ∧
    (∀ k n, convA Tryz.prog 159 3 (.int k n) = some (.int .i64 (IntKind.i64.wrap n))) ∧
    (∀ k n, convA Tryz.prog 159 5 (.int k n) = some (.int .u8 (IntKind.u8.wrap n))) ∧
    (∀ k n, convA Tryz.prog 159 86 (.int k n) = some (.int .u64 (IntKind.u64.wrap n))) ∧
    (∀ k n, convA Tryz.prog 159 108 (.int k n) = some (.int .u64 (IntKind.u64.wrap n))) ∧
    (∀ k n, convA Tryz.prog 159 109 (.int k n) = some (.int .u64 (IntKind.u64.wrap n))) :=
  ⟨ld_one ag3,
   ld_one ag4,
   eq_bool_eql Tryz.underlying4,
   eq_bool_neq Tryz.underlying4,
   ld_one ag5,
   ld_one ag9,
   ld_one ag22,
   bsP0 Tryz.underlying22 cs83 ze83 ⟨by kernel_rfl, by kernel_rfl⟩,
   bsP1 Tryz.underlying22 cs83 ze83,
   ix_two Tryz.underlying22 cs83,
   eq_nil_eql Tryz.underlying22,
   eq_nil_neq Tryz.underlying22,
   lenS_sl (by decide),
   ln_sl Tryz.underlying22,
   fun p => by kernel_rfl,
   fun p => by kernel_rfl,
   ld_one ag26,
   ix_one Tryz.underlying26 cs38,
   bs0 Tryz.underlying26 cs38 ze38 ⟨by kernel_rfl, by kernel_rfl⟩,
   fun H _ _ _ => bs1 Tryz.underlying26 cs38 ze38 ⟨by kernel_rfl, by kernel_rfl⟩ H rfl,
   fun H _ _ _ _ _ _ => bs2 Tryz.underlying26 cs38 ze38 ⟨by kernel_rfl, by kernel_rfl⟩ H rfl rfl,
   fun H _ _ _ _ _ _ _ _ _ => bs3 Tryz.underlying26 cs38 ze38 ⟨by kernel_rfl, by kernel_rfl⟩ H rfl rfl rfl,
   eq_nil_eql Tryz.underlying26,
   eq_nil_neq Tryz.underlying26,
   lenS_sl (by decide),
   ln_sl Tryz.underlying26,
   fun p => by kernel_rfl,
   fun p => by kernel_rfl,
   fun p => by kernel_rfl,
   fun p => by kernel_rfl,
   ld_one ag32,
   ld_one ag38,
   ix_one Tryz.underlying38 cs3,
   bs0 Tryz.underlying38 cs3 ze3 ⟨by kernel_rfl, by kernel_rfl⟩,
   fun H _ _ => bs1 Tryz.underlying38 cs3 ze3 ⟨by kernel_rfl, by kernel_rfl⟩ H rfl,
   fun H _ _ _ _ => bs2 Tryz.underlying38 cs3 ze3 ⟨by kernel_rfl, by kernel_rfl⟩ H rfl rfl,
   fun H _ _ _ _ _ _ => bs3 Tryz.underlying38 cs3 ze3 ⟨by kernel_rfl, by kernel_rfl⟩ H rfl rfl rfl,
   eq_nil_eql Tryz.underlying38,
   eq_nil_neq Tryz.underlying38,
   lenS_sl (by decide),
   ln_sl Tryz.underlying38,
   ld_one ag58,
   ld_one ag61,
   ld_one ag68,
   ld_one ag73,
   lenS_map,
   fun p k => ix_arr Tryz.underlying83 cs3 p k (by decide) (by decide),
   fun p k => ix_arr Tryz.underlying83 cs3 p k (by decide) (by decide),
   ld_one ag86,
   ld_one ag89,
   ld_one ag108,
   ld_one ag109,
   ld_one ag110,
   ld_one ag129,
   ld_one ag137,
   ix_one Tryz.underlying137 cs4,
   bs0 Tryz.underlying137 cs4 ze4 ⟨by kernel_rfl, by kernel_rfl⟩,
   fun H _ => bs1 Tryz.underlying137 cs4 ze4 ⟨by kernel_rfl, by kernel_rfl⟩ H rfl,
   fun H _ _ => bs2 Tryz.underlying137 cs4 ze4 ⟨by kernel_rfl, by kernel_rfl⟩ H rfl rfl,
   fun H _ _ _ => bs3 Tryz.underlying137 cs4 ze4 ⟨by kernel_rfl, by kernel_rfl⟩ H rfl rfl rfl,
   eq_nil_eql Tryz.underlying137,
   eq_nil_neq Tryz.underlying137,
   lenS_sl (by decide),
   ln_sl Tryz.underlying137,
   ld_one ag159,
   ld_one ag166,
   fun _ _ => by simp only [convA, Tryz.underlying3, Tryz.underlying5],
   fun _ _ => by simp only [convA, Tryz.underlying3, Tryz.underlying86],
   fun _ _ => by simp only [convA, Tryz.underlying3, Tryz.underlying108],
   fun _ _ => by simp only [convA, Tryz.underlying3, Tryz.underlying109],
   fun _ _ => by simp only [convA, Tryz.underlying3, Tryz.underlying159],
   fun _ _ => by simp only [convA, Tryz.underlying5, Tryz.underlying3],
   fun _ _ => by simp only [convA, Tryz.underlying5, Tryz.underlying86],
   fun _ _ => by simp only [convA, Tryz.underlying5, Tryz.underlying108],
   fun _ _ => by simp only [convA, Tryz.underlying5, Tryz.underlying109],
   fun _ _ => by simp only [convA, Tryz.underlying5, Tryz.underlying159],
   fun _ _ => by simp only [convA, Tryz.underlying86, Tryz.underlying3],
   fun _ _ => by simp only [convA, Tryz.underlying86, Tryz.underlying5],
   fun _ _ => by simp only [convA, Tryz.underlying86, Tryz.underlying108],
   fun _ _ => by simp only [convA, Tryz.underlying86, Tryz.underlying109],
   fun _ _ => by simp only [convA, Tryz.underlying86, Tryz.underlying159],
   fun _ _ => by simp only [convA, Tryz.underlying108, Tryz.underlying3],
   fun _ _ => by simp only [convA, Tryz.underlying108, Tryz.underlying5],
   fun _ _ => by simp only [convA, Tryz.underlying108, Tryz.underlying86],
   fun _ _ => by simp only [convA, Tryz.underlying108, Tryz.underlying109],
   fun _ _ => by simp only [convA, Tryz.underlying108, Tryz.underlying159],
   fun _ _ => by simp only [convA, Tryz.underlying109, Tryz.underlying3],
   fun _ _ => by simp only [convA, Tryz.underlying109, Tryz.underlying5],
   fun _ _ => by simp only [convA, Tryz.underlying109, Tryz.underlying86],
   fun _ _ => by simp only [convA, Tryz.underlying109, Tryz.underlying108],
   fun _ _ => by simp only [convA, Tryz.underlying109, Tryz.underlying159],
   fun _ _ => by simp only [convA, Tryz.underlying159, Tryz.underlying3],
   fun _ _ => by simp only [convA, Tryz.underlying159, Tryz.underlying5],
   fun _ _ => by simp only [convA, Tryz.underlying159, Tryz.underlying86],
   fun _ _ => by simp only [convA, Tryz.underlying159, Tryz.underlying108],
   fun _ _ => by simp only [convA, Tryz.underlying159, Tryz.underlying109]⟩
end Go.Proofs.YtlfongfhbkefmaaGreat.Ai
namespace Go.Proofs.YtlfongfhbkefmaaGreat.Ai
open Go Go.RowKit
set_option linter.unusedVariables false
set_option linter.unusedSimpArgs false
theorem alloc_a2 (H : AH) : allocA Tryz.prog 83 H = some (.pointer (some ⟨H.length, 0, none⟩), H ++ [.cells [.int .i64 0, .int .i64 0] 83 false]) := by kernel_rfl
theorem build_a2 (a b : Int) : buildA Tryz.prog 83 [(0, .int .i64 a), (1, .int .i64 b)] = some (.agg (List.toArray [.int .i64 a, .int .i64 b])) := by kernel_rfl
theorem store_a2 (H : AH) (vs : List Value) (hv : vs.length = 2) (a b : Value) : storeA Tryz.prog 83 (.pointer (some ⟨H.length, 0, none⟩)) (.agg (List.toArray [a, b])) (H ++ [.cells vs 83 false]) = some (H ++ [.cells [a, b] 83 false]) :=
  st_new rfl (by rw [cs83]; rfl) (by rw [cs83]; decide) (by rw [cs83]; exact hv)
theorem load_a2 (H : AH) (a b : Value) : loadA Tryz.prog 83 (.pointer (some ⟨H.length, 0, none⟩)) (H ++ [.cells [a, b] 83 false]) = some (.agg (List.toArray [a, b])) := by
  simp only [loadA, at_new, ag83, cs83]
  rfl
theorem end_cell (P : Program) (a : Nat) (t : TypeId) (R : Value → AH → Prop) (s : Sl) (H : AH) (v : Value) (h : loadA P t (s a) H = some v) (ht : isTup v = false) (hr : R v H) : endA P [.cell a t] R .ret s H := by
  simp only [endA, resA, h, ht]
  simp [outA]
  exact hr
theorem box_a2 (H : AH) (x y : Value) : boxA Tryz.prog 83 (.agg (List.toArray [x, y])) H = some (.pointer (some ⟨H.length, 0, none⟩), H ++ [.cells [x, y] 83 false]) := by kernel_rfl
theorem st_a2 {H : AH} {o : Nat} {vs : List Value} {e : TypeId} (ho : H[o]? = some (.cells vs e false)) (hv : vs.length = 2) (a b : Value) : storeA Tryz.prog 83 (.pointer (some ⟨o, 0, none⟩)) (.agg (List.toArray [a, b])) H = some (H.set o (.cells [a, b] e false)) := by
  simp only [storeA, ho, cs83]
  have hcl : (Value.agg (List.toArray [a, b])).cells.toList = [a, b] := rfl
  rw [hcl, if_pos ⟨rfl, rfl, by decide, by rw [hv]; exact Nat.le_refl 2⟩]
  have : putAt vs 0 [a, b] = [a, b] := by
    unfold putAt
    rw [List.take_zero, List.nil_append, List.drop_of_length_le (by simp; omega), List.append_nil]
  rw [this]
theorem ld_a2 {H : AH} {o : Nat} {a b : Value} {e : TypeId} {ro : Bool} (ho : H[o]? = some (.cells [a, b] e ro)) : loadA Tryz.prog 83 (.pointer (some ⟨o, 0, none⟩)) H = some (.agg (List.toArray [a, b])) :=
  ld_two ag83 cs83 (by rw [cell_of ho]; rfl) (by rw [cell_of ho]; rfl)
end Go.Proofs.YtlfongfhbkefmaaGreat.Ai
namespace Go.Proofs.YtlfongfhbkefmaaGreat.Ai
open Go
def ords35 : List (Nat × List (Nat × Bool)) := []
def cd35 : Cd := (.seq (.reg [⟨⟨some 4, Op.assign (Operand.const (Value.int IntKind.i64 0)), none⟩, []⟩]) (.seq (.reg [⟨⟨some 5, Op.move (Operand.tmp 1), none⟩, []⟩,
  ⟨⟨some 6, Op.move (Operand.tmp 0), none⟩, []⟩,
  ⟨⟨some 7, Op.call { callee := (Callee.builtin Builtin.len), args := #[(Operand.tmp 6)], argTypes := #[22] }, none⟩, []⟩,
  ⟨⟨some 8, Op.binOp BinOp.sub 3 (Operand.tmp 5) (Operand.tmp 7) 3, none⟩, []⟩,
  ⟨⟨some 1, Op.assign (Operand.tmp 8), none⟩, []⟩]) (.seq (.seq (.reg [⟨⟨some 9, Op.move (Operand.tmp 1), none⟩, []⟩,
  ⟨⟨some 10, Op.binOp BinOp.lss 3 (Operand.tmp 9) (Operand.const (Value.int IntKind.i64 0)) 3, none⟩, []⟩]) (.cond (Operand.tmp 10) (.seq (.reg [⟨⟨some 4, Op.assign (Operand.const (Value.int IntKind.i64 (-1))), none⟩, []⟩]) .ret) .skip)) (.seq (.reg [⟨⟨some 11, Op.move (Operand.tmp 1), none⟩, []⟩,
  ⟨⟨some 4, Op.assign (Operand.tmp 11), none⟩, []⟩]) .ret))))
theorem sl35 : slim Tryz.f35.ntmps ords35 (Tryz.f35.body.getD .skip) = some cd35 := by kernel_rfl
theorem in35 {args : List Value} {H : AH} {R : Value → AH → Prop} (hl : args.length = 2) (h : ∀ (Q : Exit → Sl → AH → Prop), (∀ e s H, endA Tryz.prog [ResultVar.tmp 4] R e s H → Q e s H) → wpC Tryz.prog cd35 Q (enterA args) H) : ACalls Tryz.prog 35 args H R :=
  ACalls.intro (by kernel_rfl) Tryz.func35 rfl (by kernel_rfl) sl35 hl (of_decide_eq_true (by kernel_rfl)) (by kernel_rfl) h
def ords87 : List (Nat × List (Nat × Bool)) := []
def cd87 : Cd := (.seq (.reg [⟨⟨some 1, Op.box 83 (Operand.tmp 0), none⟩, []⟩,
  ⟨⟨some 2, Op.alloc 83, none⟩, []⟩]) (.seq (.reg [⟨⟨some 3, Op.alloc 83, none⟩, []⟩]) (.seq (.seq (.reg [⟨⟨some 4, Op.assign (Operand.const (Value.int IntKind.i64 0)), none⟩, []⟩]) (.block 0 (.loop (.seq (.seq (.reg [⟨⟨some 5, Op.move (Operand.tmp 4), none⟩, []⟩,
  ⟨⟨some 6, Op.binOp BinOp.lss 3 (Operand.tmp 5) (Operand.const (Value.int IntKind.i64 2)) 3, none⟩, []⟩]) (.cond (Operand.tmp 6) .skip (.exit 0))) (.seq (.block 1 (.reg [⟨⟨some 9, Op.move (Operand.tmp 4), none⟩, []⟩,
  ⟨⟨some 10, Op.move (Operand.tmp 4), none⟩, []⟩,
  ⟨⟨some 11, Op.indexAddr 83 (Operand.tmp 1) (Operand.tmp 10), none⟩, []⟩,
  ⟨⟨some 12, Op.load 3 (Operand.tmp 11), none⟩, []⟩,
  ⟨⟨some 13, Op.indexAddr 83 (Operand.tmp 3) (Operand.tmp 9), none⟩, []⟩,
  ⟨⟨none, Op.store 3 (Operand.tmp 13) (Operand.tmp 12), none⟩, []⟩])) (.reg [⟨⟨some 7, Op.move (Operand.tmp 4), none⟩, []⟩,
  ⟨⟨some 8, Op.binOp BinOp.add 3 (Operand.tmp 7) (Operand.const (Value.int IntKind.i64 1)) 3, none⟩, []⟩,
  ⟨⟨some 4, Op.assign (Operand.tmp 8), none⟩, []⟩])))))) (.seq (.reg [⟨⟨some 14, Op.load 83 (Operand.tmp 3), none⟩, []⟩,
  ⟨⟨none, Op.store 83 (Operand.tmp 2) (Operand.tmp 14), none⟩, []⟩]) .ret))))
theorem sl87 : slim Tryz.f87.ntmps ords87 (Tryz.f87.body.getD .skip) = some cd87 := by kernel_rfl
set_option maxRecDepth 20000 in
theorem in87 {args : List Value} {H : AH} {R : Value → AH → Prop} (hl : args.length = 1) (h : ∀ (Q : Exit → Sl → AH → Prop), (∀ e s H, endA Tryz.prog [ResultVar.cell 2 83] R e s H → Q e s H) → wpC Tryz.prog cd87 Q (enterA args) H) : ACalls Tryz.prog 87 args H R :=
  ACalls.intro (by kernel_rfl) Tryz.func87 rfl (by kernel_rfl) sl87 hl (of_decide_eq_true (by kernel_rfl)) (by kernel_rfl) h
def ords38 : List (Nat × List (Nat × Bool)) := []
def cd38 : Cd := (.seq (.reg [⟨⟨some 2, Op.assign (Operand.const (Value.slice none 0 0)), none⟩, []⟩]) (.seq (.reg [⟨⟨some 5, Op.move (Operand.tmp 0), none⟩, []⟩,
  ⟨⟨some 6, Op.call { callee := (Callee.builtin Builtin.len), args := #[(Operand.tmp 5)], argTypes := #[22] }, none⟩, []⟩,
  ⟨⟨some 7, Op.makeSlice 22 (Operand.tmp 6) (Operand.tmp 6), none⟩, []⟩,
  ⟨⟨some 3, Op.assign (Operand.tmp 7), none⟩, []⟩]) (.seq (.seq (.reg [⟨⟨some 4, Op.assign (Operand.const (Value.int IntKind.i64 0)), none⟩, []⟩]) (.block 0 (.loop (.seq (.seq (.reg [⟨⟨some 8, Op.move (Operand.tmp 4), none⟩, []⟩,
  ⟨⟨some 9, Op.move (Operand.tmp 0), none⟩, []⟩,
  ⟨⟨some 10, Op.call { callee := (Callee.builtin Builtin.len), args := #[(Operand.tmp 9)], argTypes := #[22] }, none⟩, []⟩,
  ⟨⟨some 11, Op.binOp BinOp.lss 3 (Operand.tmp 8) (Operand.tmp 10) 3, none⟩, []⟩]) (.cond (Operand.tmp 11) .skip (.exit 0))) (.seq (.block 1 (.reg [⟨⟨some 14, Op.move (Operand.tmp 3), none⟩, []⟩,
  ⟨⟨some 15, Op.move (Operand.tmp 4), none⟩, []⟩,
  ⟨⟨some 16, Op.move (Operand.tmp 0), none⟩, []⟩,
  ⟨⟨some 17, Op.move (Operand.tmp 4), none⟩, []⟩,
  ⟨⟨some 18, Op.indexAddr 22 (Operand.tmp 16) (Operand.tmp 17), none⟩, []⟩,
  ⟨⟨some 19, Op.load 83 (Operand.tmp 18), none⟩, []⟩,
  ⟨⟨some 20, Op.call { callee := (Callee.value (Operand.func 87)), args := #[(Operand.tmp 19)], argTypes := #[83] }, none⟩, []⟩,
  ⟨⟨some 21, Op.indexAddr 22 (Operand.tmp 14) (Operand.tmp 15), none⟩, []⟩,
  ⟨⟨none, Op.store 83 (Operand.tmp 21) (Operand.tmp 20), none⟩, []⟩])) (.reg [⟨⟨some 12, Op.move (Operand.tmp 4), none⟩, []⟩,
  ⟨⟨some 13, Op.binOp BinOp.add 3 (Operand.tmp 12) (Operand.const (Value.int IntKind.i64 1)) 3, none⟩, []⟩,
  ⟨⟨some 4, Op.assign (Operand.tmp 13), none⟩, []⟩])))))) (.seq (.reg [⟨⟨some 22, Op.move (Operand.tmp 3), none⟩, []⟩,
  ⟨⟨some 2, Op.assign (Operand.tmp 22), none⟩, []⟩]) .ret))))
theorem sl38 : slim Tryz.f38.ntmps ords38 (Tryz.f38.body.getD .skip) = some cd38 := by kernel_rfl
theorem in38 {args : List Value} {H : AH} {R : Value → AH → Prop} (hl : args.length = 1) (h : ∀ (Q : Exit → Sl → AH → Prop), (∀ e s H, endA Tryz.prog [ResultVar.tmp 2] R e s H → Q e s H) → wpC Tryz.prog cd38 Q (enterA args) H) : ACalls Tryz.prog 38 args H R :=
  ACalls.intro (by kernel_rfl) Tryz.func38 rfl (by kernel_rfl) sl38 hl (of_decide_eq_true (by kernel_rfl)) (by kernel_rfl) h
def ords99 : List (Nat × List (Nat × Bool)) := [(4, [(0, false), (1, false), (2, false), (3, false), (4, false), (5, false), (6, false)])]
def cd99 : Cd := (.seq (.reg [⟨⟨some 2, Op.box 83 (Operand.tmp 0), none⟩, []⟩,
  ⟨⟨some 3, Op.box 83 (Operand.tmp 1), none⟩, []⟩,
  ⟨⟨some 4, Op.assign (Operand.const (Value.bool false)), none⟩, []⟩]) (.seq (.seq (.reg [⟨⟨some 5, Op.assign (Operand.const (Value.int IntKind.i64 0)), none⟩, []⟩]) (.block 0 (.loop (.seq (.seq (.reg [⟨⟨some 6, Op.move (Operand.tmp 5), none⟩, []⟩,
  ⟨⟨some 7, Op.binOp BinOp.lss 3 (Operand.tmp 6) (Operand.const (Value.int IntKind.i64 2)) 3, none⟩, []⟩]) (.cond (Operand.tmp 7) .skip (.exit 0))) (.seq (.block 1 (.seq (.reg [⟨⟨some 10, Op.move (Operand.tmp 5), none⟩, []⟩,
  ⟨⟨some 11, Op.indexAddr 83 (Operand.tmp 2) (Operand.tmp 10), none⟩, []⟩,
  ⟨⟨some 12, Op.load 3 (Operand.tmp 11), none⟩, []⟩,
  ⟨⟨some 13, Op.move (Operand.tmp 5), none⟩, []⟩,
  ⟨⟨some 14, Op.indexAddr 83 (Operand.tmp 3) (Operand.tmp 13), none⟩, []⟩,
  ⟨⟨some 15, Op.load 3 (Operand.tmp 14), none⟩, []⟩,
  ⟨⟨some 16, Op.binOp BinOp.neq 3 (Operand.tmp 12) (Operand.tmp 15) 3, none⟩, []⟩]) (.cond (Operand.tmp 16) (.seq (.reg [⟨⟨some 4, Op.assign (Operand.const (Value.bool false)), none⟩, []⟩]) .ret) .skip))) (.reg [⟨⟨some 8, Op.move (Operand.tmp 5), none⟩, []⟩,
  ⟨⟨some 9, Op.binOp BinOp.add 3 (Operand.tmp 8) (Operand.const (Value.int IntKind.i64 1)) 3, none⟩, []⟩,
  ⟨⟨some 5, Op.assign (Operand.tmp 9), none⟩, []⟩])))))) (.seq (.reg [⟨⟨some 4, Op.assign (Operand.const (Value.bool true)), none⟩, []⟩]) .ret)))
theorem sl99 : slim Tryz.f99.ntmps ords99 (Tryz.f99.body.getD .skip) = some cd99 := by kernel_rfl
theorem in99 {args : List Value} {H : AH} {R : Value → AH → Prop} (hl : args.length = 2) (h : ∀ (Q : Exit → Sl → AH → Prop), (∀ e s H, endA Tryz.prog [ResultVar.tmp 4] R e s H → Q e s H) → wpC Tryz.prog cd99 Q (enterA args) H) : ACalls Tryz.prog 99 args H R :=
  ACalls.intro (by kernel_rfl) Tryz.func99 rfl (by kernel_rfl) sl99 hl (of_decide_eq_true (by kernel_rfl)) (by kernel_rfl) h
def ords45 : List (Nat × List (Nat × Bool)) := [(6, [(0, false), (1, false), (2, false), (3, false), (4, false), (5, false), (6, false), (7, false), (8, true), (9, false)])]
def cd45 : Cd := (.seq (.reg [⟨⟨some 4, Op.assign (Operand.const (Value.bool false)), none⟩, []⟩]) (.seq (.seq (.reg [⟨⟨some 6, Op.move (Operand.tmp 0), none⟩, []⟩,
  ⟨⟨some 7, Op.call { callee := (Callee.builtin Builtin.len), args := #[(Operand.tmp 6)], argTypes := #[22] }, none⟩, []⟩,
  ⟨⟨some 8, Op.move (Operand.tmp 1), none⟩, []⟩,
  ⟨⟨some 9, Op.call { callee := (Callee.builtin Builtin.len), args := #[(Operand.tmp 8)], argTypes := #[22] }, none⟩, []⟩,
  ⟨⟨some 10, Op.binOp BinOp.neq 3 (Operand.tmp 7) (Operand.tmp 9) 3, none⟩, []⟩]) (.cond (Operand.tmp 10) (.seq (.reg [⟨⟨some 4, Op.assign (Operand.const (Value.bool false)), none⟩, []⟩]) .ret) .skip)) (.seq (.seq (.reg [⟨⟨some 5, Op.assign (Operand.const (Value.int IntKind.i64 0)), none⟩, []⟩]) (.block 0 (.loop (.seq (.seq (.reg [⟨⟨some 11, Op.move (Operand.tmp 5), none⟩, []⟩,
  ⟨⟨some 12, Op.move (Operand.tmp 0), none⟩, []⟩,
  ⟨⟨some 13, Op.call { callee := (Callee.builtin Builtin.len), args := #[(Operand.tmp 12)], argTypes := #[22] }, none⟩, []⟩,
  ⟨⟨some 14, Op.binOp BinOp.lss 3 (Operand.tmp 11) (Operand.tmp 13) 3, none⟩, []⟩]) (.cond (Operand.tmp 14) .skip (.exit 0))) (.seq (.block 1 (.seq (.reg [⟨⟨some 17, Op.move (Operand.tmp 0), none⟩, []⟩,
  ⟨⟨some 18, Op.move (Operand.tmp 5), none⟩, []⟩,
  ⟨⟨some 19, Op.indexAddr 22 (Operand.tmp 17) (Operand.tmp 18), none⟩, []⟩,
  ⟨⟨some 20, Op.load 83 (Operand.tmp 19), none⟩, []⟩,
  ⟨⟨some 21, Op.move (Operand.tmp 1), none⟩, []⟩,
  ⟨⟨some 22, Op.move (Operand.tmp 5), none⟩, []⟩,
  ⟨⟨some 23, Op.indexAddr 22 (Operand.tmp 21) (Operand.tmp 22), none⟩, []⟩,
  ⟨⟨some 24, Op.load 83 (Operand.tmp 23), none⟩, []⟩,
  ⟨⟨some 25, Op.call { callee := (Callee.value (Operand.func 99)), args := #[(Operand.tmp 20), (Operand.tmp 24)], argTypes := #[83, 83] }, none⟩, []⟩,
  ⟨⟨some 26, Op.unOp UnOp.not 4 (Operand.tmp 25), none⟩, []⟩]) (.cond (Operand.tmp 26) (.seq (.reg [⟨⟨some 4, Op.assign (Operand.const (Value.bool false)), none⟩, []⟩]) .ret) .skip))) (.reg [⟨⟨some 15, Op.move (Operand.tmp 5), none⟩, []⟩,
  ⟨⟨some 16, Op.binOp BinOp.add 3 (Operand.tmp 15) (Operand.const (Value.int IntKind.i64 1)) 3, none⟩, []⟩,
  ⟨⟨some 5, Op.assign (Operand.tmp 16), none⟩, []⟩])))))) (.seq (.reg [⟨⟨some 4, Op.assign (Operand.const (Value.bool true)), none⟩, []⟩]) .ret))))
theorem sl45 : slim Tryz.f45.ntmps ords45 (Tryz.f45.body.getD .skip) = some cd45 := by kernel_rfl
theorem in45 {args : List Value} {H : AH} {R : Value → AH → Prop} (hl : args.length = 2) (h : ∀ (Q : Exit → Sl → AH → Prop), (∀ e s H, endA Tryz.prog [ResultVar.tmp 4] R e s H → Q e s H) → wpC Tryz.prog cd45 Q (enterA args) H) : ACalls Tryz.prog 45 args H R :=
  ACalls.intro (by kernel_rfl) Tryz.func45 rfl (by kernel_rfl) sl45 hl (of_decide_eq_true (by kernel_rfl)) (by kernel_rfl) h
end Go.Proofs.YtlfongfhbkefmaaGreat.Ai
namespace Go.Proofs.YtlfongfhbkefmaaGreat.Ai
open Go Go.RowKit
set_option linter.unusedVariables false
set_option linter.unusedSimpArgs false
theorem szIntA2S_c (v : Value) (ps : List (Int × Int)) (k : Int) (H : AH) (hr : RowP 83 H v ps) (hk : 0 ≤ k ∧ k ≤ 1099511627776) (hl : (ps.length : Int) ≤ 9223372036854775807) :
    ACalls Tryz.prog 35 [v, .int .i64 k] H fun r H' => r = .int .i64 (if k - ps.length < 0 then -1 else k - ps.length) ∧ H = H' := by
  refine in35 rfl ?_
  intro Q hQ
  simp (maxSteps := 1000000) (disch := omega) only [cd35, hr.len Tryz.underlying22, wrap64, S, S1, S2, S3, S4, S5, ST, eq_self, reduceIte, reduceCtorEq, Nat.reduceEqDiff, Nat.reduceAdd]
  refine brD.intro (fun g => ?_) (fun g => ?_) <;> simp (maxSteps := 1000000) (disch := omega) only [g, S, S1, S2, S3, S4, S5, ST, eq_self, reduceIte, reduceCtorEq, Nat.reduceEqDiff, Nat.reduceAdd] <;> refine hQ _ _ _ ?_ <;> simp (maxSteps := 1000000) (disch := omega) only [g, S, S1, S2, S3, S4, S5, ST, eq_self, reduceIte, reduceCtorEq, Nat.reduceEqDiff, Nat.reduceAdd]
theorem toIntA2_c (a b : Int) (H : AH) : ACalls Tryz.prog 87 [.agg (List.toArray [.int .i64 a, .int .i64 b])] H fun r H' => r = .agg (List.toArray [.int .i64 a, .int .i64 b]) ∧ H <+: H' := by
  refine in87 rfl ?_
  intro Q hQ
  simp (maxSteps := 1000000) (disch := omega) only [cd87, box_a2, alloc_a2, S, S1, S2, S3, S4, S5, ST, eq_self, reduceIte, reduceCtorEq, Nat.reduceEqDiff, Nat.reduceAdd]
  generalize hA : H ++ [AObj.cells [.int .i64 a, .int .i64 b] 83 false] = A
  have a0 : A[H.length]? = some (.cells (ints [a, b]) 83 false) := by rw [← hA]; exact at_new ..
  have pA : H <+: A := by rw [← hA]; exact List.prefix_append _ _
  have lA : H.length ≤ A.length := pA.length_le
  generalize hB : A ++ [AObj.cells [.int .i64 0, .int .i64 0] 83 false] = B
  have b0 : B[H.length]? = some (.cells (ints [a, b]) 83 false) := by rw [← hB]; exact at_app a0 _
  have b1 : B[A.length]? = some (.cells [.int .i64 0, .int .i64 0] 83 false) := by rw [← hB]; exact at_new ..
  have pB : H <+: B := by rw [← hB]; exact pre_app pA _
  refine LoopH.by (fun m s H' => ∃ i ys, m + i = 2 ∧ s 1 = .pointer (some ⟨H.length, 0, none⟩) ∧ s 2 = .pointer (some ⟨A.length, 0, none⟩) ∧ s 3 = .pointer (some ⟨B.length, 0, none⟩) ∧ s 4 = .int .i64 ((i : Nat) : Int) ∧ H' = B ++ [.cells (ints ys) 83 false] ∧ ys.length = 2 ∧ ys.take i = [a, b].take i) 2 ?_ ?_
  · exact ⟨0, [0, 0], by simp, rfl, rfl, rfl, rfl, rfl, rfl, rfl⟩
  · rintro m s H' ⟨i, ys, hm, h1, h2, h3, h4, rfl, hl, ht⟩
    have hc0 : (B ++ [AObj.cells (ints ys) 83 false])[H.length]? = some (.cells (ints [a, b]) 83 false) := at_app b0 _
    have hc1 : (B ++ [AObj.cells (ints ys) 83 false])[A.length]? = some (.cells [.int .i64 0, .int .i64 0] 83 false) := at_app b1 _
    have hc := at_new B (.cells (ints ys) 83 false)
    simp (maxSteps := 1000000) (disch := omega) only [h1, h2, h3, h4, S, S1, S2, S3, S4, S5, ST, eq_self, reduceIte, reduceCtorEq, Nat.reduceEqDiff, Nat.reduceAdd]
    refine brD.intro (fun g => ?_) (fun g => ?_)
    · have hi : i < 2 := by omega
      have hi2 : i < [a, b].length := hi
      simp (maxSteps := 1000000) (disch := omega) only [h1, h2, h3, h4, ixa83, Int.toNat_natCast, Nat.zero_add, cell_ints hc0 hi2, st_ints cs3 hc, set_new, wrap64, S, S1, S2, S3, S4, S5, ST, eq_self, reduceIte, reduceCtorEq, Nat.reduceEqDiff, Nat.reduceAdd]
      have e1 : (ys.set i ([a, b].getD i 0)).take (i + 1) = [a, b].take (i + 1) := by
        rw [List.take_add_one, List.take_add_one, List.getElem?_set_self (by omega), List.getElem?_eq_getElem hi2, ← ht]
        congr 1
        · rw [List.take_set, List.set_eq_of_length_le (by simp; omega)]
        · simp [hi]
      refine ⟨m - 1, by omega, i + 1, ys.set i ([a, b].getD i 0), ?_⟩
      (repeat' apply And.intro) <;> first | exact e1 | (simp only [Value.int.injEq, true_and]; omega) | omega | rfl | assumption | (simp; done) | (simp; omega)
    · have hy : ys = [a, b] := by
        have : i = 2 := by omega
        subst this
        rw [List.take_of_length_le (by omega)] at ht
        exact ht
      subst hy
      simp (maxSteps := 1000000) (disch := omega) only [h1, h2, h3, h4, ld_a2 hc, st_a2 hc1 rfl, S, S1, S2, S3, S4, S5, ST, eq_self, reduceIte, reduceCtorEq, Nat.reduceEqDiff, Nat.reduceAdd]
      refine hQ _ _ _ (end_cell _ _ _ _ _ _ (.agg (List.toArray [.int .i64 a, .int .i64 b])) ?_ rfl ⟨rfl, ?_⟩)
      · simp (maxSteps := 1000000) (disch := omega) only [h2, S, S1, S2, S3, S4, S5, ST, eq_self, reduceIte, reduceCtorEq, Nat.reduceEqDiff, Nat.reduceAdd]
        exact ld_a2 (at_set hc1)
      · exact pre_set (pre_app pB _) lA _
set_option maxRecDepth 20000 in
set_option maxHeartbeats 1000000 in
theorem toIntA2S_c (v : Value) (ps : List (Int × Int)) (H : AH) (hr : RowP 83 H v ps) (hlen : ps.length ≤ 1099511627776) : ACalls Tryz.prog 38 [v] H fun r H' => MineP 83 H H' r ps ∧ H <+: H' := by
  refine in38 rfl ?_
  intro Q hQ
  simp (maxSteps := 1000000) (disch := omega) only [cd38, hr.len Tryz.underlying22, mks22, Int.toNat_natCast, S, S1, S2, S3, S4, S5, ST, eq_self, reduceIte, reduceCtorEq, Nat.reduceEqDiff, Nat.reduceAdd]
  refine LoopH.by (fun m s H' => ∃ i qs, m + i = ps.length ∧ s 0 = v ∧ s 3 = .slice (some ⟨H.length, 0, none⟩) ps.length ps.length ∧ s 4 = .int .i64 ((i : Nat) : Int) ∧ H <+: H' ∧ H'[H.length]? = some (.cells (ints (flat qs)) 83 false) ∧ qs.length = ps.length ∧ qs.take i = ps.take i) ps.length ?_ ?_
  · exact ⟨0, List.replicate ps.length (0, 0), by simp, rfl, by simp [S, S1, S2, S3, S4, S5, ST, eq_self, reduceIte, reduceCtorEq, Nat.reduceEqDiff, Nat.reduceAdd], by simp [S, S1, S2, S3, S4, S5, ST, eq_self, reduceIte, reduceCtorEq, Nat.reduceEqDiff, Nat.reduceAdd], List.prefix_append _ _, by rw [at_new], by simp, by simp⟩
  · rintro m s H' ⟨i, qs, hm, h0, h3, h4, hp, hc, hl, ht⟩
    have hr' := hr.pre hp
    simp (maxSteps := 1000000) (disch := omega) only [h0, h3, h4, hr'.len Tryz.underlying22, S, S1, S2, S3, S4, S5, ST, eq_self, reduceIte, reduceCtorEq, Nat.reduceEqDiff, Nat.reduceAdd]
    refine brD.intro (fun g => ?_) (fun g => ?_)
    · have hi : i < ps.length := by omega
      have hi2 : i < qs.length := by omega
      have hg : ps.getD i (0, 0) = ps[i] := by simp [hi]
      have e1 : (qs.set i ((ps.getD i (0, 0)).1, (ps.getD i (0, 0)).2)).take (i + 1) = ps.take (i + 1) := by
        rw [List.take_add_one, List.take_add_one, List.getElem?_set_self hi2, List.getElem?_eq_getElem hi, ← ht]
        congr 1
        · rw [List.take_set, List.set_eq_of_length_le (by simp; omega)]
        · rw [hg]
      simp (maxSteps := 1000000) (disch := omega) only [h0, h3, h4, hr'.ix Tryz.underlying22 cs83, Int.toNat_natCast, hr'.ld ag83 cs83 hi, S, S1, S2, S3, S4, S5, ST, eq_self, reduceIte, reduceCtorEq, Nat.reduceEqDiff, Nat.reduceAdd]
      refine CallH.by (toIntA2_c (ps.getD i (0, 0)).1 (ps.getD i (0, 0)).2 H') ?_
      rintro _ H2 ⟨rfl, hp2⟩
      have hc2 := pre_at hp2 hc
      simp (maxSteps := 1000000) (disch := omega) only [h0, h3, h4, Int.toNat_natCast, st_prs cs83 hc2 hi2, wrap64, S, S1, S2, S3, S4, S5, ST, eq_self, reduceIte, reduceCtorEq, Nat.reduceEqDiff, Nat.reduceAdd]
      have hpp := pre_set (hp.trans hp2) (Nat.le_refl _) (.cells (ints (flat (qs.set i ((ps.getD i (0, 0)).1, (ps.getD i (0, 0)).2)))) 83 false)
      have hcc := at_set (d := .cells (ints (flat (qs.set i ((ps.getD i (0, 0)).1, (ps.getD i (0, 0)).2)))) 83 false) hc2
      refine ⟨m - 1, by omega, i + 1, qs.set i ((ps.getD i (0, 0)).1, (ps.getD i (0, 0)).2), ?_⟩
      (repeat' first | exact e1 | exact hpp | exact hcc | apply And.intro) <;> first | (simp only [Value.int.injEq, true_and]; omega) | omega | rfl | assumption | (simp; done) | (simp; omega)
    · simp (maxSteps := 1000000) (disch := omega) only [h3, S, S1, S2, S3, S4, S5, ST, eq_self, reduceIte, reduceCtorEq, Nat.reduceEqDiff, Nat.reduceAdd]
      refine hQ _ _ _ ?_
      simp (maxSteps := 1000000) (disch := omega) only [h3, S, S1, S2, S3, S4, S5, ST, eq_self, reduceIte, reduceCtorEq, Nat.reduceEqDiff, Nat.reduceAdd]
      rw [List.take_of_length_le (by omega), List.take_of_length_le (by omega)] at ht
      subst ht
      exact ⟨.inr ⟨H.length, _, rfl, Nat.le_refl _, hc, by rw [List.take_of_length_le (by rw [flat_len]; omega)]⟩, hp⟩
theorem eqIntA2_c (a b c d : Int) (H : AH) : ACalls Tryz.prog 99 [.agg (List.toArray [.int .i64 a, .int .i64 b]), .agg (List.toArray [.int .i64 c, .int .i64 d])] H fun r H' => r = .bool (decide ((a, b) = (c, d))) ∧ H <+: H' := by
  refine in99 rfl ?_
  intro Q hQ
  simp (maxSteps := 1000000) (disch := omega) only [cd99, box_a2, S, S1, S2, S3, S4, S5, ST, eq_self, reduceIte, reduceCtorEq, Nat.reduceEqDiff, Nat.reduceAdd]
  generalize hA : H ++ [AObj.cells [.int .i64 a, .int .i64 b] 83 false] = A
  have a0 : A[H.length]? = some (.cells (ints [a, b]) 83 false) := by rw [← hA]; exact at_new ..
  have pA : H <+: A := by rw [← hA]; exact List.prefix_append _ _
  generalize hB : A ++ [AObj.cells [.int .i64 c, .int .i64 d] 83 false] = B
  have b0 : B[H.length]? = some (.cells (ints [a, b]) 83 false) := by rw [← hB]; exact at_app a0 _
  have b1 : B[A.length]? = some (.cells (ints [c, d]) 83 false) := by rw [← hB]; exact at_new ..
  have pB : H <+: B := by rw [← hB]; exact pre_app pA _
  refine LoopH.by (fun m s H' => ∃ i, m + i = 2 ∧ s 2 = .pointer (some ⟨H.length, 0, none⟩) ∧ s 3 = .pointer (some ⟨A.length, 0, none⟩) ∧ s 5 = .int .i64 ((i : Nat) : Int) ∧ H' = B ∧ [a, b].take i = [c, d].take i) 2 ?_ ?_
  · exact ⟨0, by simp, rfl, rfl, rfl, rfl, rfl⟩
  · rintro m s H' ⟨i, hm, h2, h3, h5, rfl, ht⟩
    simp (maxSteps := 1000000) (disch := omega) only [h2, h3, h5, S, S1, S2, S3, S4, S5, ST, eq_self, reduceIte, reduceCtorEq, Nat.reduceEqDiff, Nat.reduceAdd]
    refine brD.intro (fun g => ?_) (fun g => ?_)
    · have hi : i < [a, b].length := by show i < 2; omega
      have hi2 : i < [c, d].length := hi
      simp (maxSteps := 1000000) (disch := omega) only [h2, h3, h5, ixa83, Int.toNat_natCast, Nat.zero_add, cell_ints b0 hi, cell_ints b1 hi2, S, S1, S2, S3, S4, S5, ST, eq_self, reduceIte, reduceCtorEq, Nat.reduceEqDiff, Nat.reduceAdd]
      refine brD.intro (fun e => ?_) (fun e => ?_) <;> simp (maxSteps := 1000000) (disch := omega) only [h2, h3, h5, wrap64, S, S1, S2, S3, S4, S5, ST, eq_self, reduceIte, reduceCtorEq, Nat.reduceEqDiff, Nat.reduceAdd]
      · refine hQ _ _ _ ?_
        simp (maxSteps := 1000000) (disch := omega) only [S, S1, S2, S3, S4, S5, ST, eq_self, reduceIte, reduceCtorEq, Nat.reduceEqDiff, Nat.reduceAdd]
        have : (a, b) ≠ (c, d) := by
          intro e'
          injection e' with e1 e2
          subst e1; subst e2
          exact e rfl
        simp [this, pB]
      · have fx : [a, b].take (i + 1) = [c, d].take (i + 1) := by
          rw [List.take_add_one, List.take_add_one, ht, List.getElem?_eq_getElem hi, List.getElem?_eq_getElem hi2]
          have e' := Decidable.not_not.1 e
          have g1 : [a, b].getD i 0 = [a, b][i] := by rw [List.getD_eq_getElem?_getD, List.getElem?_eq_getElem hi]; rfl
          have g2 : [c, d].getD i 0 = [c, d][i] := by rw [List.getD_eq_getElem?_getD, List.getElem?_eq_getElem hi2]; rfl
          rw [g1, g2] at e'
          rw [e']
        refine ⟨m - 1, by omega, i + 1, ?_⟩
        (repeat' first | exact fx | apply And.intro) <;> first | (simp only [Value.int.injEq, true_and]; omega) | omega | rfl | assumption | (simp; done) | (simp; omega)
    · simp (maxSteps := 1000000) (disch := omega) only [S, S1, S2, S3, S4, S5, ST, eq_self, reduceIte, reduceCtorEq, Nat.reduceEqDiff, Nat.reduceAdd]
      refine hQ _ _ _ ?_
      simp (maxSteps := 1000000) (disch := omega) only [S, S1, S2, S3, S4, S5, ST, eq_self, reduceIte, reduceCtorEq, Nat.reduceEqDiff, Nat.reduceAdd]
      have : i = 2 := by omega
      subst this
      simp only [List.take_succ_cons, List.take_zero, List.cons.injEq] at ht
      simp [ht.1, ht.2.1, pB]
set_option maxRecDepth 20000 in
set_option maxHeartbeats 1000000 in
theorem eqIntA2S_c (v w : Value) (ps qs : List (Int × Int)) (H : AH) (hr : RowP 83 H v ps) (hr2 : RowP 83 H w qs) (hlen : ps.length ≤ 1099511627776) : ACalls Tryz.prog 45 [v, w] H fun r H' => r = .bool (decide (ps = qs)) ∧ H <+: H' := by
  refine in45 rfl ?_
  intro Q hQ
  simp (maxSteps := 1000000) (disch := omega) only [cd45, hr.len Tryz.underlying22, hr2.len Tryz.underlying22, S, S1, S2, S3, S4, S5, ST, eq_self, reduceIte, reduceCtorEq, Nat.reduceEqDiff, Nat.reduceAdd]
  refine brD.intro (fun g => ?_) (fun g => ?_) <;> simp (maxSteps := 1000000) (disch := omega) only [hr.len Tryz.underlying22, S, S1, S2, S3, S4, S5, ST, eq_self, reduceIte, reduceCtorEq, Nat.reduceEqDiff, Nat.reduceAdd]
  · refine hQ _ _ _ ?_
    simp (maxSteps := 1000000) (disch := omega) only [S, S1, S2, S3, S4, S5, ST, eq_self, reduceIte, reduceCtorEq, Nat.reduceEqDiff, Nat.reduceAdd]
    have : ps ≠ qs := fun e => g (by rw [e])
    simp [this, List.prefix_refl]
  · have hl : ps.length = qs.length := by omega
    refine LoopH.by (fun m s H' => ∃ i, m + i = ps.length ∧ s 0 = v ∧ s 1 = w ∧ s 5 = .int .i64 ((i : Nat) : Int) ∧ H <+: H' ∧ ps.take i = qs.take i) ps.length ?_ ?_
    · exact ⟨0, by simp, rfl, rfl, rfl, List.prefix_refl _, by simp⟩
    · rintro m s H' ⟨i, hm, h0, h1, h5, hp, hn⟩
      have hr' := hr.pre hp
      have hr2' := hr2.pre hp
      simp (maxSteps := 1000000) (disch := omega) only [h0, h1, h5, hr'.len Tryz.underlying22, S, S1, S2, S3, S4, S5, ST, eq_self, reduceIte, reduceCtorEq, Nat.reduceEqDiff, Nat.reduceAdd]
      refine brD.intro (fun g => ?_) (fun g => ?_)
      · have hi : i < ps.length := by omega
        have hi2 : i < qs.length := by omega
        have hg : ps.getD i (0, 0) = ps[i] := by simp [hi]
        have hg2 : qs.getD i (0, 0) = qs[i] := by simp [hi2]
        simp (maxSteps := 1000000) (disch := omega) only [h0, h1, h5, hr'.ix Tryz.underlying22 cs83, hr2'.ix Tryz.underlying22 cs83, Int.toNat_natCast, hr'.ld ag83 cs83 hi, hr2'.ld ag83 cs83 hi2, S, S1, S2, S3, S4, S5, ST, eq_self, reduceIte, reduceCtorEq, Nat.reduceEqDiff, Nat.reduceAdd]
        refine CallH.by (eqIntA2_c _ _ _ _ H') ?_
        rintro _ H2 ⟨rfl, hp2⟩
        have hpp := hp.trans hp2
        simp (maxSteps := 1000000) (disch := omega) only [S, S1, S2, S3, S4, S5, ST, eq_self, reduceIte, reduceCtorEq, Nat.reduceEqDiff, Nat.reduceAdd]
        refine brD.intro (fun e => ?_) (fun e => ?_) <;> simp (maxSteps := 1000000) (disch := omega) only [h0, h1, h5, wrap64, S, S1, S2, S3, S4, S5, ST, eq_self, reduceIte, reduceCtorEq, Nat.reduceEqDiff, Nat.reduceAdd]
        · have fx : ps.take (i + 1) = qs.take (i + 1) := by
            rw [List.take_add_one, List.take_add_one, hn, List.getElem?_eq_getElem hi, List.getElem?_eq_getElem hi2]
            rw [hg, hg2] at e
            have e' : ps[i] = qs[i] := e
            rw [e']
          refine ⟨m - 1, by omega, i + 1, ?_⟩
          (repeat' first | exact fx | exact hpp | apply And.intro) <;> first | (simp only [Value.int.injEq, true_and]; omega) | omega | rfl | assumption | (simp; done) | (simp; omega)
        · refine hQ _ _ _ ?_
          simp (maxSteps := 1000000) (disch := omega) only [S, S1, S2, S3, S4, S5, ST, eq_self, reduceIte, reduceCtorEq, Nat.reduceEqDiff, Nat.reduceAdd]
          have : ps ≠ qs := by
            intro e'
            subst e'
            exact e rfl
          simp [this, hpp]
      · simp (maxSteps := 1000000) (disch := omega) only [h0, h1, h5, S, S1, S2, S3, S4, S5, ST, eq_self, reduceIte, reduceCtorEq, Nat.reduceEqDiff, Nat.reduceAdd]
        refine hQ _ _ _ ?_
        simp (maxSteps := 1000000) (disch := omega) only [S, S1, S2, S3, S4, S5, ST, eq_self, reduceIte, reduceCtorEq, Nat.reduceEqDiff, Nat.reduceAdd]
        rw [List.take_of_length_le (by omega), List.take_of_length_le (by omega)] at hn
        simp [hn, hp]
end Go.Proofs.YtlfongfhbkefmaaGreat.Ai
namespace Go.Proofs.YtlfongfhbkefmaaGreat.Ai
open Go
def ords16 : List (Nat × List (Nat × Bool)) := []
def cd16 : Cd := (.seq (.reg [⟨⟨some 2, Op.assign (Operand.const (Value.slice none 0 0)), none⟩, []⟩]) (.seq (.reg [⟨⟨some 5, Op.move (Operand.tmp 0), none⟩, []⟩,
  ⟨⟨some 6, Op.call { callee := (Callee.builtin Builtin.len), args := #[(Operand.tmp 5)], argTypes := #[38] }, none⟩, []⟩,
  ⟨⟨some 7, Op.makeSlice 38 (Operand.tmp 6) (Operand.tmp 6), none⟩, []⟩,
  ⟨⟨some 3, Op.assign (Operand.tmp 7), none⟩, []⟩]) (.seq (.seq (.reg [⟨⟨some 4, Op.assign (Operand.const (Value.int IntKind.i64 0)), none⟩, []⟩]) (.block 0 (.loop (.seq (.seq (.reg [⟨⟨some 8, Op.move (Operand.tmp 4), none⟩, []⟩,
  ⟨⟨some 9, Op.move (Operand.tmp 0), none⟩, []⟩,
  ⟨⟨some 10, Op.call { callee := (Callee.builtin Builtin.len), args := #[(Operand.tmp 9)], argTypes := #[38] }, none⟩, []⟩,
  ⟨⟨some 11, Op.binOp BinOp.lss 3 (Operand.tmp 8) (Operand.tmp 10) 3, none⟩, []⟩]) (.cond (Operand.tmp 11) .skip (.exit 0))) (.seq (.block 1 (.reg [⟨⟨some 14, Op.move (Operand.tmp 3), none⟩, []⟩,
  ⟨⟨some 15, Op.move (Operand.tmp 4), none⟩, []⟩,
  ⟨⟨some 16, Op.move (Operand.tmp 0), none⟩, []⟩,
  ⟨⟨some 17, Op.move (Operand.tmp 4), none⟩, []⟩,
  ⟨⟨some 18, Op.indexAddr 38 (Operand.tmp 16) (Operand.tmp 17), none⟩, []⟩,
  ⟨⟨some 19, Op.load 3 (Operand.tmp 18), none⟩, []⟩,
  ⟨⟨some 20, Op.indexAddr 38 (Operand.tmp 14) (Operand.tmp 15), none⟩, []⟩,
  ⟨⟨none, Op.store 3 (Operand.tmp 20) (Operand.tmp 19), none⟩, []⟩])) (.reg [⟨⟨some 12, Op.move (Operand.tmp 4), none⟩, []⟩,
  ⟨⟨some 13, Op.binOp BinOp.add 3 (Operand.tmp 12) (Operand.const (Value.int IntKind.i64 1)) 3, none⟩, []⟩,
  ⟨⟨some 4, Op.assign (Operand.tmp 13), none⟩, []⟩])))))) (.seq (.reg [⟨⟨some 21, Op.move (Operand.tmp 3), none⟩, []⟩,
  ⟨⟨some 2, Op.assign (Operand.tmp 21), none⟩, []⟩]) .ret))))
theorem sl16 : slim Tryz.f16.ntmps ords16 (Tryz.f16.body.getD .skip) = some cd16 := by kernel_rfl
theorem in16 {args : List Value} {H : AH} {R : Value → AH → Prop} (hl : args.length = 1) (h : ∀ (Q : Exit → Sl → AH → Prop), (∀ e s H, endA Tryz.prog [ResultVar.tmp 2] R e s H → Q e s H) → wpC Tryz.prog cd16 Q (enterA args) H) : ACalls Tryz.prog 16 args H R :=
  ACalls.intro (by kernel_rfl) Tryz.func16 rfl (by kernel_rfl) sl16 hl (of_decide_eq_true (by kernel_rfl)) (by kernel_rfl) h
def ords19 : List (Nat × List (Nat × Bool)) := [(6, [(0, false), (1, false), (2, false), (3, false), (4, false), (5, false), (6, false), (7, false), (8, false)])]
def cd19 : Cd := (.seq (.reg [⟨⟨some 4, Op.assign (Operand.const (Value.bool false)), none⟩, []⟩]) (.seq (.seq (.reg [⟨⟨some 6, Op.move (Operand.tmp 0), none⟩, []⟩,
  ⟨⟨some 7, Op.call { callee := (Callee.builtin Builtin.len), args := #[(Operand.tmp 6)], argTypes := #[38] }, none⟩, []⟩,
  ⟨⟨some 8, Op.move (Operand.tmp 1), none⟩, []⟩,
  ⟨⟨some 9, Op.call { callee := (Callee.builtin Builtin.len), args := #[(Operand.tmp 8)], argTypes := #[38] }, none⟩, []⟩,
  ⟨⟨some 10, Op.binOp BinOp.neq 3 (Operand.tmp 7) (Operand.tmp 9) 3, none⟩, []⟩]) (.cond (Operand.tmp 10) (.seq (.reg [⟨⟨some 4, Op.assign (Operand.const (Value.bool false)), none⟩, []⟩]) .ret) .skip)) (.seq (.seq (.reg [⟨⟨some 5, Op.assign (Operand.const (Value.int IntKind.i64 0)), none⟩, []⟩]) (.block 0 (.loop (.seq (.seq (.reg [⟨⟨some 11, Op.move (Operand.tmp 5), none⟩, []⟩,
  ⟨⟨some 12, Op.move (Operand.tmp 0), none⟩, []⟩,
  ⟨⟨some 13, Op.call { callee := (Callee.builtin Builtin.len), args := #[(Operand.tmp 12)], argTypes := #[38] }, none⟩, []⟩,
  ⟨⟨some 14, Op.binOp BinOp.lss 3 (Operand.tmp 11) (Operand.tmp 13) 3, none⟩, []⟩]) (.cond (Operand.tmp 14) .skip (.exit 0))) (.seq (.block 1 (.seq (.reg [⟨⟨some 17, Op.move (Operand.tmp 0), none⟩, []⟩,
  ⟨⟨some 18, Op.move (Operand.tmp 5), none⟩, []⟩,
  ⟨⟨some 19, Op.indexAddr 38 (Operand.tmp 17) (Operand.tmp 18), none⟩, []⟩,
  ⟨⟨some 20, Op.load 3 (Operand.tmp 19), none⟩, []⟩,
  ⟨⟨some 21, Op.move (Operand.tmp 1), none⟩, []⟩,
  ⟨⟨some 22, Op.move (Operand.tmp 5), none⟩, []⟩,
  ⟨⟨some 23, Op.indexAddr 38 (Operand.tmp 21) (Operand.tmp 22), none⟩, []⟩,
  ⟨⟨some 24, Op.load 3 (Operand.tmp 23), none⟩, []⟩,
  ⟨⟨some 25, Op.binOp BinOp.neq 3 (Operand.tmp 20) (Operand.tmp 24) 3, none⟩, []⟩]) (.cond (Operand.tmp 25) (.seq (.reg [⟨⟨some 4, Op.assign (Operand.const (Value.bool false)), none⟩, []⟩]) .ret) .skip))) (.reg [⟨⟨some 15, Op.move (Operand.tmp 5), none⟩, []⟩,
  ⟨⟨some 16, Op.binOp BinOp.add 3 (Operand.tmp 15) (Operand.const (Value.int IntKind.i64 1)) 3, none⟩, []⟩,
  ⟨⟨some 5, Op.assign (Operand.tmp 16), none⟩, []⟩])))))) (.seq (.reg [⟨⟨some 4, Op.assign (Operand.const (Value.bool true)), none⟩, []⟩]) .ret))))
theorem sl19 : slim Tryz.f19.ntmps ords19 (Tryz.f19.body.getD .skip) = some cd19 := by kernel_rfl
theorem in19 {args : List Value} {H : AH} {R : Value → AH → Prop} (hl : args.length = 2) (h : ∀ (Q : Exit → Sl → AH → Prop), (∀ e s H, endA Tryz.prog [ResultVar.tmp 4] R e s H → Q e s H) → wpC Tryz.prog cd19 Q (enterA args) H) : ACalls Tryz.prog 19 args H R :=
  ACalls.intro (by kernel_rfl) Tryz.func19 rfl (by kernel_rfl) sl19 hl (of_decide_eq_true (by kernel_rfl)) (by kernel_rfl) h
end Go.Proofs.YtlfongfhbkefmaaGreat.Ai
namespace Go.Proofs.YtlfongfhbkefmaaGreat.Ai
open Go Go.RowKit
set_option linter.unusedVariables false
set_option linter.unusedSimpArgs false
theorem toIntS_c (v : Value) (xs : List Int) (H : AH) (hr : Row 3 H v xs) (hlen : xs.length ≤ 1099511627776) : ACalls Tryz.prog 16 [v] H fun r H' => Own 3 H H' r xs ∧ H <+: H' := by
  refine in16 rfl ?_
  intro Q hQ
  simp (maxSteps := 1000000) (disch := omega) only [cd16, hr.len Tryz.underlying38, mks38, S, S1, S2, S3, S4, S5, ST, eq_self, reduceIte, reduceCtorEq, Nat.reduceEqDiff, Nat.reduceAdd]
  refine LoopH.by (fun m s H' => ∃ i, m + i = xs.length ∧ s 0 = v ∧ s 3 = .slice (some ⟨H.length, 0, none⟩) xs.length xs.length ∧ s 4 = .int .i64 ((i : Nat) : Int) ∧ H' = H ++ [.cells (ints (xs.take i ++ List.replicate (xs.length - i) 0)) 3 false]) xs.length ?_ ?_
  · exact ⟨0, by simp, rfl, by simp [S, S1, S2, S3, S4, S5, ST, eq_self, reduceIte, reduceCtorEq, Nat.reduceEqDiff, Nat.reduceAdd], by simp [S, S1, S2, S3, S4, S5, ST, eq_self, reduceIte, reduceCtorEq, Nat.reduceEqDiff, Nat.reduceAdd], by simp⟩
  · rintro m s H' ⟨i, hm, h0, h3, h4, rfl⟩
    generalize hys : xs.take i ++ List.replicate (xs.length - i) 0 = ys
    have hyl : ys.length = xs.length := by rw [← hys]; simp; omega
    have hr' := hr.pre (List.prefix_append H [.cells (ints ys) 3 false])
    have hc := at_new H (.cells (ints ys) 3 false)
    simp (maxSteps := 1000000) (disch := omega) only [h0, h3, h4, hr'.len Tryz.underlying38, S, S1, S2, S3, S4, S5, ST, eq_self, reduceIte, reduceCtorEq, Nat.reduceEqDiff, Nat.reduceAdd]
    refine brD.intro (fun g => ?_) (fun g => ?_) <;> simp (maxSteps := 1000000) (disch := omega) only [h0, h3, h4, hr'.ix Tryz.underlying38 cs3, hr'.cell, Int.toNat_natCast, st_ints cs3 hc, set_new, wrap64, S, S1, S2, S3, S4, S5, ST, eq_self, reduceIte, reduceCtorEq, Nat.reduceEqDiff, Nat.reduceAdd]
    · have hi : i < xs.length := by omega
      refine ⟨m - 1, by omega, i + 1, by omega, by simp, ?_⟩
      have : ys.set i (xs.getD i 0) = xs.take (i + 1) ++ List.replicate (xs.length - (i + 1)) 0 := by
        rw [← hys]
        apply List.ext_getElem?
        intro k
        rw [List.getElem?_set]
        by_cases hk : i = k
        · subst hk
          have : i < (xs.take i ++ List.replicate (xs.length - i) (0 : Int)).length := by simp; omega
          rw [if_pos rfl, if_pos this, List.getElem?_append_left (by simp; omega), List.getElem?_take, if_pos (by omega)]
          simp [hi]
        · rw [if_neg hk]
          by_cases hk2 : k < i
          · rw [List.getElem?_append_left (by simp; omega), List.getElem?_append_left (by simp; omega), List.getElem?_take, List.getElem?_take, if_pos hk2, if_pos (by omega)]
          · rw [List.getElem?_append_right (by simp; omega), List.getElem?_append_right (by simp; omega), List.getElem?_replicate, List.getElem?_replicate]
            simp only [List.length_take]
            rw [Nat.min_eq_left (by omega), Nat.min_eq_left (by omega)]
            by_cases hk3 : k < xs.length
            · rw [if_pos (by omega), if_pos (by omega)]
            · rw [if_neg (by omega), if_neg (by omega)]
      rw [this]
    · refine hQ _ _ _ ?_
      simp (maxSteps := 1000000) (disch := omega) only [S, S1, S2, S3, S4, S5, ST, eq_self, reduceIte, reduceCtorEq, Nat.reduceEqDiff, Nat.reduceAdd]
      have : ys = xs := by
        rw [← hys, List.take_of_length_le (by omega), show xs.length - i = 0 from by omega]; simp
      subst this
      exact ⟨.inr ⟨H.length, rfl, Nat.le_refl _, at_new ..⟩, List.prefix_append _ _⟩
theorem eqIntS_c (v w : Value) (xs ys : List Int) (H : AH) (hr : Row 3 H v xs) (hr2 : Row 3 H w ys) (hlen : xs.length ≤ 1099511627776) : ACalls Tryz.prog 19 [v, w] H fun r H' => r = .bool (decide (xs = ys)) ∧ H = H' := by
  refine in19 rfl ?_
  intro Q hQ
  simp (maxSteps := 1000000) (disch := omega) only [cd19, hr.len Tryz.underlying38, hr2.len Tryz.underlying38, S, S1, S2, S3, S4, S5, ST, eq_self, reduceIte, reduceCtorEq, Nat.reduceEqDiff, Nat.reduceAdd]
  refine brD.intro (fun g => ?_) (fun g => ?_) <;> simp (maxSteps := 1000000) (disch := omega) only [hr.len Tryz.underlying38, S, S1, S2, S3, S4, S5, ST, eq_self, reduceIte, reduceCtorEq, Nat.reduceEqDiff, Nat.reduceAdd]
  · refine hQ _ _ _ ?_
    simp (maxSteps := 1000000) (disch := omega) only [S, S1, S2, S3, S4, S5, ST, eq_self, reduceIte, reduceCtorEq, Nat.reduceEqDiff, Nat.reduceAdd]
    have : xs ≠ ys := fun e => g (by rw [e])
    simp [this]
  · have hl : xs.length = ys.length := by omega
    refine LoopH.by (fun m s H' => ∃ i, m + i = xs.length ∧ s 0 = v ∧ s 1 = w ∧ s 5 = .int .i64 ((i : Nat) : Int) ∧ H = H' ∧ xs.take i = ys.take i) xs.length ?_ ?_
    · exact ⟨0, by simp, rfl, rfl, rfl, rfl, by simp⟩
    · rintro m s H' ⟨i, hm, h0, h1, h5, rfl, hn⟩
      simp (maxSteps := 1000000) (disch := omega) only [h0, h1, h5, hr.len Tryz.underlying38, S, S1, S2, S3, S4, S5, ST, eq_self, reduceIte, reduceCtorEq, Nat.reduceEqDiff, Nat.reduceAdd]
      refine brD.intro (fun g => ?_) (fun g => ?_) <;> simp (maxSteps := 1000000) (disch := omega) only [h0, h1, h5, hr.ix Tryz.underlying38 cs3, hr.cell, hr2.ix Tryz.underlying38 cs3, hr2.cell, Int.toNat_natCast, S, S1, S2, S3, S4, S5, ST, eq_self, reduceIte, reduceCtorEq, Nat.reduceEqDiff, Nat.reduceAdd]
      · have hi : i < xs.length := by omega
        have hg : xs.getD i 0 = xs[i] := by simp [hi]
        have hg2 : ys.getD i 0 = ys[i] := by simp [hl ▸ hi]
        refine brD.intro (fun e => ?_) (fun e => ?_) <;> simp (maxSteps := 1000000) (disch := omega) only [h0, h1, h5, wrap64, S, S1, S2, S3, S4, S5, ST, eq_self, reduceIte, reduceCtorEq, Nat.reduceEqDiff, Nat.reduceAdd]
        · refine hQ _ _ _ ?_
          simp (maxSteps := 1000000) (disch := omega) only [S, S1, S2, S3, S4, S5, ST, eq_self, reduceIte, reduceCtorEq, Nat.reduceEqDiff, Nat.reduceAdd]
          have : xs ≠ ys := by
            intro e'
            subst e'
            exact e rfl
          simp [this]
        · refine ⟨m - 1, by omega, i + 1, by omega, by simp, ?_⟩
          rw [List.take_add_one, List.take_add_one, hn, List.getElem?_eq_getElem hi, List.getElem?_eq_getElem (hl ▸ hi)]
          rw [hg, hg2] at e
          rw [Decidable.not_not.1 e]
      · refine hQ _ _ _ ?_
        simp (maxSteps := 1000000) (disch := omega) only [S, S1, S2, S3, S4, S5, ST, eq_self, reduceIte, reduceCtorEq, Nat.reduceEqDiff, Nat.reduceAdd]
        rw [List.take_of_length_le (by omega), List.take_of_length_le (by omega)] at hn
        simp [hn]
end Go.Proofs.YtlfongfhbkefmaaGreat.Ai
namespace Go.Proofs.YtlfongfhbkefmaaGreat.Ai
open Go
def ords20 : List (Nat × List (Nat × Bool)) := []
def cd20 : Cd := (.seq (.reg [⟨⟨some 4, Op.assign (Operand.const (Value.int IntKind.i64 0)), none⟩, []⟩]) (.seq (.seq (.reg [⟨⟨some 5, Op.assign (Operand.const (Value.int IntKind.i64 0)), none⟩, []⟩]) (.block 0 (.loop (.seq (.seq (.reg [⟨⟨some 6, Op.move (Operand.tmp 5), none⟩, []⟩,
  ⟨⟨some 7, Op.move (Operand.tmp 0), none⟩, []⟩,
  ⟨⟨some 8, Op.call { callee := (Callee.builtin Builtin.len), args := #[(Operand.tmp 7)], argTypes := #[38] }, none⟩, []⟩,
  ⟨⟨some 9, Op.binOp BinOp.lss 3 (Operand.tmp 6) (Operand.tmp 8) 3, none⟩, []⟩]) (.cond (Operand.tmp 9) .skip (.exit 0))) (.seq (.block 1 (.seq (.reg [⟨⟨some 12, Op.move (Operand.tmp 0), none⟩, []⟩,
  ⟨⟨some 13, Op.move (Operand.tmp 5), none⟩, []⟩,
  ⟨⟨some 14, Op.move (Operand.tmp 1), none⟩, []⟩,
  ⟨⟨some 15, Op.indexAddr 38 (Operand.tmp 12) (Operand.tmp 13), none⟩, []⟩,
  ⟨⟨none, Op.store 3 (Operand.tmp 15) (Operand.tmp 14), none⟩, []⟩]) (.reg [⟨⟨some 16, Op.move (Operand.tmp 1), none⟩, []⟩,
  ⟨⟨some 17, Op.binOp BinOp.add 3 (Operand.tmp 16) (Operand.const (Value.int IntKind.i64 1)) 3, none⟩, []⟩,
  ⟨⟨some 1, Op.assign (Operand.tmp 17), none⟩, []⟩]))) (.reg [⟨⟨some 10, Op.move (Operand.tmp 5), none⟩, []⟩,
  ⟨⟨some 11, Op.binOp BinOp.add 3 (Operand.tmp 10) (Operand.const (Value.int IntKind.i64 1)) 3, none⟩, []⟩,
  ⟨⟨some 5, Op.assign (Operand.tmp 11), none⟩, []⟩])))))) (.seq (.reg [⟨⟨some 18, Op.move (Operand.tmp 1), none⟩, []⟩,
  ⟨⟨some 4, Op.assign (Operand.tmp 18), none⟩, []⟩]) .ret)))
theorem sl20 : slim Tryz.f20.ntmps ords20 (Tryz.f20.body.getD .skip) = some cd20 := by kernel_rfl
theorem in20 {args : List Value} {H : AH} {R : Value → AH → Prop} (hl : args.length = 2) (h : ∀ (Q : Exit → Sl → AH → Prop), (∀ e s H, endA Tryz.prog [ResultVar.tmp 4] R e s H → Q e s H) → wpC Tryz.prog cd20 Q (enterA args) H) : ACalls Tryz.prog 20 args H R :=
  ACalls.intro (by kernel_rfl) Tryz.func20 rfl (by kernel_rfl) sl20 hl (of_decide_eq_true (by kernel_rfl)) (by kernel_rfl) h
def ords55 : List (Nat × List (Nat × Bool)) := []
def cd55 : Cd := (.seq (.reg [⟨⟨some 4, Op.assign (Operand.const (Value.int IntKind.i64 0)), none⟩, []⟩]) (.seq (.seq (.reg [⟨⟨some 5, Op.assign (Operand.const (Value.int IntKind.i64 0)), none⟩, []⟩]) (.block 0 (.loop (.seq (.seq (.reg [⟨⟨some 6, Op.move (Operand.tmp 5), none⟩, []⟩,
  ⟨⟨some 7, Op.move (Operand.tmp 0), none⟩, []⟩,
  ⟨⟨some 8, Op.call { callee := (Callee.builtin Builtin.len), args := #[(Operand.tmp 7)], argTypes := #[38] }, none⟩, []⟩,
  ⟨⟨some 9, Op.binOp BinOp.lss 3 (Operand.tmp 6) (Operand.tmp 8) 3, none⟩, []⟩]) (.cond (Operand.tmp 9) .skip (.exit 0))) (.seq (.block 1 (.seq (.seq (.reg [⟨⟨some 12, Op.move (Operand.tmp 0), none⟩, []⟩,
  ⟨⟨some 13, Op.move (Operand.tmp 5), none⟩, []⟩,
  ⟨⟨some 14, Op.indexAddr 38 (Operand.tmp 12) (Operand.tmp 13), none⟩, []⟩,
  ⟨⟨some 15, Op.load 3 (Operand.tmp 14), none⟩, []⟩,
  ⟨⟨some 16, Op.move (Operand.tmp 1), none⟩, []⟩,
  ⟨⟨some 17, Op.binOp BinOp.neq 3 (Operand.tmp 15) (Operand.tmp 16) 3, none⟩, []⟩]) (.cond (Operand.tmp 17) (.seq (.reg [⟨⟨some 4, Op.assign (Operand.const (Value.int IntKind.i64 (-1))), none⟩, []⟩]) .ret) .skip)) (.reg [⟨⟨some 18, Op.move (Operand.tmp 1), none⟩, []⟩,
  ⟨⟨some 19, Op.binOp BinOp.add 3 (Operand.tmp 18) (Operand.const (Value.int IntKind.i64 1)) 3, none⟩, []⟩,
  ⟨⟨some 1, Op.assign (Operand.tmp 19), none⟩, []⟩]))) (.reg [⟨⟨some 10, Op.move (Operand.tmp 5), none⟩, []⟩,
  ⟨⟨some 11, Op.binOp BinOp.add 3 (Operand.tmp 10) (Operand.const (Value.int IntKind.i64 1)) 3, none⟩, []⟩,
  ⟨⟨some 5, Op.assign (Operand.tmp 11), none⟩, []⟩])))))) (.seq (.reg [⟨⟨some 20, Op.move (Operand.tmp 1), none⟩, []⟩,
  ⟨⟨some 4, Op.assign (Operand.tmp 20), none⟩, []⟩]) .ret)))
theorem sl55 : slim Tryz.f55.ntmps ords55 (Tryz.f55.body.getD .skip) = some cd55 := by kernel_rfl
theorem in55 {args : List Value} {H : AH} {R : Value → AH → Prop} (hl : args.length = 2) (h : ∀ (Q : Exit → Sl → AH → Prop), (∀ e s H, endA Tryz.prog [ResultVar.tmp 4] R e s H → Q e s H) → wpC Tryz.prog cd55 Q (enterA args) H) : ACalls Tryz.prog 55 args H R :=
  ACalls.intro (by kernel_rfl) Tryz.func55 rfl (by kernel_rfl) sl55 hl (of_decide_eq_true (by kernel_rfl)) (by kernel_rfl) h
end Go.Proofs.YtlfongfhbkefmaaGreat.Ai
namespace Go.Proofs.YtlfongfhbkefmaaGreat.Ai
open Go Go.RowKit
set_option linter.unusedVariables false
set_option linter.unusedSimpArgs false
theorem take_set_succ (zs : List Int) (i : Nat) (x : Int) (h : i < zs.length) : (zs.set i x).take (i + 1) = zs.take i ++ [x] := by
  rw [List.take_add_one, List.getElem?_set_self h]
  congr 1
  apply List.ext_getElem?
  intro j
  rw [List.getElem?_take, List.getElem?_take]
  by_cases hj : j < i
  · rw [if_pos hj, if_pos hj, List.getElem?_set_ne (by omega)]
  · rw [if_neg hj, if_neg hj]
set_option maxHeartbeats 1000000 in
theorem markIntS_c (v : Value) (xs : List Int) (k : Int) (H0 H : AH) (hm : Mine 3 H0 H v xs) (hlen : xs.length ≤ 1099511627776) (hk : 0 ≤ k ∧ k ≤ 4611686018427387904) :
    ACalls Tryz.prog 20 [v, .int .i64 k] H fun r H' => r = .int .i64 (k + xs.length) ∧ Mine 3 H0 H' v (runI k xs.length) ∧ Else v H H' := by
  refine in20 rfl ?_
  intro Q hQ
  simp (maxSteps := 1000000) (disch := omega) only [cd20, S, S1, S2, S3, S4, S5, ST, eq_self, reduceIte, reduceCtorEq, Nat.reduceEqDiff, Nat.reduceAdd]
  rcases hm with ⟨rfl, rfl⟩ | ⟨o, zs, rfl, ho, hc, ht⟩
  · refine LoopH.by (fun m s H' => s 0 = .slice none 0 0 ∧ s 1 = .int .i64 k ∧ s 5 = .int .i64 0 ∧ H = H') 0 ?_ ?_
    · exact ⟨rfl, rfl, rfl, rfl⟩
    · rintro m s H' ⟨h0, h1, h5, rfl⟩
      simp (maxSteps := 1000000) (disch := omega) only [h0, h1, h5, S, S1, S2, S3, S4, S5, ST, eq_self, reduceIte, reduceCtorEq, Nat.reduceEqDiff, Nat.reduceAdd]
      refine brD.intro (fun g => ?_) (fun g => ?_) <;> simp (maxSteps := 1000000) (disch := omega) only [h0, h1, h5, S, S1, S2, S3, S4, S5, ST, eq_self, reduceIte, reduceCtorEq, Nat.reduceEqDiff, Nat.reduceAdd]
      · exact absurd g (by decide)
      · refine hQ _ _ _ ?_
        simp (maxSteps := 1000000) (disch := omega) only [h0, h1, h5, S, S1, S2, S3, S4, S5, ST, eq_self, reduceIte, reduceCtorEq, Nat.reduceEqDiff, Nat.reduceAdd]
        exact ⟨by simp, .inl ⟨rfl, rfl⟩, Else.refl _ _⟩
  · have hzl : xs.length ≤ zs.length := by have := congrArg List.length ht; simp at this; omega
    refine LoopH.by (fun m s H' => ∃ i ys, m + i = xs.length ∧ s 0 = .slice (some ⟨o, 0, none⟩) xs.length xs.length ∧ s 1 = .int .i64 (k + (i : Nat)) ∧ s 5 = .int .i64 ((i : Nat) : Int) ∧ H' = H.set o (.cells (ints ys) 3 false) ∧ ys.length = zs.length ∧ ys.take i = runI k i) xs.length ?_ ?_
    · refine ⟨0, zs, by simp, rfl, by simp [S, S1, S2, S3, S4, S5, ST, eq_self, reduceIte, reduceCtorEq, Nat.reduceEqDiff, Nat.reduceAdd], rfl, ?_, rfl, by simp [runI]⟩
      apply List.ext_getElem?
      intro j
      rw [List.getElem?_set]
      by_cases hj : o = j
      · subst hj; rw [if_pos rfl, if_pos (at_lt hc), hc]
      · rw [if_neg hj]
    · rintro m s H' ⟨i, ys, hm, h0, h1, h5, rfl, hyl, hyt⟩
      have hc' : (H.set o (.cells (ints ys) 3 false))[o]? = some (.cells (ints ys) 3 false) := at_set hc
      simp (maxSteps := 1000000) (disch := omega) only [h0, h1, h5, S, S1, S2, S3, S4, S5, ST, eq_self, reduceIte, reduceCtorEq, Nat.reduceEqDiff, Nat.reduceAdd]
      refine brD.intro (fun g => ?_) (fun g => ?_) <;> simp (maxSteps := 1000000) (disch := omega) only [h0, h1, h5, Int.toNat_natCast, Nat.zero_add, st_ints cs3 hc', wrap64, S, S1, S2, S3, S4, S5, ST, eq_self, reduceIte, reduceCtorEq, Nat.reduceEqDiff, Nat.reduceAdd]
      · have hi : i < ys.length := by omega
        have e1 : (ys.set i (k + i)).take (i + 1) = runI k (i + 1) := by rw [take_set_succ ys i _ hi, hyt]; rfl
        have e2 : (ys.set i (k + i)).length = zs.length := by simp [hyl]
        have e3 : (H.set o (.cells (ints ys) 3 false)).set o (.cells (ints (ys.set i (k + i))) 3 false) = H.set o (.cells (ints (ys.set i (k + i))) 3 false) := List.set_set ..
        refine ⟨m - 1, by omega, i + 1, ys.set i (k + i), ?_⟩
        (repeat' apply And.intro) <;> first | rfl | trivial | assumption | omega | (simp only [Value.int.injEq, true_and]; omega) | (simp; done) | (simp; omega) | exact e1 | exact e2 | exact e3
      · refine hQ _ _ _ ?_
        simp (maxSteps := 1000000) (disch := omega) only [h1, S, S1, S2, S3, S4, S5, ST, eq_self, reduceIte, reduceCtorEq, Nat.reduceEqDiff, Nat.reduceAdd]
        have hi : i = xs.length := by omega
        subst hi
        refine ⟨rfl, .inr ⟨o, ys, by rw [runI_len], ho, hc', by rw [runI_len]; exact hyt⟩, Else.set _ _⟩
theorem heldIntS_c (v : Value) (xs : List Int) (k : Int) (H : AH) (hr : Row 3 H v xs) (hlen : xs.length ≤ 1099511627776) (hk : 0 ≤ k ∧ k ≤ 4611686018427387904) (hx : xs = runI k xs.length) :
    ACalls Tryz.prog 55 [v, .int .i64 k] H fun r H' => r = .int .i64 (k + xs.length) ∧ H = H' := by
  refine in55 rfl ?_
  intro Q hQ
  simp (maxSteps := 1000000) (disch := omega) only [cd55, S, S1, S2, S3, S4, S5, ST, eq_self, reduceIte, reduceCtorEq, Nat.reduceEqDiff, Nat.reduceAdd]
  refine LoopH.by (fun m s H' => ∃ i, m + i = xs.length ∧ s 0 = v ∧ s 1 = .int .i64 (k + (i : Nat)) ∧ s 5 = .int .i64 ((i : Nat) : Int) ∧ H = H') xs.length ?_ ?_
  · exact ⟨0, by simp, rfl, by simp [S, S1, S2, S3, S4, S5, ST, eq_self, reduceIte, reduceCtorEq, Nat.reduceEqDiff, Nat.reduceAdd], rfl, rfl⟩
  · rintro m s H' ⟨i, hm, h0, h1, h5, rfl⟩
    simp (maxSteps := 1000000) (disch := omega) only [h0, h1, h5, hr.len Tryz.underlying38, S, S1, S2, S3, S4, S5, ST, eq_self, reduceIte, reduceCtorEq, Nat.reduceEqDiff, Nat.reduceAdd]
    refine brD.intro (fun g => ?_) (fun g => ?_) <;> simp (maxSteps := 1000000) (disch := omega) only [h0, h1, h5, hr.ix Tryz.underlying38 cs3, hr.cell, Int.toNat_natCast, S, S1, S2, S3, S4, S5, ST, eq_self, reduceIte, reduceCtorEq, Nat.reduceEqDiff, Nat.reduceAdd]
    · have hi : i < xs.length := by omega
      have hg : xs.getD i 0 = k + i := by
        have h2 : (runI k xs.length).getD i 0 = k + i := runI_at k _ i hi
        rw [← hx] at h2; exact h2
      simp (maxSteps := 1000000) (disch := omega) only [hg, S, S1, S2, S3, S4, S5, ST, eq_self, reduceIte, reduceCtorEq, Nat.reduceEqDiff, Nat.reduceAdd]
      simp (maxSteps := 1000000) (disch := omega) only [h0, h1, h5, wrap64, S, S1, S2, S3, S4, S5, ST, eq_self, reduceIte, reduceCtorEq, Nat.reduceEqDiff, Nat.reduceAdd]
      refine ⟨m - 1, by omega, i + 1, ?_⟩
      (repeat' apply And.intro) <;> first | rfl | trivial | assumption | omega | (simp only [Value.int.injEq, true_and]; omega) | (simp; done) | (simp; omega)
    · refine hQ _ _ _ ?_
      simp (maxSteps := 1000000) (disch := omega) only [h1, S, S1, S2, S3, S4, S5, ST, eq_self, reduceIte, reduceCtorEq, Nat.reduceEqDiff, Nat.reduceAdd]
      have : i = xs.length := by omega
      rw [this]
theorem markIntS_B (v : Value) (xs : List Int) (k : Int) (lo hi : Nat) (H : AH) (h : InI lo hi 3 H v xs) (hlen : xs.length ≤ 1099511627776) (hk : 0 ≤ k ∧ k ≤ 4611686018427387904) :
    ACalls Tryz.prog 20 [v, .int .i64 k] H fun r H' => r = .int .i64 (k + xs.length) ∧ InI lo hi 3 H' v (runI k xs.length) ∧ ElseR lo hi H H' := by
  have hm : Mine 3 (List.replicate lo AObj.dead) H v xs := by
    rcases h with h | ⟨o, zs, h1, h2, h3, h4, h5⟩
    · exact .inl h
    · exact .inr ⟨o, zs, h1, by simpa using h2, h4, h5⟩
  refine (markIntS_c v xs k _ H hm hlen hk).mono ?_
  rintro r H' ⟨h1, h2, h3⟩
  refine ⟨h1, ?_, h3.1, fun o x ho hx => h3.2 o x ?_ hx⟩
  · rcases h with ⟨g1, g2⟩ | ⟨o, zs, g1, g2, g3, g4, g5⟩
    · subst g2; exact .inl ⟨g1, rfl⟩
    · rcases h2 with ⟨f1, f2⟩ | ⟨o', zs', f1, f2, f3, f4⟩
      · rw [g1] at f1; cases f1
      · rw [g1] at f1
        simp only [Value.slice.injEq, Option.some.injEq, Addr.mk.injEq] at f1
        refine .inr ⟨o', zs', ?_, ?_, ?_, f3, f4⟩
        · rw [g1, f1.1.1, runI_len]
        · omega
        · omega
  · rcases h with g | ⟨o', zs, g1, g2, g3, g4, g5⟩
    · exact .inl g.1
    · subst g1
      right
      show o ≠ o'
      omega
end Go.Proofs.YtlfongfhbkefmaaGreat.Ai
namespace Go.Proofs.YtlfongfhbkefmaaGreat.Ai
open Go
def ords46 : List (Nat × List (Nat × Bool)) := []
def cd46 : Cd := (.seq (.reg [⟨⟨some 4, Op.assign (Operand.const (Value.int IntKind.i64 0)), none⟩, []⟩]) (.seq (.seq (.reg [⟨⟨some 5, Op.assign (Operand.const (Value.int IntKind.i64 0)), none⟩, []⟩]) (.block 0 (.loop (.seq (.seq (.reg [⟨⟨some 7, Op.move (Operand.tmp 5), none⟩, []⟩,
  ⟨⟨some 8, Op.move (Operand.tmp 0), none⟩, []⟩,
  ⟨⟨some 9, Op.call { callee := (Callee.builtin Builtin.len), args := #[(Operand.tmp 8)], argTypes := #[22] }, none⟩, []⟩,
  ⟨⟨some 10, Op.binOp BinOp.lss 3 (Operand.tmp 7) (Operand.tmp 9) 3, none⟩, []⟩]) (.cond (Operand.tmp 10) .skip (.exit 0))) (.seq (.block 1 (.seq (.reg [⟨⟨some 6, Op.assign (Operand.const (Value.int IntKind.i64 0)), none⟩, []⟩]) (.block 2 (.loop (.seq (.seq (.reg [⟨⟨some 13, Op.move (Operand.tmp 6), none⟩, []⟩,
  ⟨⟨some 14, Op.binOp BinOp.lss 3 (Operand.tmp 13) (Operand.const (Value.int IntKind.i64 2)) 3, none⟩, []⟩]) (.cond (Operand.tmp 14) .skip (.exit 2))) (.seq (.block 3 (.seq (.reg [⟨⟨some 17, Op.move (Operand.tmp 0), none⟩, []⟩,
  ⟨⟨some 18, Op.move (Operand.tmp 5), none⟩, []⟩,
  ⟨⟨some 19, Op.move (Operand.tmp 6), none⟩, []⟩,
  ⟨⟨some 20, Op.move (Operand.tmp 1), none⟩, []⟩,
  ⟨⟨some 21, Op.indexAddr 22 (Operand.tmp 17) (Operand.tmp 18), none⟩, []⟩,
  ⟨⟨some 22, Op.indexAddr 83 (Operand.tmp 21) (Operand.tmp 19), none⟩, []⟩,
  ⟨⟨none, Op.store 3 (Operand.tmp 22) (Operand.tmp 20), none⟩, []⟩]) (.reg [⟨⟨some 23, Op.move (Operand.tmp 1), none⟩, []⟩,
  ⟨⟨some 24, Op.binOp BinOp.add 3 (Operand.tmp 23) (Operand.const (Value.int IntKind.i64 1)) 3, none⟩, []⟩,
  ⟨⟨some 1, Op.assign (Operand.tmp 24), none⟩, []⟩]))) (.reg [⟨⟨some 15, Op.move (Operand.tmp 6), none⟩, []⟩,
  ⟨⟨some 16, Op.binOp BinOp.add 3 (Operand.tmp 15) (Operand.const (Value.int IntKind.i64 1)) 3, none⟩, []⟩,
  ⟨⟨some 6, Op.assign (Operand.tmp 16), none⟩, []⟩]))))))) (.reg [⟨⟨some 11, Op.move (Operand.tmp 5), none⟩, []⟩,
  ⟨⟨some 12, Op.binOp BinOp.add 3 (Operand.tmp 11) (Operand.const (Value.int IntKind.i64 1)) 3, none⟩, []⟩,
  ⟨⟨some 5, Op.assign (Operand.tmp 12), none⟩, []⟩])))))) (.seq (.reg [⟨⟨some 25, Op.move (Operand.tmp 1), none⟩, []⟩,
  ⟨⟨some 4, Op.assign (Operand.tmp 25), none⟩, []⟩]) .ret)))
theorem sl46 : slim Tryz.f46.ntmps ords46 (Tryz.f46.body.getD .skip) = some cd46 := by kernel_rfl
theorem in46 {args : List Value} {H : AH} {R : Value → AH → Prop} (hl : args.length = 2) (h : ∀ (Q : Exit → Sl → AH → Prop), (∀ e s H, endA Tryz.prog [ResultVar.tmp 4] R e s H → Q e s H) → wpC Tryz.prog cd46 Q (enterA args) H) : ACalls Tryz.prog 46 args H R :=
  ACalls.intro (by kernel_rfl) Tryz.func46 rfl (by kernel_rfl) sl46 hl (of_decide_eq_true (by kernel_rfl)) (by kernel_rfl) h
end Go.Proofs.YtlfongfhbkefmaaGreat.Ai
namespace Go.Proofs.YtlfongfhbkefmaaGreat.Ai
open Go Go.RowKit
set_option linter.unusedVariables false
set_option linter.unusedSimpArgs false
set_option maxHeartbeats 1000000 in
theorem markIntA2S_B (v : Value) (ps : List (Int × Int)) (k : Int) (lo hi : Nat) (H : AH) (h : InP lo hi 83 H v ps) (hlen : ps.length ≤ 1099511627776) (hk : 0 ≤ k ∧ k ≤ 1099511627776) :
    ACalls Tryz.prog 46 [v, .int .i64 k] H fun r H' => r = .int .i64 (k + 2 * ps.length) ∧ InP lo hi 83 H' v (runP k ps.length) ∧ ElseR lo hi H H' := by
  refine in46 rfl ?_
  intro Q hQ
  simp (maxSteps := 1000000) (disch := omega) only [cd46, S, S1, S2, S3, S4, S5, ST, eq_self, reduceIte, reduceCtorEq, Nat.reduceEqDiff, Nat.reduceAdd]
  rcases h with ⟨rfl, rfl⟩ | ⟨o, zs, rfl, hlo, hhi, hc, ht⟩
  · refine LoopH.by (fun m s H' => s 0 = .slice none 0 0 ∧ s 1 = .int .i64 k ∧ s 5 = .int .i64 0 ∧ H = H') 0 ?_ ?_
    · exact ⟨rfl, rfl, rfl, rfl⟩
    · rintro m s H' ⟨h0, h1, h5, rfl⟩
      simp (maxSteps := 1000000) (disch := omega) only [h0, h1, h5, S, S1, S2, S3, S4, S5, ST, eq_self, reduceIte, reduceCtorEq, Nat.reduceEqDiff, Nat.reduceAdd]
      refine brD.intro (fun g => ?_) (fun g => ?_) <;> simp (maxSteps := 1000000) (disch := omega) only [h0, h1, h5, S, S1, S2, S3, S4, S5, ST, eq_self, reduceIte, reduceCtorEq, Nat.reduceEqDiff, Nat.reduceAdd]
      · exact absurd g (by decide)
      · refine hQ _ _ _ ?_
        simp (maxSteps := 1000000) (disch := omega) only [h0, h1, h5, S, S1, S2, S3, S4, S5, ST, eq_self, reduceIte, reduceCtorEq, Nat.reduceEqDiff, Nat.reduceAdd]
        exact ⟨by simp, .inl ⟨rfl, rfl⟩, ElseR.refl _ _ _⟩
  · have hzl := take_flat_len ht
    refine LoopH.by (fun m s H' => ∃ i ys, m + i = ps.length ∧ s 0 = .slice (some ⟨o, 0, none⟩) ps.length ps.length ∧ s 1 = .int .i64 (k + 2 * (i : Nat)) ∧ s 5 = .int .i64 ((i : Nat) : Int) ∧ H' = H.set o (.cells (ints ys) 83 false) ∧ ys.length = zs.length ∧ ys.take (2 * i) = runI k (2 * i)) ps.length ?_ ?_
    · refine ⟨0, zs, by simp, rfl, by simp [S, S1, S2, S3, S4, S5, ST, eq_self, reduceIte, reduceCtorEq, Nat.reduceEqDiff, Nat.reduceAdd], rfl, ?_, rfl, by simp [runI]⟩
      apply List.ext_getElem?
      intro j
      rw [List.getElem?_set]
      by_cases hj : o = j
      · subst hj; rw [if_pos rfl, if_pos (at_lt hc), hc]
      · rw [if_neg hj]
    · rintro m s H' ⟨i, ys, hm, h0, h1, h5, rfl, hyl, hyt⟩
      simp (maxSteps := 1000000) (disch := omega) only [h0, h1, h5, S, S1, S2, S3, S4, S5, ST, eq_self, reduceIte, reduceCtorEq, Nat.reduceEqDiff, Nat.reduceAdd]
      refine brD.intro (fun g => ?_) (fun g => ?_)
      · have hi : i < ps.length := by omega
        simp (maxSteps := 1000000) (disch := omega) only [h0, h1, h5, wrap64, S, S1, S2, S3, S4, S5, ST, eq_self, reduceIte, reduceCtorEq, Nat.reduceEqDiff, Nat.reduceAdd]
        refine LoopH.by (fun m' s' H' => ∃ j ys, m' + j = 2 ∧ s' 0 = .slice (some ⟨o, 0, none⟩) ps.length ps.length ∧ s' 1 = .int .i64 (k + 2 * (i : Nat) + (j : Nat)) ∧ s' 5 = .int .i64 ((i : Nat) : Int) ∧ s' 6 = .int .i64 ((j : Nat) : Int) ∧ H' = H.set o (.cells (ints ys) 83 false) ∧ ys.length = zs.length ∧ ys.take (2 * i + j) = runI k (2 * i + j)) 2 ?_ ?_
        · exact ⟨0, ys, by simp, by simp [S, S1, S2, S3, S4, S5, ST, eq_self, reduceIte, reduceCtorEq, Nat.reduceEqDiff, Nat.reduceAdd, h0], by simp [S, S1, S2, S3, S4, S5, ST, eq_self, reduceIte, reduceCtorEq, Nat.reduceEqDiff, Nat.reduceAdd, h1], by simp [S, S1, S2, S3, S4, S5, ST, eq_self, reduceIte, reduceCtorEq, Nat.reduceEqDiff, Nat.reduceAdd, h5], by simp [S, S1, S2, S3, S4, S5, ST, eq_self, reduceIte, reduceCtorEq, Nat.reduceEqDiff, Nat.reduceAdd], rfl, hyl, hyt⟩
        · rintro m' s' H' ⟨j, ys, hm', g0, g1, g5, g6, rfl, hyl, hyt⟩
          have hc' : (H.set o (.cells (ints ys) 83 false))[o]? = some (.cells (ints ys) 83 false) := at_set hc
          simp (maxSteps := 1000000) (disch := omega) only [g0, g1, g5, g6, S, S1, S2, S3, S4, S5, ST, eq_self, reduceIte, reduceCtorEq, Nat.reduceEqDiff, Nat.reduceAdd]
          refine brD.intro (fun q => ?_) (fun q => ?_)
          · have hj : 2 * i + j < ys.length := by omega
            simp (maxSteps := 1000000) (disch := omega) only [g0, g1, g5, g6, ixa83, Int.toNat_natCast, Nat.zero_add, st_ints cs3 hc', wrap64, S, S1, S2, S3, S4, S5, ST, eq_self, reduceIte, reduceCtorEq, Nat.reduceEqDiff, Nat.reduceAdd]
            have e1 : (ys.set (2 * i + j) (k + 2 * i + j)).take (2 * i + (j + 1)) = runI k (2 * i + (j + 1)) := by
              rw [← Nat.add_assoc, take_set_succ ys _ _ hj, hyt, runI]
              congr 2
              omega
            have e2 : (ys.set (2 * i + j) (k + 2 * i + j)).length = zs.length := by simp [hyl]
            have e3 : (H.set o (.cells (ints ys) 83 false)).set o (.cells (ints (ys.set (2 * i + j) (k + 2 * i + j))) 83 false) = H.set o (.cells (ints (ys.set (2 * i + j) (k + 2 * i + j))) 83 false) := List.set_set ..
            refine ⟨m' - 1, by omega, j + 1, ys.set (2 * i + j) (k + 2 * i + j), ?_⟩
            (repeat' first | exact e1 | exact e2 | exact e3 | apply And.intro) <;> first | (simp only [Value.int.injEq, true_and]; omega) | omega | rfl | assumption | (simp; done) | (simp; omega)
          · have hj : j = 2 := by omega
            subst hj
            simp (maxSteps := 1000000) (disch := omega) only [g0, g1, g5, g6, wrap64, S, S1, S2, S3, S4, S5, ST, eq_self, reduceIte, reduceCtorEq, Nat.reduceEqDiff, Nat.reduceAdd]
            have e1 : ys.take (2 * (i + 1)) = runI k (2 * (i + 1)) := hyt
            refine ⟨m - 1, by omega, i + 1, ys, ?_⟩
            (repeat' first | exact e1 | exact hyl | apply And.intro) <;> first | (simp only [Value.int.injEq, true_and]; omega) | omega | rfl | assumption | (simp; done) | (simp; omega)
      · simp (maxSteps := 1000000) (disch := omega) only [h1, S, S1, S2, S3, S4, S5, ST, eq_self, reduceIte, reduceCtorEq, Nat.reduceEqDiff, Nat.reduceAdd]
        refine hQ _ _ _ ?_
        simp (maxSteps := 1000000) (disch := omega) only [h1, S, S1, S2, S3, S4, S5, ST, eq_self, reduceIte, reduceCtorEq, Nat.reduceEqDiff, Nat.reduceAdd]
        have hi : i = ps.length := by omega
        subst hi
        refine ⟨rfl, .inr ⟨o, ys, by rw [runP_len], hlo, hhi, at_set hc, by rw [runP_len, hyt, runP_flat]⟩, by simp, fun o' x ho hx => ?_⟩
        rw [List.getElem?_set_ne (by omega)]; exact hx
end Go.Proofs.YtlfongfhbkefmaaGreat.Ai
namespace Go.Proofs.YtlfongfhbkefmaaGreat.Ai
open Go
def ords6 : List (Nat × List (Nat × Bool)) := []
def cd6 : Cd := (.seq (.reg [⟨⟨some 2, Op.box 24 (Operand.tmp 0), none⟩, []⟩,
  ⟨⟨some 4, Op.assign (Operand.const (Value.int IntKind.i64 0)), none⟩, []⟩]) (.seq (.reg [⟨⟨some 5, Op.fieldAddr 24 (Operand.tmp 2) 1, none⟩, []⟩,
  ⟨⟨some 6, Op.load 22 (Operand.tmp 5), none⟩, []⟩,
  ⟨⟨some 7, Op.move (Operand.tmp 1), none⟩, []⟩,
  ⟨⟨some 8, Op.call { callee := (Callee.value (Operand.func 35)), args := #[(Operand.tmp 6), (Operand.tmp 7)], argTypes := #[22, 3] }, none⟩, []⟩,
  ⟨⟨some 1, Op.assign (Operand.tmp 8), none⟩, []⟩]) (.seq (.seq (.reg [⟨⟨some 9, Op.move (Operand.tmp 1), none⟩, []⟩,
  ⟨⟨some 10, Op.binOp BinOp.lss 3 (Operand.tmp 9) (Operand.const (Value.int IntKind.i64 0)) 3, none⟩, []⟩]) (.cond (Operand.tmp 10) (.seq (.reg [⟨⟨some 4, Op.assign (Operand.const (Value.int IntKind.i64 (-1))), none⟩, []⟩]) .ret) .skip)) (.seq (.reg [⟨⟨some 11, Op.move (Operand.tmp 1), none⟩, []⟩,
  ⟨⟨some 4, Op.assign (Operand.tmp 11), none⟩, []⟩]) .ret))))
theorem sl6 : slim Tryz.f6.ntmps ords6 (Tryz.f6.body.getD .skip) = some cd6 := by kernel_rfl
theorem in6 {args : List Value} {H : AH} {R : Value → AH → Prop} (hl : args.length = 2) (h : ∀ (Q : Exit → Sl → AH → Prop), (∀ e s H, endA Tryz.prog [ResultVar.tmp 4] R e s H → Q e s H) → wpC Tryz.prog cd6 Q (enterA args) H) : ACalls Tryz.prog 6 args H R :=
  ACalls.intro (by kernel_rfl) Tryz.func6 rfl (by kernel_rfl) sl6 hl (of_decide_eq_true (by kernel_rfl)) (by kernel_rfl) h
def ords8 : List (Nat × List (Nat × Bool)) := []
def cd8 : Cd := (.seq (.reg [⟨⟨some 1, Op.box 24 (Operand.tmp 0), none⟩, []⟩,
  ⟨⟨some 2, Op.alloc 31, none⟩, []⟩]) (.seq (.reg [⟨⟨some 3, Op.alloc 31, none⟩, []⟩]) (.seq (.reg [⟨⟨some 4, Op.fieldAddr 24 (Operand.tmp 1) 0, none⟩, []⟩,
  ⟨⟨some 5, Op.load 3 (Operand.tmp 4), none⟩, []⟩,
  ⟨⟨some 6, Op.fieldAddr 31 (Operand.tmp 3) 0, none⟩, []⟩,
  ⟨⟨none, Op.store 3 (Operand.tmp 6) (Operand.tmp 5), none⟩, []⟩]) (.seq (.reg [⟨⟨some 7, Op.fieldAddr 24 (Operand.tmp 1) 1, none⟩, []⟩,
  ⟨⟨some 8, Op.load 22 (Operand.tmp 7), none⟩, []⟩,
  ⟨⟨some 9, Op.call { callee := (Callee.value (Operand.func 38)), args := #[(Operand.tmp 8)], argTypes := #[22] }, none⟩, []⟩,
  ⟨⟨some 10, Op.fieldAddr 31 (Operand.tmp 3) 1, none⟩, []⟩,
  ⟨⟨none, Op.store 22 (Operand.tmp 10) (Operand.tmp 9), none⟩, []⟩]) (.seq (.reg [⟨⟨some 11, Op.load 31 (Operand.tmp 3), none⟩, []⟩,
  ⟨⟨none, Op.store 31 (Operand.tmp 2) (Operand.tmp 11), none⟩, []⟩]) .ret)))))
theorem sl8 : slim Tryz.f8.ntmps ords8 (Tryz.f8.body.getD .skip) = some cd8 := by kernel_rfl
set_option maxRecDepth 20000 in
theorem in8 {args : List Value} {H : AH} {R : Value → AH → Prop} (hl : args.length = 1) (h : ∀ (Q : Exit → Sl → AH → Prop), (∀ e s H, endA Tryz.prog [ResultVar.cell 2 31] R e s H → Q e s H) → wpC Tryz.prog cd8 Q (enterA args) H) : ACalls Tryz.prog 8 args H R :=
  ACalls.intro (by kernel_rfl) Tryz.func8 rfl (by kernel_rfl) sl8 hl (of_decide_eq_true (by kernel_rfl)) (by kernel_rfl) h
def ords11 : List (Nat × List (Nat × Bool)) := []
def cd11 : Cd := (.seq (.reg [⟨⟨some 2, Op.box 31 (Operand.tmp 0), none⟩, []⟩,
  ⟨⟨some 3, Op.box 31 (Operand.tmp 1), none⟩, []⟩,
  ⟨⟨some 4, Op.assign (Operand.const (Value.bool false)), none⟩, []⟩]) (.seq (.seq (.reg [⟨⟨some 5, Op.fieldAddr 31 (Operand.tmp 2) 0, none⟩, []⟩,
  ⟨⟨some 6, Op.load 3 (Operand.tmp 5), none⟩, []⟩,
  ⟨⟨some 7, Op.fieldAddr 31 (Operand.tmp 3) 0, none⟩, []⟩,
  ⟨⟨some 8, Op.load 3 (Operand.tmp 7), none⟩, []⟩,
  ⟨⟨some 9, Op.binOp BinOp.neq 3 (Operand.tmp 6) (Operand.tmp 8) 3, none⟩, []⟩]) (.cond (Operand.tmp 9) (.seq (.reg [⟨⟨some 4, Op.assign (Operand.const (Value.bool false)), none⟩, []⟩]) .ret) .skip)) (.seq (.seq (.reg [⟨⟨some 10, Op.fieldAddr 31 (Operand.tmp 2) 1, none⟩, []⟩,
  ⟨⟨some 11, Op.load 22 (Operand.tmp 10), none⟩, []⟩,
  ⟨⟨some 12, Op.fieldAddr 31 (Operand.tmp 3) 1, none⟩, []⟩,
  ⟨⟨some 13, Op.load 22 (Operand.tmp 12), none⟩, []⟩,
  ⟨⟨some 14, Op.call { callee := (Callee.value (Operand.func 45)), args := #[(Operand.tmp 11), (Operand.tmp 13)], argTypes := #[22, 22] }, none⟩, []⟩,
  ⟨⟨some 15, Op.unOp UnOp.not 4 (Operand.tmp 14), none⟩, []⟩]) (.cond (Operand.tmp 15) (.seq (.reg [⟨⟨some 4, Op.assign (Operand.const (Value.bool false)), none⟩, []⟩]) .ret) .skip)) (.seq (.reg [⟨⟨some 4, Op.assign (Operand.const (Value.bool true)), none⟩, []⟩]) .ret))))
theorem sl11 : slim Tryz.f11.ntmps ords11 (Tryz.f11.body.getD .skip) = some cd11 := by kernel_rfl
theorem in11 {args : List Value} {H : AH} {R : Value → AH → Prop} (hl : args.length = 2) (h : ∀ (Q : Exit → Sl → AH → Prop), (∀ e s H, endA Tryz.prog [ResultVar.tmp 4] R e s H → Q e s H) → wpC Tryz.prog cd11 Q (enterA args) H) : ACalls Tryz.prog 11 args H R :=
  ACalls.intro (by kernel_rfl) Tryz.func11 rfl (by kernel_rfl) sl11 hl (of_decide_eq_true (by kernel_rfl)) (by kernel_rfl) h
def ords12 : List (Nat × List (Nat × Bool)) := []
def cd12 : Cd := (.seq (.reg [⟨⟨some 2, Op.box 31 (Operand.tmp 0), none⟩, []⟩,
  ⟨⟨some 4, Op.assign (Operand.const (Value.int IntKind.i64 0)), none⟩, []⟩]) (.seq (.reg [⟨⟨some 5, Op.fieldAddr 31 (Operand.tmp 2) 1, none⟩, []⟩,
  ⟨⟨some 6, Op.load 22 (Operand.tmp 5), none⟩, []⟩,
  ⟨⟨some 7, Op.move (Operand.tmp 1), none⟩, []⟩,
  ⟨⟨some 8, Op.call { callee := (Callee.value (Operand.func 46)), args := #[(Operand.tmp 6), (Operand.tmp 7)], argTypes := #[22, 3] }, none⟩, []⟩,
  ⟨⟨some 1, Op.assign (Operand.tmp 8), none⟩, []⟩]) (.seq (.reg [⟨⟨some 9, Op.move (Operand.tmp 1), none⟩, []⟩,
  ⟨⟨some 4, Op.assign (Operand.tmp 9), none⟩, []⟩]) .ret)))
theorem sl12 : slim Tryz.f12.ntmps ords12 (Tryz.f12.body.getD .skip) = some cd12 := by kernel_rfl
theorem in12 {args : List Value} {H : AH} {R : Value → AH → Prop} (hl : args.length = 2) (h : ∀ (Q : Exit → Sl → AH → Prop), (∀ e s H, endA Tryz.prog [ResultVar.tmp 4] R e s H → Q e s H) → wpC Tryz.prog cd12 Q (enterA args) H) : ACalls Tryz.prog 12 args H R :=
  ACalls.intro (by kernel_rfl) Tryz.func12 rfl (by kernel_rfl) sl12 hl (of_decide_eq_true (by kernel_rfl)) (by kernel_rfl) h
end Go.Proofs.YtlfongfhbkefmaaGreat.Ai
namespace Go.Proofs.YtlfongfhbkefmaaGreat.Ai
open Go Go.RowKit
set_option linter.unusedVariables false
set_option linter.unusedSimpArgs false
theorem st_at {P : Program} {t e : TypeId} (hc : P.cellsOf t = 1) {H : AH} {o i : Nat} {vs : List Value} {y : Value} (ho : H[o]? = some (.cells vs e false)) (hi : i < vs.length) (h1 : isTup y = false) (h2 : y.cells.toList = [y]) :
    storeA P t (.pointer (some ⟨o, i, none⟩)) y H = some (H.set o (.cells (vs.set i y) e false)) := by
  simp only [storeA, ho]
  rw [h2, if_pos ⟨h1, by rw [hc]; rfl, by omega, by simp; omega⟩]
  have : putAt vs i [y] = vs.set i y := by
    unfold putAt
    rw [List.set_eq_take_append_cons_drop, if_pos hi]
    simp
  rw [this]
theorem ld_agg {P : Program} {t e : TypeId} (h : isAggA P t = some true) (hc : P.cellsOf t = 2) {H : AH} {o : Nat} {a b : Value} {ro : Bool} (ho : H[o]? = some (.cells [a, b] e ro)) : loadA P t (.pointer (some ⟨o, 0, none⟩)) H = some (.agg (List.toArray [a, b])) :=
  ld_two h hc (by rw [cell_of ho]; rfl) (by rw [cell_of ho]; rfl)
section
variable {e : TypeId} {G H : AH} {v : Value} {ps : List (Int × Int)}
theorem RowP.boxL (h : RowP e G v ps) (n : Int) : boxA Tryz.prog 24 (.agg (List.toArray [.int .i64 n, v])) H = some (.pointer (some ⟨H.length, 0, none⟩), H ++ [.cells [.int .i64 n, v] 24 false]) := by
  obtain ⟨q, rfl⟩ := h.shape; kernel_rfl
theorem RowP.boxG (h : RowP e G v ps) (n : Int) : boxA Tryz.prog 31 (.agg (List.toArray [.int .i64 n, v])) H = some (.pointer (some ⟨H.length, 0, none⟩), H ++ [.cells [.int .i64 n, v] 31 false]) := by
  obtain ⟨q, rfl⟩ := h.shape; kernel_rfl
end
theorem alloc_G (H : AH) : allocA Tryz.prog 31 H = some (.pointer (some ⟨H.length, 0, none⟩), H ++ [.cells [.int .i64 0, .slice none 0 0] 31 false]) := by kernel_rfl
theorem st_G {e e2 : TypeId} {G H : AH} {v : Value} {ps : List (Int × Int)} (h : RowP e2 G v ps) {o : Nat} {vs : List Value} (ho : H[o]? = some (.cells vs e false)) (hv : vs.length = 2) (n : Int) :
    storeA Tryz.prog 31 (.pointer (some ⟨o, 0, none⟩)) (.agg (List.toArray [.int .i64 n, v])) H = some (H.set o (.cells [.int .i64 n, v] e false)) := by
  obtain ⟨q, rfl⟩ := h.shape
  simp only [storeA, ho, cs31]
  have hcl : (Value.agg (List.toArray [.int .i64 n, .slice q ps.length ps.length])).cells.toList = [.int .i64 n, .slice q ps.length ps.length] := rfl
  rw [hcl, if_pos ⟨rfl, rfl, by decide, by rw [hv]; exact Nat.le_refl 2⟩]
  have : putAt vs 0 [.int .i64 n, .slice q ps.length ps.length] = [.int .i64 n, .slice q ps.length ps.length] := by
    unfold putAt
    rw [List.take_zero, List.nil_append, List.drop_of_length_le (by simp; omega), List.append_nil]
  rw [this]
theorem MineP.keepL {e : TypeId} {H0 H H' : AH} {v : Value} {ps : List (Int × Int)} (h : MineP e H0 H v ps) (hh : H0.length ≤ rowO v → ∀ y, H[rowO v]? = some y → H'[rowO v]? = some y) : MineP e H0 H' v ps := by
  rcases h with h | ⟨o, zs, h1, h2, h3, h4⟩
  · exact .inl h
  · subst h1; exact .inr ⟨o, zs, rfl, h2, hh h2 _ h3, h4⟩
theorem two_of {α : Type} : ∀ (l : List α), l.length = 2 → ∃ a b, l = [a, b]
  | [a, b], _ => ⟨a, b, rfl⟩
theorem cell_new (H : AH) (vs : List Value) (e : TypeId) (ro : Bool) (i : Nat) : cellA (H ++ [.cells vs e ro]) H.length i = vs[i]? := cell_of (at_new ..) i
theorem szGraph_c (n : Int) (v : Value) (ps : List (Int × Int)) (k : Int) (H : AH) (hr : RowP 83 H v ps) (hk : 0 ≤ k ∧ k ≤ 1099511627776) (hl : (ps.length : Int) ≤ 9223372036854775807) :
    ACalls Tryz.prog 6 [.agg (List.toArray [.int .i64 n, v]), .int .i64 k] H fun r H' => r = .int .i64 (if k - ps.length < 0 then -1 else k - ps.length) ∧ H <+: H' := by
  refine in6 rfl ?_
  intro Q hQ
  have hp := List.prefix_append H [AObj.cells [.int .i64 n, v] 24 false]
  simp (maxSteps := 1000000) (disch := omega) only [cd6, hr.boxL, cell_new, S, S1, S2, S3, S4, S5, ST, eq_self, reduceIte, reduceCtorEq, Nat.reduceEqDiff, Nat.reduceAdd]
  refine CallH.by (szIntA2S_c v ps k _ (hr.pre hp) hk hl) ?_
  rintro _ _ ⟨rfl, rfl⟩
  simp (maxSteps := 1000000) (disch := omega) only [S, S1, S2, S3, S4, S5, ST, eq_self, reduceIte, reduceCtorEq, Nat.reduceEqDiff, Nat.reduceAdd]
  by_cases g : k - (ps.length : Int) < 0
  · rw [if_pos g]
    refine brD.intro (fun _ => ?_) (fun h => absurd h (by omega)) <;> simp (maxSteps := 1000000) (disch := omega) only [S, S1, S2, S3, S4, S5, ST, eq_self, reduceIte, reduceCtorEq, Nat.reduceEqDiff, Nat.reduceAdd]
    refine hQ _ _ _ ?_
    simp (maxSteps := 1000000) (disch := omega) only [g, S, S1, S2, S3, S4, S5, ST, eq_self, reduceIte, reduceCtorEq, Nat.reduceEqDiff, Nat.reduceAdd]
    exact hp
  · rw [if_neg g]
    refine brD.intro (fun h => absurd h (by omega)) (fun _ => ?_) <;> simp (maxSteps := 1000000) (disch := omega) only [S, S1, S2, S3, S4, S5, ST, eq_self, reduceIte, reduceCtorEq, Nat.reduceEqDiff, Nat.reduceAdd]
    refine hQ _ _ _ ?_
    simp (maxSteps := 1000000) (disch := omega) only [g, S, S1, S2, S3, S4, S5, ST, eq_self, reduceIte, reduceCtorEq, Nat.reduceEqDiff, Nat.reduceAdd]
    exact hp
set_option maxRecDepth 20000 in
set_option maxHeartbeats 1000000 in
theorem toGraph_c (n : Int) (v : Value) (ps : List (Int × Int)) (H : AH) (hr : RowP 83 H v ps) (hlen : ps.length ≤ 1099511627776) :
    ACalls Tryz.prog 8 [.agg (List.toArray [.int .i64 n, v])] H fun r H' => ∃ g, r = .agg (List.toArray [.int .i64 n, g]) ∧ MineP 83 H H' g ps ∧ H <+: H' := by
  refine in8 rfl ?_
  intro Q hQ
  simp (maxSteps := 1000000) (disch := omega) only [cd8, hr.boxL, alloc_G, S, S1, S2, S3, S4, S5, ST, eq_self, reduceIte, reduceCtorEq, Nat.reduceEqDiff, Nat.reduceAdd]
  generalize hA : H ++ [AObj.cells [.int .i64 n, v] 24 false] = A
  have pA : H <+: A := by rw [← hA]; exact List.prefix_append _ _
  have a0 : A[H.length]? = some (.cells [.int .i64 n, v] 24 false) := by rw [← hA]; exact at_new ..
  generalize hB : A ++ [AObj.cells [.int .i64 0, .slice none 0 0] 31 false] = B
  have pB : A <+: B := by rw [← hB]; exact List.prefix_append _ _
  have b1 : B[A.length]? = some (.cells [.int .i64 0, .slice none 0 0] 31 false) := by rw [← hB]; exact at_new ..
  have c0 : (B ++ [AObj.cells [.int .i64 0, .slice none 0 0] 31 false])[B.length]? = some (.cells [.int .i64 0, .slice none 0 0] 31 false) := at_new ..
  have pC : H <+: B ++ [AObj.cells [.int .i64 0, .slice none 0 0] 31 false] := pre_app (pA.trans pB) _
  have a1 : ∀ x, (B ++ [x])[H.length]? = some (.cells [.int .i64 n, v] 24 false) := fun x => at_app (pre_at pB a0) [x]
  have b2 : ∀ x, (B ++ [x])[A.length]? = some (.cells [.int .i64 0, .slice none 0 0] 31 false) := fun x => at_app b1 [x]
  have c1 : (B ++ [AObj.cells [.int .i64 n, .slice none 0 0] 31 false])[B.length]? = some (.cells [.int .i64 n, .slice none 0 0] 31 false) := at_new ..
  simp (maxSteps := 1000000) (disch := omega) only [cell_of (a1 _), st_at cs3 c0 (i := 0) (y := .int .i64 n) (by show 0 < 2; decide) rfl rfl, set_new, List.set_cons_zero, S, S1, S2, S3, S4, S5, ST, eq_self, reduceIte, reduceCtorEq, Nat.reduceEqDiff, Nat.reduceAdd]
  generalize hC : B ++ [AObj.cells [.int .i64 n, .slice none 0 0] 31 false] = C at *
  have pBC : B <+: C := by rw [← hC]; exact List.prefix_append _ _
  have pHC := (pA.trans pB).trans pBC
  refine CallH.by (toIntA2S_c v ps C (hr.pre pHC) hlen) ?_
  rintro g D ⟨hg, pD⟩
  have c2 := pre_at pD c1
  have hgs := hg.row.shape
  obtain ⟨q, eg⟩ := hgs
  have t1 : isTup g = false := by rw [eg]; rfl
  have t2 : g.cells.toList = [g] := by rw [eg]; rfl
  have d1 : (D.set B.length (.cells [.int .i64 n, g] 31 false))[B.length]? = some (.cells [.int .i64 n, g] 31 false) := at_set c2
  simp (maxSteps := 1000000) (disch := omega) only [st_at cs22 c2 (i := 1) (y := g) (by show 1 < 2; decide) t1 t2, List.set_cons_zero, List.set_cons_succ, ld_agg ag31 cs31 d1, S, S1, S2, S3, S4, S5, ST, eq_self, reduceIte, reduceCtorEq, Nat.reduceEqDiff, Nat.reduceAdd]
  have d2 : (D.set B.length (.cells [.int .i64 n, g] 31 false))[A.length]? = some (.cells [.int .i64 0, .slice none 0 0] 31 false) := by
    rw [List.getElem?_set_ne (by rw [← hB]; simp)]
    exact pre_at (pBC.trans pD) b1
  simp (maxSteps := 1000000) (disch := omega) only [st_G hg.row d2 rfl n, S, S1, S2, S3, S4, S5, ST, eq_self, reduceIte, reduceCtorEq, Nat.reduceEqDiff, Nat.reduceAdd]
  have d3 := at_set (d := .cells [.int .i64 n, g] 31 false) d2
  refine hQ _ _ _ (end_cell _ _ _ _ _ _ (.agg (List.toArray [.int .i64 n, g])) ?_ rfl ⟨g, rfl, ?_, ?_⟩)
  · simp (maxSteps := 1000000) (disch := omega) only [ld_agg ag31 cs31 d3, S, S1, S2, S3, S4, S5, ST, eq_self, reduceIte, reduceCtorEq, Nat.reduceEqDiff, Nat.reduceAdd]
  · refine (hg.keepL ?_).base pHC
    intro hl y hy
    have l1 := pHC.length_le
    have l2 : C.length = B.length + 1 := by rw [← hC]; simp
    have l3 : B.length = A.length + 1 := by rw [← hB]; simp
    rw [List.getElem?_set_ne (by omega), List.getElem?_set_ne (by omega)]
    exact hy
  · exact pre_set (pre_set (pHC.trans pD) (by have := (pA.trans pB).length_le; omega) _) pA.length_le _
theorem eqGraph_c (n m : Int) (v w : Value) (ps qs : List (Int × Int)) (H : AH) (hr : RowP 83 H v ps) (hr2 : RowP 83 H w qs) (hlen : ps.length ≤ 1099511627776) :
    ACalls Tryz.prog 11 [.agg (List.toArray [.int .i64 n, v]), .agg (List.toArray [.int .i64 m, w])] H fun r H' => r = .bool (decide (n = m ∧ ps = qs)) ∧ H <+: H' := by
  refine in11 rfl ?_
  intro Q hQ
  simp (maxSteps := 1000000) (disch := omega) only [cd11, hr.boxG, hr2.boxG, S, S1, S2, S3, S4, S5, ST, eq_self, reduceIte, reduceCtorEq, Nat.reduceEqDiff, Nat.reduceAdd]
  generalize hA : H ++ [AObj.cells [.int .i64 n, v] 31 false] = A
  have pA : H <+: A := by rw [← hA]; exact List.prefix_append _ _
  have a0 : A[H.length]? = some (.cells [.int .i64 n, v] 31 false) := by rw [← hA]; exact at_new ..
  generalize hB : A ++ [AObj.cells [.int .i64 m, w] 31 false] = B
  have pB : A <+: B := by rw [← hB]; exact List.prefix_append _ _
  have b0 := pre_at pB a0
  have b1 : B[A.length]? = some (.cells [.int .i64 m, w] 31 false) := by rw [← hB]; exact at_new ..
  have pHB := pA.trans pB
  simp (maxSteps := 1000000) (disch := omega) only [cell_of b0, cell_of b1, S, S1, S2, S3, S4, S5, ST, eq_self, reduceIte, reduceCtorEq, Nat.reduceEqDiff, Nat.reduceAdd]
  refine brD.intro (fun g => ?_) (fun g => ?_) <;> simp (maxSteps := 1000000) (disch := omega) only [cell_of b0, cell_of b1, S, S1, S2, S3, S4, S5, ST, eq_self, reduceIte, reduceCtorEq, Nat.reduceEqDiff, Nat.reduceAdd]
  · refine hQ _ _ _ ?_
    simp (maxSteps := 1000000) (disch := omega) only [S, S1, S2, S3, S4, S5, ST, eq_self, reduceIte, reduceCtorEq, Nat.reduceEqDiff, Nat.reduceAdd]
    refine ⟨?_, pHB⟩
    rw [decide_eq_false]
    intro h; exact g h.1
  · have g' := Decidable.not_not.1 g
    refine CallH.by (eqIntA2S_c v w ps qs B (hr.pre pHB) (hr2.pre pHB) hlen) ?_
    rintro _ C ⟨rfl, pC⟩
    have pHC := pHB.trans pC
    simp (maxSteps := 1000000) (disch := omega) only [S, S1, S2, S3, S4, S5, ST, eq_self, reduceIte, reduceCtorEq, Nat.reduceEqDiff, Nat.reduceAdd]
    by_cases e : ps = qs
    · rw [decide_eq_true e]
      simp (maxSteps := 1000000) (disch := omega) only [S, S1, S2, S3, S4, S5, ST, eq_self, reduceIte, reduceCtorEq, Nat.reduceEqDiff, Nat.reduceAdd]
      try (refine brD.intro (fun h => absurd h (by simp)) (fun _ => ?_))
      try simp (maxSteps := 1000000) (disch := omega) only [S, S1, S2, S3, S4, S5, ST, eq_self, reduceIte, reduceCtorEq, Nat.reduceEqDiff, Nat.reduceAdd]
      refine hQ _ _ _ ?_
      simp (maxSteps := 1000000) (disch := omega) only [S, S1, S2, S3, S4, S5, ST, eq_self, reduceIte, reduceCtorEq, Nat.reduceEqDiff, Nat.reduceAdd]
      exact ⟨by rw [decide_eq_true ⟨g', e⟩], pHC⟩
    · rw [decide_eq_false e]
      simp (maxSteps := 1000000) (disch := omega) only [S, S1, S2, S3, S4, S5, ST, eq_self, reduceIte, reduceCtorEq, Nat.reduceEqDiff, Nat.reduceAdd]
      try (refine brD.intro (fun _ => ?_) (fun h => absurd h (by simp)))
      try simp (maxSteps := 1000000) (disch := omega) only [S, S1, S2, S3, S4, S5, ST, eq_self, reduceIte, reduceCtorEq, Nat.reduceEqDiff, Nat.reduceAdd]
      refine hQ _ _ _ ?_
      simp (maxSteps := 1000000) (disch := omega) only [S, S1, S2, S3, S4, S5, ST, eq_self, reduceIte, reduceCtorEq, Nat.reduceEqDiff, Nat.reduceAdd]
      exact ⟨by rw [decide_eq_false (fun h => e h.2)], pHC⟩
theorem markGraph_B (n : Int) (v : Value) (ps : List (Int × Int)) (k : Int) (lo hi : Nat) (H : AH) (h : InP lo hi 83 H v ps) (hlen : ps.length ≤ 1099511627776) (hk : 0 ≤ k ∧ k ≤ 1099511627776) (hb : hi ≤ H.length) :
    ACalls Tryz.prog 12 [.agg (List.toArray [.int .i64 n, v]), .int .i64 k] H fun r H' => r = .int .i64 (k + 2 * ps.length) ∧ ∃ Hm, InP lo hi 83 Hm v (runP k ps.length) ∧ ElseR lo hi H Hm ∧ Hm <+: H' := by
  refine in12 rfl ?_
  intro Q hQ
  simp (maxSteps := 1000000) (disch := omega) only [cd12, h.row.1.boxG, cell_new, S, S1, S2, S3, S4, S5, ST, eq_self, reduceIte, reduceCtorEq, Nat.reduceEqDiff, Nat.reduceAdd]
  have hp := List.prefix_append H [AObj.cells [.int .i64 n, v] 31 false]
  refine CallH.by (markIntA2S_B v ps k lo hi _ (h.pre hp) hlen hk) ?_
  rintro _ H' ⟨rfl, hin, he⟩
  simp (maxSteps := 1000000) (disch := omega) only [S, S1, S2, S3, S4, S5, ST, eq_self, reduceIte, reduceCtorEq, Nat.reduceEqDiff, Nat.reduceAdd]
  refine hQ _ _ _ ?_
  simp (maxSteps := 1000000) (disch := omega) only [S, S1, S2, S3, S4, S5, ST, eq_self, reduceIte, reduceCtorEq, Nat.reduceEqDiff, Nat.reduceAdd]
  have hH : ∀ o, o < H.length → (H'.take H.length)[o]? = H'[o]? := fun o ho => List.getElem?_take_of_lt ho
  refine ⟨H'.take H.length, ?_, ⟨?_, ?_⟩, List.take_prefix _ _⟩
  · rcases hin with q | ⟨o, zs, h1, h2, h3, h4, h5⟩
    · exact .inl q
    · exact .inr ⟨o, zs, h1, h2, h3, by rw [hH o (by omega)]; exact h4, h5⟩
  · have := he.1
    simp only [List.length_append, List.length_cons, List.length_nil] at this
    rw [List.length_take]; omega
  · intro o x ho hx
    rw [hH o (at_lt hx)]
    exact he.2 o x ho (at_app hx _)
end Go.Proofs.YtlfongfhbkefmaaGreat.Ai
namespace Go.Proofs.YtlfongfhbkefmaaGreat.Ai
open Go
def ords83 : List (Nat × List (Nat × Bool)) := []
def cd83 : Cd := (.seq (.reg [⟨⟨some 6, Op.assign (Operand.const (Value.bool false)), none⟩, []⟩]) (.seq (.reg [⟨⟨some 7, Op.move (Operand.tmp 0), none⟩, []⟩,
  ⟨⟨some 8, Op.move (Operand.tmp 1), none⟩, []⟩,
  ⟨⟨some 9, Op.binOp BinOp.geq 3 (Operand.tmp 7) (Operand.tmp 8) 3, none⟩, []⟩,
  ⟨⟨some 10, Op.move (Operand.tmp 9), none⟩, []⟩,
  ⟨⟨some 11, Op.move (Operand.tmp 0), some (10, true)⟩, []⟩,
  ⟨⟨some 12, Op.move (Operand.tmp 2), some (10, true)⟩, []⟩,
  ⟨⟨some 13, Op.binOp BinOp.leq 3 (Operand.tmp 11) (Operand.tmp 12) 3, some (10, true)⟩, []⟩,
  ⟨⟨some 14, Op.pick (Operand.tmp 10) (Operand.tmp 13) (Operand.const (Value.bool false)), none⟩, []⟩,
  ⟨⟨some 6, Op.assign (Operand.tmp 14), none⟩, []⟩]) .ret))
theorem sl83 : slim Tryz.f83.ntmps ords83 (Tryz.f83.body.getD .skip) = some cd83 := by kernel_rfl
theorem in83 {args : List Value} {H : AH} {R : Value → AH → Prop} (hl : args.length = 3) (h : ∀ (Q : Exit → Sl → AH → Prop), (∀ e s H, endA Tryz.prog [ResultVar.tmp 6] R e s H → Q e s H) → wpC Tryz.prog cd83 Q (enterA args) H) : ACalls Tryz.prog 83 args H R :=
  ACalls.intro (by kernel_rfl) Tryz.func83 rfl (by kernel_rfl) sl83 hl (of_decide_eq_true (by kernel_rfl)) (by kernel_rfl) h
def ords88 : List (Nat × List (Nat × Bool)) := []
def cd88 : Cd := (.seq (.reg [⟨⟨some 6, Op.assign (Operand.const (Value.bool false)), none⟩, []⟩]) (.seq (.reg [⟨⟨some 7, Op.move (Operand.tmp 0), none⟩, []⟩,
  ⟨⟨some 8, Op.move (Operand.tmp 1), none⟩, []⟩,
  ⟨⟨some 9, Op.binOp BinOp.geq 3 (Operand.tmp 7) (Operand.tmp 8) 3, none⟩, []⟩,
  ⟨⟨some 10, Op.move (Operand.tmp 9), none⟩, []⟩,
  ⟨⟨some 11, Op.move (Operand.tmp 0), some (10, true)⟩, []⟩,
  ⟨⟨some 12, Op.move (Operand.tmp 2), some (10, true)⟩, []⟩,
  ⟨⟨some 13, Op.binOp BinOp.leq 3 (Operand.tmp 11) (Operand.tmp 12) 3, some (10, true)⟩, []⟩,
  ⟨⟨some 14, Op.pick (Operand.tmp 10) (Operand.tmp 13) (Operand.const (Value.bool false)), none⟩, []⟩,
  ⟨⟨some 6, Op.assign (Operand.tmp 14), none⟩, []⟩]) .ret))
theorem sl88 : slim Tryz.f88.ntmps ords88 (Tryz.f88.body.getD .skip) = some cd88 := by kernel_rfl
theorem in88 {args : List Value} {H : AH} {R : Value → AH → Prop} (hl : args.length = 3) (h : ∀ (Q : Exit → Sl → AH → Prop), (∀ e s H, endA Tryz.prog [ResultVar.tmp 6] R e s H → Q e s H) → wpC Tryz.prog cd88 Q (enterA args) H) : ACalls Tryz.prog 88 args H R :=
  ACalls.intro (by kernel_rfl) Tryz.func88 rfl (by kernel_rfl) sl88 hl (of_decide_eq_true (by kernel_rfl)) (by kernel_rfl) h
end Go.Proofs.YtlfongfhbkefmaaGreat.Ai
namespace Go.Proofs.YtlfongfhbkefmaaGreat.Ai
open Go Go.RowKit
set_option linter.unusedVariables false
set_option linter.unusedSimpArgs false
theorem l1In_c (a b c : Int) (H : AH) : ACalls Tryz.prog 83 [.int .i64 a, .int .i64 b, .int .i64 c] H fun r H' => r = .bool (decide (b ≤ a ∧ a ≤ c)) ∧ H = H' := by
  refine in83 rfl ?_
  intro Q hQ
  simp (maxSteps := 1000000) (disch := omega) only [cd83, S, S1, S2, S3, S4, S5, ST, eq_self, reduceIte, reduceCtorEq, Nat.reduceEqDiff, Nat.reduceAdd]
  refine brD.intro (fun h => ?_) (fun h => ?_) <;> simp (maxSteps := 1000000) (disch := omega) only [h, S, S1, S2, S3, S4, S5, ST, eq_self, reduceIte, reduceCtorEq, Nat.reduceEqDiff, Nat.reduceAdd] <;> refine hQ _ _ _ ?_ <;> simp (maxSteps := 1000000) (disch := omega) only [h, S, S1, S2, S3, S4, S5, ST, eq_self, reduceIte, reduceCtorEq, Nat.reduceEqDiff, Nat.reduceAdd] <;> simp [h]
theorem between_c (a b c : Int) (H : AH) : ACalls Tryz.prog 88 [.int .i64 a, .int .i64 b, .int .i64 c] H fun r H' => r = .bool (decide (b ≤ a ∧ a ≤ c)) ∧ H = H' := by
  refine in88 rfl ?_
  intro Q hQ
  simp (maxSteps := 1000000) (disch := omega) only [cd88, S, S1, S2, S3, S4, S5, ST, eq_self, reduceIte, reduceCtorEq, Nat.reduceEqDiff, Nat.reduceAdd]
  refine brD.intro (fun h => ?_) (fun h => ?_) <;> simp (maxSteps := 1000000) (disch := omega) only [h, S, S1, S2, S3, S4, S5, ST, eq_self, reduceIte, reduceCtorEq, Nat.reduceEqDiff, Nat.reduceAdd] <;> refine hQ _ _ _ ?_ <;> simp (maxSteps := 1000000) (disch := omega) only [h, S, S1, S2, S3, S4, S5, ST, eq_self, reduceIte, reduceCtorEq, Nat.reduceEqDiff, Nat.reduceAdd] <;> simp [h]
end Go.Proofs.YtlfongfhbkefmaaGreat.Ai
namespace Go.Proofs.YtlfongfhbkefmaaGreat.Ai
open Go
def Asc (ys : List Int) : Prop := ∀ i j, i < j → j < ys.length → ys.getD i 0 ≤ ys.getD j 0
def Prm (p : List Int) : Prop := p.length ≤ 8 ∧ ∀ x, x < p.length → (x : Int) ∈ p
instance (p : List Int) : Decidable (Prm p) := inferInstanceAs (Decidable (_ ∧ _))
theorem pos_ex {ys : List Int} {x : Int} (h : x ∈ ys) : ∃ i, i < ys.length ∧ ys.getD i 0 = x := by
  obtain ⟨i, hi, e⟩ := List.getElem_of_mem h
  exact ⟨i, hi, by simp [hi, e]⟩
theorem asc_at {ys : List Int} (ha : Asc ys) (h : ∀ x, x < ys.length → (x : Int) ∈ ys) : ∀ i, i < ys.length → ys.getD i 0 = i := by
  -- a place of each number
  have ex : ∀ x, ∃ i, x < ys.length → (i < ys.length ∧ ys.getD i 0 = x) := by
    intro x
    by_cases hx : x < ys.length
    · obtain ⟨i, hi⟩ := pos_ex (h x hx); exact ⟨i, fun _ => hi⟩
    · exact ⟨0, fun e => absurd e hx⟩
  let pos : Nat → Nat := fun x => Classical.choose (ex x)
  have hp : ∀ x, x < ys.length → pos x < ys.length ∧ ys.getD (pos x) 0 = x := fun x hx => Classical.choose_spec (ex x) hx
  have mono : ∀ x, x + 1 < ys.length → pos x < pos (x + 1) := by
    intro x hx
    have h1 := hp x (by omega)
    have h2 := hp (x + 1) hx
    rcases Nat.lt_trichotomy (pos x) (pos (x + 1)) with h3 | h3 | h3
    · exact h3
    · rw [h3] at h1; rw [h1.2] at h2; omega
    · have := ha _ _ h3 h1.1
      rw [h1.2, h2.2] at this; omega
  have lo : ∀ x, x < ys.length → x ≤ pos x := by
    intro x
    induction x with
    | zero => intro _; omega
    | succ x ih =>
      intro hx
      have := ih (by omega)
      have := mono x hx
      omega
  have hi' : ∀ d x, x + d + 1 = ys.length → pos x ≤ x := by
    intro d
    induction d with
    | zero => intro x hx; have := (hp x (by omega)).1; omega
    | succ d ih =>
      intro x hx
      have := ih (x + 1) (by omega)
      have := mono x (by omega)
      omega
  intro i hi
  have h1 := lo i hi
  have h2 := hi' (ys.length - i - 1) i (by omega)
  have h3 := hp i hi
  have : pos i = i := by omega
  rw [this] at h3
  exact h3.2
theorem prm_at {p : List Int} (h : Prm p) {ys : List Int} (hp : ys.Perm p) (ha : Asc ys) : ∀ i, i < ys.length → ys.getD i 0 = i :=
  asc_at ha (fun x hx => hp.mem_iff.2 (h.2 x (by have := hp.length_eq; omega)))
end Go.Proofs.YtlfongfhbkefmaaGreat.Ai
namespace Go.Proofs.YtlfongfhbkefmaaGreat.Ai
open Go
/-- a number put into an ascending list -/
def put : List Int → Int → List Int
  | [], x => [x]
  | y :: ys, x => if y < x then y :: put ys x else if y = x then y :: ys else x :: y :: ys
theorem asc_of {ys : List Int} (h : Asc ys) : ys.Pairwise (· ≤ ·) := by
  rw [List.pairwise_iff_getElem]
  intro i j hi hj hij
  have := h i j hij hj
  simpa [hi, hj] using this
end Go.Proofs.YtlfongfhbkefmaaGreat.Ai
namespace Go.Proofs.YtlfongfhbkefmaaGreat.Ai
open Go
def ords167 : List (Nat × List (Nat × Bool)) := []
def cd167 : Cd := (.seq (.reg [⟨⟨some 2, Op.assign (Operand.const (Value.bool false)), none⟩, []⟩]) (.seq (.reg [⟨⟨some 3, Op.move (Operand.tmp 0), none⟩, []⟩,
  ⟨⟨some 4, Op.move (Operand.tmp 0), none⟩, []⟩,
  ⟨⟨some 5, Op.binOp BinOp.neq 3 (Operand.tmp 3) (Operand.tmp 4) 3, none⟩, []⟩,
  ⟨⟨some 2, Op.assign (Operand.tmp 5), none⟩, []⟩]) .ret))
theorem sl167 : slim Tryz.f167.ntmps ords167 (Tryz.f167.body.getD .skip) = some cd167 := by kernel_rfl
theorem in167 {args : List Value} {H : AH} {R : Value → AH → Prop} (hl : args.length = 1) (h : ∀ (Q : Exit → Sl → AH → Prop), (∀ e s H, endA Tryz.prog [ResultVar.tmp 2] R e s H → Q e s H) → wpC Tryz.prog cd167 Q (enterA args) H) : ACalls Tryz.prog 167 args H R :=
  ACalls.intro (by kernel_rfl) Tryz.func167 rfl (by kernel_rfl) sl167 hl (of_decide_eq_true (by kernel_rfl)) (by kernel_rfl) h
def ords189 : List (Nat × List (Nat × Bool)) := []
def cd189 : Cd := (.seq (.reg [⟨⟨some 4, Op.assign (Operand.const (Value.bool false)), none⟩, []⟩]) (.seq (.reg [⟨⟨some 5, Op.move (Operand.tmp 0), none⟩, []⟩,
  ⟨⟨some 6, Op.call { callee := (Callee.value (Operand.func 167)), args := #[(Operand.tmp 5)], argTypes := #[3] }, none⟩, []⟩,
  ⟨⟨some 7, Op.move (Operand.tmp 6), none⟩, []⟩,
  ⟨⟨some 8, Op.move (Operand.tmp 1), some (7, true)⟩, []⟩,
  ⟨⟨some 9, Op.call { callee := (Callee.value (Operand.func 167)), args := #[(Operand.tmp 8)], argTypes := #[3] }, some (7, true)⟩, []⟩,
  ⟨⟨some 10, Op.unOp UnOp.not 4 (Operand.tmp 9), some (7, true)⟩, []⟩,
  ⟨⟨some 11, Op.pick (Operand.tmp 7) (Operand.tmp 10) (Operand.const (Value.bool false)), none⟩, []⟩,
  ⟨⟨some 12, Op.move (Operand.tmp 11), none⟩, []⟩,
  ⟨⟨some 13, Op.move (Operand.tmp 0), some (12, false)⟩, []⟩,
  ⟨⟨some 14, Op.move (Operand.tmp 1), some (12, false)⟩, []⟩,
  ⟨⟨some 15, Op.binOp BinOp.lss 3 (Operand.tmp 13) (Operand.tmp 14) 3, some (12, false)⟩, []⟩,
  ⟨⟨some 16, Op.pick (Operand.tmp 12) (Operand.const (Value.bool true)) (Operand.tmp 15), none⟩, []⟩,
  ⟨⟨some 4, Op.assign (Operand.tmp 16), none⟩, []⟩]) .ret))
theorem sl189 : slim Tryz.f189.ntmps ords189 (Tryz.f189.body.getD .skip) = some cd189 := by kernel_rfl
theorem in189 {args : List Value} {H : AH} {R : Value → AH → Prop} (hl : args.length = 2) (h : ∀ (Q : Exit → Sl → AH → Prop), (∀ e s H, endA Tryz.prog [ResultVar.tmp 4] R e s H → Q e s H) → wpC Tryz.prog cd189 Q (enterA args) H) : ACalls Tryz.prog 189 args H R :=
  ACalls.intro (by kernel_rfl) Tryz.func189 rfl (by kernel_rfl) sl189 hl (of_decide_eq_true (by kernel_rfl)) (by kernel_rfl) h
def ords183 : List (Nat × List (Nat × Bool)) := [(4, [(0, false), (1, false), (2, false), (3, false), (4, false), (5, false), (6, false), (7, false), (8, false), (9, false), (10, false), (11, false), (12, false), (13, true), (14, false)]), (6, [(0, false), (1, false), (2, false), (3, false), (4, false), (5, false), (6, false), (7, false), (8, false), (9, false), (10, false), (11, false), (12, false), (13, false), (14, false), (15, true), (16, false), (17, true)])]
def cd183 : Cd := (.seq (.reg [⟨⟨some 8, Op.move (Operand.tmp 1), none⟩, []⟩,
  ⟨⟨some 9, Op.binOp BinOp.add 3 (Operand.tmp 8) (Operand.const (Value.int IntKind.i64 1)) 3, none⟩, []⟩,
  ⟨⟨some 6, Op.assign (Operand.tmp 9), none⟩, []⟩]) (.block 0 (.loop (.seq (.seq (.reg [⟨⟨some 10, Op.move (Operand.tmp 6), none⟩, []⟩,
  ⟨⟨some 11, Op.move (Operand.tmp 2), none⟩, []⟩,
  ⟨⟨some 12, Op.binOp BinOp.lss 3 (Operand.tmp 10) (Operand.tmp 11) 3, none⟩, []⟩]) (.cond (Operand.tmp 12) .skip (.exit 0))) (.seq (.block 1 (.seq (.reg [⟨⟨some 15, Op.move (Operand.tmp 6), none⟩, []⟩,
  ⟨⟨some 7, Op.assign (Operand.tmp 15), none⟩, []⟩]) (.block 2 (.loop (.seq (.seq (.reg [⟨⟨some 16, Op.move (Operand.tmp 7), none⟩, []⟩,
  ⟨⟨some 17, Op.move (Operand.tmp 1), none⟩, []⟩,
  ⟨⟨some 18, Op.binOp BinOp.gtr 3 (Operand.tmp 16) (Operand.tmp 17) 3, none⟩, []⟩,
  ⟨⟨some 19, Op.move (Operand.tmp 18), none⟩, []⟩,
  ⟨⟨some 20, Op.move (Operand.tmp 0), some (19, true)⟩, []⟩,
  ⟨⟨some 21, Op.move (Operand.tmp 7), some (19, true)⟩, []⟩,
  ⟨⟨some 22, Op.indexAddr 38 (Operand.tmp 20) (Operand.tmp 21), some (19, true)⟩, []⟩,
  ⟨⟨some 23, Op.load 3 (Operand.tmp 22), some (19, true)⟩, []⟩,
  ⟨⟨some 24, Op.move (Operand.tmp 0), some (19, true)⟩, []⟩,
  ⟨⟨some 25, Op.move (Operand.tmp 7), some (19, true)⟩, []⟩,
  ⟨⟨some 26, Op.binOp BinOp.sub 3 (Operand.tmp 25) (Operand.const (Value.int IntKind.i64 1)) 3, some (19, true)⟩, []⟩,
  ⟨⟨some 27, Op.indexAddr 38 (Operand.tmp 24) (Operand.tmp 26), some (19, true)⟩, []⟩,
  ⟨⟨some 28, Op.load 3 (Operand.tmp 27), some (19, true)⟩, []⟩,
  ⟨⟨some 29, Op.call { callee := (Callee.value (Operand.func 189)), args := #[(Operand.tmp 23), (Operand.tmp 28)], argTypes := #[3, 3] }, some (19, true)⟩, []⟩,
  ⟨⟨some 30, Op.pick (Operand.tmp 19) (Operand.tmp 29) (Operand.const (Value.bool false)), none⟩, []⟩]) (.cond (Operand.tmp 30) .skip (.exit 2))) (.seq (.block 3 (.reg [⟨⟨some 33, Op.move (Operand.tmp 0), none⟩, []⟩,
  ⟨⟨some 34, Op.move (Operand.tmp 7), none⟩, []⟩,
  ⟨⟨some 35, Op.move (Operand.tmp 0), none⟩, []⟩,
  ⟨⟨some 36, Op.move (Operand.tmp 7), none⟩, []⟩,
  ⟨⟨some 37, Op.binOp BinOp.sub 3 (Operand.tmp 36) (Operand.const (Value.int IntKind.i64 1)) 3, none⟩, []⟩,
  ⟨⟨some 38, Op.move (Operand.tmp 0), none⟩, []⟩,
  ⟨⟨some 39, Op.move (Operand.tmp 7), none⟩, []⟩,
  ⟨⟨some 40, Op.binOp BinOp.sub 3 (Operand.tmp 39) (Operand.const (Value.int IntKind.i64 1)) 3, none⟩, []⟩,
  ⟨⟨some 41, Op.indexAddr 38 (Operand.tmp 38) (Operand.tmp 40), none⟩, []⟩,
  ⟨⟨some 42, Op.load 3 (Operand.tmp 41), none⟩, []⟩,
  ⟨⟨some 43, Op.move (Operand.tmp 0), none⟩, []⟩,
  ⟨⟨some 44, Op.move (Operand.tmp 7), none⟩, []⟩,
  ⟨⟨some 45, Op.indexAddr 38 (Operand.tmp 43) (Operand.tmp 44), none⟩, []⟩,
  ⟨⟨some 46, Op.load 3 (Operand.tmp 45), none⟩, []⟩,
  ⟨⟨some 47, Op.indexAddr 38 (Operand.tmp 33) (Operand.tmp 34), none⟩, []⟩,
  ⟨⟨none, Op.store 3 (Operand.tmp 47) (Operand.tmp 42), none⟩, []⟩,
  ⟨⟨some 48, Op.indexAddr 38 (Operand.tmp 35) (Operand.tmp 37), none⟩, []⟩,
  ⟨⟨none, Op.store 3 (Operand.tmp 48) (Operand.tmp 46), none⟩, []⟩])) (.reg [⟨⟨some 31, Op.move (Operand.tmp 7), none⟩, []⟩,
  ⟨⟨some 32, Op.binOp BinOp.sub 3 (Operand.tmp 31) (Operand.const (Value.int IntKind.i64 1)) 3, none⟩, []⟩,
  ⟨⟨some 7, Op.assign (Operand.tmp 32), none⟩, []⟩]))))))) (.reg [⟨⟨some 13, Op.move (Operand.tmp 6), none⟩, []⟩,
  ⟨⟨some 14, Op.binOp BinOp.add 3 (Operand.tmp 13) (Operand.const (Value.int IntKind.i64 1)) 3, none⟩, []⟩,
  ⟨⟨some 6, Op.assign (Operand.tmp 14), none⟩, []⟩]))))))
theorem sl183 : slim Tryz.f183.ntmps ords183 (Tryz.f183.body.getD .skip) = some cd183 := by kernel_rfl
theorem in183 {args : List Value} {H : AH} {R : Value → AH → Prop} (hl : args.length = 3) (h : ∀ (Q : Exit → Sl → AH → Prop), (∀ e s H, endA Tryz.prog [] R e s H → Q e s H) → wpC Tryz.prog cd183 Q (enterA args) H) : ACalls Tryz.prog 183 args H R :=
  ACalls.intro (by kernel_rfl) Tryz.func183 rfl (by kernel_rfl) sl183 hl (of_decide_eq_true (by kernel_rfl)) (by kernel_rfl) h
def ords166 : List (Nat × List (Nat × Bool)) := []
def cd166 : Cd := (.seq (.reg [⟨⟨some 2, Op.assign (Operand.const (Value.int IntKind.i64 0)), none⟩, []⟩]) (.seq (.seq (.reg [⟨⟨some 3, Op.move (Operand.tmp 0), none⟩, []⟩,
  ⟨⟨some 4, Op.binOp BinOp.geq 86 (Operand.tmp 3) (Operand.const (Value.int IntKind.u64 4294967296)) 86, none⟩, []⟩]) (.cond (Operand.tmp 4) (.seq (.reg [⟨⟨some 5, Op.move (Operand.tmp 0), none⟩, []⟩,
  ⟨⟨some 6, Op.binOp BinOp.shr 86 (Operand.tmp 5) (Operand.const (Value.int IntKind.u64 32)) 108, none⟩, []⟩,
  ⟨⟨some 0, Op.assign (Operand.tmp 6), none⟩, []⟩]) (.reg [⟨⟨some 2, Op.assign (Operand.const (Value.int IntKind.i64 32)), none⟩, []⟩])) .skip)) (.seq (.seq (.reg [⟨⟨some 7, Op.move (Operand.tmp 0), none⟩, []⟩,
  ⟨⟨some 8, Op.binOp BinOp.geq 86 (Operand.tmp 7) (Operand.const (Value.int IntKind.u64 65536)) 86, none⟩, []⟩]) (.cond (Operand.tmp 8) (.seq (.reg [⟨⟨some 9, Op.move (Operand.tmp 0), none⟩, []⟩,
  ⟨⟨some 10, Op.binOp BinOp.shr 86 (Operand.tmp 9) (Operand.const (Value.int IntKind.u64 16)) 108, none⟩, []⟩,
  ⟨⟨some 0, Op.assign (Operand.tmp 10), none⟩, []⟩]) (.reg [⟨⟨some 11, Op.move (Operand.tmp 2), none⟩, []⟩,
  ⟨⟨some 12, Op.binOp BinOp.add 3 (Operand.tmp 11) (Operand.const (Value.int IntKind.i64 16)) 3, none⟩, []⟩,
  ⟨⟨some 2, Op.assign (Operand.tmp 12), none⟩, []⟩])) .skip)) (.seq (.seq (.reg [⟨⟨some 13, Op.move (Operand.tmp 0), none⟩, []⟩,
  ⟨⟨some 14, Op.binOp BinOp.geq 86 (Operand.tmp 13) (Operand.const (Value.int IntKind.u64 256)) 86, none⟩, []⟩]) (.cond (Operand.tmp 14) (.seq (.reg [⟨⟨some 15, Op.move (Operand.tmp 0), none⟩, []⟩,
  ⟨⟨some 16, Op.binOp BinOp.shr 86 (Operand.tmp 15) (Operand.const (Value.int IntKind.u64 8)) 108, none⟩, []⟩,
  ⟨⟨some 0, Op.assign (Operand.tmp 16), none⟩, []⟩]) (.reg [⟨⟨some 17, Op.move (Operand.tmp 2), none⟩, []⟩,
  ⟨⟨some 18, Op.binOp BinOp.add 3 (Operand.tmp 17) (Operand.const (Value.int IntKind.i64 8)) 3, none⟩, []⟩,
  ⟨⟨some 2, Op.assign (Operand.tmp 18), none⟩, []⟩])) .skip)) (.seq (.reg [⟨⟨some 19, Op.move (Operand.tmp 2), none⟩, []⟩,
  ⟨⟨some 20, Op.move (Operand.tmp 0), none⟩, []⟩,
  ⟨⟨some 21, Op.convert 86 5 (Operand.tmp 20), none⟩, []⟩,
  ⟨⟨some 22, Op.index 9 (Operand.const (Value.string { data := #[0, 1, 2, 2, 3, 3, 3, 3, 4, 4, 4, 4, 4, 4, 4, 4, 5, 5, 5, 5, 5, 5, 5, 5, 5, 5, 5, 5, 5, 5, 5, 5, 6, 6, 6, 6, 6, 6, 6, 6, 6, 6, 6, 6, 6, 6, 6, 6, 6, 6, 6, 6, 6, 6, 6, 6, 6, 6, 6, 6, 6, 6, 6, 6, 7, 7, 7, 7, 7, 7, 7, 7, 7, 7, 7, 7, 7, 7, 7, 7, 7, 7, 7, 7, 7, 7, 7, 7, 7, 7, 7, 7, 7, 7, 7, 7, 7, 7, 7, 7, 7, 7, 7, 7, 7, 7, 7, 7, 7, 7, 7, 7, 7, 7, 7, 7, 7, 7, 7, 7, 7, 7, 7, 7, 7, 7, 7, 7, 8, 8, 8, 8, 8, 8, 8, 8, 8, 8, 8, 8, 8, 8, 8, 8, 8, 8, 8, 8, 8, 8, 8, 8, 8, 8, 8, 8, 8, 8, 8, 8, 8, 8, 8, 8, 8, 8, 8, 8, 8, 8, 8, 8, 8, 8, 8, 8, 8, 8, 8, 8, 8, 8, 8, 8, 8, 8, 8, 8, 8, 8, 8, 8, 8, 8, 8, 8, 8, 8, 8, 8, 8, 8, 8, 8, 8, 8, 8, 8, 8, 8, 8, 8, 8, 8, 8, 8, 8, 8, 8, 8, 8, 8, 8, 8, 8, 8, 8, 8, 8, 8, 8, 8, 8, 8, 8, 8, 8, 8, 8, 8, 8, 8, 8, 8, 8, 8, 8, 8, 8, 8, 8, 8, 8, 8, 8, 8] })) (Operand.tmp 21), none⟩, []⟩,
  ⟨⟨some 23, Op.convert 5 3 (Operand.tmp 22), none⟩, []⟩,
  ⟨⟨some 24, Op.binOp BinOp.add 3 (Operand.tmp 19) (Operand.tmp 23) 3, none⟩, []⟩,
  ⟨⟨some 2, Op.assign (Operand.tmp 24), none⟩, []⟩]) .ret)))))
theorem sl166 : slim Tryz.f166.ntmps ords166 (Tryz.f166.body.getD .skip) = some cd166 := by kernel_rfl
theorem in166 {args : List Value} {H : AH} {R : Value → AH → Prop} (hl : args.length = 1) (h : ∀ (Q : Exit → Sl → AH → Prop), (∀ e s H, endA Tryz.prog [ResultVar.tmp 2] R e s H → Q e s H) → wpC Tryz.prog cd166 Q (enterA args) H) : ACalls Tryz.prog 166 args H R :=
  ACalls.intro (by kernel_rfl) Tryz.func166 rfl (by kernel_rfl) sl166 hl (of_decide_eq_true (by kernel_rfl)) (by kernel_rfl) h
def ords129 : List (Nat × List (Nat × Bool)) := []
def cd129 : Cd := (.seq (.reg [⟨⟨some 2, Op.assign (Operand.const (Value.int IntKind.i64 0)), none⟩, []⟩]) (.seq (.cond (Operand.const (Value.bool false)) (.seq (.reg [⟨⟨some 3, Op.move (Operand.tmp 0), none⟩, []⟩,
  ⟨⟨some 4, Op.convert 108 159 (Operand.tmp 3), none⟩, []⟩,
  ⟨⟨some 5, Op.call { callee := (Callee.value (Operand.func 165)), args := #[(Operand.tmp 4)], argTypes := #[159] }, none⟩, []⟩,
  ⟨⟨some 2, Op.assign (Operand.tmp 5), none⟩, []⟩]) .ret) .skip) (.seq (.reg [⟨⟨some 6, Op.move (Operand.tmp 0), none⟩, []⟩,
  ⟨⟨some 7, Op.call { callee := (Callee.value (Operand.func 166)), args := #[(Operand.tmp 6)], argTypes := #[86] }, none⟩, []⟩,
  ⟨⟨some 2, Op.assign (Operand.tmp 7), none⟩, []⟩]) .ret)))
theorem sl129 : slim Tryz.f129.ntmps ords129 (Tryz.f129.body.getD .skip) = some cd129 := by kernel_rfl
theorem in129 {args : List Value} {H : AH} {R : Value → AH → Prop} (hl : args.length = 1) (h : ∀ (Q : Exit → Sl → AH → Prop), (∀ e s H, endA Tryz.prog [ResultVar.tmp 2] R e s H → Q e s H) → wpC Tryz.prog cd129 Q (enterA args) H) : ACalls Tryz.prog 129 args H R :=
  ACalls.intro (by kernel_rfl) Tryz.func129 rfl (by kernel_rfl) sl129 hl (of_decide_eq_true (by kernel_rfl)) (by kernel_rfl) h
def ords170 : List (Nat × List (Nat × Bool)) := [(17, [(0, false), (1, false), (2, false), (3, false), (4, false), (5, false), (6, false), (7, false), (8, false), (9, false), (10, false), (11, false), (12, true), (13, false), (14, false)])]
def cd170 : Cd := (.seq (.reg [⟨⟨some 8, Op.assign (Operand.const (Value.bool true)), none⟩, []⟩]) (.seq (.reg [⟨⟨some 9, Op.assign (Operand.const (Value.bool true)), none⟩, []⟩]) (.block 0 (.loop (.block 1 (.seq (.reg [⟨⟨some 19, Op.move (Operand.tmp 2), none⟩, []⟩,
  ⟨⟨some 20, Op.move (Operand.tmp 1), none⟩, []⟩,
  ⟨⟨some 21, Op.binOp BinOp.sub 3 (Operand.tmp 19) (Operand.tmp 20) 3, none⟩, []⟩,
  ⟨⟨some 10, Op.assign (Operand.tmp 21), none⟩, []⟩]) (.seq (.seq (.reg [⟨⟨some 22, Op.move (Operand.tmp 10), none⟩, []⟩,
  ⟨⟨some 23, Op.binOp BinOp.leq 3 (Operand.tmp 22) (Operand.const (Value.int IntKind.i64 12)) 3, none⟩, []⟩]) (.cond (Operand.tmp 23) (.seq (.reg [⟨⟨some 24, Op.move (Operand.tmp 0), none⟩, []⟩,
  ⟨⟨some 25, Op.move (Operand.tmp 1), none⟩, []⟩,
  ⟨⟨some 26, Op.move (Operand.tmp 2), none⟩, []⟩,
  ⟨⟨some 27, Op.call { callee := (Callee.value (Operand.func 183)), args := #[(Operand.tmp 24), (Operand.tmp 25), (Operand.tmp 26)], argTypes := #[38, 3, 3] }, none⟩, []⟩]) .ret) .skip)) (.seq (.seq (.reg [⟨⟨some 28, Op.move (Operand.tmp 3), none⟩, []⟩,
  ⟨⟨some 29, Op.binOp BinOp.eql 3 (Operand.tmp 28) (Operand.const (Value.int IntKind.i64 0)) 3, none⟩, []⟩]) (.cond (Operand.tmp 29) (.seq (.reg [⟨⟨some 30, Op.move (Operand.tmp 0), none⟩, []⟩,
  ⟨⟨some 31, Op.move (Operand.tmp 1), none⟩, []⟩,
  ⟨⟨some 32, Op.move (Operand.tmp 2), none⟩, []⟩,
  ⟨⟨some 33, Op.call { callee := (Callee.value (Operand.func 184)), args := #[(Operand.tmp 30), (Operand.tmp 31), (Operand.tmp 32)], argTypes := #[38, 3, 3] }, none⟩, []⟩]) .ret) .skip)) (.seq (.seq (.reg [⟨⟨some 34, Op.move (Operand.tmp 8), none⟩, []⟩,
  ⟨⟨some 35, Op.unOp UnOp.not 4 (Operand.tmp 34), none⟩, []⟩]) (.cond (Operand.tmp 35) (.seq (.reg [⟨⟨some 36, Op.move (Operand.tmp 0), none⟩, []⟩,
  ⟨⟨some 37, Op.move (Operand.tmp 1), none⟩, []⟩,
  ⟨⟨some 38, Op.move (Operand.tmp 2), none⟩, []⟩,
  ⟨⟨some 39, Op.call { callee := (Callee.value (Operand.func 185)), args := #[(Operand.tmp 36), (Operand.tmp 37), (Operand.tmp 38)], argTypes := #[38, 3, 3] }, none⟩, []⟩]) (.reg [⟨⟨some 40, Op.move (Operand.tmp 3), none⟩, []⟩,
  ⟨⟨some 41, Op.binOp BinOp.sub 3 (Operand.tmp 40) (Operand.const (Value.int IntKind.i64 1)) 3, none⟩, []⟩,
  ⟨⟨some 3, Op.assign (Operand.tmp 41), none⟩, []⟩])) .skip)) (.seq (.reg [⟨⟨some 43, Op.move (Operand.tmp 0), none⟩, []⟩,
  ⟨⟨some 44, Op.move (Operand.tmp 1), none⟩, []⟩,
  ⟨⟨some 45, Op.move (Operand.tmp 2), none⟩, []⟩,
  ⟨⟨some 46, Op.call { callee := (Callee.value (Operand.func 186)), args := #[(Operand.tmp 43), (Operand.tmp 44), (Operand.tmp 45)], argTypes := #[38, 3, 3] }, none⟩, []⟩,
  ⟨⟨some 42, Op.move (Operand.tmp 46), none⟩, []⟩,
  ⟨⟨some 47, Op.extract (Operand.tmp 42) 0, none⟩, []⟩,
  ⟨⟨some 48, Op.extract (Operand.tmp 42) 1, none⟩, []⟩,
  ⟨⟨some 11, Op.assign (Operand.tmp 47), none⟩, []⟩,
  ⟨⟨some 12, Op.assign (Operand.tmp 48), none⟩, []⟩]) (.seq (.seq (.reg [⟨⟨some 49, Op.move (Operand.tmp 12), none⟩, []⟩,
  ⟨⟨some 50, Op.binOp BinOp.eql 152 (Operand.tmp 49) (Operand.const (Value.int IntKind.i64 2)) 152, none⟩, []⟩]) (.cond (Operand.tmp 50) (.seq (.reg [⟨⟨some 51, Op.move (Operand.tmp 0), none⟩, []⟩,
  ⟨⟨some 52, Op.move (Operand.tmp 1), none⟩, []⟩,
  ⟨⟨some 53, Op.move (Operand.tmp 2), none⟩, []⟩,
  ⟨⟨some 54, Op.call { callee := (Callee.value (Operand.func 187)), args := #[(Operand.tmp 51), (Operand.tmp 52), (Operand.tmp 53)], argTypes := #[38, 3, 3] }, none⟩, []⟩]) (.seq (.reg [⟨⟨some 55, Op.move (Operand.tmp 2), none⟩, []⟩,
  ⟨⟨some 56, Op.binOp BinOp.sub 3 (Operand.tmp 55) (Operand.const (Value.int IntKind.i64 1)) 3, none⟩, []⟩,
  ⟨⟨some 57, Op.move (Operand.tmp 11), none⟩, []⟩,
  ⟨⟨some 58, Op.move (Operand.tmp 1), none⟩, []⟩,
  ⟨⟨some 59, Op.binOp BinOp.sub 3 (Operand.tmp 57) (Operand.tmp 58) 3, none⟩, []⟩,
  ⟨⟨some 60, Op.binOp BinOp.sub 3 (Operand.tmp 56) (Operand.tmp 59) 3, none⟩, []⟩,
  ⟨⟨some 11, Op.assign (Operand.tmp 60), none⟩, []⟩]) (.reg [⟨⟨some 12, Op.assign (Operand.const (Value.int IntKind.i64 1)), none⟩, []⟩]))) .skip)) (.seq (.seq (.reg [⟨⟨some 61, Op.move (Operand.tmp 8), none⟩, []⟩,
  ⟨⟨some 62, Op.move (Operand.tmp 61), none⟩, []⟩,
  ⟨⟨some 63, Op.move (Operand.tmp 9), some (62, true)⟩, []⟩,
  ⟨⟨some 64, Op.pick (Operand.tmp 62) (Operand.tmp 63) (Operand.const (Value.bool false)), none⟩, []⟩,
  ⟨⟨some 65, Op.move (Operand.tmp 64), none⟩, []⟩,
  ⟨⟨some 66, Op.move (Operand.tmp 12), some (65, true)⟩, []⟩,
  ⟨⟨some 67, Op.binOp BinOp.eql 152 (Operand.tmp 66) (Operand.const (Value.int IntKind.i64 1)) 152, some (65, true)⟩, []⟩,
  ⟨⟨some 68, Op.pick (Operand.tmp 65) (Operand.tmp 67) (Operand.const (Value.bool false)), none⟩, []⟩]) (.cond (Operand.tmp 68) (.seq (.reg [⟨⟨some 69, Op.move (Operand.tmp 0), none⟩, []⟩,
  ⟨⟨some 70, Op.move (Operand.tmp 1), none⟩, []⟩,
  ⟨⟨some 71, Op.move (Operand.tmp 2), none⟩, []⟩,
  ⟨⟨some 72, Op.call { callee := (Callee.value (Operand.func 188)), args := #[(Operand.tmp 69), (Operand.tmp 70), (Operand.tmp 71)], argTypes := #[38, 3, 3] }, none⟩, []⟩]) (.cond (Operand.tmp 72) .ret .skip)) .skip)) (.seq (.seq (.reg [⟨⟨some 73, Op.move (Operand.tmp 1), none⟩, []⟩,
  ⟨⟨some 74, Op.binOp BinOp.gtr 3 (Operand.tmp 73) (Operand.const (Value.int IntKind.i64 0)) 3, none⟩, []⟩,
  ⟨⟨some 75, Op.move (Operand.tmp 74), none⟩, []⟩,
  ⟨⟨some 76, Op.move (Operand.tmp 0), some (75, true)⟩, []⟩,
  ⟨⟨some 77, Op.move (Operand.tmp 1), some (75, true)⟩, []⟩,
  ⟨⟨some 78, Op.binOp BinOp.sub 3 (Operand.tmp 77) (Operand.const (Value.int IntKind.i64 1)) 3, some (75, true)⟩, []⟩,
  ⟨⟨some 79, Op.indexAddr 38 (Operand.tmp 76) (Operand.tmp 78), some (75, true)⟩, []⟩,
  ⟨⟨some 80, Op.load 3 (Operand.tmp 79), some (75, true)⟩, []⟩,
  ⟨⟨some 81, Op.move (Operand.tmp 0), some (75, true)⟩, []⟩,
  ⟨⟨some 82, Op.move (Operand.tmp 11), some (75, true)⟩, []⟩,
  ⟨⟨some 83, Op.indexAddr 38 (Operand.tmp 81) (Operand.tmp 82), some (75, true)⟩, []⟩,
  ⟨⟨some 84, Op.load 3 (Operand.tmp 83), some (75, true)⟩, []⟩,
  ⟨⟨some 85, Op.call { callee := (Callee.value (Operand.func 189)), args := #[(Operand.tmp 80), (Operand.tmp 84)], argTypes := #[3, 3] }, some (75, true)⟩, []⟩,
  ⟨⟨some 86, Op.unOp UnOp.not 4 (Operand.tmp 85), some (75, true)⟩, []⟩,
  ⟨⟨some 87, Op.pick (Operand.tmp 75) (Operand.tmp 86) (Operand.const (Value.bool false)), none⟩, []⟩]) (.cond (Operand.tmp 87) (.seq (.reg [⟨⟨some 88, Op.move (Operand.tmp 0), none⟩, []⟩,
  ⟨⟨some 89, Op.move (Operand.tmp 1), none⟩, []⟩,
  ⟨⟨some 90, Op.move (Operand.tmp 2), none⟩, []⟩,
  ⟨⟨some 91, Op.move (Operand.tmp 11), none⟩, []⟩,
  ⟨⟨some 92, Op.call { callee := (Callee.value (Operand.func 190)), args := #[(Operand.tmp 88), (Operand.tmp 89), (Operand.tmp 90), (Operand.tmp 91)], argTypes := #[38, 3, 3, 3] }, none⟩, []⟩,
  ⟨⟨some 13, Op.assign (Operand.tmp 92), none⟩, []⟩]) (.seq (.reg [⟨⟨some 93, Op.move (Operand.tmp 13), none⟩, []⟩,
  ⟨⟨some 1, Op.assign (Operand.tmp 93), none⟩, []⟩]) (.exit 1))) .skip)) (.seq (.reg [⟨⟨some 95, Op.move (Operand.tmp 0), none⟩, []⟩,
  ⟨⟨some 96, Op.move (Operand.tmp 1), none⟩, []⟩,
  ⟨⟨some 97, Op.move (Operand.tmp 2), none⟩, []⟩,
  ⟨⟨some 98, Op.move (Operand.tmp 11), none⟩, []⟩,
  ⟨⟨some 99, Op.call { callee := (Callee.value (Operand.func 191)), args := #[(Operand.tmp 95), (Operand.tmp 96), (Operand.tmp 97), (Operand.tmp 98)], argTypes := #[38, 3, 3, 3] }, none⟩, []⟩,
  ⟨⟨some 94, Op.move (Operand.tmp 99), none⟩, []⟩,
  ⟨⟨some 100, Op.extract (Operand.tmp 94) 0, none⟩, []⟩,
  ⟨⟨some 101, Op.extract (Operand.tmp 94) 1, none⟩, []⟩,
  ⟨⟨some 14, Op.assign (Operand.tmp 100), none⟩, []⟩,
  ⟨⟨some 15, Op.assign (Operand.tmp 101), none⟩, []⟩]) (.seq (.reg [⟨⟨some 102, Op.move (Operand.tmp 15), none⟩, []⟩,
  ⟨⟨some 9, Op.assign (Operand.tmp 102), none⟩, []⟩]) (.seq (.reg [⟨⟨some 103, Op.move (Operand.tmp 14), none⟩, []⟩,
  ⟨⟨some 104, Op.move (Operand.tmp 1), none⟩, []⟩,
  ⟨⟨some 105, Op.binOp BinOp.sub 3 (Operand.tmp 103) (Operand.tmp 104) 3, none⟩, []⟩,
  ⟨⟨some 106, Op.move (Operand.tmp 2), none⟩, []⟩,
  ⟨⟨some 107, Op.move (Operand.tmp 14), none⟩, []⟩,
  ⟨⟨some 108, Op.binOp BinOp.sub 3 (Operand.tmp 106) (Operand.tmp 107) 3, none⟩, []⟩,
  ⟨⟨some 16, Op.assign (Operand.tmp 105), none⟩, []⟩,
  ⟨⟨some 17, Op.assign (Operand.tmp 108), none⟩, []⟩]) (.seq (.reg [⟨⟨some 109, Op.move (Operand.tmp 10), none⟩, []⟩,
  ⟨⟨some 110, Op.binOp BinOp.quo 3 (Operand.tmp 109) (Operand.const (Value.int IntKind.i64 8)) 3, none⟩, []⟩,
  ⟨⟨some 18, Op.assign (Operand.tmp 110), none⟩, []⟩]) (.seq (.reg [⟨⟨some 111, Op.move (Operand.tmp 16), none⟩, []⟩,
  ⟨⟨some 112, Op.move (Operand.tmp 17), none⟩, []⟩,
  ⟨⟨some 113, Op.binOp BinOp.lss 3 (Operand.tmp 111) (Operand.tmp 112) 3, none⟩, []⟩]) (.cond (Operand.tmp 113) (.seq (.reg [⟨⟨some 114, Op.move (Operand.tmp 16), none⟩, []⟩,
  ⟨⟨some 115, Op.move (Operand.tmp 18), none⟩, []⟩,
  ⟨⟨some 116, Op.binOp BinOp.geq 3 (Operand.tmp 114) (Operand.tmp 115) 3, none⟩, []⟩,
  ⟨⟨some 8, Op.assign (Operand.tmp 116), none⟩, []⟩]) (.seq (.reg [⟨⟨some 117, Op.move (Operand.tmp 0), none⟩, []⟩,
  ⟨⟨some 118, Op.move (Operand.tmp 1), none⟩, []⟩,
  ⟨⟨some 119, Op.move (Operand.tmp 14), none⟩, []⟩,
  ⟨⟨some 120, Op.move (Operand.tmp 3), none⟩, []⟩,
  ⟨⟨some 121, Op.call { callee := (Callee.value (Operand.func 170)), args := #[(Operand.tmp 117), (Operand.tmp 118), (Operand.tmp 119), (Operand.tmp 120)], argTypes := #[38, 3, 3, 3] }, none⟩, []⟩]) (.reg [⟨⟨some 122, Op.move (Operand.tmp 14), none⟩, []⟩,
  ⟨⟨some 123, Op.binOp BinOp.add 3 (Operand.tmp 122) (Operand.const (Value.int IntKind.i64 1)) 3, none⟩, []⟩,
  ⟨⟨some 1, Op.assign (Operand.tmp 123), none⟩, []⟩]))) (.seq (.reg [⟨⟨some 124, Op.move (Operand.tmp 17), none⟩, []⟩,
  ⟨⟨some 125, Op.move (Operand.tmp 18), none⟩, []⟩,
  ⟨⟨some 126, Op.binOp BinOp.geq 3 (Operand.tmp 124) (Operand.tmp 125) 3, none⟩, []⟩,
  ⟨⟨some 8, Op.assign (Operand.tmp 126), none⟩, []⟩]) (.seq (.reg [⟨⟨some 127, Op.move (Operand.tmp 0), none⟩, []⟩,
  ⟨⟨some 128, Op.move (Operand.tmp 14), none⟩, []⟩,
  ⟨⟨some 129, Op.binOp BinOp.add 3 (Operand.tmp 128) (Operand.const (Value.int IntKind.i64 1)) 3, none⟩, []⟩,
  ⟨⟨some 130, Op.move (Operand.tmp 2), none⟩, []⟩,
  ⟨⟨some 131, Op.move (Operand.tmp 3), none⟩, []⟩,
  ⟨⟨some 132, Op.call { callee := (Callee.value (Operand.func 170)), args := #[(Operand.tmp 127), (Operand.tmp 129), (Operand.tmp 130), (Operand.tmp 131)], argTypes := #[38, 3, 3, 3] }, none⟩, []⟩]) (.reg [⟨⟨some 133, Op.move (Operand.tmp 14), none⟩, []⟩,
  ⟨⟨some 2, Op.assign (Operand.tmp 133), none⟩, []⟩]))))))))))))))))))))))
theorem sl170 : slim Tryz.f170.ntmps ords170 (Tryz.f170.body.getD .skip) = some cd170 := by kernel_rfl
theorem in170 {args : List Value} {H : AH} {R : Value → AH → Prop} (hl : args.length = 4) (h : ∀ (Q : Exit → Sl → AH → Prop), (∀ e s H, endA Tryz.prog [] R e s H → Q e s H) → wpC Tryz.prog cd170 Q (enterA args) H) : ACalls Tryz.prog 170 args H R :=
  ACalls.intro (by kernel_rfl) Tryz.func170 rfl (by kernel_rfl) sl170 hl (of_decide_eq_true (by kernel_rfl)) (by kernel_rfl) h
def ords134 : List (Nat × List (Nat × Bool)) := []
def cd134 : Cd := (.seq (.reg [⟨⟨some 3, Op.move (Operand.tmp 0), none⟩, []⟩,
  ⟨⟨some 4, Op.call { callee := (Callee.builtin Builtin.len), args := #[(Operand.tmp 3)], argTypes := #[38] }, none⟩, []⟩,
  ⟨⟨some 2, Op.assign (Operand.tmp 4), none⟩, []⟩]) (.reg [⟨⟨some 5, Op.move (Operand.tmp 0), none⟩, []⟩,
  ⟨⟨some 6, Op.move (Operand.tmp 2), none⟩, []⟩,
  ⟨⟨some 7, Op.move (Operand.tmp 2), none⟩, []⟩,
  ⟨⟨some 8, Op.convert 3 108 (Operand.tmp 7), none⟩, []⟩,
  ⟨⟨some 9, Op.call { callee := (Callee.value (Operand.func 129)), args := #[(Operand.tmp 8)], argTypes := #[108] }, none⟩, []⟩,
  ⟨⟨some 10, Op.call { callee := (Callee.value (Operand.func 170)), args := #[(Operand.tmp 5), (Operand.const (Value.int IntKind.i64 0)), (Operand.tmp 6), (Operand.tmp 9)], argTypes := #[38, 3, 3, 3] }, none⟩, []⟩]))
theorem sl134 : slim Tryz.f134.ntmps ords134 (Tryz.f134.body.getD .skip) = some cd134 := by kernel_rfl
theorem in134 {args : List Value} {H : AH} {R : Value → AH → Prop} (hl : args.length = 1) (h : ∀ (Q : Exit → Sl → AH → Prop), (∀ e s H, endA Tryz.prog [] R e s H → Q e s H) → wpC Tryz.prog cd134 Q (enterA args) H) : ACalls Tryz.prog 134 args H R :=
  ACalls.intro (by kernel_rfl) Tryz.func134 rfl (by kernel_rfl) sl134 hl (of_decide_eq_true (by kernel_rfl)) (by kernel_rfl) h
end Go.Proofs.YtlfongfhbkefmaaGreat.Ai
namespace Go.Proofs.YtlfongfhbkefmaaGreat.Ai
open Go Go.RowKit
set_option linter.unusedVariables false
set_option linter.unusedSimpArgs false
theorem isNaN_c (x : Int) (H : AH) : ACalls Tryz.prog 167 [.int .i64 x] H fun r H' => r = .bool false ∧ H = H' := by
  refine in167 rfl ?_
  intro Q hQ
  simp (maxSteps := 1000000) (disch := omega) only [cd167, S, S1, S2, S3, S4, S5, ST, eq_self, reduceIte, reduceCtorEq, Nat.reduceEqDiff, Nat.reduceAdd]
  refine hQ _ _ _ ?_
  simp (maxSteps := 1000000) (disch := omega) only [S, S1, S2, S3, S4, S5, ST, eq_self, reduceIte, reduceCtorEq, Nat.reduceEqDiff, Nat.reduceAdd]
theorem Less_c (x y : Int) (H : AH) : ACalls Tryz.prog 189 [.int .i64 x, .int .i64 y] H fun r H' => r = .bool (decide (x < y)) ∧ H = H' := by
  refine in189 rfl ?_
  intro Q hQ
  simp (maxSteps := 1000000) (disch := omega) only [cd189, S, S1, S2, S3, S4, S5, ST, eq_self, reduceIte, reduceCtorEq, Nat.reduceEqDiff, Nat.reduceAdd]
  refine CallH.by (isNaN_c ..) ?_
  rintro _ _ ⟨rfl, rfl⟩
  simp (maxSteps := 1000000) (disch := omega) only [S, S1, S2, S3, S4, S5, ST, eq_self, reduceIte, reduceCtorEq, Nat.reduceEqDiff, Nat.reduceAdd]
  refine hQ _ _ _ ?_
  simp (maxSteps := 1000000) (disch := omega) only [S, S1, S2, S3, S4, S5, ST, eq_self, reduceIte, reduceCtorEq, Nat.reduceEqDiff, Nat.reduceAdd]
theorem getD_set (xs : List Int) (i k : Nat) (x : Int) (hi : i < xs.length) : (xs.set i x).getD k 0 = if k = i then x else xs.getD k 0 := by
  rw [List.getD_eq_getElem?_getD, List.getElem?_set]
  by_cases h : i = k
  · subst h; rw [if_pos rfl, if_pos rfl, if_pos hi]; rfl
  · rw [if_neg h, if_neg (fun e => h e.symm), ← List.getD_eq_getElem?_getD]
/-- two places exchanged -/
theorem swap_perm (xs : List Int) (i j : Nat) (hi : i < xs.length) (hj : j < xs.length) : ((xs.set i (xs.getD j 0)).set j (xs.getD i 0)).Perm xs := by
  have h := @List.set_set_perm _ xs i j hi hj
  have e1 : xs.getD j 0 = xs[j] := by simp [hj]
  have e2 : xs.getD i 0 = xs[i] := by simp [hi]
  rw [e1, e2]; exact h
theorem swap_at (zs : List Int) (j k p : Nat) (a b : Int) (hj : j < zs.length) (hk : k < zs.length) : ((zs.set j a).set k b).getD p 0 = if p = k then b else if p = j then a else zs.getD p 0 := by
  rw [getD_set (zs.set j a) k p b (by simpa using hk), getD_set zs j p a hj]
set_option maxHeartbeats 2000000 in
theorem insSort_c (o : Nat) (xs : List Int) (H : AH) (ho : H[o]? = some (.cells (ints xs) 3 false)) (hlen : xs.length ≤ 1099511627776) :
    ACalls Tryz.prog 183 [.slice (some ⟨o, 0, none⟩) xs.length xs.length, .int .i64 0, .int .i64 (xs.length : Int)] H fun r H' => ∃ ys, H' = H.set o (.cells (ints ys) 3 false) ∧ ys.Perm xs ∧ Asc ys := by
  refine in183 rfl ?_
  intro Q hQ
  generalize hn : xs.length = n at *
  simp (maxSteps := 1000000) (disch := omega) only [cd183, wrap64, S, S1, S2, S3, S4, S5, ST, eq_self, reduceIte, reduceCtorEq, Nat.reduceEqDiff, Nat.reduceAdd]
  refine LoopH.by (fun m s H' => ∃ i ys, m + i = n + 1 ∧ 1 ≤ i ∧ s 0 = .slice (some ⟨o, 0, none⟩) n n ∧ s 1 = .int .i64 0 ∧ s 2 = .int .i64 (n : Int) ∧ s 6 = .int .i64 ((i : Nat) : Int) ∧ H' = H.set o (.cells (ints ys) 3 false) ∧ ys.Perm xs ∧ ∀ p q, p < q → q < i → q < n → ys.getD p 0 ≤ ys.getD q 0) n ?_ ?_
  · refine ⟨1, xs, by omega, by omega, rfl, rfl, rfl, rfl, ?_, List.Perm.refl _, by omega⟩
    apply List.ext_getElem?
    intro j
    rw [List.getElem?_set]
    by_cases hj : o = j
    · subst hj; rw [if_pos rfl, if_pos (at_lt ho), ho]
    · rw [if_neg hj]
  · rintro m s H' ⟨i, ys, hm, hi1, h0, h1, h2, h6, rfl, hp, hs⟩
    have hyl : ys.length = n := by rw [hp.length_eq, hn]
    simp (maxSteps := 1000000) (disch := omega) only [h0, h1, h2, h6, S, S1, S2, S3, S4, S5, ST, eq_self, reduceIte, reduceCtorEq, Nat.reduceEqDiff, Nat.reduceAdd]
    refine brD.intro (fun g => ?_) (fun g => ?_) <;> simp (maxSteps := 1000000) (disch := omega) only [h0, h1, h2, h6, S, S1, S2, S3, S4, S5, ST, eq_self, reduceIte, reduceCtorEq, Nat.reduceEqDiff, Nat.reduceAdd]
    · have hi : i < n := by omega
      refine LoopH.by (fun m' s' H'' => ∃ zs, m' ≤ i ∧ s' 0 = .slice (some ⟨o, 0, none⟩) n n ∧ s' 1 = .int .i64 0 ∧ s' 2 = .int .i64 (n : Int) ∧ s' 6 = .int .i64 ((i : Nat) : Int) ∧ s' 7 = .int .i64 ((m' : Nat) : Int) ∧ H'' = H.set o (.cells (ints zs) 3 false) ∧ zs.Perm xs ∧ ∀ p q, p < q → q ≤ i → q ≠ m' → zs.getD p 0 ≤ zs.getD q 0) i ?_ ?_
      · refine ⟨ys, Nat.le_refl _, ?_⟩
        have f1 : ∀ p q, p < q → q ≤ i → q ≠ i → ys.getD p 0 ≤ ys.getD q 0 := fun p q h1 h2 h3 => hs p q h1 (by omega) (by omega)
        simp only [S, S1, S2, S3, S4, S5, ST, eq_self, reduceIte, reduceCtorEq, Nat.reduceEqDiff, Nat.reduceAdd, h0, h1, h2, h6]
        exact ⟨hp, f1⟩
      · rintro j s' H'' ⟨zs, hj, g0, g1, g2, g6, g7, rfl, hq, hz⟩
        have hzl : zs.length = n := by rw [hq.length_eq, hn]
        have hc : (H.set o (.cells (ints zs) 3 false))[o]? = some (.cells (ints zs) 3 false) := at_set ho
        have out : (j = 0 ∨ zs.getD (j - 1) 0 ≤ zs.getD j 0) → ∀ p q, p < q → q < i + 1 → q < n → zs.getD p 0 ≤ zs.getD q 0 := by
          intro h p q h1 h2 h3
          by_cases e : q = j
          · subst e
            rcases h with h | h
            · omega
            · by_cases e2 : p = q - 1
              · subst e2; exact h
              · have := hz p (q - 1) (by omega) (by omega) (by omega)
                omega
          · exact hz p q h1 (by omega) e
        simp (maxSteps := 1000000) (disch := omega) only [g0, g1, g2, g6, g7, S, S1, S2, S3, S4, S5, ST, eq_self, reduceIte, reduceCtorEq, Nat.reduceEqDiff, Nat.reduceAdd]
        refine brD.intro (fun q => ?_) (fun q => ?_)
        · have hj0 : 0 < j := by omega
          have e1 : ((j : Int) - 1).toNat = j - 1 := by omega
          have e3 : ((j : Int) - 1) = ((j - 1 : Nat) : Int) := by omega
          have c1 : cellA (H.set o (.cells (ints zs) 3 false)) o j = some (.int .i64 (zs.getD j 0)) := cell_ints hc (by omega)
          have c2 : cellA (H.set o (.cells (ints zs) 3 false)) o (j - 1) = some (.int .i64 (zs.getD (j - 1) 0)) := cell_ints hc (by omega)
          simp (maxSteps := 1000000) (disch := omega) only [q, g0, g1, g2, g6, g7, Int.toNat_natCast, Nat.zero_add, e1, c1, c2, wrap64, S, S1, S2, S3, S4, S5, ST, eq_self, reduceIte, reduceCtorEq, Nat.reduceEqDiff, Nat.reduceAdd]
          refine CallH.by (Less_c ..) ?_
          rintro _ _ ⟨rfl, rfl⟩
          simp (maxSteps := 1000000) (disch := omega) only [q, S, S1, S2, S3, S4, S5, ST, eq_self, reduceIte, reduceCtorEq, Nat.reduceEqDiff, Nat.reduceAdd]
          refine brD.intro (fun lt => ?_) (fun lt => ?_)
          · have st1 : ∀ x, storeA Tryz.prog 3 (.pointer (some ⟨o, j, none⟩)) (.int .i64 x) (H.set o (.cells (ints zs) 3 false)) = some (H.set o (.cells (ints (zs.set j x)) 3 false)) := by
              intro x; rw [st_ints cs3 hc (by omega), List.set_set]
            have st2 : ∀ x y, storeA Tryz.prog 3 (.pointer (some ⟨o, j - 1, none⟩)) (.int .i64 x) (H.set o (.cells (ints (zs.set j y)) 3 false)) = some (H.set o (.cells (ints ((zs.set j y).set (j - 1) x)) 3 false)) := by
              intro x y
              have : (H.set o (.cells (ints (zs.set j y)) 3 false))[o]? = some (.cells (ints (zs.set j y)) 3 false) := at_set ho
              rw [st_ints cs3 this (by simp; omega), List.set_set]
            simp (maxSteps := 1000000) (disch := omega) only [g0, g1, g2, g6, g7, Int.toNat_natCast, Nat.zero_add, e1, c1, c2, st1, st2, wrap64, S, S1, S2, S3, S4, S5, ST, eq_self, reduceIte, reduceCtorEq, Nat.reduceEqDiff, Nat.reduceAdd]
            have f1 := swap_perm zs j (j - 1) (by omega) (by omega)
            have f2 : ∀ p q, p < q → q ≤ i → q ≠ j - 1 → ((zs.set j (zs.getD (j - 1) 0)).set (j - 1) (zs.getD j 0)).getD p 0 ≤ ((zs.set j (zs.getD (j - 1) 0)).set (j - 1) (zs.getD j 0)).getD q 0 := by
              intro p q h1 h2 h3
              rw [swap_at zs j (j - 1) p _ _ (by omega) (by omega), swap_at zs j (j - 1) q _ _ (by omega) (by omega), if_neg h3]
              by_cases ep : p = j - 1
              · rw [if_pos ep]
                by_cases eq : q = j
                · rw [if_pos eq]; omega
                · rw [if_neg eq]; exact hz j q (by omega) h2 eq
              · rw [if_neg ep]
                by_cases ep2 : p = j
                · rw [if_pos ep2, if_neg (by omega)]; exact hz (j - 1) q (by omega) h2 (by omega)
                · rw [if_neg ep2]
                  by_cases eq : q = j
                  · rw [if_pos eq]; exact hz p (j - 1) (by omega) (by omega) (by omega)
                  · rw [if_neg eq]; exact hz p q h1 h2 eq
            refine ⟨j - 1, by omega, (zs.set j (zs.getD (j - 1) 0)).set (j - 1) (zs.getD j 0), ?_⟩
            (repeat' apply And.intro) <;> first | exact f1.trans hq | exact f2 | (simp only [Value.int.injEq, true_and]; omega) | omega | rfl | assumption | (simp; done) | (simp; omega)
          · simp (maxSteps := 1000000) (disch := omega) only [g0, g1, g2, g6, g7, wrap64, S, S1, S2, S3, S4, S5, ST, eq_self, reduceIte, reduceCtorEq, Nat.reduceEqDiff, Nat.reduceAdd]
            have f1 := out (.inr (by omega))
            refine ⟨m - 1, by omega, i + 1, zs, ?_⟩
            (repeat' apply And.intro) <;> first | exact hq | exact f1 | (simp only [Value.int.injEq, true_and]; omega) | omega | rfl | assumption | (simp; done) | (simp; omega)
        · simp (maxSteps := 1000000) (disch := omega) only [q, g0, g1, g2, g6, g7, wrap64, S, S1, S2, S3, S4, S5, ST, eq_self, reduceIte, reduceCtorEq, Nat.reduceEqDiff, Nat.reduceAdd]
          have f1 := out (.inl (by omega))
          refine ⟨m - 1, by omega, i + 1, zs, ?_⟩
          (repeat' apply And.intro) <;> first | exact hq | exact f1 | (simp only [Value.int.injEq, true_and]; omega) | omega | rfl | assumption | (simp; done) | (simp; omega)
    · refine hQ _ _ _ ?_
      simp (maxSteps := 1000000) (disch := omega) only [S, S1, S2, S3, S4, S5, ST, eq_self, reduceIte, reduceCtorEq, Nat.reduceEqDiff, Nat.reduceAdd]
      refine ⟨ys, rfl, hp, ?_⟩
      intro p q h1 h2
      exact hs p q h1 (by omega) (by omega)
theorem insNil_c (H : AH) : ACalls Tryz.prog 183 [.slice none 0 0, .int .i64 0, .int .i64 0] H fun r H' => H = H' := by
  refine in183 rfl ?_
  intro Q hQ
  simp (maxSteps := 1000000) (disch := omega) only [cd183, wrap64, S, S1, S2, S3, S4, S5, ST, eq_self, reduceIte, reduceCtorEq, Nat.reduceEqDiff, Nat.reduceAdd]
  refine LoopH.by (fun m s H' => s 2 = .int .i64 0 ∧ s 6 = .int .i64 1 ∧ H = H') 0 ?_ ?_
  · exact ⟨rfl, rfl, rfl⟩
  · rintro m s H' ⟨h2, h6, rfl⟩
    simp (maxSteps := 1000000) (disch := omega) only [h2, h6, S, S1, S2, S3, S4, S5, ST, eq_self, reduceIte, reduceCtorEq, Nat.reduceEqDiff, Nat.reduceAdd]
    refine brD.intro (fun h => absurd h (by decide)) (fun _ => ?_)
    simp (maxSteps := 1000000) (disch := omega) only [S, S1, S2, S3, S4, S5, ST, eq_self, reduceIte, reduceCtorEq, Nat.reduceEqDiff, Nat.reduceAdd]
    refine hQ _ _ _ ?_
    simp (maxSteps := 1000000) (disch := omega) only [S, S1, S2, S3, S4, S5, ST, eq_self, reduceIte, reduceCtorEq, Nat.reduceEqDiff, Nat.reduceAdd]
theorem wrapU64 {n : Int} (h1 : 0 ≤ n) (h2 : n < 18446744073709551616) : IntKind.u64.wrap n = n := by rw [IntKind.wrap_u64]; omega
theorem wrapU8 {n : Int} (h1 : 0 ≤ n) (h2 : n < 256) : IntKind.u8.wrap n = n := by rw [IntKind.wrap_u8]; omega
theorem str_ix {P : Program} {t : TypeId} (hu : P.underlying t = some .string) (s : ByteArray) (k : IntKind) (i : Int) (h0 : 0 ≤ i) (h1 : i.toNat < s.size) : ∃ b : UInt8, indexA P t (.string s) (.int k i) = some (.int .u8 b.toNat) := by
  have : s[i.toNat]? = some s[i.toNat] := by simp [h1]
  exact ⟨s[i.toNat], by simp only [indexA, hu, if_pos h0, this]⟩
set_option maxRecDepth 20000 in
theorem Len64_c (n : Int) (H : AH) (hn : 0 ≤ n ∧ n < 256) : ACalls Tryz.prog 166 [.int .u64 n] H fun r H' => (∃ k : Int, r = .int .i64 k) ∧ H = H' := by
  refine in166 rfl ?_
  intro Q hQ
  simp (maxSteps := 1000000) (disch := omega) only [cd166, S, S1, S2, S3, S4, S5, ST, eq_self, reduceIte, reduceCtorEq, Nat.reduceEqDiff, Nat.reduceAdd]
  refine brD.intro (fun h => absurd h (by omega)) (fun _ => ?_)
  simp (maxSteps := 1000000) (disch := omega) only [S, S1, S2, S3, S4, S5, ST, eq_self, reduceIte, reduceCtorEq, Nat.reduceEqDiff, Nat.reduceAdd]
  refine brD.intro (fun h => absurd h (by omega)) (fun _ => ?_)
  simp (maxSteps := 1000000) (disch := omega) only [S, S1, S2, S3, S4, S5, ST, eq_self, reduceIte, reduceCtorEq, Nat.reduceEqDiff, Nat.reduceAdd]
  refine brD.intro (fun h => absurd h (by omega)) (fun _ => ?_)
  simp (maxSteps := 1000000) (disch := omega) only [wrapU8, S, S1, S2, S3, S4, S5, ST, eq_self, reduceIte, reduceCtorEq, Nat.reduceEqDiff, Nat.reduceAdd]
  generalize hs : (ByteArray.mk _) = s
  have hz : s.size = 256 := by rw [← hs]; rfl
  obtain ⟨b, hb⟩ := str_ix (P := Tryz.prog) Tryz.underlying9 s .u8 n hn.1 (by omega)
  simp (maxSteps := 1000000) (disch := omega) only [hb, S, S1, S2, S3, S4, S5, ST, eq_self, reduceIte, reduceCtorEq, Nat.reduceEqDiff, Nat.reduceAdd]
  refine hQ _ _ _ ?_
  simp (maxSteps := 1000000) (disch := omega) only [S, S1, S2, S3, S4, S5, ST, eq_self, reduceIte, reduceCtorEq, Nat.reduceEqDiff, Nat.reduceAdd]
  exact ⟨_, rfl⟩
theorem Len_c (n : Int) (H : AH) (hn : 0 ≤ n ∧ n < 256) : ACalls Tryz.prog 129 [.int .u64 n] H fun r H' => (∃ k : Int, r = .int .i64 k) ∧ H = H' := by
  refine in129 rfl ?_
  intro Q hQ
  simp (maxSteps := 1000000) (disch := omega) only [cd129, S, S1, S2, S3, S4, S5, ST, eq_self, reduceIte, reduceCtorEq, Nat.reduceEqDiff, Nat.reduceAdd]
  refine CallH.by (Len64_c n H hn) ?_
  rintro _ _ ⟨⟨k, rfl⟩, rfl⟩
  simp (maxSteps := 1000000) (disch := omega) only [S, S1, S2, S3, S4, S5, ST, eq_self, reduceIte, reduceCtorEq, Nat.reduceEqDiff, Nat.reduceAdd]
  refine hQ _ _ _ ?_
  simp (maxSteps := 1000000) (disch := omega) only [S, S1, S2, S3, S4, S5, ST, eq_self, reduceIte, reduceCtorEq, Nat.reduceEqDiff, Nat.reduceAdd]
  exact ⟨_, rfl⟩
theorem pdq_c (o : Nat) (xs : List Int) (l : Int) (H : AH) (ho : H[o]? = some (.cells (ints xs) 3 false)) (hlen : xs.length ≤ 12) :
    ACalls Tryz.prog 170 [.slice (some ⟨o, 0, none⟩) xs.length xs.length, .int .i64 0, .int .i64 (xs.length : Int), .int .i64 l] H fun r H' => ∃ ys, H' = H.set o (.cells (ints ys) 3 false) ∧ ys.Perm xs ∧ Asc ys := by
  refine in170 rfl ?_
  intro Q hQ
  simp (maxSteps := 1000000) (disch := omega) only [cd170, S, S1, S2, S3, S4, S5, ST, eq_self, reduceIte, reduceCtorEq, Nat.reduceEqDiff, Nat.reduceAdd]
  refine LoopH.by (fun m s H' => s 0 = .slice (some ⟨o, 0, none⟩) xs.length xs.length ∧ s 1 = .int .i64 0 ∧ s 2 = .int .i64 (xs.length : Int) ∧ H = H') 0 ?_ ?_
  · exact ⟨rfl, rfl, rfl, rfl⟩
  · rintro m s H' ⟨h0, h1, h2, rfl⟩
    simp (maxSteps := 1000000) (disch := omega) only [h0, h1, h2, wrap64, S, S1, S2, S3, S4, S5, ST, eq_self, reduceIte, reduceCtorEq, Nat.reduceEqDiff, Nat.reduceAdd]
    refine brD.intro (fun _ => ?_) (fun h => absurd h (by omega))
    simp (maxSteps := 1000000) (disch := omega) only [h0, h1, h2, S, S1, S2, S3, S4, S5, ST, eq_self, reduceIte, reduceCtorEq, Nat.reduceEqDiff, Nat.reduceAdd]
    refine CallH.by (insSort_c o xs H ho (by omega)) ?_
    rintro r H1 hr
    simp (maxSteps := 1000000) (disch := omega) only [S, S1, S2, S3, S4, S5, ST, eq_self, reduceIte, reduceCtorEq, Nat.reduceEqDiff, Nat.reduceAdd]
    refine hQ _ _ _ ?_
    simp (maxSteps := 1000000) (disch := omega) only [S, S1, S2, S3, S4, S5, ST, eq_self, reduceIte, reduceCtorEq, Nat.reduceEqDiff, Nat.reduceAdd]
    exact hr
theorem pdqNil_c (l : Int) (H : AH) : ACalls Tryz.prog 170 [.slice none 0 0, .int .i64 0, .int .i64 0, .int .i64 l] H fun r H' => H = H' := by
  refine in170 rfl ?_
  intro Q hQ
  simp (maxSteps := 1000000) (disch := omega) only [cd170, S, S1, S2, S3, S4, S5, ST, eq_self, reduceIte, reduceCtorEq, Nat.reduceEqDiff, Nat.reduceAdd]
  refine LoopH.by (fun m s H' => s 0 = .slice none 0 0 ∧ s 1 = .int .i64 0 ∧ s 2 = .int .i64 0 ∧ H = H') 0 ?_ ?_
  · exact ⟨rfl, rfl, rfl, rfl⟩
  · rintro m s H' ⟨h0, h1, h2, rfl⟩
    simp (maxSteps := 1000000) (disch := omega) only [h0, h1, h2, wrap64, S, S1, S2, S3, S4, S5, ST, eq_self, reduceIte, reduceCtorEq, Nat.reduceEqDiff, Nat.reduceAdd]
    refine brD.intro (fun _ => ?_) (fun h => absurd h (by decide))
    simp (maxSteps := 1000000) (disch := omega) only [h0, h1, h2, S, S1, S2, S3, S4, S5, ST, eq_self, reduceIte, reduceCtorEq, Nat.reduceEqDiff, Nat.reduceAdd]
    refine CallH.by (insNil_c ..) ?_
    rintro _ _ rfl
    simp (maxSteps := 1000000) (disch := omega) only [S, S1, S2, S3, S4, S5, ST, eq_self, reduceIte, reduceCtorEq, Nat.reduceEqDiff, Nat.reduceAdd]
    refine hQ _ _ _ ?_
    simp (maxSteps := 1000000) (disch := omega) only [S, S1, S2, S3, S4, S5, ST, eq_self, reduceIte, reduceCtorEq, Nat.reduceEqDiff, Nat.reduceAdd]
theorem Sort_c (v : Value) (xs : List Int) (H0 H : AH) (ho : Own 3 H0 H v xs) (hlen : xs.length ≤ 12) :
    ACalls Tryz.prog 134 [v] H fun r H' => ∃ ys, Own 3 H0 H' v ys ∧ ys.Perm xs ∧ Asc ys ∧ Else v H H' := by
  refine in134 rfl ?_
  intro Q hQ
  obtain ⟨p, e⟩ := ho.row.shape
  rcases ho with ⟨rfl, rfl⟩ | ⟨o, rfl, hoo, hc⟩
  · simp (maxSteps := 1000000) (disch := omega) only [cd134, wrapU64, List.length_nil, Int.natCast_zero, S, S1, S2, S3, S4, S5, ST, eq_self, reduceIte, reduceCtorEq, Nat.reduceEqDiff, Nat.reduceAdd]
    refine CallH.by (Len_c _ _ (by decide)) ?_
    rintro _ _ ⟨⟨k, rfl⟩, rfl⟩
    simp (maxSteps := 1000000) (disch := omega) only [List.length_nil, Int.natCast_zero, S, S1, S2, S3, S4, S5, ST, eq_self, reduceIte, reduceCtorEq, Nat.reduceEqDiff, Nat.reduceAdd]
    refine CallH.by (pdqNil_c k H) ?_
    rintro _ _ rfl
    simp (maxSteps := 1000000) (disch := omega) only [S, S1, S2, S3, S4, S5, ST, eq_self, reduceIte, reduceCtorEq, Nat.reduceEqDiff, Nat.reduceAdd]
    refine hQ _ _ _ ?_
    simp (maxSteps := 1000000) (disch := omega) only [S, S1, S2, S3, S4, S5, ST, eq_self, reduceIte, reduceCtorEq, Nat.reduceEqDiff, Nat.reduceAdd]
    exact ⟨[], .inl ⟨rfl, rfl⟩, List.Perm.refl _, fun i j _ h => by simp at h, Else.refl _ _⟩
  · simp (maxSteps := 1000000) (disch := omega) only [cd134, wrapU64, S, S1, S2, S3, S4, S5, ST, eq_self, reduceIte, reduceCtorEq, Nat.reduceEqDiff, Nat.reduceAdd]
    refine CallH.by (Len_c _ _ (by omega)) ?_
    rintro _ _ ⟨⟨k, rfl⟩, rfl⟩
    simp (maxSteps := 1000000) (disch := omega) only [S, S1, S2, S3, S4, S5, ST, eq_self, reduceIte, reduceCtorEq, Nat.reduceEqDiff, Nat.reduceAdd]
    refine CallH.by (pdq_c o xs k H hc hlen) ?_
    rintro _ H1 ⟨ys, rfl, hp, ha⟩
    simp (maxSteps := 1000000) (disch := omega) only [S, S1, S2, S3, S4, S5, ST, eq_self, reduceIte, reduceCtorEq, Nat.reduceEqDiff, Nat.reduceAdd]
    refine hQ _ _ _ ?_
    simp (maxSteps := 1000000) (disch := omega) only [S, S1, S2, S3, S4, S5, ST, eq_self, reduceIte, reduceCtorEq, Nat.reduceEqDiff, Nat.reduceAdd]
    exact ⟨ys, .inr ⟨o, by rw [hp.length_eq], hoo, at_set hc⟩, hp, ha, Else.set _ _⟩
end Go.Proofs.YtlfongfhbkefmaaGreat.Ai
namespace Go.Proofs.YtlfongfhbkefmaaGreat.Ai
open Go
def ords123 : List (Nat × List (Nat × Bool)) := []
def cd123 : Cd := (.seq (.reg [⟨⟨some 2, Op.box 83 (Operand.tmp 0), none⟩, []⟩,
  ⟨⟨some 3, Op.box 83 (Operand.tmp 1), none⟩, []⟩,
  ⟨⟨some 4, Op.assign (Operand.const (Value.bool false)), none⟩, []⟩]) (.seq (.reg [⟨⟨some 5, Op.indexAddr 83 (Operand.tmp 2) (Operand.const (Value.int IntKind.i64 0)), none⟩, []⟩,
  ⟨⟨some 6, Op.load 3 (Operand.tmp 5), none⟩, []⟩,
  ⟨⟨some 7, Op.indexAddr 83 (Operand.tmp 3) (Operand.const (Value.int IntKind.i64 0)), none⟩, []⟩,
  ⟨⟨some 8, Op.load 3 (Operand.tmp 7), none⟩, []⟩,
  ⟨⟨some 9, Op.binOp BinOp.lss 3 (Operand.tmp 6) (Operand.tmp 8) 3, none⟩, []⟩,
  ⟨⟨some 10, Op.move (Operand.tmp 9), none⟩, []⟩,
  ⟨⟨some 11, Op.indexAddr 83 (Operand.tmp 2) (Operand.const (Value.int IntKind.i64 0)), some (10, false)⟩, []⟩,
  ⟨⟨some 12, Op.load 3 (Operand.tmp 11), some (10, false)⟩, []⟩,
  ⟨⟨some 13, Op.indexAddr 83 (Operand.tmp 3) (Operand.const (Value.int IntKind.i64 0)), some (10, false)⟩, []⟩,
  ⟨⟨some 14, Op.load 3 (Operand.tmp 13), some (10, false)⟩, []⟩,
  ⟨⟨some 15, Op.binOp BinOp.eql 3 (Operand.tmp 12) (Operand.tmp 14) 3, some (10, false)⟩, []⟩,
  ⟨⟨some 16, Op.move (Operand.tmp 15), some (10, false)⟩, []⟩,
  ⟨⟨some 17, Op.indexAddr 83 (Operand.tmp 2) (Operand.const (Value.int IntKind.i64 1)), some (16, true)⟩, []⟩,
  ⟨⟨some 18, Op.load 3 (Operand.tmp 17), some (16, true)⟩, []⟩,
  ⟨⟨some 19, Op.indexAddr 83 (Operand.tmp 3) (Operand.const (Value.int IntKind.i64 1)), some (16, true)⟩, []⟩,
  ⟨⟨some 20, Op.load 3 (Operand.tmp 19), some (16, true)⟩, []⟩,
  ⟨⟨some 21, Op.binOp BinOp.lss 3 (Operand.tmp 18) (Operand.tmp 20) 3, some (16, true)⟩, []⟩,
  ⟨⟨some 22, Op.pick (Operand.tmp 16) (Operand.tmp 21) (Operand.const (Value.bool false)), some (10, false)⟩, []⟩,
  ⟨⟨some 23, Op.pick (Operand.tmp 10) (Operand.const (Value.bool true)) (Operand.tmp 22), none⟩, []⟩,
  ⟨⟨some 4, Op.assign (Operand.tmp 23), none⟩, []⟩]) .ret))
theorem sl123 : slim Tryz.f123.ntmps ords123 (Tryz.f123.body.getD .skip) = some cd123 := by kernel_rfl
theorem in123 {args : List Value} {H : AH} {R : Value → AH → Prop} (hl : args.length = 2) (h : ∀ (Q : Exit → Sl → AH → Prop), (∀ e s H, endA Tryz.prog [ResultVar.tmp 4] R e s H → Q e s H) → wpC Tryz.prog cd123 Q (enterA args) H) : ACalls Tryz.prog 123 args H R :=
  ACalls.intro (by kernel_rfl) Tryz.func123 rfl (by kernel_rfl) sl123 hl (of_decide_eq_true (by kernel_rfl)) (by kernel_rfl) h
def ords130 : List (Nat × List (Nat × Bool)) := []
def cd130 : Cd := (.seq (.reg [⟨⟨some 4, Op.assign (Operand.const (Value.int IntKind.i64 0)), none⟩, []⟩]) (.seq (.reg [⟨⟨some 7, Op.move (Operand.tmp 0), none⟩, []⟩,
  ⟨⟨some 8, Op.call { callee := (Callee.value (Operand.func 167)), args := #[(Operand.tmp 7)], argTypes := #[3] }, none⟩, []⟩,
  ⟨⟨some 5, Op.assign (Operand.tmp 8), none⟩, []⟩]) (.seq (.reg [⟨⟨some 9, Op.move (Operand.tmp 1), none⟩, []⟩,
  ⟨⟨some 10, Op.call { callee := (Callee.value (Operand.func 167)), args := #[(Operand.tmp 9)], argTypes := #[3] }, none⟩, []⟩,
  ⟨⟨some 6, Op.assign (Operand.tmp 10), none⟩, []⟩]) (.seq (.seq (.reg [⟨⟨some 11, Op.move (Operand.tmp 5), none⟩, []⟩]) (.cond (Operand.tmp 11) (.seq (.seq (.reg [⟨⟨some 12, Op.move (Operand.tmp 6), none⟩, []⟩]) (.cond (Operand.tmp 12) (.seq (.reg [⟨⟨some 4, Op.assign (Operand.const (Value.int IntKind.i64 0)), none⟩, []⟩]) .ret) .skip)) (.seq (.reg [⟨⟨some 4, Op.assign (Operand.const (Value.int IntKind.i64 (-1))), none⟩, []⟩]) .ret)) .skip)) (.seq (.seq (.reg [⟨⟨some 13, Op.move (Operand.tmp 6), none⟩, []⟩]) (.cond (Operand.tmp 13) (.seq (.reg [⟨⟨some 4, Op.assign (Operand.const (Value.int IntKind.i64 1)), none⟩, []⟩]) .ret) .skip)) (.seq (.seq (.reg [⟨⟨some 14, Op.move (Operand.tmp 0), none⟩, []⟩,
  ⟨⟨some 15, Op.move (Operand.tmp 1), none⟩, []⟩,
  ⟨⟨some 16, Op.binOp BinOp.lss 3 (Operand.tmp 14) (Operand.tmp 15) 3, none⟩, []⟩]) (.cond (Operand.tmp 16) (.seq (.reg [⟨⟨some 4, Op.assign (Operand.const (Value.int IntKind.i64 (-1))), none⟩, []⟩]) .ret) .skip)) (.seq (.seq (.reg [⟨⟨some 17, Op.move (Operand.tmp 0), none⟩, []⟩,
  ⟨⟨some 18, Op.move (Operand.tmp 1), none⟩, []⟩,
  ⟨⟨some 19, Op.binOp BinOp.gtr 3 (Operand.tmp 17) (Operand.tmp 18) 3, none⟩, []⟩]) (.cond (Operand.tmp 19) (.seq (.reg [⟨⟨some 4, Op.assign (Operand.const (Value.int IntKind.i64 1)), none⟩, []⟩]) .ret) .skip)) (.seq (.reg [⟨⟨some 4, Op.assign (Operand.const (Value.int IntKind.i64 0)), none⟩, []⟩]) .ret))))))))
theorem sl130 : slim Tryz.f130.ntmps ords130 (Tryz.f130.body.getD .skip) = some cd130 := by kernel_rfl
theorem in130 {args : List Value} {H : AH} {R : Value → AH → Prop} (hl : args.length = 2) (h : ∀ (Q : Exit → Sl → AH → Prop), (∀ e s H, endA Tryz.prog [ResultVar.tmp 4] R e s H → Q e s H) → wpC Tryz.prog cd130 Q (enterA args) H) : ACalls Tryz.prog 130 args H R :=
  ACalls.intro (by kernel_rfl) Tryz.func130 rfl (by kernel_rfl) sl130 hl (of_decide_eq_true (by kernel_rfl)) (by kernel_rfl) h
def ords156 : List (Nat × List (Nat × Bool)) := []
def cd156 : Cd := (.seq (.reg [⟨⟨some 2, Op.assign (Operand.const (Value.int IntKind.i64 0)), none⟩, []⟩]) (.seq (.reg [⟨⟨some 3, Op.assign (Operand.const (Value.int IntKind.i64 0)), none⟩, []⟩]) (.seq (.seq (.reg [⟨⟨some 6, Op.move (Operand.tmp 0), none⟩, []⟩,
  ⟨⟨some 7, Op.call { callee := (Callee.builtin Builtin.len), args := #[(Operand.tmp 6)], argTypes := #[38] }, none⟩, []⟩,
  ⟨⟨some 8, Op.move (Operand.const (Value.int IntKind.i64 0)), none⟩, []⟩]) (.block 0 (.loop (.seq (.reg [⟨⟨some 9, Op.binOp BinOp.lss 3 (Operand.tmp 8) (Operand.tmp 7) 3, none⟩, []⟩]) (.seq (.cond (Operand.tmp 9) .skip (.exit 0)) (.seq (.block 1 (.seq (.reg [⟨⟨some 10, Op.indexAddr 38 (Operand.tmp 6) (Operand.tmp 8), none⟩, []⟩,
  ⟨⟨some 11, Op.load 3 (Operand.tmp 10), none⟩, []⟩,
  ⟨⟨some 5, Op.assign (Operand.tmp 11), none⟩, []⟩]) (.seq (.reg [⟨⟨some 12, Op.move (Operand.tmp 5), none⟩, []⟩,
  ⟨⟨some 13, Op.move (Operand.tmp 3), none⟩, []⟩,
  ⟨⟨some 14, Op.binOp BinOp.neq 3 (Operand.tmp 12) (Operand.tmp 13) 3, none⟩, []⟩]) (.cond (Operand.tmp 14) (.seq (.reg [⟨⟨some 15, Op.move (Operand.tmp 5), none⟩, []⟩,
  ⟨⟨some 2, Op.assign (Operand.tmp 15), none⟩, []⟩]) .ret) .skip)))) (.reg [⟨⟨some 16, Op.binOp BinOp.add 3 (Operand.tmp 8) (Operand.const (Value.int IntKind.i64 1)) 3, none⟩, []⟩,
  ⟨⟨some 8, Op.move (Operand.tmp 16), none⟩, []⟩]))))))) (.seq (.reg [⟨⟨some 17, Op.move (Operand.tmp 3), none⟩, []⟩,
  ⟨⟨some 2, Op.assign (Operand.tmp 17), none⟩, []⟩]) .ret))))
theorem sl156 : slim Tryz.f156.ntmps ords156 (Tryz.f156.body.getD .skip) = some cd156 := by kernel_rfl
theorem in156 {args : List Value} {H : AH} {R : Value → AH → Prop} (hl : args.length = 1) (h : ∀ (Q : Exit → Sl → AH → Prop), (∀ e s H, endA Tryz.prog [ResultVar.tmp 2] R e s H → Q e s H) → wpC Tryz.prog cd156 Q (enterA args) H) : ACalls Tryz.prog 156 args H R :=
  ACalls.intro (by kernel_rfl) Tryz.func156 rfl (by kernel_rfl) sl156 hl (of_decide_eq_true (by kernel_rfl)) (by kernel_rfl) h
def ords127 : List (Nat × List (Nat × Bool)) := [(1, [(0, false), (1, false), (2, false), (3, false), (5, false), (6, false), (7, false), (8, false), (4, true), (9, true), (10, false), (11, true), (12, false)])]
def cd127 : Cd := (.seq (.reg [⟨⟨some 2, Op.box 83 (Operand.tmp 0), none⟩, []⟩,
  ⟨⟨some 3, Op.box 83 (Operand.tmp 1), none⟩, []⟩,
  ⟨⟨some 4, Op.assign (Operand.const (Value.int IntKind.i64 0)), none⟩, []⟩]) (.seq (.reg [⟨⟨some 5, Op.indexAddr 83 (Operand.tmp 2) (Operand.const (Value.int IntKind.i64 0)), none⟩, []⟩,
  ⟨⟨some 6, Op.load 3 (Operand.tmp 5), none⟩, []⟩,
  ⟨⟨some 7, Op.indexAddr 83 (Operand.tmp 3) (Operand.const (Value.int IntKind.i64 0)), none⟩, []⟩,
  ⟨⟨some 8, Op.load 3 (Operand.tmp 7), none⟩, []⟩,
  ⟨⟨some 10, Op.indexAddr 83 (Operand.tmp 2) (Operand.const (Value.int IntKind.i64 1)), none⟩, []⟩,
  ⟨⟨some 11, Op.load 3 (Operand.tmp 10), none⟩, []⟩,
  ⟨⟨some 12, Op.indexAddr 83 (Operand.tmp 3) (Operand.const (Value.int IntKind.i64 1)), none⟩, []⟩,
  ⟨⟨some 13, Op.load 3 (Operand.tmp 12), none⟩, []⟩,
  ⟨⟨some 9, Op.call { callee := (Callee.value (Operand.func 130)), args := #[(Operand.tmp 6), (Operand.tmp 8)], argTypes := #[3, 3] }, none⟩, [⟨some 13, Op.load 3 (Operand.tmp 12), none⟩, ⟨some 11, Op.load 3 (Operand.tmp 10), none⟩]⟩,
  ⟨⟨some 14, Op.call { callee := (Callee.value (Operand.func 130)), args := #[(Operand.tmp 11), (Operand.tmp 13)], argTypes := #[3, 3] }, none⟩, []⟩,
  ⟨⟨some 15, Op.buildSlice 38 2 #[(0, (Operand.tmp 9)), (1, (Operand.tmp 14))], none⟩, []⟩,
  ⟨⟨some 16, Op.call { callee := (Callee.value (Operand.func 156)), args := #[(Operand.tmp 15)], argTypes := #[38] }, none⟩, []⟩,
  ⟨⟨some 4, Op.assign (Operand.tmp 16), none⟩, []⟩]) .ret))
theorem sl127 : slim Tryz.f127.ntmps ords127 (Tryz.f127.body.getD .skip) = some cd127 := by kernel_rfl
theorem in127 {args : List Value} {H : AH} {R : Value → AH → Prop} (hl : args.length = 2) (h : ∀ (Q : Exit → Sl → AH → Prop), (∀ e s H, endA Tryz.prog [ResultVar.tmp 4] R e s H → Q e s H) → wpC Tryz.prog cd127 Q (enterA args) H) : ACalls Tryz.prog 127 args H R :=
  ACalls.intro (by kernel_rfl) Tryz.func127 rfl (by kernel_rfl) sl127 hl (of_decide_eq_true (by kernel_rfl)) (by kernel_rfl) h
def ords84 : List (Nat × List (Nat × Bool)) := [(5, [(0, false), (1, false), (2, false), (3, false), (4, true), (5, false), (6, false), (7, false), (8, false), (9, false), (10, false), (11, true), (12, false), (13, false), (14, false), (15, false), (16, false), (17, false), (18, false), (19, false), (20, false), (21, false), (22, false), (23, false), (24, false), (25, false), (26, false), (27, false), (28, false), (29, false), (30, false), (31, true), (32, false), (33, false), (34, false)])]
def cd84 : Cd := (.seq (.reg [⟨⟨some 4, Op.assign (Operand.const (Value.bool false)), none⟩, []⟩]) (.seq (.seq (.reg [⟨⟨some 5, Op.assign (Operand.const (Value.int IntKind.i64 0)), none⟩, []⟩]) (.block 0 (.loop (.seq (.seq (.reg [⟨⟨some 7, Op.move (Operand.tmp 5), none⟩, []⟩,
  ⟨⟨some 8, Op.move (Operand.tmp 0), none⟩, []⟩,
  ⟨⟨some 9, Op.call { callee := (Callee.builtin Builtin.len), args := #[(Operand.tmp 8)], argTypes := #[22] }, none⟩, []⟩,
  ⟨⟨some 10, Op.binOp BinOp.lss 3 (Operand.tmp 7) (Operand.tmp 9) 3, none⟩, []⟩]) (.cond (Operand.tmp 10) .skip (.exit 0))) (.seq (.block 1 (.seq (.reg [⟨⟨some 13, Op.move (Operand.tmp 0), none⟩, []⟩,
  ⟨⟨some 14, Op.move (Operand.tmp 5), none⟩, []⟩,
  ⟨⟨some 15, Op.indexAddr 22 (Operand.tmp 13) (Operand.tmp 14), none⟩, []⟩,
  ⟨⟨some 16, Op.load 83 (Operand.tmp 15), none⟩, []⟩,
  ⟨⟨some 6, Op.alloc 83, none⟩, []⟩,
  ⟨⟨none, Op.store 83 (Operand.tmp 6) (Operand.tmp 16), none⟩, []⟩]) (.seq (.reg [⟨⟨some 17, Op.indexAddr 83 (Operand.tmp 6) (Operand.const (Value.int IntKind.i64 0)), none⟩, []⟩,
  ⟨⟨some 18, Op.load 3 (Operand.tmp 17), none⟩, []⟩,
  ⟨⟨some 19, Op.move (Operand.tmp 1), none⟩, []⟩,
  ⟨⟨some 20, Op.binOp BinOp.sub 3 (Operand.tmp 19) (Operand.const (Value.int IntKind.i64 1)) 3, none⟩, []⟩,
  ⟨⟨some 21, Op.call { callee := (Callee.value (Operand.func 83)), args := #[(Operand.tmp 18), (Operand.const (Value.int IntKind.i64 0)), (Operand.tmp 20)], argTypes := #[3, 3, 3] }, none⟩, []⟩,
  ⟨⟨some 22, Op.unOp UnOp.not 4 (Operand.tmp 21), none⟩, []⟩,
  ⟨⟨some 23, Op.move (Operand.tmp 22), none⟩, []⟩,
  ⟨⟨some 24, Op.indexAddr 83 (Operand.tmp 6) (Operand.const (Value.int IntKind.i64 1)), some (23, false)⟩, []⟩,
  ⟨⟨some 25, Op.load 3 (Operand.tmp 24), some (23, false)⟩, []⟩,
  ⟨⟨some 26, Op.move (Operand.tmp 1), some (23, false)⟩, []⟩,
  ⟨⟨some 27, Op.binOp BinOp.sub 3 (Operand.tmp 26) (Operand.const (Value.int IntKind.i64 1)) 3, some (23, false)⟩, []⟩,
  ⟨⟨some 28, Op.call { callee := (Callee.value (Operand.func 83)), args := #[(Operand.tmp 25), (Operand.const (Value.int IntKind.i64 0)), (Operand.tmp 27)], argTypes := #[3, 3, 3] }, some (23, false)⟩, []⟩,
  ⟨⟨some 29, Op.unOp UnOp.not 4 (Operand.tmp 28), some (23, false)⟩, []⟩,
  ⟨⟨some 30, Op.pick (Operand.tmp 23) (Operand.const (Value.bool true)) (Operand.tmp 29), none⟩, []⟩,
  ⟨⟨some 31, Op.move (Operand.tmp 30), none⟩, []⟩,
  ⟨⟨some 32, Op.indexAddr 83 (Operand.tmp 6) (Operand.const (Value.int IntKind.i64 0)), some (31, false)⟩, []⟩,
  ⟨⟨some 33, Op.load 3 (Operand.tmp 32), some (31, false)⟩, []⟩,
  ⟨⟨some 34, Op.indexAddr 83 (Operand.tmp 6) (Operand.const (Value.int IntKind.i64 1)), some (31, false)⟩, []⟩,
  ⟨⟨some 35, Op.load 3 (Operand.tmp 34), some (31, false)⟩, []⟩,
  ⟨⟨some 36, Op.binOp BinOp.geq 3 (Operand.tmp 33) (Operand.tmp 35) 3, some (31, false)⟩, []⟩,
  ⟨⟨some 37, Op.pick (Operand.tmp 31) (Operand.const (Value.bool true)) (Operand.tmp 36), none⟩, []⟩,
  ⟨⟨some 38, Op.move (Operand.tmp 37), none⟩, []⟩,
  ⟨⟨some 39, Op.move (Operand.tmp 5), some (38, false)⟩, []⟩,
  ⟨⟨some 40, Op.binOp BinOp.gtr 3 (Operand.tmp 39) (Operand.const (Value.int IntKind.i64 0)) 3, some (38, false)⟩, []⟩,
  ⟨⟨some 41, Op.move (Operand.tmp 40), some (38, false)⟩, []⟩,
  ⟨⟨some 42, Op.move (Operand.tmp 0), some (41, true)⟩, []⟩,
  ⟨⟨some 43, Op.move (Operand.tmp 5), some (41, true)⟩, []⟩,
  ⟨⟨some 44, Op.binOp BinOp.sub 3 (Operand.tmp 43) (Operand.const (Value.int IntKind.i64 1)) 3, some (41, true)⟩, []⟩,
  ⟨⟨some 45, Op.indexAddr 22 (Operand.tmp 42) (Operand.tmp 44), some (41, true)⟩, []⟩,
  ⟨⟨some 46, Op.load 83 (Operand.tmp 45), some (41, true)⟩, []⟩,
  ⟨⟨some 47, Op.load 83 (Operand.tmp 6), some (41, true)⟩, []⟩,
  ⟨⟨some 48, Op.call { callee := (Callee.value (Operand.func 123)), args := #[(Operand.tmp 46), (Operand.tmp 47)], argTypes := #[83, 83] }, some (41, true)⟩, []⟩,
  ⟨⟨some 49, Op.unOp UnOp.not 4 (Operand.tmp 48), some (41, true)⟩, []⟩,
  ⟨⟨some 50, Op.pick (Operand.tmp 41) (Operand.tmp 49) (Operand.const (Value.bool false)), some (38, false)⟩, []⟩,
  ⟨⟨some 51, Op.pick (Operand.tmp 38) (Operand.const (Value.bool true)) (Operand.tmp 50), none⟩, []⟩]) (.cond (Operand.tmp 51) (.seq (.reg [⟨⟨some 4, Op.assign (Operand.const (Value.bool false)), none⟩, []⟩]) .ret) .skip)))) (.reg [⟨⟨some 11, Op.move (Operand.tmp 5), none⟩, []⟩,
  ⟨⟨some 12, Op.binOp BinOp.add 3 (Operand.tmp 11) (Operand.const (Value.int IntKind.i64 1)) 3, none⟩, []⟩,
  ⟨⟨some 5, Op.assign (Operand.tmp 12), none⟩, []⟩])))))) (.seq (.reg [⟨⟨some 4, Op.assign (Operand.const (Value.bool true)), none⟩, []⟩]) .ret)))
theorem sl84 : slim Tryz.f84.ntmps ords84 (Tryz.f84.body.getD .skip) = some cd84 := by kernel_rfl
theorem in84 {args : List Value} {H : AH} {R : Value → AH → Prop} (hl : args.length = 2) (h : ∀ (Q : Exit → Sl → AH → Prop), (∀ e s H, endA Tryz.prog [ResultVar.tmp 4] R e s H → Q e s H) → wpC Tryz.prog cd84 Q (enterA args) H) : ACalls Tryz.prog 84 args H R :=
  ACalls.intro (by kernel_rfl) Tryz.func84 rfl (by kernel_rfl) sl84 hl (of_decide_eq_true (by kernel_rfl)) (by kernel_rfl) h
def ords89 : List (Nat × List (Nat × Bool)) := [(4, [(0, false), (1, false), (2, false), (3, false), (4, false), (5, false), (6, false), (7, false), (8, false), (9, false), (10, false), (11, false), (12, false), (13, false), (14, false), (15, false), (16, false), (17, false), (18, false), (19, false), (20, false), (21, false), (22, false), (23, false), (24, false), (25, false), (26, true), (27, false), (28, false), (29, false)])]
def cd89 : Cd := (.seq (.reg [⟨⟨some 4, Op.assign (Operand.const (Value.bool false)), none⟩, []⟩]) (.seq (.seq (.reg [⟨⟨some 7, Op.move (Operand.tmp 0), none⟩, []⟩,
  ⟨⟨some 8, Op.call { callee := (Callee.builtin Builtin.len), args := #[(Operand.tmp 7)], argTypes := #[22] }, none⟩, []⟩,
  ⟨⟨some 9, Op.move (Operand.const (Value.int IntKind.i64 0)), none⟩, []⟩]) (.block 0 (.loop (.seq (.reg [⟨⟨some 10, Op.binOp BinOp.lss 3 (Operand.tmp 9) (Operand.tmp 8) 3, none⟩, []⟩]) (.seq (.cond (Operand.tmp 10) .skip (.exit 0)) (.seq (.block 1 (.seq (.reg [⟨⟨some 11, Op.move (Operand.tmp 9), none⟩, []⟩,
  ⟨⟨some 12, Op.indexAddr 22 (Operand.tmp 7) (Operand.tmp 9), none⟩, []⟩,
  ⟨⟨some 13, Op.load 83 (Operand.tmp 12), none⟩, []⟩,
  ⟨⟨some 6, Op.alloc 83, none⟩, []⟩,
  ⟨⟨some 5, Op.assign (Operand.tmp 11), none⟩, []⟩,
  ⟨⟨none, Op.store 83 (Operand.tmp 6) (Operand.tmp 13), none⟩, []⟩]) (.seq (.reg [⟨⟨some 14, Op.indexAddr 83 (Operand.tmp 6) (Operand.const (Value.int IntKind.i64 0)), none⟩, []⟩,
  ⟨⟨some 15, Op.load 3 (Operand.tmp 14), none⟩, []⟩,
  ⟨⟨some 16, Op.binOp BinOp.lss 3 (Operand.tmp 15) (Operand.const (Value.int IntKind.i64 0)) 3, none⟩, []⟩,
  ⟨⟨some 17, Op.move (Operand.tmp 16), none⟩, []⟩,
  ⟨⟨some 18, Op.indexAddr 83 (Operand.tmp 6) (Operand.const (Value.int IntKind.i64 0)), some (17, false)⟩, []⟩,
  ⟨⟨some 19, Op.load 3 (Operand.tmp 18), some (17, false)⟩, []⟩,
  ⟨⟨some 20, Op.indexAddr 83 (Operand.tmp 6) (Operand.const (Value.int IntKind.i64 1)), some (17, false)⟩, []⟩,
  ⟨⟨some 21, Op.load 3 (Operand.tmp 20), some (17, false)⟩, []⟩,
  ⟨⟨some 22, Op.binOp BinOp.geq 3 (Operand.tmp 19) (Operand.tmp 21) 3, some (17, false)⟩, []⟩,
  ⟨⟨some 23, Op.pick (Operand.tmp 17) (Operand.const (Value.bool true)) (Operand.tmp 22), none⟩, []⟩,
  ⟨⟨some 24, Op.move (Operand.tmp 23), none⟩, []⟩,
  ⟨⟨some 25, Op.indexAddr 83 (Operand.tmp 6) (Operand.const (Value.int IntKind.i64 1)), some (24, false)⟩, []⟩,
  ⟨⟨some 26, Op.load 3 (Operand.tmp 25), some (24, false)⟩, []⟩,
  ⟨⟨some 27, Op.move (Operand.tmp 1), some (24, false)⟩, []⟩,
  ⟨⟨some 28, Op.binOp BinOp.geq 3 (Operand.tmp 26) (Operand.tmp 27) 3, some (24, false)⟩, []⟩,
  ⟨⟨some 29, Op.pick (Operand.tmp 24) (Operand.const (Value.bool true)) (Operand.tmp 28), none⟩, []⟩,
  ⟨⟨some 30, Op.move (Operand.tmp 29), none⟩, []⟩,
  ⟨⟨some 31, Op.move (Operand.tmp 5), some (30, false)⟩, []⟩,
  ⟨⟨some 32, Op.binOp BinOp.gtr 3 (Operand.tmp 31) (Operand.const (Value.int IntKind.i64 0)) 3, some (30, false)⟩, []⟩,
  ⟨⟨some 33, Op.move (Operand.tmp 32), some (30, false)⟩, []⟩,
  ⟨⟨some 34, Op.move (Operand.tmp 0), some (33, true)⟩, []⟩,
  ⟨⟨some 35, Op.move (Operand.tmp 5), some (33, true)⟩, []⟩,
  ⟨⟨some 36, Op.binOp BinOp.sub 3 (Operand.tmp 35) (Operand.const (Value.int IntKind.i64 1)) 3, some (33, true)⟩, []⟩,
  ⟨⟨some 37, Op.indexAddr 22 (Operand.tmp 34) (Operand.tmp 36), some (33, true)⟩, []⟩,
  ⟨⟨some 38, Op.load 83 (Operand.tmp 37), some (33, true)⟩, []⟩,
  ⟨⟨some 39, Op.load 83 (Operand.tmp 6), some (33, true)⟩, []⟩,
  ⟨⟨some 40, Op.call { callee := (Callee.value (Operand.func 127)), args := #[(Operand.tmp 38), (Operand.tmp 39)], argTypes := #[83, 83] }, some (33, true)⟩, []⟩,
  ⟨⟨some 41, Op.binOp BinOp.geq 3 (Operand.tmp 40) (Operand.const (Value.int IntKind.i64 0)) 3, some (33, true)⟩, []⟩,
  ⟨⟨some 42, Op.pick (Operand.tmp 33) (Operand.tmp 41) (Operand.const (Value.bool false)), some (30, false)⟩, []⟩,
  ⟨⟨some 43, Op.pick (Operand.tmp 30) (Operand.const (Value.bool true)) (Operand.tmp 42), none⟩, []⟩]) (.cond (Operand.tmp 43) (.seq (.reg [⟨⟨some 4, Op.assign (Operand.const (Value.bool false)), none⟩, []⟩]) .ret) .skip)))) (.reg [⟨⟨some 44, Op.binOp BinOp.add 3 (Operand.tmp 9) (Operand.const (Value.int IntKind.i64 1)) 3, none⟩, []⟩,
  ⟨⟨some 9, Op.move (Operand.tmp 44), none⟩, []⟩]))))))) (.seq (.reg [⟨⟨some 4, Op.assign (Operand.const (Value.bool true)), none⟩, []⟩]) .ret)))
theorem sl89 : slim Tryz.f89.ntmps ords89 (Tryz.f89.body.getD .skip) = some cd89 := by kernel_rfl
theorem in89 {args : List Value} {H : AH} {R : Value → AH → Prop} (hl : args.length = 2) (h : ∀ (Q : Exit → Sl → AH → Prop), (∀ e s H, endA Tryz.prog [ResultVar.tmp 4] R e s H → Q e s H) → wpC Tryz.prog cd89 Q (enterA args) H) : ACalls Tryz.prog 89 args H R :=
  ACalls.intro (by kernel_rfl) Tryz.func89 rfl (by kernel_rfl) sl89 hl (of_decide_eq_true (by kernel_rfl)) (by kernel_rfl) h
def ords36 : List (Nat × List (Nat × Bool)) := []
def cd36 : Cd := (.seq (.reg [⟨⟨some 1, Op.box 31 (Operand.tmp 0), none⟩, []⟩,
  ⟨⟨some 2, Op.assign (Operand.const (Value.bool false)), none⟩, []⟩]) (.seq (.reg [⟨⟨some 3, Op.fieldAddr 31 (Operand.tmp 1) 0, none⟩, []⟩,
  ⟨⟨some 4, Op.load 3 (Operand.tmp 3), none⟩, []⟩,
  ⟨⟨some 5, Op.call { callee := (Callee.value (Operand.func 83)), args := #[(Operand.tmp 4), (Operand.const (Value.int IntKind.i64 0)), (Operand.const (Value.int IntKind.i64 8))], argTypes := #[3, 3, 3] }, none⟩, []⟩,
  ⟨⟨some 6, Op.move (Operand.tmp 5), none⟩, []⟩,
  ⟨⟨some 7, Op.fieldAddr 31 (Operand.tmp 1) 1, some (6, true)⟩, []⟩,
  ⟨⟨some 8, Op.load 22 (Operand.tmp 7), some (6, true)⟩, []⟩,
  ⟨⟨some 9, Op.fieldAddr 31 (Operand.tmp 1) 0, some (6, true)⟩, []⟩,
  ⟨⟨some 10, Op.load 3 (Operand.tmp 9), some (6, true)⟩, []⟩,
  ⟨⟨some 11, Op.call { callee := (Callee.value (Operand.func 84)), args := #[(Operand.tmp 8), (Operand.tmp 10)], argTypes := #[22, 3] }, some (6, true)⟩, []⟩,
  ⟨⟨some 12, Op.pick (Operand.tmp 6) (Operand.tmp 11) (Operand.const (Value.bool false)), none⟩, []⟩,
  ⟨⟨some 2, Op.assign (Operand.tmp 12), none⟩, []⟩]) .ret))
theorem sl36 : slim Tryz.f36.ntmps ords36 (Tryz.f36.body.getD .skip) = some cd36 := by kernel_rfl
theorem in36 {args : List Value} {H : AH} {R : Value → AH → Prop} (hl : args.length = 1) (h : ∀ (Q : Exit → Sl → AH → Prop), (∀ e s H, endA Tryz.prog [ResultVar.tmp 2] R e s H → Q e s H) → wpC Tryz.prog cd36 Q (enterA args) H) : ACalls Tryz.prog 36 args H R :=
  ACalls.intro (by kernel_rfl) Tryz.func36 rfl (by kernel_rfl) sl36 hl (of_decide_eq_true (by kernel_rfl)) (by kernel_rfl) h
def ords39 : List (Nat × List (Nat × Bool)) := []
def cd39 : Cd := (.seq (.reg [⟨⟨some 1, Op.box 31 (Operand.tmp 0), none⟩, []⟩,
  ⟨⟨some 2, Op.assign (Operand.const (Value.bool false)), none⟩, []⟩]) (.seq (.reg [⟨⟨some 3, Op.fieldAddr 31 (Operand.tmp 1) 0, none⟩, []⟩,
  ⟨⟨some 4, Op.load 3 (Operand.tmp 3), none⟩, []⟩,
  ⟨⟨some 5, Op.call { callee := (Callee.value (Operand.func 88)), args := #[(Operand.tmp 4), (Operand.const (Value.int IntKind.i64 0)), (Operand.const (Value.int IntKind.i64 8))], argTypes := #[3, 3, 3] }, none⟩, []⟩,
  ⟨⟨some 6, Op.move (Operand.tmp 5), none⟩, []⟩,
  ⟨⟨some 7, Op.fieldAddr 31 (Operand.tmp 1) 1, some (6, true)⟩, []⟩,
  ⟨⟨some 8, Op.load 22 (Operand.tmp 7), some (6, true)⟩, []⟩,
  ⟨⟨some 9, Op.fieldAddr 31 (Operand.tmp 1) 0, some (6, true)⟩, []⟩,
  ⟨⟨some 10, Op.load 3 (Operand.tmp 9), some (6, true)⟩, []⟩,
  ⟨⟨some 11, Op.call { callee := (Callee.value (Operand.func 89)), args := #[(Operand.tmp 8), (Operand.tmp 10)], argTypes := #[22, 3] }, some (6, true)⟩, []⟩,
  ⟨⟨some 12, Op.pick (Operand.tmp 6) (Operand.tmp 11) (Operand.const (Value.bool false)), none⟩, []⟩,
  ⟨⟨some 2, Op.assign (Operand.tmp 12), none⟩, []⟩]) .ret))
theorem sl39 : slim Tryz.f39.ntmps ords39 (Tryz.f39.body.getD .skip) = some cd39 := by kernel_rfl
theorem in39 {args : List Value} {H : AH} {R : Value → AH → Prop} (hl : args.length = 1) (h : ∀ (Q : Exit → Sl → AH → Prop), (∀ e s H, endA Tryz.prog [ResultVar.tmp 2] R e s H → Q e s H) → wpC Tryz.prog cd39 Q (enterA args) H) : ACalls Tryz.prog 39 args H R :=
  ACalls.intro (by kernel_rfl) Tryz.func39 rfl (by kernel_rfl) sl39 hl (of_decide_eq_true (by kernel_rfl)) (by kernel_rfl) h
end Go.Proofs.YtlfongfhbkefmaaGreat.Ai
namespace Go.Proofs.YtlfongfhbkefmaaGreat.Ai
open Go Go.RowKit
set_option linter.unusedVariables false
set_option linter.unusedSimpArgs false
/-- pairs in order -/
def pairLt (p q : Int × Int) : Prop := p.1 < q.1 ∨ p.1 = q.1 ∧ p.2 < q.2
instance (p q : Int × Int) : Decidable (pairLt p q) := by unfold pairLt; infer_instance
def prOk (n : Int) (ps : List (Int × Int)) (i : Nat) : Prop :=
  0 ≤ (ps.getD i (0, 0)).1 ∧ (ps.getD i (0, 0)).1 < (ps.getD i (0, 0)).2 ∧ (ps.getD i (0, 0)).2 < n ∧ (0 < i → pairLt (ps.getD (i - 1) (0, 0)) (ps.getD i (0, 0)))
instance (n : Int) (ps : List (Int × Int)) (i : Nat) : Decidable (prOk n ps i) := by unfold prOk; infer_instance
def PrU (n : Int) (ps : List (Int × Int)) (k : Nat) : Prop := ∀ i, i < k → prOk n ps i
instance (n : Int) (ps : List (Int × Int)) (k : Nat) : Decidable (PrU n ps k) := by unfold PrU; infer_instance
def Grd (n : Int) (ps : List (Int × Int)) : Prop := (0 ≤ n ∧ n ≤ 8) ∧ PrU n ps ps.length
instance (n : Int) (ps : List (Int × Int)) : Decidable (Grd n ps) := by unfold Grd; infer_instance
theorem PrU.zero (n : Int) (ps : List (Int × Int)) : PrU n ps 0 := fun i h => absurd h (Nat.not_lt_zero i)
theorem PrU.succ {n : Int} {ps : List (Int × Int)} {k : Nat} (h : PrU n ps k) (h2 : prOk n ps k) : PrU n ps (k + 1) := by
  intro i hi
  rcases Nat.lt_succ_iff_lt_or_eq.1 hi with g | g
  · exact h i g
  · rw [g]; exact h2
theorem PrU.no {n : Int} {ps : List (Int × Int)} {k i : Nat} (hi : i < k) (h : ¬ prOk n ps i) : ¬ PrU n ps k := fun g => h (g i hi)
theorem l2Edge_c (p q : Int × Int) (H : AH) : ACalls Tryz.prog 123 [.agg (List.toArray [.int .i64 p.1, .int .i64 p.2]), .agg (List.toArray [.int .i64 q.1, .int .i64 q.2])] H fun r H' => r = .bool (decide (pairLt p q)) ∧ H <+: H' := by
  refine in123 rfl ?_
  intro Q hQ
  simp (maxSteps := 1000000) (disch := omega) only [cd123, box_a2, S, S1, S2, S3, S4, S5, ST, eq_self, reduceIte, reduceCtorEq, Nat.reduceEqDiff, Nat.reduceAdd]
  generalize hA : H ++ [AObj.cells [.int .i64 p.1, .int .i64 p.2] 83 false] = A
  have pA : H <+: A := by rw [← hA]; exact List.prefix_append _ _
  have a0 : A[H.length]? = some (.cells [.int .i64 p.1, .int .i64 p.2] 83 false) := by rw [← hA]; exact at_new ..
  generalize hB : A ++ [AObj.cells [.int .i64 q.1, .int .i64 q.2] 83 false] = B
  have pB : A <+: B := by rw [← hB]; exact List.prefix_append _ _
  have b0 := pre_at pB a0
  have b1 : B[A.length]? = some (.cells [.int .i64 q.1, .int .i64 q.2] 83 false) := by rw [← hB]; exact at_new ..
  have pHB := pA.trans pB
  simp (maxSteps := 1000000) (disch := omega) only [cell_of b0, cell_of b1, S, S1, S2, S3, S4, S5, ST, eq_self, reduceIte, reduceCtorEq, Nat.reduceEqDiff, Nat.reduceAdd]
  refine brD.intro (fun e1 => ?_) (fun e1 => ?_) <;> simp (maxSteps := 1000000) (disch := omega) only [e1, cell_of b0, cell_of b1, S, S1, S2, S3, S4, S5, ST, eq_self, reduceIte, reduceCtorEq, Nat.reduceEqDiff, Nat.reduceAdd]
  · refine hQ _ _ _ ?_
    simp (maxSteps := 1000000) (disch := omega) only [e1, S, S1, S2, S3, S4, S5, ST, eq_self, reduceIte, reduceCtorEq, Nat.reduceEqDiff, Nat.reduceAdd]
    exact ⟨by rw [decide_eq_true (show pairLt p q from .inl e1)], pHB⟩
  · refine brD.intro (fun e2 => ?_) (fun e2 => ?_) <;> simp (maxSteps := 1000000) (disch := omega) only [e1, e2, cell_of b0, cell_of b1, S, S1, S2, S3, S4, S5, ST, eq_self, reduceIte, reduceCtorEq, Nat.reduceEqDiff, Nat.reduceAdd]
    · refine hQ _ _ _ ?_
      simp (maxSteps := 1000000) (disch := omega) only [e1, e2, S, S1, S2, S3, S4, S5, ST, eq_self, reduceIte, reduceCtorEq, Nat.reduceEqDiff, Nat.reduceAdd]
      have : pairLt p q ↔ p.2 < q.2 := by unfold pairLt; omega
      exact ⟨by simp [this], pHB⟩
    · refine hQ _ _ _ ?_
      simp (maxSteps := 1000000) (disch := omega) only [e1, e2, S, S1, S2, S3, S4, S5, ST, eq_self, reduceIte, reduceCtorEq, Nat.reduceEqDiff, Nat.reduceAdd]
      have : ¬ pairLt p q := by unfold pairLt; omega
      exact ⟨by simp [this], pHB⟩
def cmpI (a b : Int) : Int := if a < b then -1 else if b < a then 1 else 0
def cmpP (p q : Int × Int) : Int := if cmpI p.1 q.1 ≠ 0 then cmpI p.1 q.1 else cmpI p.2 q.2
theorem cmpP_ge (p q : Int × Int) : (0 ≤ cmpP p q) ↔ ¬ pairLt p q := by
  unfold cmpP cmpI pairLt
  repeat' split
  all_goals omega
theorem Compare_c (a b : Int) (H : AH) : ACalls Tryz.prog 130 [.int .i64 a, .int .i64 b] H fun r H' => r = .int .i64 (cmpI a b) ∧ H = H' := by
  refine in130 rfl ?_
  intro Q hQ
  simp (maxSteps := 1000000) (disch := omega) only [cd130, S, S1, S2, S3, S4, S5, ST, eq_self, reduceIte, reduceCtorEq, Nat.reduceEqDiff, Nat.reduceAdd]
  refine CallH.by (isNaN_c a H) ?_
  rintro _ _ ⟨rfl, rfl⟩
  simp (maxSteps := 1000000) (disch := omega) only [S, S1, S2, S3, S4, S5, ST, eq_self, reduceIte, reduceCtorEq, Nat.reduceEqDiff, Nat.reduceAdd]
  refine CallH.by (isNaN_c b H) ?_
  rintro _ _ ⟨rfl, rfl⟩
  simp (maxSteps := 1000000) (disch := omega) only [S, S1, S2, S3, S4, S5, ST, eq_self, reduceIte, reduceCtorEq, Nat.reduceEqDiff, Nat.reduceAdd]
  refine brD.intro (fun e => ?_) (fun e => ?_) <;> simp (maxSteps := 1000000) (disch := omega) only [e, S, S1, S2, S3, S4, S5, ST, eq_self, reduceIte, reduceCtorEq, Nat.reduceEqDiff, Nat.reduceAdd]
  · refine hQ _ _ _ ?_
    simp (maxSteps := 1000000) (disch := omega) only [cmpI, e, S, S1, S2, S3, S4, S5, ST, eq_self, reduceIte, reduceCtorEq, Nat.reduceEqDiff, Nat.reduceAdd]
  · refine brD.intro (fun e2 => ?_) (fun e2 => ?_) <;> simp (maxSteps := 1000000) (disch := omega) only [e, e2, S, S1, S2, S3, S4, S5, ST, eq_self, reduceIte, reduceCtorEq, Nat.reduceEqDiff, Nat.reduceAdd]
    · refine hQ _ _ _ ?_
      simp (maxSteps := 1000000) (disch := omega) only [cmpI, e, e2, S, S1, S2, S3, S4, S5, ST, eq_self, reduceIte, reduceCtorEq, Nat.reduceEqDiff, Nat.reduceAdd]
    · refine hQ _ _ _ ?_
      simp (maxSteps := 1000000) (disch := omega) only [cmpI, e, e2, S, S1, S2, S3, S4, S5, ST, eq_self, reduceIte, reduceCtorEq, Nat.reduceEqDiff, Nat.reduceAdd]
theorem Or_c (a b : Int) (o : Nat) (H : AH) (ho : H[o]? = some (.cells (ints [a, b]) 3 false)) : ACalls Tryz.prog 156 [.slice (some ⟨o, 0, none⟩) 2 2] H fun r H' => r = .int .i64 (if a ≠ 0 then a else b) ∧ H = H' := by
  refine in156 rfl ?_
  intro Q hQ
  simp (maxSteps := 1000000) (disch := omega) only [cd156, S, S1, S2, S3, S4, S5, ST, eq_self, reduceIte, reduceCtorEq, Nat.reduceEqDiff, Nat.reduceAdd]
  refine LoopH.by (fun m s H' => ∃ i, m + i = 2 ∧ s 0 = .slice (some ⟨o, 0, none⟩) 2 2 ∧ s 3 = .int .i64 0 ∧ s 6 = .slice (some ⟨o, 0, none⟩) 2 2 ∧ s 7 = .int .i64 2 ∧ s 8 = .int .i64 ((i : Nat) : Int) ∧ H = H' ∧ ∀ j, j < i → [a, b].getD j 0 = 0) 2 ?_ ?_
  · exact ⟨0, rfl, rfl, rfl, rfl, rfl, rfl, rfl, fun j hj => absurd hj (Nat.not_lt_zero j)⟩
  · rintro m s H' ⟨i, hm, h0, h3, h6, h7, h8, rfl, hz⟩
    simp (maxSteps := 1000000) (disch := omega) only [h0, h3, h6, h7, h8, S, S1, S2, S3, S4, S5, ST, eq_self, reduceIte, reduceCtorEq, Nat.reduceEqDiff, Nat.reduceAdd]
    refine brD.intro (fun g => ?_) (fun g => ?_)
    · have hi : i < [a, b].length := by show i < 2; omega
      simp (maxSteps := 1000000) (disch := omega) only [h0, h3, h6, h7, h8, Int.toNat_natCast, Nat.zero_add, cell_ints ho hi, S, S1, S2, S3, S4, S5, ST, eq_self, reduceIte, reduceCtorEq, Nat.reduceEqDiff, Nat.reduceAdd]
      refine brD.intro (fun e => ?_) (fun e => ?_) <;> simp (maxSteps := 1000000) (disch := omega) only [h0, h3, h6, h7, h8, e, wrap64, S, S1, S2, S3, S4, S5, ST, eq_self, reduceIte, reduceCtorEq, Nat.reduceEqDiff, Nat.reduceAdd]
      · refine hQ _ _ _ ?_
        simp (maxSteps := 1000000) (disch := omega) only [S, S1, S2, S3, S4, S5, ST, eq_self, reduceIte, reduceCtorEq, Nat.reduceEqDiff, Nat.reduceAdd]
        have : i = 0 ∨ i = 1 := by omega
        rcases this with rfl | rfl
        · have e' : a ≠ 0 := e
          simp [e']
        · have e1 : a = 0 := hz 0 (by omega)
          simp [e1]
      · have f1 : ∀ j, j < i + 1 → [a, b].getD j 0 = 0 := by
          intro j hj
          rcases Nat.lt_succ_iff_lt_or_eq.1 hj with h | h
          · exact hz j h
          · rw [h]; exact Decidable.not_not.1 e
        refine ⟨m - 1, by omega, i + 1, ?_⟩
        (repeat' apply And.intro) <;> first | exact f1 | (simp only [Value.int.injEq, true_and]; omega) | omega | rfl | assumption | (simp; done) | (simp; omega)
    · simp (maxSteps := 1000000) (disch := omega) only [h3, S, S1, S2, S3, S4, S5, ST, eq_self, reduceIte, reduceCtorEq, Nat.reduceEqDiff, Nat.reduceAdd]
      refine hQ _ _ _ ?_
      simp (maxSteps := 1000000) (disch := omega) only [h3, S, S1, S2, S3, S4, S5, ST, eq_self, reduceIte, reduceCtorEq, Nat.reduceEqDiff, Nat.reduceAdd]
      have e1 : a = 0 := hz 0 (by omega)
      have e2 : b = 0 := hz 1 (by omega)
      simp [e1, e2]
set_option maxRecDepth 20000 in
theorem comparePairs_c (p q : Int × Int) (H : AH) : ACalls Tryz.prog 127 [.agg (List.toArray [.int .i64 p.1, .int .i64 p.2]), .agg (List.toArray [.int .i64 q.1, .int .i64 q.2])] H fun r H' => r = .int .i64 (cmpP p q) ∧ H <+: H' := by
  refine in127 rfl ?_
  intro Q hQ
  simp (maxSteps := 1000000) (disch := omega) only [cd127, box_a2, S, S1, S2, S3, S4, S5, ST, eq_self, reduceIte, reduceCtorEq, Nat.reduceEqDiff, Nat.reduceAdd]
  generalize hA : H ++ [AObj.cells [.int .i64 p.1, .int .i64 p.2] 83 false] = A
  have pA : H <+: A := by rw [← hA]; exact List.prefix_append _ _
  have a0 : A[H.length]? = some (.cells [.int .i64 p.1, .int .i64 p.2] 83 false) := by rw [← hA]; exact at_new ..
  generalize hB : A ++ [AObj.cells [.int .i64 q.1, .int .i64 q.2] 83 false] = B
  have pB : A <+: B := by rw [← hB]; exact List.prefix_append _ _
  have b0 := pre_at pB a0
  have b1 : B[A.length]? = some (.cells [.int .i64 q.1, .int .i64 q.2] 83 false) := by rw [← hB]; exact at_new ..
  have pHB := pA.trans pB
  simp (maxSteps := 1000000) (disch := omega) only [cell_of b0, cell_of b1, S, S1, S2, S3, S4, S5, ST, eq_self, reduceIte, reduceCtorEq, Nat.reduceEqDiff, Nat.reduceAdd]
  refine CallH.by (Compare_c p.1 q.1 B) ?_
  rintro _ _ ⟨rfl, rfl⟩
  simp (maxSteps := 1000000) (disch := omega) only [cell_of b0, cell_of b1, S, S1, S2, S3, S4, S5, ST, eq_self, reduceIte, reduceCtorEq, Nat.reduceEqDiff, Nat.reduceAdd]
  refine CallH.by (Compare_c p.2 q.2 B) ?_
  rintro _ _ ⟨rfl, rfl⟩
  simp (maxSteps := 1000000) (disch := omega) only [S, S1, S2, S3, S4, S5, ST, eq_self, reduceIte, reduceCtorEq, Nat.reduceEqDiff, Nat.reduceAdd]
  refine CallH.by (Or_c (cmpI p.1 q.1) (cmpI p.2 q.2) B.length _ (at_new ..)) ?_
  rintro _ _ ⟨rfl, rfl⟩
  simp (maxSteps := 1000000) (disch := omega) only [S, S1, S2, S3, S4, S5, ST, eq_self, reduceIte, reduceCtorEq, Nat.reduceEqDiff, Nat.reduceAdd]
  refine hQ _ _ _ ?_
  simp (maxSteps := 1000000) (disch := omega) only [cmpP, S, S1, S2, S3, S4, S5, ST, eq_self, reduceIte, reduceCtorEq, Nat.reduceEqDiff, Nat.reduceAdd]
  exact pre_app pHB _
set_option maxRecDepth 20000 in
set_option maxHeartbeats 4000000 in
theorem l2Pairs_c (v : Value) (n : Int) (ps : List (Int × Int)) (H : AH) (hr : RowP 83 H v ps) (hlen : ps.length ≤ 1099511627776) (hn : 0 ≤ n ∧ n ≤ 8) :
    ACalls Tryz.prog 84 [v, .int .i64 n] H fun r H' => r = .bool (decide (PrU n ps ps.length)) ∧ H <+: H' := by
  refine in84 rfl ?_
  intro Q hQ
  simp (maxSteps := 1000000) (disch := omega) only [cd84, S, S1, S2, S3, S4, S5, ST, eq_self, reduceIte, reduceCtorEq, Nat.reduceEqDiff, Nat.reduceAdd]
  refine LoopH.by (fun m s H' => ∃ i, m + i = ps.length ∧ s 0 = v ∧ s 1 = .int .i64 n ∧ s 5 = .int .i64 ((i : Nat) : Int) ∧ H <+: H' ∧ PrU n ps i) ps.length ?_ ?_
  · exact ⟨0, by simp, rfl, rfl, rfl, List.prefix_refl _, PrU.zero _ _⟩
  · rintro m s H' ⟨i, hm, h0, h1, h5, hp, hu⟩
    have hr' := hr.pre hp
    simp (maxSteps := 1000000) (disch := omega) only [h0, h1, h5, hr'.len Tryz.underlying22, S, S1, S2, S3, S4, S5, ST, eq_self, reduceIte, reduceCtorEq, Nat.reduceEqDiff, Nat.reduceAdd]
    refine brD.intro (fun g => ?_) (fun g => ?_)
    · have hi : i < ps.length := by omega
      have hst0 := store_a2 H' [.int .i64 0, .int .i64 0] rfl
      simp (maxSteps := 1000000) (disch := omega) only [h0, h1, h5, hr'.ix Tryz.underlying22 cs83, Int.toNat_natCast, hr'.ld ag83 cs83 hi, alloc_a2, hst0, cell_new, wrap64, S, S1, S2, S3, S4, S5, ST, eq_self, reduceIte, reduceCtorEq, Nat.reduceEqDiff, Nat.reduceAdd]
      generalize hB : H' ++ [AObj.cells [.int .i64 (ps.getD i (0, 0)).1, .int .i64 (ps.getD i (0, 0)).2] 83 false] = B
      have pB : H' <+: B := by rw [← hB]; exact List.prefix_append _ _
      have b0 : B[H'.length]? = some (.cells [.int .i64 (ps.getD i (0, 0)).1, .int .i64 (ps.getD i (0, 0)).2] 83 false) := by rw [← hB]; exact at_new ..
      have hrB := hr'.pre pB
      refine CallH.by (l1In_c _ _ _ B) ?_
      rintro _ _ ⟨rfl, rfl⟩
      simp (maxSteps := 1000000) (disch := omega) only [cell_of b0, wrap64, S, S1, S2, S3, S4, S5, ST, eq_self, reduceIte, reduceCtorEq, Nat.reduceEqDiff, Nat.reduceAdd]
      have hBp := hp.trans pB
      have e0 : ((i : Int) - 1).toNat = i - 1 := by omega
      have ok2 : prOk n ps i → PrU n ps (i + 1) := fun h => hu.succ h
      have bad : ¬ prOk n ps i → ∀ G, H <+: G → decide (PrU n ps ps.length) = false ∧ H <+: G := fun h G hG => ⟨decide_eq_false (PrU.no hi h), hG⟩
      have hld1 : 0 < i → loadA Tryz.prog 83 (.pointer (some ⟨rowO v, rowK v + 2 * (i - 1), none⟩)) B = some (.agg (List.toArray [.int .i64 (ps.getD (i - 1) (0, 0)).1, .int .i64 (ps.getD (i - 1) (0, 0)).2])) := fun h => hrB.ld ag83 cs83 (by omega)
      unfold prOk at ok2 bad
      generalize hx : ps.getD i (0, 0) = x at *
      generalize hy : ps.getD (i - 1) (0, 0) = y at *
      refine brD.intro (fun e1 => ?_) (fun e1 => ?_)
      · simp (maxSteps := 1000000) (disch := omega) only [e1, cell_of b0, h0, h1, h5, wrap64, S, S1, S2, S3, S4, S5, ST, eq_self, reduceIte, reduceCtorEq, Nat.reduceEqDiff, Nat.reduceAdd]
        refine CallH.by (l1In_c _ _ _ B) ?_
        rintro _ _ ⟨rfl, rfl⟩
        simp (maxSteps := 1000000) (disch := omega) only [e1, cell_of b0, h0, h1, h5, wrap64, S, S1, S2, S3, S4, S5, ST, eq_self, reduceIte, reduceCtorEq, Nat.reduceEqDiff, Nat.reduceAdd]
        refine brD.intro (fun e2 => ?_) (fun e2 => ?_)
        · simp (maxSteps := 1000000) (disch := omega) only [e1, e2, cell_of b0, h0, h1, h5, wrap64, S, S1, S2, S3, S4, S5, ST, eq_self, reduceIte, reduceCtorEq, Nat.reduceEqDiff, Nat.reduceAdd]
          refine brD.intro (fun e3 => ?_) (fun e3 => ?_) <;> simp (maxSteps := 1000000) (disch := omega) only [e1, e2, e3, cell_of b0, h0, h1, h5, wrap64, S, S1, S2, S3, S4, S5, ST, eq_self, reduceIte, reduceCtorEq, Nat.reduceEqDiff, Nat.reduceAdd]
          · refine hQ _ _ _ ?_
            simp (maxSteps := 1000000) (disch := omega) only [S, S1, S2, S3, S4, S5, ST, eq_self, reduceIte, reduceCtorEq, Nat.reduceEqDiff, Nat.reduceAdd]
            obtain ⟨q1, q2⟩ := bad (by omega) _ hBp
            rw [q1]
            exact ⟨rfl, q2⟩
          · refine brD.intro (fun e4 => ?_) (fun e4 => ?_) <;> simp (maxSteps := 1000000) (disch := omega) only [e1, e2, e3, e4, h0, h1, h5, wrap64, S, S1, S2, S3, S4, S5, ST, eq_self, reduceIte, reduceCtorEq, Nat.reduceEqDiff, Nat.reduceAdd]
            · have hi1 : 0 < i := by omega
              simp (maxSteps := 1000000) (disch := omega) only [e1, e2, e3, e4, e0, h0, h1, h5, hrB.ix Tryz.underlying22 cs83, hld1 hi1, ld_a2 b0, wrap64, S, S1, S2, S3, S4, S5, ST, eq_self, reduceIte, reduceCtorEq, Nat.reduceEqDiff, Nat.reduceAdd]
              refine CallH.by (l2Edge_c y x B) ?_
              rintro _ C ⟨rfl, pC⟩
              have hCp := hBp.trans pC
              simp (maxSteps := 1000000) (disch := omega) only [e1, e2, e3, e4, S, S1, S2, S3, S4, S5, ST, eq_self, reduceIte, reduceCtorEq, Nat.reduceEqDiff, Nat.reduceAdd]
              refine brD.intro (fun e5 => ?_) (fun e5 => ?_) <;> simp (maxSteps := 1000000) (disch := omega) only [e1, e2, e3, e4, e5, h0, h1, h5, wrap64, S, S1, S2, S3, S4, S5, ST, eq_self, reduceIte, reduceCtorEq, Nat.reduceEqDiff, Nat.reduceAdd]
              · have f1 := ok2 ⟨e1.1, by omega, by omega, fun _ => e5⟩
                refine ⟨m - 1, by omega, i + 1, ?_⟩
                (repeat' first | exact f1 | exact hCp | apply And.intro) <;> first | (simp only [Value.int.injEq, true_and]; omega) | omega | rfl | assumption | (simp; done) | (simp; omega)
              · refine hQ _ _ _ ?_
                simp (maxSteps := 1000000) (disch := omega) only [S, S1, S2, S3, S4, S5, ST, eq_self, reduceIte, reduceCtorEq, Nat.reduceEqDiff, Nat.reduceAdd]
                obtain ⟨q1, q2⟩ := bad (fun h => e5 (h.2.2.2 hi1)) _ hCp
                rw [q1]
                exact ⟨rfl, q2⟩
            · have f1 := ok2 ⟨e1.1, by omega, by omega, fun h => absurd h (by omega)⟩
              refine ⟨m - 1, by omega, i + 1, ?_⟩
              (repeat' first | exact f1 | exact hBp | apply And.intro) <;> first | (simp only [Value.int.injEq, true_and]; omega) | omega | rfl | assumption | (simp; done) | (simp; omega)
        · simp (maxSteps := 1000000) (disch := omega) only [e1, e2, S, S1, S2, S3, S4, S5, ST, eq_self, reduceIte, reduceCtorEq, Nat.reduceEqDiff, Nat.reduceAdd]
          refine hQ _ _ _ ?_
          simp (maxSteps := 1000000) (disch := omega) only [S, S1, S2, S3, S4, S5, ST, eq_self, reduceIte, reduceCtorEq, Nat.reduceEqDiff, Nat.reduceAdd]
          obtain ⟨q1, q2⟩ := bad (by omega) _ hBp
          rw [q1]
          exact ⟨rfl, q2⟩
      · simp (maxSteps := 1000000) (disch := omega) only [e1, S, S1, S2, S3, S4, S5, ST, eq_self, reduceIte, reduceCtorEq, Nat.reduceEqDiff, Nat.reduceAdd]
        refine hQ _ _ _ ?_
        simp (maxSteps := 1000000) (disch := omega) only [S, S1, S2, S3, S4, S5, ST, eq_self, reduceIte, reduceCtorEq, Nat.reduceEqDiff, Nat.reduceAdd]
        obtain ⟨q1, q2⟩ := bad (by omega) _ hBp
        rw [q1]
        exact ⟨rfl, q2⟩
    · simp (maxSteps := 1000000) (disch := omega) only [h0, h1, h5, S, S1, S2, S3, S4, S5, ST, eq_self, reduceIte, reduceCtorEq, Nat.reduceEqDiff, Nat.reduceAdd]
      refine hQ _ _ _ ?_
      simp (maxSteps := 1000000) (disch := omega) only [S, S1, S2, S3, S4, S5, ST, eq_self, reduceIte, reduceCtorEq, Nat.reduceEqDiff, Nat.reduceAdd]
      have : i = ps.length := by omega
      subst this
      simp [hu, hp]
set_option maxRecDepth 20000 in
set_option maxHeartbeats 4000000 in
theorem isPairs_c (v : Value) (n : Int) (ps : List (Int × Int)) (H : AH) (hr : RowP 83 H v ps) (hlen : ps.length ≤ 1099511627776) (hn : 0 ≤ n ∧ n ≤ 8) :
    ACalls Tryz.prog 89 [v, .int .i64 n] H fun r H' => r = .bool (decide (PrU n ps ps.length)) ∧ H <+: H' := by
  refine in89 rfl ?_
  intro Q hQ
  simp (maxSteps := 1000000) (disch := omega) only [cd89, hr.len Tryz.underlying22, S, S1, S2, S3, S4, S5, ST, eq_self, reduceIte, reduceCtorEq, Nat.reduceEqDiff, Nat.reduceAdd]
  refine LoopH.by (fun m s H' => ∃ i, m + i = ps.length ∧ s 0 = v ∧ s 1 = .int .i64 n ∧ s 7 = v ∧ s 8 = .int .i64 (ps.length : Int) ∧ s 9 = .int .i64 ((i : Nat) : Int) ∧ H <+: H' ∧ PrU n ps i) ps.length ?_ ?_
  · exact ⟨0, by simp, rfl, rfl, rfl, rfl, rfl, List.prefix_refl _, PrU.zero _ _⟩
  · rintro m s H' ⟨i, hm, h0, h1, h7, h8, h9, hp, hu⟩
    have hr' := hr.pre hp
    simp (maxSteps := 1000000) (disch := omega) only [h0, h1, h7, h8, h9, S, S1, S2, S3, S4, S5, ST, eq_self, reduceIte, reduceCtorEq, Nat.reduceEqDiff, Nat.reduceAdd]
    refine brD.intro (fun g => ?_) (fun g => ?_)
    · have hi : i < ps.length := by omega
      have hst0 := store_a2 H' [.int .i64 0, .int .i64 0] rfl
      simp (maxSteps := 1000000) (disch := omega) only [h0, h1, h7, h8, h9, hr'.ix Tryz.underlying22 cs83, Int.toNat_natCast, hr'.ld ag83 cs83 hi, alloc_a2, hst0, cell_new, wrap64, S, S1, S2, S3, S4, S5, ST, eq_self, reduceIte, reduceCtorEq, Nat.reduceEqDiff, Nat.reduceAdd]
      generalize hB : H' ++ [AObj.cells [.int .i64 (ps.getD i (0, 0)).1, .int .i64 (ps.getD i (0, 0)).2] 83 false] = B
      have pB : H' <+: B := by rw [← hB]; exact List.prefix_append _ _
      have b0 : B[H'.length]? = some (.cells [.int .i64 (ps.getD i (0, 0)).1, .int .i64 (ps.getD i (0, 0)).2] 83 false) := by rw [← hB]; exact at_new ..
      have hrB := hr'.pre pB
      have hBp := hp.trans pB
      have e0 : ((i : Int) - 1).toNat = i - 1 := by omega
      have ok2 : prOk n ps i → PrU n ps (i + 1) := fun h => hu.succ h
      have bad : ¬ prOk n ps i → ∀ G, H <+: G → decide (PrU n ps ps.length) = false ∧ H <+: G := fun h G hG => ⟨decide_eq_false (PrU.no hi h), hG⟩
      have hld1 : 0 < i → loadA Tryz.prog 83 (.pointer (some ⟨rowO v, rowK v + 2 * (i - 1), none⟩)) B = some (.agg (List.toArray [.int .i64 (ps.getD (i - 1) (0, 0)).1, .int .i64 (ps.getD (i - 1) (0, 0)).2])) := fun h => hrB.ld ag83 cs83 (by omega)
      unfold prOk at ok2 bad
      generalize hx : ps.getD i (0, 0) = x at *
      generalize hy : ps.getD (i - 1) (0, 0) = y at *
      refine brD.intro (fun e1 => ?_) (fun e1 => ?_) <;> simp (maxSteps := 1000000) (disch := omega) only [e1, cell_of b0, h0, h1, h7, h8, h9, wrap64, S, S1, S2, S3, S4, S5, ST, eq_self, reduceIte, reduceCtorEq, Nat.reduceEqDiff, Nat.reduceAdd]
      · refine hQ _ _ _ ?_
        simp (maxSteps := 1000000) (disch := omega) only [S, S1, S2, S3, S4, S5, ST, eq_self, reduceIte, reduceCtorEq, Nat.reduceEqDiff, Nat.reduceAdd]
        obtain ⟨q1, q2⟩ := bad (by omega) _ hBp
        rw [q1]
        exact ⟨rfl, q2⟩
      · refine brD.intro (fun e2 => ?_) (fun e2 => ?_) <;> simp (maxSteps := 1000000) (disch := omega) only [e1, e2, cell_of b0, h0, h1, h7, h8, h9, wrap64, S, S1, S2, S3, S4, S5, ST, eq_self, reduceIte, reduceCtorEq, Nat.reduceEqDiff, Nat.reduceAdd]
        · refine hQ _ _ _ ?_
          simp (maxSteps := 1000000) (disch := omega) only [S, S1, S2, S3, S4, S5, ST, eq_self, reduceIte, reduceCtorEq, Nat.reduceEqDiff, Nat.reduceAdd]
          obtain ⟨q1, q2⟩ := bad (by omega) _ hBp
          rw [q1]
          exact ⟨rfl, q2⟩
        · refine brD.intro (fun e3 => ?_) (fun e3 => ?_) <;> simp (maxSteps := 1000000) (disch := omega) only [e1, e2, e3, cell_of b0, h0, h1, h7, h8, h9, wrap64, S, S1, S2, S3, S4, S5, ST, eq_self, reduceIte, reduceCtorEq, Nat.reduceEqDiff, Nat.reduceAdd]
          · refine hQ _ _ _ ?_
            simp (maxSteps := 1000000) (disch := omega) only [S, S1, S2, S3, S4, S5, ST, eq_self, reduceIte, reduceCtorEq, Nat.reduceEqDiff, Nat.reduceAdd]
            obtain ⟨q1, q2⟩ := bad (by omega) _ hBp
            rw [q1]
            exact ⟨rfl, q2⟩
          · refine brD.intro (fun e4 => ?_) (fun e4 => ?_) <;> simp (maxSteps := 1000000) (disch := omega) only [e1, e2, e3, e4, h0, h1, h7, h8, h9, wrap64, S, S1, S2, S3, S4, S5, ST, eq_self, reduceIte, reduceCtorEq, Nat.reduceEqDiff, Nat.reduceAdd]
            · have hi1 : 0 < i := by omega
              simp (maxSteps := 1000000) (disch := omega) only [e1, e2, e3, e4, e0, h0, h1, h7, h8, h9, hrB.ix Tryz.underlying22 cs83, hld1 hi1, ld_a2 b0, wrap64, S, S1, S2, S3, S4, S5, ST, eq_self, reduceIte, reduceCtorEq, Nat.reduceEqDiff, Nat.reduceAdd]
              refine CallH.by (comparePairs_c y x B) ?_
              rintro _ C ⟨rfl, pC⟩
              have hCp := hBp.trans pC
              simp (maxSteps := 1000000) (disch := omega) only [e1, e2, e3, e4, S, S1, S2, S3, S4, S5, ST, eq_self, reduceIte, reduceCtorEq, Nat.reduceEqDiff, Nat.reduceAdd]
              refine brD.intro (fun e5 => ?_) (fun e5 => ?_) <;> simp (maxSteps := 1000000) (disch := omega) only [e1, e2, e3, e4, e5, h0, h1, h7, h8, h9, wrap64, S, S1, S2, S3, S4, S5, ST, eq_self, reduceIte, reduceCtorEq, Nat.reduceEqDiff, Nat.reduceAdd]
              · refine hQ _ _ _ ?_
                simp (maxSteps := 1000000) (disch := omega) only [S, S1, S2, S3, S4, S5, ST, eq_self, reduceIte, reduceCtorEq, Nat.reduceEqDiff, Nat.reduceAdd]
                obtain ⟨q1, q2⟩ := bad (fun h => (cmpP_ge y x).1 e5 (h.2.2.2 hi1)) _ hCp
                rw [q1]
                exact ⟨rfl, q2⟩
              · have f1 := ok2 ⟨by omega, by omega, by omega, fun _ => Decidable.not_not.1 fun h => e5 ((cmpP_ge y x).2 h)⟩
                refine ⟨m - 1, by omega, i + 1, ?_⟩
                (repeat' first | exact f1 | exact hCp | apply And.intro) <;> first | (simp only [Value.int.injEq, true_and]; omega) | omega | rfl | assumption | (simp; done) | (simp; omega)
            · have f1 := ok2 ⟨by omega, by omega, by omega, fun h => absurd h (by omega)⟩
              refine ⟨m - 1, by omega, i + 1, ?_⟩
              (repeat' first | exact f1 | exact hBp | apply And.intro) <;> first | (simp only [Value.int.injEq, true_and]; omega) | omega | rfl | assumption | (simp; done) | (simp; omega)
    · simp (maxSteps := 1000000) (disch := omega) only [h0, h1, h7, h8, h9, S, S1, S2, S3, S4, S5, ST, eq_self, reduceIte, reduceCtorEq, Nat.reduceEqDiff, Nat.reduceAdd]
      refine hQ _ _ _ ?_
      simp (maxSteps := 1000000) (disch := omega) only [S, S1, S2, S3, S4, S5, ST, eq_self, reduceIte, reduceCtorEq, Nat.reduceEqDiff, Nat.reduceAdd]
      have : i = ps.length := by omega
      subst this
      simp [hu, hp]
theorem l2Good_c (n : Int) (v : Value) (ps : List (Int × Int)) (H : AH) (hr : RowP 83 H v ps) (hlen : ps.length ≤ 1099511627776) :
    ACalls Tryz.prog 36 [.agg (List.toArray [.int .i64 n, v])] H fun r H' => r = .bool (decide (Grd n ps)) ∧ H <+: H' := by
  refine in36 rfl ?_
  intro Q hQ
  simp (maxSteps := 1000000) (disch := omega) only [cd36, hr.boxG, S, S1, S2, S3, S4, S5, ST, eq_self, reduceIte, reduceCtorEq, Nat.reduceEqDiff, Nat.reduceAdd]
  generalize hA : H ++ [AObj.cells [.int .i64 n, v] 31 false] = A
  have pA : H <+: A := by rw [← hA]; exact List.prefix_append _ _
  have cA : A[H.length]? = some (.cells [.int .i64 n, v] 31 false) := by rw [← hA]; exact at_new ..
  have rA := hr.pre pA
  simp (maxSteps := 1000000) (disch := omega) only [cell_of cA, S, S1, S2, S3, S4, S5, ST, eq_self, reduceIte, reduceCtorEq, Nat.reduceEqDiff, Nat.reduceAdd]
  refine CallH.by (l1In_c _ _ _ A) ?_
  rintro _ _ ⟨rfl, rfl⟩
  simp (maxSteps := 1000000) (disch := omega) only [cell_of cA, S, S1, S2, S3, S4, S5, ST, eq_self, reduceIte, reduceCtorEq, Nat.reduceEqDiff, Nat.reduceAdd]
  refine brD.intro (fun e => ?_) (fun e => ?_) <;> simp (maxSteps := 1000000) (disch := omega) only [e, cell_of cA, S, S1, S2, S3, S4, S5, ST, eq_self, reduceIte, reduceCtorEq, Nat.reduceEqDiff, Nat.reduceAdd]
  · refine CallH.by (l2Pairs_c v n ps A rA hlen e) ?_
    rintro _ B ⟨rfl, pB⟩
    simp (maxSteps := 1000000) (disch := omega) only [e, S, S1, S2, S3, S4, S5, ST, eq_self, reduceIte, reduceCtorEq, Nat.reduceEqDiff, Nat.reduceAdd]
    refine hQ _ _ _ ?_
    simp (maxSteps := 1000000) (disch := omega) only [e, S, S1, S2, S3, S4, S5, ST, eq_self, reduceIte, reduceCtorEq, Nat.reduceEqDiff, Nat.reduceAdd]
    exact ⟨by simp [Grd, e], pA.trans pB⟩
  · refine hQ _ _ _ ?_
    simp (maxSteps := 1000000) (disch := omega) only [e, S, S1, S2, S3, S4, S5, ST, eq_self, reduceIte, reduceCtorEq, Nat.reduceEqDiff, Nat.reduceAdd]
    exact ⟨by simp [Grd, e], pA⟩
theorem IsGraph_c (n : Int) (v : Value) (ps : List (Int × Int)) (H : AH) (hr : RowP 83 H v ps) (hlen : ps.length ≤ 1099511627776) :
    ACalls Tryz.prog 39 [.agg (List.toArray [.int .i64 n, v])] H fun r H' => r = .bool (decide (Grd n ps)) ∧ H <+: H' := by
  refine in39 rfl ?_
  intro Q hQ
  simp (maxSteps := 1000000) (disch := omega) only [cd39, hr.boxG, S, S1, S2, S3, S4, S5, ST, eq_self, reduceIte, reduceCtorEq, Nat.reduceEqDiff, Nat.reduceAdd]
  generalize hA : H ++ [AObj.cells [.int .i64 n, v] 31 false] = A
  have pA : H <+: A := by rw [← hA]; exact List.prefix_append _ _
  have cA : A[H.length]? = some (.cells [.int .i64 n, v] 31 false) := by rw [← hA]; exact at_new ..
  have rA := hr.pre pA
  simp (maxSteps := 1000000) (disch := omega) only [cell_of cA, S, S1, S2, S3, S4, S5, ST, eq_self, reduceIte, reduceCtorEq, Nat.reduceEqDiff, Nat.reduceAdd]
  refine CallH.by (between_c _ _ _ A) ?_
  rintro _ _ ⟨rfl, rfl⟩
  simp (maxSteps := 1000000) (disch := omega) only [cell_of cA, S, S1, S2, S3, S4, S5, ST, eq_self, reduceIte, reduceCtorEq, Nat.reduceEqDiff, Nat.reduceAdd]
  refine brD.intro (fun e => ?_) (fun e => ?_) <;> simp (maxSteps := 1000000) (disch := omega) only [e, cell_of cA, S, S1, S2, S3, S4, S5, ST, eq_self, reduceIte, reduceCtorEq, Nat.reduceEqDiff, Nat.reduceAdd]
  · refine CallH.by (isPairs_c v n ps A rA hlen e) ?_
    rintro _ B ⟨rfl, pB⟩
    simp (maxSteps := 1000000) (disch := omega) only [e, S, S1, S2, S3, S4, S5, ST, eq_self, reduceIte, reduceCtorEq, Nat.reduceEqDiff, Nat.reduceAdd]
    refine hQ _ _ _ ?_
    simp (maxSteps := 1000000) (disch := omega) only [e, S, S1, S2, S3, S4, S5, ST, eq_self, reduceIte, reduceCtorEq, Nat.reduceEqDiff, Nat.reduceAdd]
    exact ⟨by simp [Grd, e], pA.trans pB⟩
  · refine hQ _ _ _ ?_
    simp (maxSteps := 1000000) (disch := omega) only [e, S, S1, S2, S3, S4, S5, ST, eq_self, reduceIte, reduceCtorEq, Nat.reduceEqDiff, Nat.reduceAdd]
    exact ⟨by simp [Grd, e], pA⟩
end Go.Proofs.YtlfongfhbkefmaaGreat.Ai
namespace Go.Proofs.YtlfongfhbkefmaaGreat.Ai
open Go
set_option linter.unusedVariables false
/-- an edge that meets none of some -/
def frE (es : List (Int × Int)) (ed : List Int) (e : Int) : Prop := ed1 es e ∉ seenL es ed ∧ ed2 es e ∉ seenL es ed
instance (es : List (Int × Int)) (ed : List Int) (e : Int) : Decidable (frE es ed e) := by unfold frE; infer_instance
/-- all matchings that begin with some edges and have more, of the last k edges; in order -/
def mall (es : List (Int × Int)) : Nat → List Int → List (List Int)
  | 0, _ => []
  | k + 1, ed => (if frE es ed ((es.length - (k + 1) : Nat) : Int) then (ed ++ [((es.length - (k + 1) : Nat) : Int)]) :: mall es k (ed ++ [((es.length - (k + 1) : Nat) : Int)]) else []) ++ mall es k ed
/-- numbers of a range, each once -/
theorem nodupM_le : ∀ (n : Nat) (l : List Int), l.Nodup → (∀ x ∈ l, 0 ≤ x ∧ x < n) → l.length ≤ n
  | 0, l, _, h => by
    cases l with
    | nil => simp
    | cons x l => have := h x (by simp); omega
  | n + 1, l, hd, h => by
    have h1 := nodupM_le n (l.erase (n : Int)) (hd.erase _) (fun x hx => by
      have := (hd.mem_erase_iff).1 hx
      have h2 := h x this.2
      have : x ≠ (n : Int) := this.1
      omega)
    have : l.length ≤ (l.erase (n : Int)).length + 1 := by
      rw [List.length_erase]
      split <;> omega
    omega
/-- nodes of different edges, each once -/
def Mgo (n : Int) (es : List (Int × Int)) (ed : List Int) : Prop := (seenL es ed).Nodup ∧ ∀ z ∈ seenL es ed, 0 ≤ z ∧ z < n
theorem Mgo.nil (n : Int) (es : List (Int × Int)) : Mgo n es [] := ⟨by simp [seenL], fun z hz => by simp [seenL] at hz⟩
theorem Mgo.snoc {n : Int} {es : List (Int × Int)} {ed : List Int} {e : Int} (hg : Grd n es) (h : Mgo n es ed) (he : e.toNat < es.length) (hf : frE es ed e) : Mgo n es (ed ++ [e]) := by
  obtain ⟨a1, a2, a3, _⟩ := hg.2 e.toNat he
  have b1 : ed1 es e < ed2 es e := a2
  have b2 : 0 ≤ ed1 es e := a1
  have b3 : ed2 es e < n := a3
  refine ⟨?_, ?_⟩
  · rw [seenL_snoc, List.nodup_append]
    refine ⟨h.1, ?_, ?_⟩
    · simp; omega
    · intro x hx y hy hxy
      subst hxy
      simp only [List.mem_cons, List.not_mem_nil, or_false] at hy
      rcases hy with rfl | rfl
      · exact hf.1 hx
      · exact hf.2 hx
  · intro z hz
    rw [seenL_snoc, List.mem_append] at hz
    rcases hz with hz | hz
    · exact h.2 z hz
    · simp only [List.mem_cons, List.not_mem_nil, or_false] at hz
      omega
theorem Mgo.all {n : Int} {es : List (Int × Int)} (hg : Grd n es) : ∀ (k : Nat) (ed : List Int), k ≤ es.length → Mgo n es ed → ∀ x ∈ mall es k ed, Mgo n es x
  | 0, ed, _, h, x, hx => by simp [mall] at hx
  | k + 1, ed, hk, h, x, hx => by
    simp only [mall, List.mem_append] at hx
    rcases hx with hx | hx
    · split at hx
      · rename_i hf
        have h2 := h.snoc hg (by rw [Int.toNat_natCast]; omega) hf
        simp only [List.mem_cons] at hx
        rcases hx with rfl | hx
        · exact h2
        · exact Mgo.all hg k _ (by omega) h2 x hx
      · simp at hx
    · exact Mgo.all hg k ed (by omega) h x hx
theorem Mgo.len {n : Int} {es : List (Int × Int)} {ed : List Int} (hn : 0 ≤ n) (h : Mgo n es ed) : 2 * ed.length ≤ n.toNat := by
  have := nodupM_le n.toNat (seenL es ed) h.1 (fun z hz => by have := h.2 z hz; omega)
  rw [seenL_len] at this
  exact this
end Go.Proofs.YtlfongfhbkefmaaGreat.Ai
