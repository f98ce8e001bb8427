/- Texts of this claim, joined: Ty, Arr, Prs, Ints, Mark, MarkP, Grf, Base, PermP, PutP, Sort, Good, Near, Adj, Dix, BfsP, BfsQ, Bits, PartP, Bag, Rep, Bfs, AppL. -/
import Derived.Test.YtlfongfhbkefmaaProg
import Derived.KernelRfl
import Derived.Laws.BitsLemmas
import Derived.Laws.Bits64
import Derived.Test.YtlfongfhbkefmaaMgLawSqS2
namespace Go.Proofs.Ytlfongfhbkefmaa.Ai
open Go
theorem cs3 : Try.prog.cellsOf 3 = 1 := by kernel_rfl
theorem by3 : Try.prog.bytesOf 3 = 8 := by kernel_rfl
theorem ag3 : isAggA Try.prog 3 = some false := by kernel_rfl
theorem ze3 : zeroA Try.prog 3 = some (.int .i64 0) := by kernel_rfl
theorem zk3 : zeroOk Try.prog 3 = true := by kernel_rfl
theorem ag4 : isAggA Try.prog 4 = some false := by kernel_rfl
theorem ag5 : isAggA Try.prog 5 = some false := by kernel_rfl
theorem ag9 : isAggA Try.prog 9 = some false := by kernel_rfl
theorem cs22 : Try.prog.cellsOf 22 = 1 := by kernel_rfl
theorem ag22 : isAggA Try.prog 22 = some false := by kernel_rfl
theorem cs24 : Try.prog.cellsOf 24 = 2 := by kernel_rfl
theorem ag24 : isAggA Try.prog 24 = some true := by kernel_rfl
theorem cs26 : Try.prog.cellsOf 26 = 1 := by kernel_rfl
theorem ag26 : isAggA Try.prog 26 = some false := by kernel_rfl
theorem cs28 : Try.prog.cellsOf 28 = 2 := by kernel_rfl
theorem ag28 : isAggA Try.prog 28 = some true := by kernel_rfl
theorem cs31 : Try.prog.cellsOf 31 = 2 := by kernel_rfl
theorem ag31 : isAggA Try.prog 31 = some true := by kernel_rfl
theorem ag32 : isAggA Try.prog 32 = some false := by kernel_rfl
theorem cs38 : Try.prog.cellsOf 38 = 1 := by kernel_rfl
theorem by38 : Try.prog.bytesOf 38 = 24 := by kernel_rfl
theorem ag38 : isAggA Try.prog 38 = some false := by kernel_rfl
theorem ze38 : zeroA Try.prog 38 = some (.slice none 0 0) := by kernel_rfl
theorem zk38 : zeroOk Try.prog 38 = true := by kernel_rfl
theorem cs81 : Try.prog.cellsOf 81 = 2 := by kernel_rfl
theorem by81 : Try.prog.bytesOf 81 = 16 := by kernel_rfl
theorem ag81 : isAggA Try.prog 81 = some true := by kernel_rfl
theorem ze81 : zeroA Try.prog 81 = some (.agg #[(.int .i64 0), (.int .i64 0)]) := by kernel_rfl
theorem zk81 : zeroOk Try.prog 81 = true := by kernel_rfl
theorem ag85 : isAggA Try.prog 85 = some false := by kernel_rfl
theorem ag93 : isAggA Try.prog 93 = some false := by kernel_rfl
theorem ag95 : isAggA Try.prog 95 = some false := by kernel_rfl
theorem ag97 : isAggA Try.prog 97 = some false := by kernel_rfl
theorem ag98 : isAggA Try.prog 98 = some false := by kernel_rfl
theorem ag99 : isAggA Try.prog 99 = some false := by kernel_rfl
theorem ag103 : isAggA Try.prog 103 = some false := by kernel_rfl
theorem ag111 : isAggA Try.prog 111 = some false := by kernel_rfl
theorem ag122 : isAggA Try.prog 122 = some false := by kernel_rfl
theorem ag129 : isAggA Try.prog 129 = some false := by kernel_rfl
theorem ag133 : isAggA Try.prog 133 = some false := by kernel_rfl
theorem ag134 : isAggA Try.prog 134 = some false := by kernel_rfl
theorem ag145 : isAggA Try.prog 145 = some false := by kernel_rfl
theorem ag151 : isAggA Try.prog 151 = some false := by kernel_rfl
theorem ag159 : isAggA Try.prog 159 = some false := by kernel_rfl
theorem ag182 : isAggA Try.prog 182 = some false := by kernel_rfl
theorem ag185 : isAggA Try.prog 185 = some false := by kernel_rfl
theorem ag188 : isAggA Try.prog 188 = some false := by kernel_rfl
theorem own1_22 {H0 H : AH} {v : Value} {ps : List (Int × Int)} (h : MineP 81 H0 H v ps) (hp : H0 <+: H) (hb : ps.length ≤ 1099511627775) (a b : Int) : ∃ v' H', appendA Try.prog 22 22 v (.slice (some ⟨H.length, 0, none⟩) 1 1) (H ++ [.cells [.int .i64 a, .int .i64 b] 81 false]) = some (v', H') ∧ MineP 81 H0 H' v' (ps ++ [(a, b)]) ∧ H0 <+: H' ∧ Kept v H H' ∧ H.length ≤ rowO v' ∧ isTup v' = false := MineP.app1 Try.underlying22 cs81 (by rw [by81]; decide) zk81 h hp hb a b
theorem mks22 {n : Int} (h0 : 0 ≤ n) (h1 : n ≤ 1099511627776) (H : AH) : makeSliceA Try.prog 22 (.int .i64 n) (.int .i64 n) H = some (.slice (some ⟨H.length, 0, none⟩) n.toNat n.toNat, H ++ [.cells (ints (flat (List.replicate n.toNat (0, 0)))) 81 false]) := mk_prs Try.underlying22 cs81 (by rw [by81]; decide) ze81 h0 h1 H
theorem own1_38 {H0 H : AH} {v : Value} {ys : List Int} (h : Own 3 H0 H v ys) (hp : H0 <+: H) (hb : ys.length ≤ 1099511627775) (x : Int) : ∃ v' H', appendA Try.prog 38 38 v (.slice (some ⟨H.length, 0, none⟩) 1 1) (H ++ [.cells [.int .i64 x] 3 false]) = some (v', H') ∧ Own 3 H0 H' v' (ys ++ [x]) ∧ H0 <+: H' ∧ Kept v H H' ∧ H.length ≤ rowO v' ∧ isTup v' = false := Own.app1 Try.underlying38 cs3 (by rw [by3]; decide) zk3 h hp hb x
theorem ixa81 (p : Addr) (k : IntKind) {i : Int} (h0 : 0 ≤ i) (h1 : i < 2) : indexAddrA Try.prog 81 (.pointer (some p)) (.int k i) = some (.pointer (some ⟨p.block, p.off + i.toNat, none⟩)) := ix_arr Try.underlying81 cs3 p k h0 h1
theorem ST : (∀ p H, loadA Try.prog 3 (.pointer (some p)) H = cellA H p.block p.off) ∧
    (∀ p H, loadA Try.prog 4 (.pointer (some p)) H = cellA H p.block p.off) ∧
    (∀ a b, binA Try.prog .eql 4 (.bool a) (.bool b) = some (.bool (decide (a = b)))) ∧
    (∀ a b, binA Try.prog .neq 4 (.bool a) (.bool b) = some (.bool (decide (a ≠ b)))) ∧
    (∀ p H, loadA Try.prog 5 (.pointer (some p)) H = cellA H p.block p.off) ∧
    (∀ p H, loadA Try.prog 9 (.pointer (some p)) H = cellA H p.block p.off) ∧
    (∀ p H, loadA Try.prog 22 (.pointer (some p)) H = cellA H p.block p.off) ∧
    (∀ H, buildSliceA Try.prog 22 0 [] H = some (.slice (some ⟨H.length, 0, none⟩) 0 0, H ++ [.cells [] 81 false])) ∧
    (∀ H a b, buildSliceA Try.prog 22 1 [(0, .agg (List.toArray [a, b]))] H = some (.slice (some ⟨H.length, 0, none⟩) 1 1, H ++ [.cells [a, b] 81 false])) ∧
    (∀ (p : Addr) (n c : Nat) (k : IntKind) {i : Int}, 0 ≤ i → i < (n : Int) → indexAddrA Try.prog 22 (.slice (some p) n c) (.int k i) = some (.pointer (some ⟨p.block, p.off + 2 * i.toNat, none⟩))) ∧
    (∀ a n c m d, binA Try.prog .eql 22 (.slice a n c) (.slice none m d) = some (.bool (a.isNone))) ∧
    (∀ a n c m d, binA Try.prog .neq 22 (.slice a n c) (.slice none m d) = some (.bool (!a.isNone))) ∧
    (∀ x H, lenS Try.prog 22 x H = lenA Try.prog 22 x) ∧
    (∀ p n c, lenA Try.prog 22 (.slice p n c) = some (.int .i64 n)) ∧
    (∀ (p : Addr), fieldAddrA Try.prog 24 (.pointer (some p)) 0 = some (.pointer (some ⟨p.block, p.off, none⟩))) ∧
    (∀ (p : Addr), fieldAddrA Try.prog 24 (.pointer (some p)) 1 = some (.pointer (some ⟨p.block, p.off + 1, none⟩))) ∧
    (∀ p H, loadA Try.prog 26 (.pointer (some p)) H = cellA H p.block p.off) ∧
    (∀ (p : Addr) (n c : Nat) (k : IntKind) {i : Int}, 0 ≤ i → i < (n : Int) → indexAddrA Try.prog 26 (.slice (some p) n c) (.int k i) = some (.pointer (some ⟨p.block, p.off + i.toNat, none⟩))) ∧
    (∀ H, buildSliceA Try.prog 26 0 [] H = some (.slice (some ⟨H.length, 0, none⟩) 0 0, H ++ [.cells [] 38 false])) ∧
    (∀ H p0 n0 c0, buildSliceA Try.prog 26 1 [(0, (.slice p0 n0 c0))] H = some (.slice (some ⟨H.length, 0, none⟩) 1 1, H ++ [.cells [(.slice p0 n0 c0)] 38 false])) ∧
    (∀ H p0 n0 c0 p1 n1 c1, buildSliceA Try.prog 26 2 [(0, (.slice p0 n0 c0)), (1, (.slice p1 n1 c1))] H = some (.slice (some ⟨H.length, 0, none⟩) 2 2, H ++ [.cells [(.slice p0 n0 c0), (.slice p1 n1 c1)] 38 false])) ∧
    (∀ H p0 n0 c0 p1 n1 c1 p2 n2 c2, buildSliceA Try.prog 26 3 [(0, (.slice p0 n0 c0)), (1, (.slice p1 n1 c1)), (2, (.slice p2 n2 c2))] H = some (.slice (some ⟨H.length, 0, none⟩) 3 3, H ++ [.cells [(.slice p0 n0 c0), (.slice p1 n1 c1), (.slice p2 n2 c2)] 38 false])) ∧
    (∀ a n c m d, binA Try.prog .eql 26 (.slice a n c) (.slice none m d) = some (.bool (a.isNone))) ∧
    (∀ a n c m d, binA Try.prog .neq 26 (.slice a n c) (.slice none m d) = some (.bool (!a.isNone))) ∧
    (∀ x H, lenS Try.prog 26 x H = lenA Try.prog 26 x) ∧
    (∀ p n c, lenA Try.prog 26 (.slice p n c) = some (.int .i64 n)) ∧
    (∀ (p : Addr), fieldAddrA Try.prog 28 (.pointer (some p)) 0 = some (.pointer (some ⟨p.block, p.off, none⟩))) ∧
    (∀ (p : Addr), fieldAddrA Try.prog 28 (.pointer (some p)) 1 = some (.pointer (some ⟨p.block, p.off + 1, none⟩))) ∧
    (∀ (p : Addr), fieldAddrA Try.prog 31 (.pointer (some p)) 0 = some (.pointer (some ⟨p.block, p.off, none⟩))) ∧
    (∀ (p : Addr), fieldAddrA Try.prog 31 (.pointer (some p)) 1 = some (.pointer (some ⟨p.block, p.off + 1, none⟩))) ∧
    (∀ p H, loadA Try.prog 32 (.pointer (some p)) H = cellA H p.block p.off) ∧
    (∀ p H, loadA Try.prog 38 (.pointer (some p)) H = cellA H p.block p.off) ∧
    (∀ (p : Addr) (n c : Nat) (k : IntKind) {i : Int}, 0 ≤ i → i < (n : Int) → indexAddrA Try.prog 38 (.slice (some p) n c) (.int k i) = some (.pointer (some ⟨p.block, p.off + i.toNat, none⟩))) ∧
    (∀ H, buildSliceA Try.prog 38 0 [] H = some (.slice (some ⟨H.length, 0, none⟩) 0 0, H ++ [.cells [] 3 false])) ∧
    (∀ H k0 x0, buildSliceA Try.prog 38 1 [(0, (.int k0 x0))] H = some (.slice (some ⟨H.length, 0, none⟩) 1 1, H ++ [.cells [(.int k0 x0)] 3 false])) ∧
    (∀ H k0 x0 k1 x1, buildSliceA Try.prog 38 2 [(0, (.int k0 x0)), (1, (.int k1 x1))] H = some (.slice (some ⟨H.length, 0, none⟩) 2 2, H ++ [.cells [(.int k0 x0), (.int k1 x1)] 3 false])) ∧
    (∀ H k0 x0 k1 x1 k2 x2, buildSliceA Try.prog 38 3 [(0, (.int k0 x0)), (1, (.int k1 x1)), (2, (.int k2 x2))] H = some (.slice (some ⟨H.length, 0, none⟩) 3 3, H ++ [.cells [(.int k0 x0), (.int k1 x1), (.int k2 x2)] 3 false])) ∧
    (∀ a n c m d, binA Try.prog .eql 38 (.slice a n c) (.slice none m d) = some (.bool (a.isNone))) ∧
    (∀ a n c m d, binA Try.prog .neq 38 (.slice a n c) (.slice none m d) = some (.bool (!a.isNone))) ∧
    (∀ x H, lenS Try.prog 38 x H = lenA Try.prog 38 x) ∧
    (∀ p n c, lenA Try.prog 38 (.slice p n c) = some (.int .i64 n)) ∧
    (∀ (p : Addr) (k : IntKind), indexAddrA Try.prog 81 (.pointer (some p)) (.int k 0) = some (.pointer (some ⟨p.block, p.off, none⟩))) ∧
    (∀ (p : Addr) (k : IntKind), indexAddrA Try.prog 81 (.pointer (some p)) (.int k 1) = some (.pointer (some ⟨p.block, p.off + 1, none⟩))) ∧
    (∀ p H, loadA Try.prog 85 (.pointer (some p)) H = cellA H p.block p.off) ∧
    (∀ p H, loadA Try.prog 93 (.pointer (some p)) H = cellA H p.block p.off) ∧
    (∀ p H, loadA Try.prog 95 (.pointer (some p)) H = cellA H p.block p.off) ∧
    (∀ p H, loadA Try.prog 97 (.pointer (some p)) H = cellA H p.block p.off) ∧
    (∀ p H, loadA Try.prog 98 (.pointer (some p)) H = cellA H p.block p.off) ∧
    (∀ p H, loadA Try.prog 99 (.pointer (some p)) H = cellA H p.block p.off) ∧
    (∀ p H, loadA Try.prog 103 (.pointer (some p)) H = cellA H p.block p.off) ∧
    (∀ p H, loadA Try.prog 111 (.pointer (some p)) H = cellA H p.block p.off) ∧
    (∀ p H, loadA Try.prog 122 (.pointer (some p)) H = cellA H p.block p.off) ∧
    (∀ p H, loadA Try.prog 129 (.pointer (some p)) H = cellA H p.block p.off) ∧
    (∀ p H, loadA Try.prog 133 (.pointer (some p)) H = cellA H p.block p.off) ∧
    (∀ (p : Addr) (n c : Nat) (k : IntKind) {i : Int}, 0 ≤ i → i < (n : Int) → indexAddrA Try.prog 133 (.slice (some p) n c) (.int k i) = some (.pointer (some ⟨p.block, p.off + i.toNat, none⟩))) ∧
    (∀ H, buildSliceA Try.prog 133 0 [] H = some (.slice (some ⟨H.length, 0, none⟩) 0 0, H ++ [.cells [] 3 false])) ∧
    (∀ H k0 x0, buildSliceA Try.prog 133 1 [(0, (.int k0 x0))] H = some (.slice (some ⟨H.length, 0, none⟩) 1 1, H ++ [.cells [(.int k0 x0)] 3 false])) ∧
    (∀ H k0 x0 k1 x1, buildSliceA Try.prog 133 2 [(0, (.int k0 x0)), (1, (.int k1 x1))] H = some (.slice (some ⟨H.length, 0, none⟩) 2 2, H ++ [.cells [(.int k0 x0), (.int k1 x1)] 3 false])) ∧
    (∀ H k0 x0 k1 x1 k2 x2, buildSliceA Try.prog 133 3 [(0, (.int k0 x0)), (1, (.int k1 x1)), (2, (.int k2 x2))] H = some (.slice (some ⟨H.length, 0, none⟩) 3 3, H ++ [.cells [(.int k0 x0), (.int k1 x1), (.int k2 x2)] 3 false])) ∧
    (∀ a n c m d, binA Try.prog .eql 133 (.slice a n c) (.slice none m d) = some (.bool (a.isNone))) ∧
    (∀ a n c m d, binA Try.prog .neq 133 (.slice a n c) (.slice none m d) = some (.bool (!a.isNone))) ∧
    (∀ x H, lenS Try.prog 133 x H = lenA Try.prog 133 x) ∧
    (∀ p n c, lenA Try.prog 133 (.slice p n c) = some (.int .i64 n)) ∧
    (∀ p H, loadA Try.prog 134 (.pointer (some p)) H = cellA H p.block p.off) ∧
    (∀ p H, loadA Try.prog 145 (.pointer (some p)) H = cellA H p.block p.off) ∧
    (∀ p H, loadA Try.prog 151 (.pointer (some p)) H = cellA H p.block p.off) ∧
    (∀ p H, loadA Try.prog 159 (.pointer (some p)) H = cellA H p.block p.off) ∧
    (∀ p H, loadA Try.prog 182 (.pointer (some p)) H = cellA H p.block p.off) ∧
    (∀ p H, loadA Try.prog 185 (.pointer (some p)) H = cellA H p.block p.off) ∧
    (∀ p H, loadA Try.prog 188 (.pointer (some p)) H = cellA H p.block p.off) ∧
    (∀ k n, convA Try.prog 3 5 (.int k n) = some (.int .u8 (IntKind.u8.wrap n))) ∧
    (∀ k n, convA Try.prog 3 97 (.int k n) = some (.int .u64 (IntKind.u64.wrap n))) ∧
    (∀ k n, convA Try.prog 3 98 (.int k n) = some (.int .u64 (IntKind.u64.wrap n))) ∧
    (∀ k n, convA Try.prog 3 122 (.int k n) = some (.int .u64 (IntKind.u64.wrap n))) ∧
    (∀ k n, convA Try.prog 3 182 (.int k n) = some (.int .u32 (IntKind.u32.wrap n))) ∧
    (∀ k n, convA Try.prog 5 3 (.int k n) = some (.int .i64 (IntKind.i64.wrap n))) ∧
    (∀ k n, convA Try.prog 5 97 (.int k n) = some (.int .u64 (IntKind.u64.wrap n))) ∧
    (∀ k n, convA Try.prog 5 98 (.int k n) = some (.int .u64 (IntKind.u64.wrap n))) ∧
    (∀ k n, convA Try.prog 5 122 (.int k n) = some (.int .u64 (IntKind.u64.wrap n))) ∧
    (∀ k n, convA Try.prog 5 182 (.int k n) = some (.int .u32 (IntKind.u32.wrap n))) ∧
    (∀ k n, convA Try.prog 97 3 (.int k n) = some (.int .i64 (IntKind.i64.wrap n))) ∧
    (∀ k n, convA Try.prog 97 5 (.int k n) = some (.int .u8 (IntKind.u8.wrap n))) ∧
    (∀ k n, convA Try.prog 97 98 (.int k n) = some (.int .u64 (IntKind.u64.wrap n))) ∧
    (∀ k n, convA Try.prog 97 122 (.int k n) = some (.int .u64 (IntKind.u64.wrap n))) ∧
    (∀ k n, convA Try.prog 97 182 (.int k n) = some (.int .u32 (IntKind.u32.wrap n))) ∧
    (∀ k n, convA Try.prog 98 3 (.int k n) = some (.int .i64 (IntKind.i64.wrap n))) ∧
    (∀ k n, convA Try.prog 98 5 (.int k n) = some (.int .u8 (IntKind.u8.wrap n))) ∧
    (∀ k n, convA Try.prog 98 97 (.int k n) = some (.int .u64 (IntKind.u64.wrap n))) ∧
    (∀ k n, convA Try.prog 98 122 (.int k n) = some (.int .u64 (IntKind.u64.wrap n))) ∧
    (∀ k n, convA Try.prog 98 182 (.int k n) = some (.int .u32 (IntKind.u32.wrap n))) ∧
    (∀ k n, convA Try.prog 122 3 (.int k n) = some (.int .i64 (IntKind.i64.wrap n))) ∧
    (∀ k n, convA Try.prog 122 5 (.int k n) = some (.int .u8 (IntKind.u8.wrap n))) ∧
    (∀ k n, convA Try.prog 122 97 (.int k n) = some (.int .u64 (IntKind.u64.wrap n))) ∧
    (∀ k n, convA Try.prog 122 98 (.int k n) = some (.int .u64 (IntKind.u64.wrap n))) ∧
    (∀ k n, convA Try.prog 122 182 (.int k n) = some (.int .u32 (IntKind.u32.wrap n))) ∧
    (∀ k n, convA Try.prog 182 3 (.int k n) = some (.int .i64 (IntKind.i64.wrap n))) ∧
    (∀ k n, convA Try.prog 182 5 (.int k n) = some (.int .u8 (IntKind.u8.wrap n))) ∧
    (∀ k n, convA Try.prog 182 97 (.int k n) = some (.int .u64 (IntKind.u64.wrap n))) ∧
    (∀ k n, convA Try.prog 182 98 (.int k n) = some (.int .u64 (IntKind.u64.wrap n))) ∧
    (∀ k n, convA Try.prog 182 122 (.int k n) = some (.int .u64 (IntKind.u64.wrap n))) :=
  ⟨ld_one ag3,
   ld_one ag4,
   eq_bool_eql Try.underlying4,
   eq_bool_neq Try.underlying4,
   ld_one ag5,
   ld_one ag9,
   ld_one ag22,
   bsP0 Try.underlying22 cs81 ze81 ⟨by kernel_rfl, by kernel_rfl⟩,
   bsP1 Try.underlying22 cs81 ze81,
   ix_two Try.underlying22 cs81,
   eq_nil_eql Try.underlying22,
   eq_nil_neq Try.underlying22,
   lenS_sl (by decide),
   ln_sl Try.underlying22,
   fun p => by kernel_rfl,
   fun p => by kernel_rfl,
   ld_one ag26,
   ix_one Try.underlying26 cs38,
   bs0 Try.underlying26 cs38 ze38 ⟨by kernel_rfl, by kernel_rfl⟩,
   fun H _ _ _ => bs1 Try.underlying26 cs38 ze38 ⟨by kernel_rfl, by kernel_rfl⟩ H rfl,
   fun H _ _ _ _ _ _ => bs2 Try.underlying26 cs38 ze38 ⟨by kernel_rfl, by kernel_rfl⟩ H rfl rfl,
   fun H _ _ _ _ _ _ _ _ _ => bs3 Try.underlying26 cs38 ze38 ⟨by kernel_rfl, by kernel_rfl⟩ H rfl rfl rfl,
   eq_nil_eql Try.underlying26,
   eq_nil_neq Try.underlying26,
   lenS_sl (by decide),
   ln_sl Try.underlying26,
   fun p => by kernel_rfl,
   fun p => by kernel_rfl,
   fun p => by kernel_rfl,
   fun p => by kernel_rfl,
   ld_one ag32,
   ld_one ag38,
   ix_one Try.underlying38 cs3,
   bs0 Try.underlying38 cs3 ze3 ⟨by kernel_rfl, by kernel_rfl⟩,
   fun H _ _ => bs1 Try.underlying38 cs3 ze3 ⟨by kernel_rfl, by kernel_rfl⟩ H rfl,
   fun H _ _ _ _ => bs2 Try.underlying38 cs3 ze3 ⟨by kernel_rfl, by kernel_rfl⟩ H rfl rfl,
   fun H _ _ _ _ _ _ => bs3 Try.underlying38 cs3 ze3 ⟨by kernel_rfl, by kernel_rfl⟩ H rfl rfl rfl,
   eq_nil_eql Try.underlying38,
   eq_nil_neq Try.underlying38,
   lenS_sl (by decide),
   ln_sl Try.underlying38,
   fun p k => ix_arr Try.underlying81 cs3 p k (by decide) (by decide),
   fun p k => ix_arr Try.underlying81 cs3 p k (by decide) (by decide),
   ld_one ag85,
   ld_one ag93,
   ld_one ag95,
   ld_one ag97,
   ld_one ag98,
   ld_one ag99,
   ld_one ag103,
   ld_one ag111,
   ld_one ag122,
   ld_one ag129,
   ld_one ag133,
   ix_one Try.underlying133 cs3,
   bs0 Try.underlying133 cs3 ze3 ⟨by kernel_rfl, by kernel_rfl⟩,
   fun H _ _ => bs1 Try.underlying133 cs3 ze3 ⟨by kernel_rfl, by kernel_rfl⟩ H rfl,
   fun H _ _ _ _ => bs2 Try.underlying133 cs3 ze3 ⟨by kernel_rfl, by kernel_rfl⟩ H rfl rfl,
   fun H _ _ _ _ _ _ => bs3 Try.underlying133 cs3 ze3 ⟨by kernel_rfl, by kernel_rfl⟩ H rfl rfl rfl,
   eq_nil_eql Try.underlying133,
   eq_nil_neq Try.underlying133,
   lenS_sl (by decide),
   ln_sl Try.underlying133,
   ld_one ag134,
   ld_one ag145,
   ld_one ag151,
   ld_one ag159,
   ld_one ag182,
   ld_one ag185,
   ld_one ag188,
   fun _ _ => by simp only [convA, Try.underlying3, Try.underlying5],
   fun _ _ => by simp only [convA, Try.underlying3, Try.underlying97],
   fun _ _ => by simp only [convA, Try.underlying3, Try.underlying98],
   fun _ _ => by simp only [convA, Try.underlying3, Try.underlying122],
   fun _ _ => by simp only [convA, Try.underlying3, Try.underlying182],
   fun _ _ => by simp only [convA, Try.underlying5, Try.underlying3],
   fun _ _ => by simp only [convA, Try.underlying5, Try.underlying97],
   fun _ _ => by simp only [convA, Try.underlying5, Try.underlying98],
   fun _ _ => by simp only [convA, Try.underlying5, Try.underlying122],
   fun _ _ => by simp only [convA, Try.underlying5, Try.underlying182],
   fun _ _ => by simp only [convA, Try.underlying97, Try.underlying3],
   fun _ _ => by simp only [convA, Try.underlying97, Try.underlying5],
   fun _ _ => by simp only [convA, Try.underlying97, Try.underlying98],
   fun _ _ => by simp only [convA, Try.underlying97, Try.underlying122],
   fun _ _ => by simp only [convA, Try.underlying97, Try.underlying182],
   fun _ _ => by simp only [convA, Try.underlying98, Try.underlying3],
   fun _ _ => by simp only [convA, Try.underlying98, Try.underlying5],
   fun _ _ => by simp only [convA, Try.underlying98, Try.underlying97],
   fun _ _ => by simp only [convA, Try.underlying98, Try.underlying122],
   fun _ _ => by simp only [convA, Try.underlying98, Try.underlying182],
   fun _ _ => by simp only [convA, Try.underlying122, Try.underlying3],
   fun _ _ => by simp only [convA, Try.underlying122, Try.underlying5],
   fun _ _ => by simp only [convA, Try.underlying122, Try.underlying97],
   fun _ _ => by simp only [convA, Try.underlying122, Try.underlying98],
   fun _ _ => by simp only [convA, Try.underlying122, Try.underlying182],
   fun _ _ => by simp only [convA, Try.underlying182, Try.underlying3],
   fun _ _ => by simp only [convA, Try.underlying182, Try.underlying5],
   fun _ _ => by simp only [convA, Try.underlying182, Try.underlying97],
   fun _ _ => by simp only [convA, Try.underlying182, Try.underlying98],
   fun _ _ => by simp only [convA, Try.underlying182, Try.underlying122]⟩
end Go.Proofs.Ytlfongfhbkefmaa.Ai
namespace Go.Proofs.Ytlfongfhbkefmaa.Ai
open Go Go.RowKit
set_option linter.unusedVariables false
set_option linter.unusedSimpArgs false
theorem alloc_a2 (H : AH) : allocA Try.prog 81 H = some (.pointer (some ⟨H.length, 0, none⟩), H ++ [.cells [.int .i64 0, .int .i64 0] 81 false]) := by kernel_rfl
theorem build_a2 (a b : Int) : buildA Try.prog 81 [(0, .int .i64 a), (1, .int .i64 b)] = some (.agg (List.toArray [.int .i64 a, .int .i64 b])) := by kernel_rfl
theorem store_a2 (H : AH) (vs : List Value) (hv : vs.length = 2) (a b : Value) : storeA Try.prog 81 (.pointer (some ⟨H.length, 0, none⟩)) (.agg (List.toArray [a, b])) (H ++ [.cells vs 81 false]) = some (H ++ [.cells [a, b] 81 false]) :=
  st_new rfl (by rw [cs81]; rfl) (by rw [cs81]; decide) (by rw [cs81]; exact hv)
theorem end_cell (P : Program) (a : Nat) (t : TypeId) (R : Value → AH → Prop) (s : Sl) (H : AH) (v : Value) (h : loadA P t (s a) H = some v) (ht : isTup v = false) (hr : R v H) : endA P [.cell a t] R .ret s H := by
  simp only [endA, resA, h, ht]
  simp [outA]
  exact hr
theorem box_a2 (H : AH) (x y : Value) : boxA Try.prog 81 (.agg (List.toArray [x, y])) H = some (.pointer (some ⟨H.length, 0, none⟩), H ++ [.cells [x, y] 81 false]) := by kernel_rfl
theorem st_a2 {H : AH} {o : Nat} {vs : List Value} {e : TypeId} (ho : H[o]? = some (.cells vs e false)) (hv : vs.length = 2) (a b : Value) : storeA Try.prog 81 (.pointer (some ⟨o, 0, none⟩)) (.agg (List.toArray [a, b])) H = some (H.set o (.cells [a, b] e false)) := by
  simp only [storeA, ho, cs81]
  have hcl : (Value.agg (List.toArray [a, b])).cells.toList = [a, b] := rfl
  rw [hcl, if_pos ⟨rfl, rfl, by decide, by rw [hv]; exact Nat.le_refl 2⟩]
  have : putAt vs 0 [a, b] = [a, b] := by
    unfold putAt
    rw [List.take_zero, List.nil_append, List.drop_of_length_le (by simp; omega), List.append_nil]
  rw [this]
theorem ld_a2 {H : AH} {o : Nat} {a b : Value} {e : TypeId} {ro : Bool} (ho : H[o]? = some (.cells [a, b] e ro)) : loadA Try.prog 81 (.pointer (some ⟨o, 0, none⟩)) H = some (.agg (List.toArray [a, b])) :=
  ld_two ag81 cs81 (by rw [cell_of ho]; rfl) (by rw [cell_of ho]; rfl)
end Go.Proofs.Ytlfongfhbkefmaa.Ai
namespace Go.Proofs.Ytlfongfhbkefmaa.Ai
open Go
def ords65 : List (Nat × List (Nat × Bool)) := []
def cd65 : Cd := (.seq (.reg [⟨⟨some 4, Op.assign (Operand.const (Value.int IntKind.i64 0)), none⟩, []⟩]) (.seq (.reg [⟨⟨some 5, Op.move (Operand.tmp 1), none⟩, []⟩,
  ⟨⟨some 6, Op.move (Operand.tmp 0), none⟩, []⟩,
  ⟨⟨some 7, Op.call { callee := (Callee.builtin Builtin.len), args := #[(Operand.tmp 6)], argTypes := #[22] }, none⟩, []⟩,
  ⟨⟨some 8, Op.binOp BinOp.sub 3 (Operand.tmp 5) (Operand.tmp 7) 3, none⟩, []⟩,
  ⟨⟨some 1, Op.assign (Operand.tmp 8), none⟩, []⟩]) (.seq (.seq (.reg [⟨⟨some 9, Op.move (Operand.tmp 1), none⟩, []⟩,
  ⟨⟨some 10, Op.binOp BinOp.lss 3 (Operand.tmp 9) (Operand.const (Value.int IntKind.i64 0)) 3, none⟩, []⟩]) (.cond (Operand.tmp 10) (.seq (.reg [⟨⟨some 4, Op.assign (Operand.const (Value.int IntKind.i64 (-1))), none⟩, []⟩]) .ret) .skip)) (.seq (.reg [⟨⟨some 11, Op.move (Operand.tmp 1), none⟩, []⟩,
  ⟨⟨some 4, Op.assign (Operand.tmp 11), none⟩, []⟩]) .ret))))
theorem sl65 : slim Try.f65.ntmps ords65 (Try.f65.body.getD .skip) = some cd65 := by kernel_rfl
theorem in65 {args : List Value} {H : AH} {R : Value → AH → Prop} (hl : args.length = 2) (h : ∀ (Q : Exit → Sl → AH → Prop), (∀ e s H, endA Try.prog [ResultVar.tmp 4] R e s H → Q e s H) → wpC Try.prog cd65 Q (enterA args) H) : ACalls Try.prog 65 args H R :=
  ACalls.intro (by kernel_rfl) Try.func65 rfl (by kernel_rfl) sl65 hl (of_decide_eq_true (by kernel_rfl)) (by kernel_rfl) h
def ords152 : List (Nat × List (Nat × Bool)) := []
def cd152 : Cd := (.seq (.reg [⟨⟨some 1, Op.box 81 (Operand.tmp 0), none⟩, []⟩,
  ⟨⟨some 2, Op.alloc 81, none⟩, []⟩]) (.seq (.reg [⟨⟨some 3, Op.alloc 81, none⟩, []⟩]) (.seq (.seq (.reg [⟨⟨some 4, Op.assign (Operand.const (Value.int IntKind.i64 0)), none⟩, []⟩]) (.block 0 (.loop (.seq (.seq (.reg [⟨⟨some 5, Op.move (Operand.tmp 4), none⟩, []⟩,
  ⟨⟨some 6, Op.binOp BinOp.lss 3 (Operand.tmp 5) (Operand.const (Value.int IntKind.i64 2)) 3, none⟩, []⟩]) (.cond (Operand.tmp 6) .skip (.exit 0))) (.seq (.block 1 (.reg [⟨⟨some 9, Op.move (Operand.tmp 4), none⟩, []⟩,
  ⟨⟨some 10, Op.move (Operand.tmp 4), none⟩, []⟩,
  ⟨⟨some 11, Op.indexAddr 81 (Operand.tmp 1) (Operand.tmp 10), none⟩, []⟩,
  ⟨⟨some 12, Op.load 3 (Operand.tmp 11), none⟩, []⟩,
  ⟨⟨some 13, Op.indexAddr 81 (Operand.tmp 3) (Operand.tmp 9), none⟩, []⟩,
  ⟨⟨none, Op.store 3 (Operand.tmp 13) (Operand.tmp 12), none⟩, []⟩])) (.reg [⟨⟨some 7, Op.move (Operand.tmp 4), none⟩, []⟩,
  ⟨⟨some 8, Op.binOp BinOp.add 3 (Operand.tmp 7) (Operand.const (Value.int IntKind.i64 1)) 3, none⟩, []⟩,
  ⟨⟨some 4, Op.assign (Operand.tmp 8), none⟩, []⟩])))))) (.seq (.reg [⟨⟨some 14, Op.load 81 (Operand.tmp 3), none⟩, []⟩,
  ⟨⟨none, Op.store 81 (Operand.tmp 2) (Operand.tmp 14), none⟩, []⟩]) .ret))))
theorem sl152 : slim Try.f152.ntmps ords152 (Try.f152.body.getD .skip) = some cd152 := by kernel_rfl
set_option maxRecDepth 20000 in
theorem in152 {args : List Value} {H : AH} {R : Value → AH → Prop} (hl : args.length = 1) (h : ∀ (Q : Exit → Sl → AH → Prop), (∀ e s H, endA Try.prog [ResultVar.cell 2 81] R e s H → Q e s H) → wpC Try.prog cd152 Q (enterA args) H) : ACalls Try.prog 152 args H R :=
  ACalls.intro (by kernel_rfl) Try.func152 rfl (by kernel_rfl) sl152 hl (of_decide_eq_true (by kernel_rfl)) (by kernel_rfl) h
def ords70 : List (Nat × List (Nat × Bool)) := []
def cd70 : Cd := (.seq (.reg [⟨⟨some 2, Op.assign (Operand.const (Value.slice none 0 0)), none⟩, []⟩]) (.seq (.reg [⟨⟨some 5, Op.move (Operand.tmp 0), none⟩, []⟩,
  ⟨⟨some 6, Op.call { callee := (Callee.builtin Builtin.len), args := #[(Operand.tmp 5)], argTypes := #[22] }, none⟩, []⟩,
  ⟨⟨some 7, Op.makeSlice 22 (Operand.tmp 6) (Operand.tmp 6), none⟩, []⟩,
  ⟨⟨some 3, Op.assign (Operand.tmp 7), none⟩, []⟩]) (.seq (.seq (.reg [⟨⟨some 4, Op.assign (Operand.const (Value.int IntKind.i64 0)), none⟩, []⟩]) (.block 0 (.loop (.seq (.seq (.reg [⟨⟨some 8, Op.move (Operand.tmp 4), none⟩, []⟩,
  ⟨⟨some 9, Op.move (Operand.tmp 0), none⟩, []⟩,
  ⟨⟨some 10, Op.call { callee := (Callee.builtin Builtin.len), args := #[(Operand.tmp 9)], argTypes := #[22] }, none⟩, []⟩,
  ⟨⟨some 11, Op.binOp BinOp.lss 3 (Operand.tmp 8) (Operand.tmp 10) 3, none⟩, []⟩]) (.cond (Operand.tmp 11) .skip (.exit 0))) (.seq (.block 1 (.reg [⟨⟨some 14, Op.move (Operand.tmp 3), none⟩, []⟩,
  ⟨⟨some 15, Op.move (Operand.tmp 4), none⟩, []⟩,
  ⟨⟨some 16, Op.move (Operand.tmp 0), none⟩, []⟩,
  ⟨⟨some 17, Op.move (Operand.tmp 4), none⟩, []⟩,
  ⟨⟨some 18, Op.indexAddr 22 (Operand.tmp 16) (Operand.tmp 17), none⟩, []⟩,
  ⟨⟨some 19, Op.load 81 (Operand.tmp 18), none⟩, []⟩,
  ⟨⟨some 20, Op.call { callee := (Callee.value (Operand.func 152)), args := #[(Operand.tmp 19)], argTypes := #[81] }, none⟩, []⟩,
  ⟨⟨some 21, Op.indexAddr 22 (Operand.tmp 14) (Operand.tmp 15), none⟩, []⟩,
  ⟨⟨none, Op.store 81 (Operand.tmp 21) (Operand.tmp 20), none⟩, []⟩])) (.reg [⟨⟨some 12, Op.move (Operand.tmp 4), none⟩, []⟩,
  ⟨⟨some 13, Op.binOp BinOp.add 3 (Operand.tmp 12) (Operand.const (Value.int IntKind.i64 1)) 3, none⟩, []⟩,
  ⟨⟨some 4, Op.assign (Operand.tmp 13), none⟩, []⟩])))))) (.seq (.reg [⟨⟨some 22, Op.move (Operand.tmp 3), none⟩, []⟩,
  ⟨⟨some 2, Op.assign (Operand.tmp 22), none⟩, []⟩]) .ret))))
theorem sl70 : slim Try.f70.ntmps ords70 (Try.f70.body.getD .skip) = some cd70 := by kernel_rfl
theorem in70 {args : List Value} {H : AH} {R : Value → AH → Prop} (hl : args.length = 1) (h : ∀ (Q : Exit → Sl → AH → Prop), (∀ e s H, endA Try.prog [ResultVar.tmp 2] R e s H → Q e s H) → wpC Try.prog cd70 Q (enterA args) H) : ACalls Try.prog 70 args H R :=
  ACalls.intro (by kernel_rfl) Try.func70 rfl (by kernel_rfl) sl70 hl (of_decide_eq_true (by kernel_rfl)) (by kernel_rfl) h
def ords159 : List (Nat × List (Nat × Bool)) := [(4, [(0, false), (1, false), (2, false), (3, false), (4, false), (5, false), (6, false)])]
def cd159 : Cd := (.seq (.reg [⟨⟨some 2, Op.box 81 (Operand.tmp 0), none⟩, []⟩,
  ⟨⟨some 3, Op.box 81 (Operand.tmp 1), none⟩, []⟩,
  ⟨⟨some 4, Op.assign (Operand.const (Value.bool false)), none⟩, []⟩]) (.seq (.seq (.reg [⟨⟨some 5, Op.assign (Operand.const (Value.int IntKind.i64 0)), none⟩, []⟩]) (.block 0 (.loop (.seq (.seq (.reg [⟨⟨some 6, Op.move (Operand.tmp 5), none⟩, []⟩,
  ⟨⟨some 7, Op.binOp BinOp.lss 3 (Operand.tmp 6) (Operand.const (Value.int IntKind.i64 2)) 3, none⟩, []⟩]) (.cond (Operand.tmp 7) .skip (.exit 0))) (.seq (.block 1 (.seq (.reg [⟨⟨some 10, Op.move (Operand.tmp 5), none⟩, []⟩,
  ⟨⟨some 11, Op.indexAddr 81 (Operand.tmp 2) (Operand.tmp 10), none⟩, []⟩,
  ⟨⟨some 12, Op.load 3 (Operand.tmp 11), none⟩, []⟩,
  ⟨⟨some 13, Op.move (Operand.tmp 5), none⟩, []⟩,
  ⟨⟨some 14, Op.indexAddr 81 (Operand.tmp 3) (Operand.tmp 13), none⟩, []⟩,
  ⟨⟨some 15, Op.load 3 (Operand.tmp 14), none⟩, []⟩,
  ⟨⟨some 16, Op.binOp BinOp.neq 3 (Operand.tmp 12) (Operand.tmp 15) 3, none⟩, []⟩]) (.cond (Operand.tmp 16) (.seq (.reg [⟨⟨some 4, Op.assign (Operand.const (Value.bool false)), none⟩, []⟩]) .ret) .skip))) (.reg [⟨⟨some 8, Op.move (Operand.tmp 5), none⟩, []⟩,
  ⟨⟨some 9, Op.binOp BinOp.add 3 (Operand.tmp 8) (Operand.const (Value.int IntKind.i64 1)) 3, none⟩, []⟩,
  ⟨⟨some 5, Op.assign (Operand.tmp 9), none⟩, []⟩])))))) (.seq (.reg [⟨⟨some 4, Op.assign (Operand.const (Value.bool true)), none⟩, []⟩]) .ret)))
theorem sl159 : slim Try.f159.ntmps ords159 (Try.f159.body.getD .skip) = some cd159 := by kernel_rfl
theorem in159 {args : List Value} {H : AH} {R : Value → AH → Prop} (hl : args.length = 2) (h : ∀ (Q : Exit → Sl → AH → Prop), (∀ e s H, endA Try.prog [ResultVar.tmp 4] R e s H → Q e s H) → wpC Try.prog cd159 Q (enterA args) H) : ACalls Try.prog 159 args H R :=
  ACalls.intro (by kernel_rfl) Try.func159 rfl (by kernel_rfl) sl159 hl (of_decide_eq_true (by kernel_rfl)) (by kernel_rfl) h
def ords77 : List (Nat × List (Nat × Bool)) := [(6, [(0, false), (1, false), (2, false), (3, false), (4, false), (5, false), (6, false), (7, false), (8, true), (9, false)])]
def cd77 : Cd := (.seq (.reg [⟨⟨some 4, Op.assign (Operand.const (Value.bool false)), none⟩, []⟩]) (.seq (.seq (.reg [⟨⟨some 6, Op.move (Operand.tmp 0), none⟩, []⟩,
  ⟨⟨some 7, Op.call { callee := (Callee.builtin Builtin.len), args := #[(Operand.tmp 6)], argTypes := #[22] }, none⟩, []⟩,
  ⟨⟨some 8, Op.move (Operand.tmp 1), none⟩, []⟩,
  ⟨⟨some 9, Op.call { callee := (Callee.builtin Builtin.len), args := #[(Operand.tmp 8)], argTypes := #[22] }, none⟩, []⟩,
  ⟨⟨some 10, Op.binOp BinOp.neq 3 (Operand.tmp 7) (Operand.tmp 9) 3, none⟩, []⟩]) (.cond (Operand.tmp 10) (.seq (.reg [⟨⟨some 4, Op.assign (Operand.const (Value.bool false)), none⟩, []⟩]) .ret) .skip)) (.seq (.seq (.reg [⟨⟨some 5, Op.assign (Operand.const (Value.int IntKind.i64 0)), none⟩, []⟩]) (.block 0 (.loop (.seq (.seq (.reg [⟨⟨some 11, Op.move (Operand.tmp 5), none⟩, []⟩,
  ⟨⟨some 12, Op.move (Operand.tmp 0), none⟩, []⟩,
  ⟨⟨some 13, Op.call { callee := (Callee.builtin Builtin.len), args := #[(Operand.tmp 12)], argTypes := #[22] }, none⟩, []⟩,
  ⟨⟨some 14, Op.binOp BinOp.lss 3 (Operand.tmp 11) (Operand.tmp 13) 3, none⟩, []⟩]) (.cond (Operand.tmp 14) .skip (.exit 0))) (.seq (.block 1 (.seq (.reg [⟨⟨some 17, Op.move (Operand.tmp 0), none⟩, []⟩,
  ⟨⟨some 18, Op.move (Operand.tmp 5), none⟩, []⟩,
  ⟨⟨some 19, Op.indexAddr 22 (Operand.tmp 17) (Operand.tmp 18), none⟩, []⟩,
  ⟨⟨some 20, Op.load 81 (Operand.tmp 19), none⟩, []⟩,
  ⟨⟨some 21, Op.move (Operand.tmp 1), none⟩, []⟩,
  ⟨⟨some 22, Op.move (Operand.tmp 5), none⟩, []⟩,
  ⟨⟨some 23, Op.indexAddr 22 (Operand.tmp 21) (Operand.tmp 22), none⟩, []⟩,
  ⟨⟨some 24, Op.load 81 (Operand.tmp 23), none⟩, []⟩,
  ⟨⟨some 25, Op.call { callee := (Callee.value (Operand.func 159)), args := #[(Operand.tmp 20), (Operand.tmp 24)], argTypes := #[81, 81] }, none⟩, []⟩,
  ⟨⟨some 26, Op.unOp UnOp.not 4 (Operand.tmp 25), none⟩, []⟩]) (.cond (Operand.tmp 26) (.seq (.reg [⟨⟨some 4, Op.assign (Operand.const (Value.bool false)), none⟩, []⟩]) .ret) .skip))) (.reg [⟨⟨some 15, Op.move (Operand.tmp 5), none⟩, []⟩,
  ⟨⟨some 16, Op.binOp BinOp.add 3 (Operand.tmp 15) (Operand.const (Value.int IntKind.i64 1)) 3, none⟩, []⟩,
  ⟨⟨some 5, Op.assign (Operand.tmp 16), none⟩, []⟩])))))) (.seq (.reg [⟨⟨some 4, Op.assign (Operand.const (Value.bool true)), none⟩, []⟩]) .ret))))
theorem sl77 : slim Try.f77.ntmps ords77 (Try.f77.body.getD .skip) = some cd77 := by kernel_rfl
theorem in77 {args : List Value} {H : AH} {R : Value → AH → Prop} (hl : args.length = 2) (h : ∀ (Q : Exit → Sl → AH → Prop), (∀ e s H, endA Try.prog [ResultVar.tmp 4] R e s H → Q e s H) → wpC Try.prog cd77 Q (enterA args) H) : ACalls Try.prog 77 args H R :=
  ACalls.intro (by kernel_rfl) Try.func77 rfl (by kernel_rfl) sl77 hl (of_decide_eq_true (by kernel_rfl)) (by kernel_rfl) h
end Go.Proofs.Ytlfongfhbkefmaa.Ai
namespace Go.Proofs.Ytlfongfhbkefmaa.Ai
open Go Go.RowKit
set_option linter.unusedVariables false
set_option linter.unusedSimpArgs false
theorem szIntA2S_c (v : Value) (ps : List (Int × Int)) (k : Int) (H : AH) (hr : RowP 81 H v ps) (hk : 0 ≤ k ∧ k ≤ 1099511627776) (hl : (ps.length : Int) ≤ 9223372036854775807) :
    ACalls Try.prog 65 [v, .int .i64 k] H fun r H' => r = .int .i64 (if k - ps.length < 0 then -1 else k - ps.length) ∧ H = H' := by
  refine in65 rfl ?_
  intro Q hQ
  simp (maxSteps := 1000000) (disch := omega) only [cd65, hr.len Try.underlying22, wrap64, S, S1, S2, S3, S4, S5, ST, eq_self, reduceIte, reduceCtorEq, Nat.reduceEqDiff, Nat.reduceAdd]
  refine brD.intro (fun g => ?_) (fun g => ?_) <;> simp (maxSteps := 1000000) (disch := omega) only [g, S, S1, S2, S3, S4, S5, ST, eq_self, reduceIte, reduceCtorEq, Nat.reduceEqDiff, Nat.reduceAdd] <;> refine hQ _ _ _ ?_ <;> simp (maxSteps := 1000000) (disch := omega) only [g, S, S1, S2, S3, S4, S5, ST, eq_self, reduceIte, reduceCtorEq, Nat.reduceEqDiff, Nat.reduceAdd]
theorem toIntA2_c (a b : Int) (H : AH) : ACalls Try.prog 152 [.agg (List.toArray [.int .i64 a, .int .i64 b])] H fun r H' => r = .agg (List.toArray [.int .i64 a, .int .i64 b]) ∧ H <+: H' := by
  refine in152 rfl ?_
  intro Q hQ
  simp (maxSteps := 1000000) (disch := omega) only [cd152, box_a2, alloc_a2, S, S1, S2, S3, S4, S5, ST, eq_self, reduceIte, reduceCtorEq, Nat.reduceEqDiff, Nat.reduceAdd]
  generalize hA : H ++ [AObj.cells [.int .i64 a, .int .i64 b] 81 false] = A
  have a0 : A[H.length]? = some (.cells (ints [a, b]) 81 false) := by rw [← hA]; exact at_new ..
  have pA : H <+: A := by rw [← hA]; exact List.prefix_append _ _
  have lA : H.length ≤ A.length := pA.length_le
  generalize hB : A ++ [AObj.cells [.int .i64 0, .int .i64 0] 81 false] = B
  have b0 : B[H.length]? = some (.cells (ints [a, b]) 81 false) := by rw [← hB]; exact at_app a0 _
  have b1 : B[A.length]? = some (.cells [.int .i64 0, .int .i64 0] 81 false) := by rw [← hB]; exact at_new ..
  have pB : H <+: B := by rw [← hB]; exact pre_app pA _
  refine LoopH.by (fun m s H' => ∃ i ys, m + i = 2 ∧ s 1 = .pointer (some ⟨H.length, 0, none⟩) ∧ s 2 = .pointer (some ⟨A.length, 0, none⟩) ∧ s 3 = .pointer (some ⟨B.length, 0, none⟩) ∧ s 4 = .int .i64 ((i : Nat) : Int) ∧ H' = B ++ [.cells (ints ys) 81 false] ∧ ys.length = 2 ∧ ys.take i = [a, b].take i) 2 ?_ ?_
  · exact ⟨0, [0, 0], by simp, rfl, rfl, rfl, rfl, rfl, rfl, rfl⟩
  · rintro m s H' ⟨i, ys, hm, h1, h2, h3, h4, rfl, hl, ht⟩
    have hc0 : (B ++ [AObj.cells (ints ys) 81 false])[H.length]? = some (.cells (ints [a, b]) 81 false) := at_app b0 _
    have hc1 : (B ++ [AObj.cells (ints ys) 81 false])[A.length]? = some (.cells [.int .i64 0, .int .i64 0] 81 false) := at_app b1 _
    have hc := at_new B (.cells (ints ys) 81 false)
    simp (maxSteps := 1000000) (disch := omega) only [h1, h2, h3, h4, S, S1, S2, S3, S4, S5, ST, eq_self, reduceIte, reduceCtorEq, Nat.reduceEqDiff, Nat.reduceAdd]
    refine brD.intro (fun g => ?_) (fun g => ?_)
    · have hi : i < 2 := by omega
      have hi2 : i < [a, b].length := hi
      simp (maxSteps := 1000000) (disch := omega) only [h1, h2, h3, h4, ixa81, Int.toNat_natCast, Nat.zero_add, cell_ints hc0 hi2, st_ints cs3 hc, set_new, wrap64, S, S1, S2, S3, S4, S5, ST, eq_self, reduceIte, reduceCtorEq, Nat.reduceEqDiff, Nat.reduceAdd]
      have e1 : (ys.set i ([a, b].getD i 0)).take (i + 1) = [a, b].take (i + 1) := by
        rw [List.take_add_one, List.take_add_one, List.getElem?_set_self (by omega), List.getElem?_eq_getElem hi2, ← ht]
        congr 1
        · rw [List.take_set, List.set_eq_of_length_le (by simp; omega)]
        · simp [hi]
      refine ⟨m - 1, by omega, i + 1, ys.set i ([a, b].getD i 0), ?_⟩
      (repeat' apply And.intro) <;> first | exact e1 | (simp only [Value.int.injEq, true_and]; omega) | omega | rfl | assumption | (simp; done) | (simp; omega)
    · have hy : ys = [a, b] := by
        have : i = 2 := by omega
        subst this
        rw [List.take_of_length_le (by omega)] at ht
        exact ht
      subst hy
      simp (maxSteps := 1000000) (disch := omega) only [h1, h2, h3, h4, ld_a2 hc, st_a2 hc1 rfl, S, S1, S2, S3, S4, S5, ST, eq_self, reduceIte, reduceCtorEq, Nat.reduceEqDiff, Nat.reduceAdd]
      refine hQ _ _ _ (end_cell _ _ _ _ _ _ (.agg (List.toArray [.int .i64 a, .int .i64 b])) ?_ rfl ⟨rfl, ?_⟩)
      · simp (maxSteps := 1000000) (disch := omega) only [h2, S, S1, S2, S3, S4, S5, ST, eq_self, reduceIte, reduceCtorEq, Nat.reduceEqDiff, Nat.reduceAdd]
        exact ld_a2 (at_set hc1)
      · exact pre_set (pre_app pB _) lA _
set_option maxRecDepth 20000 in
set_option maxHeartbeats 1000000 in
theorem toIntA2S_c (v : Value) (ps : List (Int × Int)) (H : AH) (hr : RowP 81 H v ps) (hlen : ps.length ≤ 1099511627776) : ACalls Try.prog 70 [v] H fun r H' => MineP 81 H H' r ps ∧ H <+: H' := by
  refine in70 rfl ?_
  intro Q hQ
  simp (maxSteps := 1000000) (disch := omega) only [cd70, hr.len Try.underlying22, mks22, Int.toNat_natCast, S, S1, S2, S3, S4, S5, ST, eq_self, reduceIte, reduceCtorEq, Nat.reduceEqDiff, Nat.reduceAdd]
  refine LoopH.by (fun m s H' => ∃ i qs, m + i = ps.length ∧ s 0 = v ∧ s 3 = .slice (some ⟨H.length, 0, none⟩) ps.length ps.length ∧ s 4 = .int .i64 ((i : Nat) : Int) ∧ H <+: H' ∧ H'[H.length]? = some (.cells (ints (flat qs)) 81 false) ∧ qs.length = ps.length ∧ qs.take i = ps.take i) ps.length ?_ ?_
  · exact ⟨0, List.replicate ps.length (0, 0), by simp, rfl, by simp [S, S1, S2, S3, S4, S5, ST, eq_self, reduceIte, reduceCtorEq, Nat.reduceEqDiff, Nat.reduceAdd], by simp [S, S1, S2, S3, S4, S5, ST, eq_self, reduceIte, reduceCtorEq, Nat.reduceEqDiff, Nat.reduceAdd], List.prefix_append _ _, by rw [at_new], by simp, by simp⟩
  · rintro m s H' ⟨i, qs, hm, h0, h3, h4, hp, hc, hl, ht⟩
    have hr' := hr.pre hp
    simp (maxSteps := 1000000) (disch := omega) only [h0, h3, h4, hr'.len Try.underlying22, S, S1, S2, S3, S4, S5, ST, eq_self, reduceIte, reduceCtorEq, Nat.reduceEqDiff, Nat.reduceAdd]
    refine brD.intro (fun g => ?_) (fun g => ?_)
    · have hi : i < ps.length := by omega
      have hi2 : i < qs.length := by omega
      have hg : ps.getD i (0, 0) = ps[i] := by simp [hi]
      have e1 : (qs.set i ((ps.getD i (0, 0)).1, (ps.getD i (0, 0)).2)).take (i + 1) = ps.take (i + 1) := by
        rw [List.take_add_one, List.take_add_one, List.getElem?_set_self hi2, List.getElem?_eq_getElem hi, ← ht]
        congr 1
        · rw [List.take_set, List.set_eq_of_length_le (by simp; omega)]
        · rw [hg]
      simp (maxSteps := 1000000) (disch := omega) only [h0, h3, h4, hr'.ix Try.underlying22 cs81, Int.toNat_natCast, hr'.ld ag81 cs81 hi, S, S1, S2, S3, S4, S5, ST, eq_self, reduceIte, reduceCtorEq, Nat.reduceEqDiff, Nat.reduceAdd]
      refine CallH.by (toIntA2_c (ps.getD i (0, 0)).1 (ps.getD i (0, 0)).2 H') ?_
      rintro _ H2 ⟨rfl, hp2⟩
      have hc2 := pre_at hp2 hc
      simp (maxSteps := 1000000) (disch := omega) only [h0, h3, h4, Int.toNat_natCast, st_prs cs81 hc2 hi2, wrap64, S, S1, S2, S3, S4, S5, ST, eq_self, reduceIte, reduceCtorEq, Nat.reduceEqDiff, Nat.reduceAdd]
      have hpp := pre_set (hp.trans hp2) (Nat.le_refl _) (.cells (ints (flat (qs.set i ((ps.getD i (0, 0)).1, (ps.getD i (0, 0)).2)))) 81 false)
      have hcc := at_set (d := .cells (ints (flat (qs.set i ((ps.getD i (0, 0)).1, (ps.getD i (0, 0)).2)))) 81 false) hc2
      refine ⟨m - 1, by omega, i + 1, qs.set i ((ps.getD i (0, 0)).1, (ps.getD i (0, 0)).2), ?_⟩
      (repeat' first | exact e1 | exact hpp | exact hcc | apply And.intro) <;> first | (simp only [Value.int.injEq, true_and]; omega) | omega | rfl | assumption | (simp; done) | (simp; omega)
    · simp (maxSteps := 1000000) (disch := omega) only [h3, S, S1, S2, S3, S4, S5, ST, eq_self, reduceIte, reduceCtorEq, Nat.reduceEqDiff, Nat.reduceAdd]
      refine hQ _ _ _ ?_
      simp (maxSteps := 1000000) (disch := omega) only [h3, S, S1, S2, S3, S4, S5, ST, eq_self, reduceIte, reduceCtorEq, Nat.reduceEqDiff, Nat.reduceAdd]
      rw [List.take_of_length_le (by omega), List.take_of_length_le (by omega)] at ht
      subst ht
      exact ⟨.inr ⟨H.length, _, rfl, Nat.le_refl _, hc, by rw [List.take_of_length_le (by rw [flat_len]; omega)]⟩, hp⟩
theorem eqIntA2_c (a b c d : Int) (H : AH) : ACalls Try.prog 159 [.agg (List.toArray [.int .i64 a, .int .i64 b]), .agg (List.toArray [.int .i64 c, .int .i64 d])] H fun r H' => r = .bool (decide ((a, b) = (c, d))) ∧ H <+: H' := by
  refine in159 rfl ?_
  intro Q hQ
  simp (maxSteps := 1000000) (disch := omega) only [cd159, box_a2, S, S1, S2, S3, S4, S5, ST, eq_self, reduceIte, reduceCtorEq, Nat.reduceEqDiff, Nat.reduceAdd]
  generalize hA : H ++ [AObj.cells [.int .i64 a, .int .i64 b] 81 false] = A
  have a0 : A[H.length]? = some (.cells (ints [a, b]) 81 false) := by rw [← hA]; exact at_new ..
  have pA : H <+: A := by rw [← hA]; exact List.prefix_append _ _
  generalize hB : A ++ [AObj.cells [.int .i64 c, .int .i64 d] 81 false] = B
  have b0 : B[H.length]? = some (.cells (ints [a, b]) 81 false) := by rw [← hB]; exact at_app a0 _
  have b1 : B[A.length]? = some (.cells (ints [c, d]) 81 false) := by rw [← hB]; exact at_new ..
  have pB : H <+: B := by rw [← hB]; exact pre_app pA _
  refine LoopH.by (fun m s H' => ∃ i, m + i = 2 ∧ s 2 = .pointer (some ⟨H.length, 0, none⟩) ∧ s 3 = .pointer (some ⟨A.length, 0, none⟩) ∧ s 5 = .int .i64 ((i : Nat) : Int) ∧ H' = B ∧ [a, b].take i = [c, d].take i) 2 ?_ ?_
  · exact ⟨0, by simp, rfl, rfl, rfl, rfl, rfl⟩
  · rintro m s H' ⟨i, hm, h2, h3, h5, rfl, ht⟩
    simp (maxSteps := 1000000) (disch := omega) only [h2, h3, h5, S, S1, S2, S3, S4, S5, ST, eq_self, reduceIte, reduceCtorEq, Nat.reduceEqDiff, Nat.reduceAdd]
    refine brD.intro (fun g => ?_) (fun g => ?_)
    · have hi : i < [a, b].length := by show i < 2; omega
      have hi2 : i < [c, d].length := hi
      simp (maxSteps := 1000000) (disch := omega) only [h2, h3, h5, ixa81, Int.toNat_natCast, Nat.zero_add, cell_ints b0 hi, cell_ints b1 hi2, S, S1, S2, S3, S4, S5, ST, eq_self, reduceIte, reduceCtorEq, Nat.reduceEqDiff, Nat.reduceAdd]
      refine brD.intro (fun e => ?_) (fun e => ?_) <;> simp (maxSteps := 1000000) (disch := omega) only [h2, h3, h5, wrap64, S, S1, S2, S3, S4, S5, ST, eq_self, reduceIte, reduceCtorEq, Nat.reduceEqDiff, Nat.reduceAdd]
      · refine hQ _ _ _ ?_
        simp (maxSteps := 1000000) (disch := omega) only [S, S1, S2, S3, S4, S5, ST, eq_self, reduceIte, reduceCtorEq, Nat.reduceEqDiff, Nat.reduceAdd]
        have : (a, b) ≠ (c, d) := by
          intro e'
          injection e' with e1 e2
          subst e1; subst e2
          exact e rfl
        simp [this, pB]
      · have fx : [a, b].take (i + 1) = [c, d].take (i + 1) := by
          rw [List.take_add_one, List.take_add_one, ht, List.getElem?_eq_getElem hi, List.getElem?_eq_getElem hi2]
          have e' := Decidable.not_not.1 e
          have g1 : [a, b].getD i 0 = [a, b][i] := by rw [List.getD_eq_getElem?_getD, List.getElem?_eq_getElem hi]; rfl
          have g2 : [c, d].getD i 0 = [c, d][i] := by rw [List.getD_eq_getElem?_getD, List.getElem?_eq_getElem hi2]; rfl
          rw [g1, g2] at e'
          rw [e']
        refine ⟨m - 1, by omega, i + 1, ?_⟩
        (repeat' first | exact fx | apply And.intro) <;> first | (simp only [Value.int.injEq, true_and]; omega) | omega | rfl | assumption | (simp; done) | (simp; omega)
    · simp (maxSteps := 1000000) (disch := omega) only [S, S1, S2, S3, S4, S5, ST, eq_self, reduceIte, reduceCtorEq, Nat.reduceEqDiff, Nat.reduceAdd]
      refine hQ _ _ _ ?_
      simp (maxSteps := 1000000) (disch := omega) only [S, S1, S2, S3, S4, S5, ST, eq_self, reduceIte, reduceCtorEq, Nat.reduceEqDiff, Nat.reduceAdd]
      have : i = 2 := by omega
      subst this
      simp only [List.take_succ_cons, List.take_zero, List.cons.injEq] at ht
      simp [ht.1, ht.2.1, pB]
set_option maxRecDepth 20000 in
set_option maxHeartbeats 1000000 in
theorem eqIntA2S_c (v w : Value) (ps qs : List (Int × Int)) (H : AH) (hr : RowP 81 H v ps) (hr2 : RowP 81 H w qs) (hlen : ps.length ≤ 1099511627776) : ACalls Try.prog 77 [v, w] H fun r H' => r = .bool (decide (ps = qs)) ∧ H <+: H' := by
  refine in77 rfl ?_
  intro Q hQ
  simp (maxSteps := 1000000) (disch := omega) only [cd77, hr.len Try.underlying22, hr2.len Try.underlying22, S, S1, S2, S3, S4, S5, ST, eq_self, reduceIte, reduceCtorEq, Nat.reduceEqDiff, Nat.reduceAdd]
  refine brD.intro (fun g => ?_) (fun g => ?_) <;> simp (maxSteps := 1000000) (disch := omega) only [hr.len Try.underlying22, S, S1, S2, S3, S4, S5, ST, eq_self, reduceIte, reduceCtorEq, Nat.reduceEqDiff, Nat.reduceAdd]
  · refine hQ _ _ _ ?_
    simp (maxSteps := 1000000) (disch := omega) only [S, S1, S2, S3, S4, S5, ST, eq_self, reduceIte, reduceCtorEq, Nat.reduceEqDiff, Nat.reduceAdd]
    have : ps ≠ qs := fun e => g (by rw [e])
    simp [this, List.prefix_refl]
  · have hl : ps.length = qs.length := by omega
    refine LoopH.by (fun m s H' => ∃ i, m + i = ps.length ∧ s 0 = v ∧ s 1 = w ∧ s 5 = .int .i64 ((i : Nat) : Int) ∧ H <+: H' ∧ ps.take i = qs.take i) ps.length ?_ ?_
    · exact ⟨0, by simp, rfl, rfl, rfl, List.prefix_refl _, by simp⟩
    · rintro m s H' ⟨i, hm, h0, h1, h5, hp, hn⟩
      have hr' := hr.pre hp
      have hr2' := hr2.pre hp
      simp (maxSteps := 1000000) (disch := omega) only [h0, h1, h5, hr'.len Try.underlying22, S, S1, S2, S3, S4, S5, ST, eq_self, reduceIte, reduceCtorEq, Nat.reduceEqDiff, Nat.reduceAdd]
      refine brD.intro (fun g => ?_) (fun g => ?_)
      · have hi : i < ps.length := by omega
        have hi2 : i < qs.length := by omega
        have hg : ps.getD i (0, 0) = ps[i] := by simp [hi]
        have hg2 : qs.getD i (0, 0) = qs[i] := by simp [hi2]
        simp (maxSteps := 1000000) (disch := omega) only [h0, h1, h5, hr'.ix Try.underlying22 cs81, hr2'.ix Try.underlying22 cs81, Int.toNat_natCast, hr'.ld ag81 cs81 hi, hr2'.ld ag81 cs81 hi2, S, S1, S2, S3, S4, S5, ST, eq_self, reduceIte, reduceCtorEq, Nat.reduceEqDiff, Nat.reduceAdd]
        refine CallH.by (eqIntA2_c _ _ _ _ H') ?_
        rintro _ H2 ⟨rfl, hp2⟩
        have hpp := hp.trans hp2
        simp (maxSteps := 1000000) (disch := omega) only [S, S1, S2, S3, S4, S5, ST, eq_self, reduceIte, reduceCtorEq, Nat.reduceEqDiff, Nat.reduceAdd]
        refine brD.intro (fun e => ?_) (fun e => ?_) <;> simp (maxSteps := 1000000) (disch := omega) only [h0, h1, h5, wrap64, S, S1, S2, S3, S4, S5, ST, eq_self, reduceIte, reduceCtorEq, Nat.reduceEqDiff, Nat.reduceAdd]
        · have fx : ps.take (i + 1) = qs.take (i + 1) := by
            rw [List.take_add_one, List.take_add_one, hn, List.getElem?_eq_getElem hi, List.getElem?_eq_getElem hi2]
            rw [hg, hg2] at e
            have e' : ps[i] = qs[i] := e
            rw [e']
          refine ⟨m - 1, by omega, i + 1, ?_⟩
          (repeat' first | exact fx | exact hpp | apply And.intro) <;> first | (simp only [Value.int.injEq, true_and]; omega) | omega | rfl | assumption | (simp; done) | (simp; omega)
        · refine hQ _ _ _ ?_
          simp (maxSteps := 1000000) (disch := omega) only [S, S1, S2, S3, S4, S5, ST, eq_self, reduceIte, reduceCtorEq, Nat.reduceEqDiff, Nat.reduceAdd]
          have : ps ≠ qs := by
            intro e'
            subst e'
            exact e rfl
          simp [this, hpp]
      · simp (maxSteps := 1000000) (disch := omega) only [h0, h1, h5, S, S1, S2, S3, S4, S5, ST, eq_self, reduceIte, reduceCtorEq, Nat.reduceEqDiff, Nat.reduceAdd]
        refine hQ _ _ _ ?_
        simp (maxSteps := 1000000) (disch := omega) only [S, S1, S2, S3, S4, S5, ST, eq_self, reduceIte, reduceCtorEq, Nat.reduceEqDiff, Nat.reduceAdd]
        rw [List.take_of_length_le (by omega), List.take_of_length_le (by omega)] at hn
        simp [hn, hp]
end Go.Proofs.Ytlfongfhbkefmaa.Ai
namespace Go.Proofs.Ytlfongfhbkefmaa.Ai
open Go
def ords25 : List (Nat × List (Nat × Bool)) := [(6, [(0, false), (1, false), (2, false), (3, false), (4, false), (5, false), (6, false), (7, false), (8, false)])]
def cd25 : Cd := (.seq (.reg [⟨⟨some 4, Op.assign (Operand.const (Value.bool false)), none⟩, []⟩]) (.seq (.seq (.reg [⟨⟨some 6, Op.move (Operand.tmp 0), none⟩, []⟩,
  ⟨⟨some 7, Op.call { callee := (Callee.builtin Builtin.len), args := #[(Operand.tmp 6)], argTypes := #[38] }, none⟩, []⟩,
  ⟨⟨some 8, Op.move (Operand.tmp 1), none⟩, []⟩,
  ⟨⟨some 9, Op.call { callee := (Callee.builtin Builtin.len), args := #[(Operand.tmp 8)], argTypes := #[38] }, none⟩, []⟩,
  ⟨⟨some 10, Op.binOp BinOp.neq 3 (Operand.tmp 7) (Operand.tmp 9) 3, none⟩, []⟩]) (.cond (Operand.tmp 10) (.seq (.reg [⟨⟨some 4, Op.assign (Operand.const (Value.bool false)), none⟩, []⟩]) .ret) .skip)) (.seq (.seq (.reg [⟨⟨some 5, Op.assign (Operand.const (Value.int IntKind.i64 0)), none⟩, []⟩]) (.block 0 (.loop (.seq (.seq (.reg [⟨⟨some 11, Op.move (Operand.tmp 5), none⟩, []⟩,
  ⟨⟨some 12, Op.move (Operand.tmp 0), none⟩, []⟩,
  ⟨⟨some 13, Op.call { callee := (Callee.builtin Builtin.len), args := #[(Operand.tmp 12)], argTypes := #[38] }, none⟩, []⟩,
  ⟨⟨some 14, Op.binOp BinOp.lss 3 (Operand.tmp 11) (Operand.tmp 13) 3, none⟩, []⟩]) (.cond (Operand.tmp 14) .skip (.exit 0))) (.seq (.block 1 (.seq (.reg [⟨⟨some 17, Op.move (Operand.tmp 0), none⟩, []⟩,
  ⟨⟨some 18, Op.move (Operand.tmp 5), none⟩, []⟩,
  ⟨⟨some 19, Op.indexAddr 38 (Operand.tmp 17) (Operand.tmp 18), none⟩, []⟩,
  ⟨⟨some 20, Op.load 3 (Operand.tmp 19), none⟩, []⟩,
  ⟨⟨some 21, Op.move (Operand.tmp 1), none⟩, []⟩,
  ⟨⟨some 22, Op.move (Operand.tmp 5), none⟩, []⟩,
  ⟨⟨some 23, Op.indexAddr 38 (Operand.tmp 21) (Operand.tmp 22), none⟩, []⟩,
  ⟨⟨some 24, Op.load 3 (Operand.tmp 23), none⟩, []⟩,
  ⟨⟨some 25, Op.binOp BinOp.neq 3 (Operand.tmp 20) (Operand.tmp 24) 3, none⟩, []⟩]) (.cond (Operand.tmp 25) (.seq (.reg [⟨⟨some 4, Op.assign (Operand.const (Value.bool false)), none⟩, []⟩]) .ret) .skip))) (.reg [⟨⟨some 15, Op.move (Operand.tmp 5), none⟩, []⟩,
  ⟨⟨some 16, Op.binOp BinOp.add 3 (Operand.tmp 15) (Operand.const (Value.int IntKind.i64 1)) 3, none⟩, []⟩,
  ⟨⟨some 5, Op.assign (Operand.tmp 16), none⟩, []⟩])))))) (.seq (.reg [⟨⟨some 4, Op.assign (Operand.const (Value.bool true)), none⟩, []⟩]) .ret))))
theorem sl25 : slim Try.f25.ntmps ords25 (Try.f25.body.getD .skip) = some cd25 := by kernel_rfl
theorem in25 {args : List Value} {H : AH} {R : Value → AH → Prop} (hl : args.length = 2) (h : ∀ (Q : Exit → Sl → AH → Prop), (∀ e s H, endA Try.prog [ResultVar.tmp 4] R e s H → Q e s H) → wpC Try.prog cd25 Q (enterA args) H) : ACalls Try.prog 25 args H R :=
  ACalls.intro (by kernel_rfl) Try.func25 rfl (by kernel_rfl) sl25 hl (of_decide_eq_true (by kernel_rfl)) (by kernel_rfl) h
end Go.Proofs.Ytlfongfhbkefmaa.Ai
namespace Go.Proofs.Ytlfongfhbkefmaa.Ai
open Go Go.RowKit
set_option linter.unusedVariables false
set_option linter.unusedSimpArgs false
theorem eqIntS_c (v w : Value) (xs ys : List Int) (H : AH) (hr : Row 3 H v xs) (hr2 : Row 3 H w ys) (hlen : xs.length ≤ 1099511627776) : ACalls Try.prog 25 [v, w] H fun r H' => r = .bool (decide (xs = ys)) ∧ H = H' := by
  refine in25 rfl ?_
  intro Q hQ
  simp (maxSteps := 1000000) (disch := omega) only [cd25, hr.len Try.underlying38, hr2.len Try.underlying38, S, S1, S2, S3, S4, S5, ST, eq_self, reduceIte, reduceCtorEq, Nat.reduceEqDiff, Nat.reduceAdd]
  refine brD.intro (fun g => ?_) (fun g => ?_) <;> simp (maxSteps := 1000000) (disch := omega) only [hr.len Try.underlying38, S, S1, S2, S3, S4, S5, ST, eq_self, reduceIte, reduceCtorEq, Nat.reduceEqDiff, Nat.reduceAdd]
  · refine hQ _ _ _ ?_
    simp (maxSteps := 1000000) (disch := omega) only [S, S1, S2, S3, S4, S5, ST, eq_self, reduceIte, reduceCtorEq, Nat.reduceEqDiff, Nat.reduceAdd]
    have : xs ≠ ys := fun e => g (by rw [e])
    simp [this]
  · have hl : xs.length = ys.length := by omega
    refine LoopH.by (fun m s H' => ∃ i, m + i = xs.length ∧ s 0 = v ∧ s 1 = w ∧ s 5 = .int .i64 ((i : Nat) : Int) ∧ H = H' ∧ xs.take i = ys.take i) xs.length ?_ ?_
    · exact ⟨0, by simp, rfl, rfl, rfl, rfl, by simp⟩
    · rintro m s H' ⟨i, hm, h0, h1, h5, rfl, hn⟩
      simp (maxSteps := 1000000) (disch := omega) only [h0, h1, h5, hr.len Try.underlying38, S, S1, S2, S3, S4, S5, ST, eq_self, reduceIte, reduceCtorEq, Nat.reduceEqDiff, Nat.reduceAdd]
      refine brD.intro (fun g => ?_) (fun g => ?_) <;> simp (maxSteps := 1000000) (disch := omega) only [h0, h1, h5, hr.ix Try.underlying38 cs3, hr.cell, hr2.ix Try.underlying38 cs3, hr2.cell, Int.toNat_natCast, S, S1, S2, S3, S4, S5, ST, eq_self, reduceIte, reduceCtorEq, Nat.reduceEqDiff, Nat.reduceAdd]
      · have hi : i < xs.length := by omega
        have hg : xs.getD i 0 = xs[i] := by simp [hi]
        have hg2 : ys.getD i 0 = ys[i] := by simp [hl ▸ hi]
        refine brD.intro (fun e => ?_) (fun e => ?_) <;> simp (maxSteps := 1000000) (disch := omega) only [h0, h1, h5, wrap64, S, S1, S2, S3, S4, S5, ST, eq_self, reduceIte, reduceCtorEq, Nat.reduceEqDiff, Nat.reduceAdd]
        · refine hQ _ _ _ ?_
          simp (maxSteps := 1000000) (disch := omega) only [S, S1, S2, S3, S4, S5, ST, eq_self, reduceIte, reduceCtorEq, Nat.reduceEqDiff, Nat.reduceAdd]
          have : xs ≠ ys := by
            intro e'
            subst e'
            exact e rfl
          simp [this]
        · refine ⟨m - 1, by omega, i + 1, by omega, by simp, ?_⟩
          rw [List.take_add_one, List.take_add_one, hn, List.getElem?_eq_getElem hi, List.getElem?_eq_getElem (hl ▸ hi)]
          rw [hg, hg2] at e
          rw [Decidable.not_not.1 e]
      · refine hQ _ _ _ ?_
        simp (maxSteps := 1000000) (disch := omega) only [S, S1, S2, S3, S4, S5, ST, eq_self, reduceIte, reduceCtorEq, Nat.reduceEqDiff, Nat.reduceAdd]
        rw [List.take_of_length_le (by omega), List.take_of_length_le (by omega)] at hn
        simp [hn]
end Go.Proofs.Ytlfongfhbkefmaa.Ai
namespace Go.Proofs.Ytlfongfhbkefmaa.Ai
open Go
def ords26 : List (Nat × List (Nat × Bool)) := []
def cd26 : Cd := (.seq (.reg [⟨⟨some 4, Op.assign (Operand.const (Value.int IntKind.i64 0)), none⟩, []⟩]) (.seq (.seq (.reg [⟨⟨some 5, Op.assign (Operand.const (Value.int IntKind.i64 0)), none⟩, []⟩]) (.block 0 (.loop (.seq (.seq (.reg [⟨⟨some 6, Op.move (Operand.tmp 5), none⟩, []⟩,
  ⟨⟨some 7, Op.move (Operand.tmp 0), none⟩, []⟩,
  ⟨⟨some 8, Op.call { callee := (Callee.builtin Builtin.len), args := #[(Operand.tmp 7)], argTypes := #[38] }, none⟩, []⟩,
  ⟨⟨some 9, Op.binOp BinOp.lss 3 (Operand.tmp 6) (Operand.tmp 8) 3, none⟩, []⟩]) (.cond (Operand.tmp 9) .skip (.exit 0))) (.seq (.block 1 (.seq (.reg [⟨⟨some 12, Op.move (Operand.tmp 0), none⟩, []⟩,
  ⟨⟨some 13, Op.move (Operand.tmp 5), none⟩, []⟩,
  ⟨⟨some 14, Op.move (Operand.tmp 1), none⟩, []⟩,
  ⟨⟨some 15, Op.indexAddr 38 (Operand.tmp 12) (Operand.tmp 13), none⟩, []⟩,
  ⟨⟨none, Op.store 3 (Operand.tmp 15) (Operand.tmp 14), none⟩, []⟩]) (.reg [⟨⟨some 16, Op.move (Operand.tmp 1), none⟩, []⟩,
  ⟨⟨some 17, Op.binOp BinOp.add 3 (Operand.tmp 16) (Operand.const (Value.int IntKind.i64 1)) 3, none⟩, []⟩,
  ⟨⟨some 1, Op.assign (Operand.tmp 17), none⟩, []⟩]))) (.reg [⟨⟨some 10, Op.move (Operand.tmp 5), none⟩, []⟩,
  ⟨⟨some 11, Op.binOp BinOp.add 3 (Operand.tmp 10) (Operand.const (Value.int IntKind.i64 1)) 3, none⟩, []⟩,
  ⟨⟨some 5, Op.assign (Operand.tmp 11), none⟩, []⟩])))))) (.seq (.reg [⟨⟨some 18, Op.move (Operand.tmp 1), none⟩, []⟩,
  ⟨⟨some 4, Op.assign (Operand.tmp 18), none⟩, []⟩]) .ret)))
theorem sl26 : slim Try.f26.ntmps ords26 (Try.f26.body.getD .skip) = some cd26 := by kernel_rfl
theorem in26 {args : List Value} {H : AH} {R : Value → AH → Prop} (hl : args.length = 2) (h : ∀ (Q : Exit → Sl → AH → Prop), (∀ e s H, endA Try.prog [ResultVar.tmp 4] R e s H → Q e s H) → wpC Try.prog cd26 Q (enterA args) H) : ACalls Try.prog 26 args H R :=
  ACalls.intro (by kernel_rfl) Try.func26 rfl (by kernel_rfl) sl26 hl (of_decide_eq_true (by kernel_rfl)) (by kernel_rfl) h
def ords93 : List (Nat × List (Nat × Bool)) := []
def cd93 : Cd := (.seq (.reg [⟨⟨some 4, Op.assign (Operand.const (Value.int IntKind.i64 0)), none⟩, []⟩]) (.seq (.seq (.reg [⟨⟨some 5, Op.assign (Operand.const (Value.int IntKind.i64 0)), none⟩, []⟩]) (.block 0 (.loop (.seq (.seq (.reg [⟨⟨some 6, Op.move (Operand.tmp 5), none⟩, []⟩,
  ⟨⟨some 7, Op.move (Operand.tmp 0), none⟩, []⟩,
  ⟨⟨some 8, Op.call { callee := (Callee.builtin Builtin.len), args := #[(Operand.tmp 7)], argTypes := #[38] }, none⟩, []⟩,
  ⟨⟨some 9, Op.binOp BinOp.lss 3 (Operand.tmp 6) (Operand.tmp 8) 3, none⟩, []⟩]) (.cond (Operand.tmp 9) .skip (.exit 0))) (.seq (.block 1 (.seq (.seq (.reg [⟨⟨some 12, Op.move (Operand.tmp 0), none⟩, []⟩,
  ⟨⟨some 13, Op.move (Operand.tmp 5), none⟩, []⟩,
  ⟨⟨some 14, Op.indexAddr 38 (Operand.tmp 12) (Operand.tmp 13), none⟩, []⟩,
  ⟨⟨some 15, Op.load 3 (Operand.tmp 14), none⟩, []⟩,
  ⟨⟨some 16, Op.move (Operand.tmp 1), none⟩, []⟩,
  ⟨⟨some 17, Op.binOp BinOp.neq 3 (Operand.tmp 15) (Operand.tmp 16) 3, none⟩, []⟩]) (.cond (Operand.tmp 17) (.seq (.reg [⟨⟨some 4, Op.assign (Operand.const (Value.int IntKind.i64 (-1))), none⟩, []⟩]) .ret) .skip)) (.reg [⟨⟨some 18, Op.move (Operand.tmp 1), none⟩, []⟩,
  ⟨⟨some 19, Op.binOp BinOp.add 3 (Operand.tmp 18) (Operand.const (Value.int IntKind.i64 1)) 3, none⟩, []⟩,
  ⟨⟨some 1, Op.assign (Operand.tmp 19), none⟩, []⟩]))) (.reg [⟨⟨some 10, Op.move (Operand.tmp 5), none⟩, []⟩,
  ⟨⟨some 11, Op.binOp BinOp.add 3 (Operand.tmp 10) (Operand.const (Value.int IntKind.i64 1)) 3, none⟩, []⟩,
  ⟨⟨some 5, Op.assign (Operand.tmp 11), none⟩, []⟩])))))) (.seq (.reg [⟨⟨some 20, Op.move (Operand.tmp 1), none⟩, []⟩,
  ⟨⟨some 4, Op.assign (Operand.tmp 20), none⟩, []⟩]) .ret)))
theorem sl93 : slim Try.f93.ntmps ords93 (Try.f93.body.getD .skip) = some cd93 := by kernel_rfl
theorem in93 {args : List Value} {H : AH} {R : Value → AH → Prop} (hl : args.length = 2) (h : ∀ (Q : Exit → Sl → AH → Prop), (∀ e s H, endA Try.prog [ResultVar.tmp 4] R e s H → Q e s H) → wpC Try.prog cd93 Q (enterA args) H) : ACalls Try.prog 93 args H R :=
  ACalls.intro (by kernel_rfl) Try.func93 rfl (by kernel_rfl) sl93 hl (of_decide_eq_true (by kernel_rfl)) (by kernel_rfl) h
end Go.Proofs.Ytlfongfhbkefmaa.Ai
namespace Go.Proofs.Ytlfongfhbkefmaa.Ai
open Go Go.RowKit
set_option linter.unusedVariables false
set_option linter.unusedSimpArgs false
theorem take_set_succ (zs : List Int) (i : Nat) (x : Int) (h : i < zs.length) : (zs.set i x).take (i + 1) = zs.take i ++ [x] := by
  rw [List.take_add_one, List.getElem?_set_self h]
  congr 1
  apply List.ext_getElem?
  intro j
  rw [List.getElem?_take, List.getElem?_take]
  by_cases hj : j < i
  · rw [if_pos hj, if_pos hj, List.getElem?_set_ne (by omega)]
  · rw [if_neg hj, if_neg hj]
set_option maxHeartbeats 1000000 in
theorem markIntS_c (v : Value) (xs : List Int) (k : Int) (H0 H : AH) (hm : Mine 3 H0 H v xs) (hlen : xs.length ≤ 1099511627776) (hk : 0 ≤ k ∧ k ≤ 4611686018427387904) :
    ACalls Try.prog 26 [v, .int .i64 k] H fun r H' => r = .int .i64 (k + xs.length) ∧ Mine 3 H0 H' v (runI k xs.length) ∧ Else v H H' := by
  refine in26 rfl ?_
  intro Q hQ
  simp (maxSteps := 1000000) (disch := omega) only [cd26, S, S1, S2, S3, S4, S5, ST, eq_self, reduceIte, reduceCtorEq, Nat.reduceEqDiff, Nat.reduceAdd]
  rcases hm with ⟨rfl, rfl⟩ | ⟨o, zs, rfl, ho, hc, ht⟩
  · refine LoopH.by (fun m s H' => s 0 = .slice none 0 0 ∧ s 1 = .int .i64 k ∧ s 5 = .int .i64 0 ∧ H = H') 0 ?_ ?_
    · exact ⟨rfl, rfl, rfl, rfl⟩
    · rintro m s H' ⟨h0, h1, h5, rfl⟩
      simp (maxSteps := 1000000) (disch := omega) only [h0, h1, h5, S, S1, S2, S3, S4, S5, ST, eq_self, reduceIte, reduceCtorEq, Nat.reduceEqDiff, Nat.reduceAdd]
      refine brD.intro (fun g => ?_) (fun g => ?_) <;> simp (maxSteps := 1000000) (disch := omega) only [h0, h1, h5, S, S1, S2, S3, S4, S5, ST, eq_self, reduceIte, reduceCtorEq, Nat.reduceEqDiff, Nat.reduceAdd]
      · exact absurd g (by decide)
      · refine hQ _ _ _ ?_
        simp (maxSteps := 1000000) (disch := omega) only [h0, h1, h5, S, S1, S2, S3, S4, S5, ST, eq_self, reduceIte, reduceCtorEq, Nat.reduceEqDiff, Nat.reduceAdd]
        exact ⟨by simp, .inl ⟨rfl, rfl⟩, Else.refl _ _⟩
  · have hzl : xs.length ≤ zs.length := by have := congrArg List.length ht; simp at this; omega
    refine LoopH.by (fun m s H' => ∃ i ys, m + i = xs.length ∧ s 0 = .slice (some ⟨o, 0, none⟩) xs.length xs.length ∧ s 1 = .int .i64 (k + (i : Nat)) ∧ s 5 = .int .i64 ((i : Nat) : Int) ∧ H' = H.set o (.cells (ints ys) 3 false) ∧ ys.length = zs.length ∧ ys.take i = runI k i) xs.length ?_ ?_
    · refine ⟨0, zs, by simp, rfl, by simp [S, S1, S2, S3, S4, S5, ST, eq_self, reduceIte, reduceCtorEq, Nat.reduceEqDiff, Nat.reduceAdd], rfl, ?_, rfl, by simp [runI]⟩
      apply List.ext_getElem?
      intro j
      rw [List.getElem?_set]
      by_cases hj : o = j
      · subst hj; rw [if_pos rfl, if_pos (at_lt hc), hc]
      · rw [if_neg hj]
    · rintro m s H' ⟨i, ys, hm, h0, h1, h5, rfl, hyl, hyt⟩
      have hc' : (H.set o (.cells (ints ys) 3 false))[o]? = some (.cells (ints ys) 3 false) := at_set hc
      simp (maxSteps := 1000000) (disch := omega) only [h0, h1, h5, S, S1, S2, S3, S4, S5, ST, eq_self, reduceIte, reduceCtorEq, Nat.reduceEqDiff, Nat.reduceAdd]
      refine brD.intro (fun g => ?_) (fun g => ?_) <;> simp (maxSteps := 1000000) (disch := omega) only [h0, h1, h5, Int.toNat_natCast, Nat.zero_add, st_ints cs3 hc', wrap64, S, S1, S2, S3, S4, S5, ST, eq_self, reduceIte, reduceCtorEq, Nat.reduceEqDiff, Nat.reduceAdd]
      · have hi : i < ys.length := by omega
        have e1 : (ys.set i (k + i)).take (i + 1) = runI k (i + 1) := by rw [take_set_succ ys i _ hi, hyt]; rfl
        have e2 : (ys.set i (k + i)).length = zs.length := by simp [hyl]
        have e3 : (H.set o (.cells (ints ys) 3 false)).set o (.cells (ints (ys.set i (k + i))) 3 false) = H.set o (.cells (ints (ys.set i (k + i))) 3 false) := List.set_set ..
        refine ⟨m - 1, by omega, i + 1, ys.set i (k + i), ?_⟩
        (repeat' apply And.intro) <;> first | rfl | trivial | assumption | omega | (simp only [Value.int.injEq, true_and]; omega) | (simp; done) | (simp; omega) | exact e1 | exact e2 | exact e3
      · refine hQ _ _ _ ?_
        simp (maxSteps := 1000000) (disch := omega) only [h1, S, S1, S2, S3, S4, S5, ST, eq_self, reduceIte, reduceCtorEq, Nat.reduceEqDiff, Nat.reduceAdd]
        have hi : i = xs.length := by omega
        subst hi
        refine ⟨rfl, .inr ⟨o, ys, by rw [runI_len], ho, hc', by rw [runI_len]; exact hyt⟩, Else.set _ _⟩
theorem heldIntS_c (v : Value) (xs : List Int) (k : Int) (H : AH) (hr : Row 3 H v xs) (hlen : xs.length ≤ 1099511627776) (hk : 0 ≤ k ∧ k ≤ 4611686018427387904) (hx : xs = runI k xs.length) :
    ACalls Try.prog 93 [v, .int .i64 k] H fun r H' => r = .int .i64 (k + xs.length) ∧ H = H' := by
  refine in93 rfl ?_
  intro Q hQ
  simp (maxSteps := 1000000) (disch := omega) only [cd93, S, S1, S2, S3, S4, S5, ST, eq_self, reduceIte, reduceCtorEq, Nat.reduceEqDiff, Nat.reduceAdd]
  refine LoopH.by (fun m s H' => ∃ i, m + i = xs.length ∧ s 0 = v ∧ s 1 = .int .i64 (k + (i : Nat)) ∧ s 5 = .int .i64 ((i : Nat) : Int) ∧ H = H') xs.length ?_ ?_
  · exact ⟨0, by simp, rfl, by simp [S, S1, S2, S3, S4, S5, ST, eq_self, reduceIte, reduceCtorEq, Nat.reduceEqDiff, Nat.reduceAdd], rfl, rfl⟩
  · rintro m s H' ⟨i, hm, h0, h1, h5, rfl⟩
    simp (maxSteps := 1000000) (disch := omega) only [h0, h1, h5, hr.len Try.underlying38, S, S1, S2, S3, S4, S5, ST, eq_self, reduceIte, reduceCtorEq, Nat.reduceEqDiff, Nat.reduceAdd]
    refine brD.intro (fun g => ?_) (fun g => ?_) <;> simp (maxSteps := 1000000) (disch := omega) only [h0, h1, h5, hr.ix Try.underlying38 cs3, hr.cell, Int.toNat_natCast, S, S1, S2, S3, S4, S5, ST, eq_self, reduceIte, reduceCtorEq, Nat.reduceEqDiff, Nat.reduceAdd]
    · have hi : i < xs.length := by omega
      have hg : xs.getD i 0 = k + i := by
        have h2 : (runI k xs.length).getD i 0 = k + i := runI_at k _ i hi
        rw [← hx] at h2; exact h2
      simp (maxSteps := 1000000) (disch := omega) only [hg, S, S1, S2, S3, S4, S5, ST, eq_self, reduceIte, reduceCtorEq, Nat.reduceEqDiff, Nat.reduceAdd]
      simp (maxSteps := 1000000) (disch := omega) only [h0, h1, h5, wrap64, S, S1, S2, S3, S4, S5, ST, eq_self, reduceIte, reduceCtorEq, Nat.reduceEqDiff, Nat.reduceAdd]
      refine ⟨m - 1, by omega, i + 1, ?_⟩
      (repeat' apply And.intro) <;> first | rfl | trivial | assumption | omega | (simp only [Value.int.injEq, true_and]; omega) | (simp; done) | (simp; omega)
    · refine hQ _ _ _ ?_
      simp (maxSteps := 1000000) (disch := omega) only [h1, S, S1, S2, S3, S4, S5, ST, eq_self, reduceIte, reduceCtorEq, Nat.reduceEqDiff, Nat.reduceAdd]
      have : i = xs.length := by omega
      rw [this]
theorem markIntS_B (v : Value) (xs : List Int) (k : Int) (lo hi : Nat) (H : AH) (h : InI lo hi 3 H v xs) (hlen : xs.length ≤ 1099511627776) (hk : 0 ≤ k ∧ k ≤ 4611686018427387904) :
    ACalls Try.prog 26 [v, .int .i64 k] H fun r H' => r = .int .i64 (k + xs.length) ∧ InI lo hi 3 H' v (runI k xs.length) ∧ ElseR lo hi H H' := by
  have hm : Mine 3 (List.replicate lo AObj.dead) H v xs := by
    rcases h with h | ⟨o, zs, h1, h2, h3, h4, h5⟩
    · exact .inl h
    · exact .inr ⟨o, zs, h1, by simpa using h2, h4, h5⟩
  refine (markIntS_c v xs k _ H hm hlen hk).mono ?_
  rintro r H' ⟨h1, h2, h3⟩
  refine ⟨h1, ?_, h3.1, fun o x ho hx => h3.2 o x ?_ hx⟩
  · rcases h with ⟨g1, g2⟩ | ⟨o, zs, g1, g2, g3, g4, g5⟩
    · subst g2; exact .inl ⟨g1, rfl⟩
    · rcases h2 with ⟨f1, f2⟩ | ⟨o', zs', f1, f2, f3, f4⟩
      · rw [g1] at f1; cases f1
      · rw [g1] at f1
        simp only [Value.slice.injEq, Option.some.injEq, Addr.mk.injEq] at f1
        refine .inr ⟨o', zs', ?_, ?_, ?_, f3, f4⟩
        · rw [g1, f1.1.1, runI_len]
        · omega
        · omega
  · rcases h with g | ⟨o', zs, g1, g2, g3, g4, g5⟩
    · exact .inl g.1
    · subst g1
      right
      show o ≠ o'
      omega
end Go.Proofs.Ytlfongfhbkefmaa.Ai
namespace Go.Proofs.Ytlfongfhbkefmaa.Ai
open Go
def ords78 : List (Nat × List (Nat × Bool)) := []
def cd78 : Cd := (.seq (.reg [⟨⟨some 4, Op.assign (Operand.const (Value.int IntKind.i64 0)), none⟩, []⟩]) (.seq (.seq (.reg [⟨⟨some 5, Op.assign (Operand.const (Value.int IntKind.i64 0)), none⟩, []⟩]) (.block 0 (.loop (.seq (.seq (.reg [⟨⟨some 7, Op.move (Operand.tmp 5), none⟩, []⟩,
  ⟨⟨some 8, Op.move (Operand.tmp 0), none⟩, []⟩,
  ⟨⟨some 9, Op.call { callee := (Callee.builtin Builtin.len), args := #[(Operand.tmp 8)], argTypes := #[22] }, none⟩, []⟩,
  ⟨⟨some 10, Op.binOp BinOp.lss 3 (Operand.tmp 7) (Operand.tmp 9) 3, none⟩, []⟩]) (.cond (Operand.tmp 10) .skip (.exit 0))) (.seq (.block 1 (.seq (.reg [⟨⟨some 6, Op.assign (Operand.const (Value.int IntKind.i64 0)), none⟩, []⟩]) (.block 2 (.loop (.seq (.seq (.reg [⟨⟨some 13, Op.move (Operand.tmp 6), none⟩, []⟩,
  ⟨⟨some 14, Op.binOp BinOp.lss 3 (Operand.tmp 13) (Operand.const (Value.int IntKind.i64 2)) 3, none⟩, []⟩]) (.cond (Operand.tmp 14) .skip (.exit 2))) (.seq (.block 3 (.seq (.reg [⟨⟨some 17, Op.move (Operand.tmp 0), none⟩, []⟩,
  ⟨⟨some 18, Op.move (Operand.tmp 5), none⟩, []⟩,
  ⟨⟨some 19, Op.move (Operand.tmp 6), none⟩, []⟩,
  ⟨⟨some 20, Op.move (Operand.tmp 1), none⟩, []⟩,
  ⟨⟨some 21, Op.indexAddr 22 (Operand.tmp 17) (Operand.tmp 18), none⟩, []⟩,
  ⟨⟨some 22, Op.indexAddr 81 (Operand.tmp 21) (Operand.tmp 19), none⟩, []⟩,
  ⟨⟨none, Op.store 3 (Operand.tmp 22) (Operand.tmp 20), none⟩, []⟩]) (.reg [⟨⟨some 23, Op.move (Operand.tmp 1), none⟩, []⟩,
  ⟨⟨some 24, Op.binOp BinOp.add 3 (Operand.tmp 23) (Operand.const (Value.int IntKind.i64 1)) 3, none⟩, []⟩,
  ⟨⟨some 1, Op.assign (Operand.tmp 24), none⟩, []⟩]))) (.reg [⟨⟨some 15, Op.move (Operand.tmp 6), none⟩, []⟩,
  ⟨⟨some 16, Op.binOp BinOp.add 3 (Operand.tmp 15) (Operand.const (Value.int IntKind.i64 1)) 3, none⟩, []⟩,
  ⟨⟨some 6, Op.assign (Operand.tmp 16), none⟩, []⟩]))))))) (.reg [⟨⟨some 11, Op.move (Operand.tmp 5), none⟩, []⟩,
  ⟨⟨some 12, Op.binOp BinOp.add 3 (Operand.tmp 11) (Operand.const (Value.int IntKind.i64 1)) 3, none⟩, []⟩,
  ⟨⟨some 5, Op.assign (Operand.tmp 12), none⟩, []⟩])))))) (.seq (.reg [⟨⟨some 25, Op.move (Operand.tmp 1), none⟩, []⟩,
  ⟨⟨some 4, Op.assign (Operand.tmp 25), none⟩, []⟩]) .ret)))
theorem sl78 : slim Try.f78.ntmps ords78 (Try.f78.body.getD .skip) = some cd78 := by kernel_rfl
theorem in78 {args : List Value} {H : AH} {R : Value → AH → Prop} (hl : args.length = 2) (h : ∀ (Q : Exit → Sl → AH → Prop), (∀ e s H, endA Try.prog [ResultVar.tmp 4] R e s H → Q e s H) → wpC Try.prog cd78 Q (enterA args) H) : ACalls Try.prog 78 args H R :=
  ACalls.intro (by kernel_rfl) Try.func78 rfl (by kernel_rfl) sl78 hl (of_decide_eq_true (by kernel_rfl)) (by kernel_rfl) h
def ords79 : List (Nat × List (Nat × Bool)) := []
def cd79 : Cd := (.seq (.reg [⟨⟨some 4, Op.assign (Operand.const (Value.int IntKind.i64 0)), none⟩, []⟩]) (.seq (.seq (.reg [⟨⟨some 5, Op.assign (Operand.const (Value.int IntKind.i64 0)), none⟩, []⟩]) (.block 0 (.loop (.seq (.seq (.reg [⟨⟨some 7, Op.move (Operand.tmp 5), none⟩, []⟩,
  ⟨⟨some 8, Op.move (Operand.tmp 0), none⟩, []⟩,
  ⟨⟨some 9, Op.call { callee := (Callee.builtin Builtin.len), args := #[(Operand.tmp 8)], argTypes := #[22] }, none⟩, []⟩,
  ⟨⟨some 10, Op.binOp BinOp.lss 3 (Operand.tmp 7) (Operand.tmp 9) 3, none⟩, []⟩]) (.cond (Operand.tmp 10) .skip (.exit 0))) (.seq (.block 1 (.seq (.reg [⟨⟨some 6, Op.assign (Operand.const (Value.int IntKind.i64 0)), none⟩, []⟩]) (.block 2 (.loop (.seq (.seq (.reg [⟨⟨some 13, Op.move (Operand.tmp 6), none⟩, []⟩,
  ⟨⟨some 14, Op.binOp BinOp.lss 3 (Operand.tmp 13) (Operand.const (Value.int IntKind.i64 2)) 3, none⟩, []⟩]) (.cond (Operand.tmp 14) .skip (.exit 2))) (.seq (.block 3 (.seq (.seq (.reg [⟨⟨some 17, Op.move (Operand.tmp 0), none⟩, []⟩,
  ⟨⟨some 18, Op.move (Operand.tmp 5), none⟩, []⟩,
  ⟨⟨some 19, Op.move (Operand.tmp 6), none⟩, []⟩,
  ⟨⟨some 20, Op.indexAddr 22 (Operand.tmp 17) (Operand.tmp 18), none⟩, []⟩,
  ⟨⟨some 21, Op.indexAddr 81 (Operand.tmp 20) (Operand.tmp 19), none⟩, []⟩,
  ⟨⟨some 22, Op.load 3 (Operand.tmp 21), none⟩, []⟩,
  ⟨⟨some 23, Op.move (Operand.tmp 1), none⟩, []⟩,
  ⟨⟨some 24, Op.binOp BinOp.neq 3 (Operand.tmp 22) (Operand.tmp 23) 3, none⟩, []⟩]) (.cond (Operand.tmp 24) (.seq (.reg [⟨⟨some 4, Op.assign (Operand.const (Value.int IntKind.i64 (-1))), none⟩, []⟩]) .ret) .skip)) (.reg [⟨⟨some 25, Op.move (Operand.tmp 1), none⟩, []⟩,
  ⟨⟨some 26, Op.binOp BinOp.add 3 (Operand.tmp 25) (Operand.const (Value.int IntKind.i64 1)) 3, none⟩, []⟩,
  ⟨⟨some 1, Op.assign (Operand.tmp 26), none⟩, []⟩]))) (.reg [⟨⟨some 15, Op.move (Operand.tmp 6), none⟩, []⟩,
  ⟨⟨some 16, Op.binOp BinOp.add 3 (Operand.tmp 15) (Operand.const (Value.int IntKind.i64 1)) 3, none⟩, []⟩,
  ⟨⟨some 6, Op.assign (Operand.tmp 16), none⟩, []⟩]))))))) (.reg [⟨⟨some 11, Op.move (Operand.tmp 5), none⟩, []⟩,
  ⟨⟨some 12, Op.binOp BinOp.add 3 (Operand.tmp 11) (Operand.const (Value.int IntKind.i64 1)) 3, none⟩, []⟩,
  ⟨⟨some 5, Op.assign (Operand.tmp 12), none⟩, []⟩])))))) (.seq (.reg [⟨⟨some 27, Op.move (Operand.tmp 1), none⟩, []⟩,
  ⟨⟨some 4, Op.assign (Operand.tmp 27), none⟩, []⟩]) .ret)))
theorem sl79 : slim Try.f79.ntmps ords79 (Try.f79.body.getD .skip) = some cd79 := by kernel_rfl
theorem in79 {args : List Value} {H : AH} {R : Value → AH → Prop} (hl : args.length = 2) (h : ∀ (Q : Exit → Sl → AH → Prop), (∀ e s H, endA Try.prog [ResultVar.tmp 4] R e s H → Q e s H) → wpC Try.prog cd79 Q (enterA args) H) : ACalls Try.prog 79 args H R :=
  ACalls.intro (by kernel_rfl) Try.func79 rfl (by kernel_rfl) sl79 hl (of_decide_eq_true (by kernel_rfl)) (by kernel_rfl) h
end Go.Proofs.Ytlfongfhbkefmaa.Ai
namespace Go.Proofs.Ytlfongfhbkefmaa.Ai
open Go Go.RowKit
set_option linter.unusedVariables false
set_option linter.unusedSimpArgs false
set_option maxHeartbeats 1000000 in
theorem markIntA2S_B (v : Value) (ps : List (Int × Int)) (k : Int) (lo hi : Nat) (H : AH) (h : InP lo hi 81 H v ps) (hlen : ps.length ≤ 1099511627776) (hk : 0 ≤ k ∧ k ≤ 1099511627776) :
    ACalls Try.prog 78 [v, .int .i64 k] H fun r H' => r = .int .i64 (k + 2 * ps.length) ∧ InP lo hi 81 H' v (runP k ps.length) ∧ ElseR lo hi H H' := by
  refine in78 rfl ?_
  intro Q hQ
  simp (maxSteps := 1000000) (disch := omega) only [cd78, S, S1, S2, S3, S4, S5, ST, eq_self, reduceIte, reduceCtorEq, Nat.reduceEqDiff, Nat.reduceAdd]
  rcases h with ⟨rfl, rfl⟩ | ⟨o, zs, rfl, hlo, hhi, hc, ht⟩
  · refine LoopH.by (fun m s H' => s 0 = .slice none 0 0 ∧ s 1 = .int .i64 k ∧ s 5 = .int .i64 0 ∧ H = H') 0 ?_ ?_
    · exact ⟨rfl, rfl, rfl, rfl⟩
    · rintro m s H' ⟨h0, h1, h5, rfl⟩
      simp (maxSteps := 1000000) (disch := omega) only [h0, h1, h5, S, S1, S2, S3, S4, S5, ST, eq_self, reduceIte, reduceCtorEq, Nat.reduceEqDiff, Nat.reduceAdd]
      refine brD.intro (fun g => ?_) (fun g => ?_) <;> simp (maxSteps := 1000000) (disch := omega) only [h0, h1, h5, S, S1, S2, S3, S4, S5, ST, eq_self, reduceIte, reduceCtorEq, Nat.reduceEqDiff, Nat.reduceAdd]
      · exact absurd g (by decide)
      · refine hQ _ _ _ ?_
        simp (maxSteps := 1000000) (disch := omega) only [h0, h1, h5, S, S1, S2, S3, S4, S5, ST, eq_self, reduceIte, reduceCtorEq, Nat.reduceEqDiff, Nat.reduceAdd]
        exact ⟨by simp, .inl ⟨rfl, rfl⟩, ElseR.refl _ _ _⟩
  · have hzl := take_flat_len ht
    refine LoopH.by (fun m s H' => ∃ i ys, m + i = ps.length ∧ s 0 = .slice (some ⟨o, 0, none⟩) ps.length ps.length ∧ s 1 = .int .i64 (k + 2 * (i : Nat)) ∧ s 5 = .int .i64 ((i : Nat) : Int) ∧ H' = H.set o (.cells (ints ys) 81 false) ∧ ys.length = zs.length ∧ ys.take (2 * i) = runI k (2 * i)) ps.length ?_ ?_
    · refine ⟨0, zs, by simp, rfl, by simp [S, S1, S2, S3, S4, S5, ST, eq_self, reduceIte, reduceCtorEq, Nat.reduceEqDiff, Nat.reduceAdd], rfl, ?_, rfl, by simp [runI]⟩
      apply List.ext_getElem?
      intro j
      rw [List.getElem?_set]
      by_cases hj : o = j
      · subst hj; rw [if_pos rfl, if_pos (at_lt hc), hc]
      · rw [if_neg hj]
    · rintro m s H' ⟨i, ys, hm, h0, h1, h5, rfl, hyl, hyt⟩
      simp (maxSteps := 1000000) (disch := omega) only [h0, h1, h5, S, S1, S2, S3, S4, S5, ST, eq_self, reduceIte, reduceCtorEq, Nat.reduceEqDiff, Nat.reduceAdd]
      refine brD.intro (fun g => ?_) (fun g => ?_)
      · have hi : i < ps.length := by omega
        simp (maxSteps := 1000000) (disch := omega) only [h0, h1, h5, wrap64, S, S1, S2, S3, S4, S5, ST, eq_self, reduceIte, reduceCtorEq, Nat.reduceEqDiff, Nat.reduceAdd]
        refine LoopH.by (fun m' s' H' => ∃ j ys, m' + j = 2 ∧ s' 0 = .slice (some ⟨o, 0, none⟩) ps.length ps.length ∧ s' 1 = .int .i64 (k + 2 * (i : Nat) + (j : Nat)) ∧ s' 5 = .int .i64 ((i : Nat) : Int) ∧ s' 6 = .int .i64 ((j : Nat) : Int) ∧ H' = H.set o (.cells (ints ys) 81 false) ∧ ys.length = zs.length ∧ ys.take (2 * i + j) = runI k (2 * i + j)) 2 ?_ ?_
        · exact ⟨0, ys, by simp, by simp [S, S1, S2, S3, S4, S5, ST, eq_self, reduceIte, reduceCtorEq, Nat.reduceEqDiff, Nat.reduceAdd, h0], by simp [S, S1, S2, S3, S4, S5, ST, eq_self, reduceIte, reduceCtorEq, Nat.reduceEqDiff, Nat.reduceAdd, h1], by simp [S, S1, S2, S3, S4, S5, ST, eq_self, reduceIte, reduceCtorEq, Nat.reduceEqDiff, Nat.reduceAdd, h5], by simp [S, S1, S2, S3, S4, S5, ST, eq_self, reduceIte, reduceCtorEq, Nat.reduceEqDiff, Nat.reduceAdd], rfl, hyl, hyt⟩
        · rintro m' s' H' ⟨j, ys, hm', g0, g1, g5, g6, rfl, hyl, hyt⟩
          have hc' : (H.set o (.cells (ints ys) 81 false))[o]? = some (.cells (ints ys) 81 false) := at_set hc
          simp (maxSteps := 1000000) (disch := omega) only [g0, g1, g5, g6, S, S1, S2, S3, S4, S5, ST, eq_self, reduceIte, reduceCtorEq, Nat.reduceEqDiff, Nat.reduceAdd]
          refine brD.intro (fun q => ?_) (fun q => ?_)
          · have hj : 2 * i + j < ys.length := by omega
            simp (maxSteps := 1000000) (disch := omega) only [g0, g1, g5, g6, ixa81, Int.toNat_natCast, Nat.zero_add, st_ints cs3 hc', wrap64, S, S1, S2, S3, S4, S5, ST, eq_self, reduceIte, reduceCtorEq, Nat.reduceEqDiff, Nat.reduceAdd]
            have e1 : (ys.set (2 * i + j) (k + 2 * i + j)).take (2 * i + (j + 1)) = runI k (2 * i + (j + 1)) := by
              rw [← Nat.add_assoc, take_set_succ ys _ _ hj, hyt, runI]
              congr 2
              omega
            have e2 : (ys.set (2 * i + j) (k + 2 * i + j)).length = zs.length := by simp [hyl]
            have e3 : (H.set o (.cells (ints ys) 81 false)).set o (.cells (ints (ys.set (2 * i + j) (k + 2 * i + j))) 81 false) = H.set o (.cells (ints (ys.set (2 * i + j) (k + 2 * i + j))) 81 false) := List.set_set ..
            refine ⟨m' - 1, by omega, j + 1, ys.set (2 * i + j) (k + 2 * i + j), ?_⟩
            (repeat' first | exact e1 | exact e2 | exact e3 | apply And.intro) <;> first | (simp only [Value.int.injEq, true_and]; omega) | omega | rfl | assumption | (simp; done) | (simp; omega)
          · have hj : j = 2 := by omega
            subst hj
            simp (maxSteps := 1000000) (disch := omega) only [g0, g1, g5, g6, wrap64, S, S1, S2, S3, S4, S5, ST, eq_self, reduceIte, reduceCtorEq, Nat.reduceEqDiff, Nat.reduceAdd]
            have e1 : ys.take (2 * (i + 1)) = runI k (2 * (i + 1)) := hyt
            refine ⟨m - 1, by omega, i + 1, ys, ?_⟩
            (repeat' first | exact e1 | exact hyl | apply And.intro) <;> first | (simp only [Value.int.injEq, true_and]; omega) | omega | rfl | assumption | (simp; done) | (simp; omega)
      · simp (maxSteps := 1000000) (disch := omega) only [h1, S, S1, S2, S3, S4, S5, ST, eq_self, reduceIte, reduceCtorEq, Nat.reduceEqDiff, Nat.reduceAdd]
        refine hQ _ _ _ ?_
        simp (maxSteps := 1000000) (disch := omega) only [h1, S, S1, S2, S3, S4, S5, ST, eq_self, reduceIte, reduceCtorEq, Nat.reduceEqDiff, Nat.reduceAdd]
        have hi : i = ps.length := by omega
        subst hi
        refine ⟨rfl, .inr ⟨o, ys, by rw [runP_len], hlo, hhi, at_set hc, by rw [runP_len, hyt, runP_flat]⟩, by simp, fun o' x ho hx => ?_⟩
        rw [List.getElem?_set_ne (by omega)]; exact hx
set_option maxHeartbeats 1000000 in
theorem heldIntA2S_c (v : Value) (n : Nat) (k : Int) (H : AH) (hr : RowP 81 H v (runP k n)) (hlen : n ≤ 1099511627776) (hk : 0 ≤ k ∧ k ≤ 1099511627776) :
    ACalls Try.prog 79 [v, .int .i64 k] H fun r H' => r = .int .i64 (k + 2 * n) ∧ H = H' := by
  have hl := hr.len Try.underlying22
  rw [runP_len] at hl
  refine in79 rfl ?_
  intro Q hQ
  simp (maxSteps := 1000000) (disch := omega) only [cd79, S, S1, S2, S3, S4, S5, ST, eq_self, reduceIte, reduceCtorEq, Nat.reduceEqDiff, Nat.reduceAdd]
  refine LoopH.by (fun m s H' => ∃ i, m + i = n ∧ s 0 = v ∧ s 1 = .int .i64 (k + 2 * (i : Nat)) ∧ s 5 = .int .i64 ((i : Nat) : Int) ∧ H = H') n ?_ ?_
  · exact ⟨0, by simp, rfl, by simp [S, S1, S2, S3, S4, S5, ST, eq_self, reduceIte, reduceCtorEq, Nat.reduceEqDiff, Nat.reduceAdd], rfl, rfl⟩
  · rintro m s H' ⟨i, hm, h0, h1, h5, rfl⟩
    simp (maxSteps := 1000000) (disch := omega) only [h0, h1, h5, hl, S, S1, S2, S3, S4, S5, ST, eq_self, reduceIte, reduceCtorEq, Nat.reduceEqDiff, Nat.reduceAdd]
    refine brD.intro (fun g => ?_) (fun g => ?_)
    · have hi : i < n := by omega
      have hi2 : i < (runP k n).length := by rw [runP_len]; exact hi
      simp (maxSteps := 1000000) (disch := omega) only [h0, h1, h5, wrap64, S, S1, S2, S3, S4, S5, ST, eq_self, reduceIte, reduceCtorEq, Nat.reduceEqDiff, Nat.reduceAdd]
      refine LoopH.by (fun m' s' H' => ∃ j, m' + j = 2 ∧ s' 0 = v ∧ s' 1 = .int .i64 (k + 2 * (i : Nat) + (j : Nat)) ∧ s' 5 = .int .i64 ((i : Nat) : Int) ∧ s' 6 = .int .i64 ((j : Nat) : Int) ∧ H = H') 2 ?_ ?_
      · exact ⟨0, by simp, by simp [S, S1, S2, S3, S4, S5, ST, eq_self, reduceIte, reduceCtorEq, Nat.reduceEqDiff, Nat.reduceAdd, h0], by simp [S, S1, S2, S3, S4, S5, ST, eq_self, reduceIte, reduceCtorEq, Nat.reduceEqDiff, Nat.reduceAdd, h1], by simp [S, S1, S2, S3, S4, S5, ST, eq_self, reduceIte, reduceCtorEq, Nat.reduceEqDiff, Nat.reduceAdd, h5], by simp [S, S1, S2, S3, S4, S5, ST, eq_self, reduceIte, reduceCtorEq, Nat.reduceEqDiff, Nat.reduceAdd], rfl⟩
      · rintro m' s' H' ⟨j, hm', g0, g1, g5, g6, rfl⟩
        simp (maxSteps := 1000000) (disch := omega) only [g0, g1, g5, g6, S, S1, S2, S3, S4, S5, ST, eq_self, reduceIte, reduceCtorEq, Nat.reduceEqDiff, Nat.reduceAdd]
        refine brD.intro (fun q => ?_) (fun q => ?_)
        · have hcell : cellA H (rowO v) (rowK v + 2 * i + j) = some (.int .i64 (k + 2 * i + j)) := by
            rw [Nat.add_assoc, hr.cell (by rw [runP_len]; omega), runP_flat, runI_at k _ _ (by omega)]
            congr 2
            omega
          simp (maxSteps := 1000000) (disch := omega) only [g0, g1, g5, g6, hr.ix Try.underlying22 cs81, runP_len, ixa81, Int.toNat_natCast, hcell, S, S1, S2, S3, S4, S5, ST, eq_self, reduceIte, reduceCtorEq, Nat.reduceEqDiff, Nat.reduceAdd]
          simp (maxSteps := 1000000) (disch := omega) only [g0, g1, g5, g6, wrap64, S, S1, S2, S3, S4, S5, ST, eq_self, reduceIte, reduceCtorEq, Nat.reduceEqDiff, Nat.reduceAdd]
          refine ⟨m' - 1, by omega, j + 1, ?_⟩
          (repeat' first | apply And.intro) <;> first | (simp only [Value.int.injEq, true_and]; omega) | omega | rfl | assumption | (simp; done) | (simp; omega)
        · have hj : j = 2 := by omega
          subst hj
          simp (maxSteps := 1000000) (disch := omega) only [g0, g1, g5, g6, wrap64, S, S1, S2, S3, S4, S5, ST, eq_self, reduceIte, reduceCtorEq, Nat.reduceEqDiff, Nat.reduceAdd]
          refine ⟨m - 1, by omega, i + 1, ?_⟩
          (repeat' first | apply And.intro) <;> first | (simp only [Value.int.injEq, true_and]; omega) | omega | rfl | assumption | (simp; done) | (simp; omega)
    · simp (maxSteps := 1000000) (disch := omega) only [h1, S, S1, S2, S3, S4, S5, ST, eq_self, reduceIte, reduceCtorEq, Nat.reduceEqDiff, Nat.reduceAdd]
      refine hQ _ _ _ ?_
      simp (maxSteps := 1000000) (disch := omega) only [h1, S, S1, S2, S3, S4, S5, ST, eq_self, reduceIte, reduceCtorEq, Nat.reduceEqDiff, Nat.reduceAdd]
      have : i = n := by omega
      rw [this]
end Go.Proofs.Ytlfongfhbkefmaa.Ai
namespace Go.Proofs.Ytlfongfhbkefmaa.Ai
open Go
def ords12 : List (Nat × List (Nat × Bool)) := []
def cd12 : Cd := (.seq (.reg [⟨⟨some 2, Op.box 24 (Operand.tmp 0), none⟩, []⟩,
  ⟨⟨some 4, Op.assign (Operand.const (Value.int IntKind.i64 0)), none⟩, []⟩]) (.seq (.reg [⟨⟨some 5, Op.fieldAddr 24 (Operand.tmp 2) 1, none⟩, []⟩,
  ⟨⟨some 6, Op.load 22 (Operand.tmp 5), none⟩, []⟩,
  ⟨⟨some 7, Op.move (Operand.tmp 1), none⟩, []⟩,
  ⟨⟨some 8, Op.call { callee := (Callee.value (Operand.func 65)), args := #[(Operand.tmp 6), (Operand.tmp 7)], argTypes := #[22, 3] }, none⟩, []⟩,
  ⟨⟨some 1, Op.assign (Operand.tmp 8), none⟩, []⟩]) (.seq (.seq (.reg [⟨⟨some 9, Op.move (Operand.tmp 1), none⟩, []⟩,
  ⟨⟨some 10, Op.binOp BinOp.lss 3 (Operand.tmp 9) (Operand.const (Value.int IntKind.i64 0)) 3, none⟩, []⟩]) (.cond (Operand.tmp 10) (.seq (.reg [⟨⟨some 4, Op.assign (Operand.const (Value.int IntKind.i64 (-1))), none⟩, []⟩]) .ret) .skip)) (.seq (.reg [⟨⟨some 11, Op.move (Operand.tmp 1), none⟩, []⟩,
  ⟨⟨some 4, Op.assign (Operand.tmp 11), none⟩, []⟩]) .ret))))
theorem sl12 : slim Try.f12.ntmps ords12 (Try.f12.body.getD .skip) = some cd12 := by kernel_rfl
theorem in12 {args : List Value} {H : AH} {R : Value → AH → Prop} (hl : args.length = 2) (h : ∀ (Q : Exit → Sl → AH → Prop), (∀ e s H, endA Try.prog [ResultVar.tmp 4] R e s H → Q e s H) → wpC Try.prog cd12 Q (enterA args) H) : ACalls Try.prog 12 args H R :=
  ACalls.intro (by kernel_rfl) Try.func12 rfl (by kernel_rfl) sl12 hl (of_decide_eq_true (by kernel_rfl)) (by kernel_rfl) h
def ords14 : List (Nat × List (Nat × Bool)) := []
def cd14 : Cd := (.seq (.reg [⟨⟨some 1, Op.box 24 (Operand.tmp 0), none⟩, []⟩,
  ⟨⟨some 2, Op.alloc 31, none⟩, []⟩]) (.seq (.reg [⟨⟨some 3, Op.alloc 31, none⟩, []⟩]) (.seq (.reg [⟨⟨some 4, Op.fieldAddr 24 (Operand.tmp 1) 0, none⟩, []⟩,
  ⟨⟨some 5, Op.load 3 (Operand.tmp 4), none⟩, []⟩,
  ⟨⟨some 6, Op.fieldAddr 31 (Operand.tmp 3) 0, none⟩, []⟩,
  ⟨⟨none, Op.store 3 (Operand.tmp 6) (Operand.tmp 5), none⟩, []⟩]) (.seq (.reg [⟨⟨some 7, Op.fieldAddr 24 (Operand.tmp 1) 1, none⟩, []⟩,
  ⟨⟨some 8, Op.load 22 (Operand.tmp 7), none⟩, []⟩,
  ⟨⟨some 9, Op.call { callee := (Callee.value (Operand.func 70)), args := #[(Operand.tmp 8)], argTypes := #[22] }, none⟩, []⟩,
  ⟨⟨some 10, Op.fieldAddr 31 (Operand.tmp 3) 1, none⟩, []⟩,
  ⟨⟨none, Op.store 22 (Operand.tmp 10) (Operand.tmp 9), none⟩, []⟩]) (.seq (.reg [⟨⟨some 11, Op.load 31 (Operand.tmp 3), none⟩, []⟩,
  ⟨⟨none, Op.store 31 (Operand.tmp 2) (Operand.tmp 11), none⟩, []⟩]) .ret)))))
theorem sl14 : slim Try.f14.ntmps ords14 (Try.f14.body.getD .skip) = some cd14 := by kernel_rfl
set_option maxRecDepth 20000 in
theorem in14 {args : List Value} {H : AH} {R : Value → AH → Prop} (hl : args.length = 1) (h : ∀ (Q : Exit → Sl → AH → Prop), (∀ e s H, endA Try.prog [ResultVar.cell 2 31] R e s H → Q e s H) → wpC Try.prog cd14 Q (enterA args) H) : ACalls Try.prog 14 args H R :=
  ACalls.intro (by kernel_rfl) Try.func14 rfl (by kernel_rfl) sl14 hl (of_decide_eq_true (by kernel_rfl)) (by kernel_rfl) h
def ords17 : List (Nat × List (Nat × Bool)) := []
def cd17 : Cd := (.seq (.reg [⟨⟨some 2, Op.box 31 (Operand.tmp 0), none⟩, []⟩,
  ⟨⟨some 3, Op.box 31 (Operand.tmp 1), none⟩, []⟩,
  ⟨⟨some 4, Op.assign (Operand.const (Value.bool false)), none⟩, []⟩]) (.seq (.seq (.reg [⟨⟨some 5, Op.fieldAddr 31 (Operand.tmp 2) 0, none⟩, []⟩,
  ⟨⟨some 6, Op.load 3 (Operand.tmp 5), none⟩, []⟩,
  ⟨⟨some 7, Op.fieldAddr 31 (Operand.tmp 3) 0, none⟩, []⟩,
  ⟨⟨some 8, Op.load 3 (Operand.tmp 7), none⟩, []⟩,
  ⟨⟨some 9, Op.binOp BinOp.neq 3 (Operand.tmp 6) (Operand.tmp 8) 3, none⟩, []⟩]) (.cond (Operand.tmp 9) (.seq (.reg [⟨⟨some 4, Op.assign (Operand.const (Value.bool false)), none⟩, []⟩]) .ret) .skip)) (.seq (.seq (.reg [⟨⟨some 10, Op.fieldAddr 31 (Operand.tmp 2) 1, none⟩, []⟩,
  ⟨⟨some 11, Op.load 22 (Operand.tmp 10), none⟩, []⟩,
  ⟨⟨some 12, Op.fieldAddr 31 (Operand.tmp 3) 1, none⟩, []⟩,
  ⟨⟨some 13, Op.load 22 (Operand.tmp 12), none⟩, []⟩,
  ⟨⟨some 14, Op.call { callee := (Callee.value (Operand.func 77)), args := #[(Operand.tmp 11), (Operand.tmp 13)], argTypes := #[22, 22] }, none⟩, []⟩,
  ⟨⟨some 15, Op.unOp UnOp.not 4 (Operand.tmp 14), none⟩, []⟩]) (.cond (Operand.tmp 15) (.seq (.reg [⟨⟨some 4, Op.assign (Operand.const (Value.bool false)), none⟩, []⟩]) .ret) .skip)) (.seq (.reg [⟨⟨some 4, Op.assign (Operand.const (Value.bool true)), none⟩, []⟩]) .ret))))
theorem sl17 : slim Try.f17.ntmps ords17 (Try.f17.body.getD .skip) = some cd17 := by kernel_rfl
theorem in17 {args : List Value} {H : AH} {R : Value → AH → Prop} (hl : args.length = 2) (h : ∀ (Q : Exit → Sl → AH → Prop), (∀ e s H, endA Try.prog [ResultVar.tmp 4] R e s H → Q e s H) → wpC Try.prog cd17 Q (enterA args) H) : ACalls Try.prog 17 args H R :=
  ACalls.intro (by kernel_rfl) Try.func17 rfl (by kernel_rfl) sl17 hl (of_decide_eq_true (by kernel_rfl)) (by kernel_rfl) h
def ords18 : List (Nat × List (Nat × Bool)) := []
def cd18 : Cd := (.seq (.reg [⟨⟨some 2, Op.box 31 (Operand.tmp 0), none⟩, []⟩,
  ⟨⟨some 4, Op.assign (Operand.const (Value.int IntKind.i64 0)), none⟩, []⟩]) (.seq (.reg [⟨⟨some 5, Op.fieldAddr 31 (Operand.tmp 2) 1, none⟩, []⟩,
  ⟨⟨some 6, Op.load 22 (Operand.tmp 5), none⟩, []⟩,
  ⟨⟨some 7, Op.move (Operand.tmp 1), none⟩, []⟩,
  ⟨⟨some 8, Op.call { callee := (Callee.value (Operand.func 78)), args := #[(Operand.tmp 6), (Operand.tmp 7)], argTypes := #[22, 3] }, none⟩, []⟩,
  ⟨⟨some 1, Op.assign (Operand.tmp 8), none⟩, []⟩]) (.seq (.reg [⟨⟨some 9, Op.move (Operand.tmp 1), none⟩, []⟩,
  ⟨⟨some 4, Op.assign (Operand.tmp 9), none⟩, []⟩]) .ret)))
theorem sl18 : slim Try.f18.ntmps ords18 (Try.f18.body.getD .skip) = some cd18 := by kernel_rfl
theorem in18 {args : List Value} {H : AH} {R : Value → AH → Prop} (hl : args.length = 2) (h : ∀ (Q : Exit → Sl → AH → Prop), (∀ e s H, endA Try.prog [ResultVar.tmp 4] R e s H → Q e s H) → wpC Try.prog cd18 Q (enterA args) H) : ACalls Try.prog 18 args H R :=
  ACalls.intro (by kernel_rfl) Try.func18 rfl (by kernel_rfl) sl18 hl (of_decide_eq_true (by kernel_rfl)) (by kernel_rfl) h
end Go.Proofs.Ytlfongfhbkefmaa.Ai
namespace Go.Proofs.Ytlfongfhbkefmaa.Ai
open Go Go.RowKit
set_option linter.unusedVariables false
set_option linter.unusedSimpArgs false
theorem st_at {P : Program} {t e : TypeId} (hc : P.cellsOf t = 1) {H : AH} {o i : Nat} {vs : List Value} {y : Value} (ho : H[o]? = some (.cells vs e false)) (hi : i < vs.length) (h1 : isTup y = false) (h2 : y.cells.toList = [y]) :
    storeA P t (.pointer (some ⟨o, i, none⟩)) y H = some (H.set o (.cells (vs.set i y) e false)) := by
  simp only [storeA, ho]
  rw [h2, if_pos ⟨h1, by rw [hc]; rfl, by omega, by simp; omega⟩]
  have : putAt vs i [y] = vs.set i y := by
    unfold putAt
    rw [List.set_eq_take_append_cons_drop, if_pos hi]
    simp
  rw [this]
theorem ld_agg {P : Program} {t e : TypeId} (h : isAggA P t = some true) (hc : P.cellsOf t = 2) {H : AH} {o : Nat} {a b : Value} {ro : Bool} (ho : H[o]? = some (.cells [a, b] e ro)) : loadA P t (.pointer (some ⟨o, 0, none⟩)) H = some (.agg (List.toArray [a, b])) :=
  ld_two h hc (by rw [cell_of ho]; rfl) (by rw [cell_of ho]; rfl)
section
variable {e : TypeId} {G H : AH} {v : Value} {ps : List (Int × Int)}
theorem RowP.boxL (h : RowP e G v ps) (n : Int) : boxA Try.prog 24 (.agg (List.toArray [.int .i64 n, v])) H = some (.pointer (some ⟨H.length, 0, none⟩), H ++ [.cells [.int .i64 n, v] 24 false]) := by
  obtain ⟨q, rfl⟩ := h.shape; kernel_rfl
theorem RowP.boxG (h : RowP e G v ps) (n : Int) : boxA Try.prog 31 (.agg (List.toArray [.int .i64 n, v])) H = some (.pointer (some ⟨H.length, 0, none⟩), H ++ [.cells [.int .i64 n, v] 31 false]) := by
  obtain ⟨q, rfl⟩ := h.shape; kernel_rfl
end
theorem alloc_G (H : AH) : allocA Try.prog 31 H = some (.pointer (some ⟨H.length, 0, none⟩), H ++ [.cells [.int .i64 0, .slice none 0 0] 31 false]) := by kernel_rfl
theorem st_G {e e2 : TypeId} {G H : AH} {v : Value} {ps : List (Int × Int)} (h : RowP e2 G v ps) {o : Nat} {vs : List Value} (ho : H[o]? = some (.cells vs e false)) (hv : vs.length = 2) (n : Int) :
    storeA Try.prog 31 (.pointer (some ⟨o, 0, none⟩)) (.agg (List.toArray [.int .i64 n, v])) H = some (H.set o (.cells [.int .i64 n, v] e false)) := by
  obtain ⟨q, rfl⟩ := h.shape
  simp only [storeA, ho, cs31]
  have hcl : (Value.agg (List.toArray [.int .i64 n, .slice q ps.length ps.length])).cells.toList = [.int .i64 n, .slice q ps.length ps.length] := rfl
  rw [hcl, if_pos ⟨rfl, rfl, by decide, by rw [hv]; exact Nat.le_refl 2⟩]
  have : putAt vs 0 [.int .i64 n, .slice q ps.length ps.length] = [.int .i64 n, .slice q ps.length ps.length] := by
    unfold putAt
    rw [List.take_zero, List.nil_append, List.drop_of_length_le (by simp; omega), List.append_nil]
  rw [this]
theorem MineP.keepL {e : TypeId} {H0 H H' : AH} {v : Value} {ps : List (Int × Int)} (h : MineP e H0 H v ps) (hh : H0.length ≤ rowO v → ∀ y, H[rowO v]? = some y → H'[rowO v]? = some y) : MineP e H0 H' v ps := by
  rcases h with h | ⟨o, zs, h1, h2, h3, h4⟩
  · exact .inl h
  · subst h1; exact .inr ⟨o, zs, rfl, h2, hh h2 _ h3, h4⟩
theorem two_of {α : Type} : ∀ (l : List α), l.length = 2 → ∃ a b, l = [a, b]
  | [a, b], _ => ⟨a, b, rfl⟩
theorem cell_new (H : AH) (vs : List Value) (e : TypeId) (ro : Bool) (i : Nat) : cellA (H ++ [.cells vs e ro]) H.length i = vs[i]? := cell_of (at_new ..) i
theorem szGraph_c (n : Int) (v : Value) (ps : List (Int × Int)) (k : Int) (H : AH) (hr : RowP 81 H v ps) (hk : 0 ≤ k ∧ k ≤ 1099511627776) (hl : (ps.length : Int) ≤ 9223372036854775807) :
    ACalls Try.prog 12 [.agg (List.toArray [.int .i64 n, v]), .int .i64 k] H fun r H' => r = .int .i64 (if k - ps.length < 0 then -1 else k - ps.length) ∧ H <+: H' := by
  refine in12 rfl ?_
  intro Q hQ
  have hp := List.prefix_append H [AObj.cells [.int .i64 n, v] 24 false]
  simp (maxSteps := 1000000) (disch := omega) only [cd12, hr.boxL, cell_new, S, S1, S2, S3, S4, S5, ST, eq_self, reduceIte, reduceCtorEq, Nat.reduceEqDiff, Nat.reduceAdd]
  refine CallH.by (szIntA2S_c v ps k _ (hr.pre hp) hk hl) ?_
  rintro _ _ ⟨rfl, rfl⟩
  simp (maxSteps := 1000000) (disch := omega) only [S, S1, S2, S3, S4, S5, ST, eq_self, reduceIte, reduceCtorEq, Nat.reduceEqDiff, Nat.reduceAdd]
  by_cases g : k - (ps.length : Int) < 0
  · rw [if_pos g]
    refine brD.intro (fun _ => ?_) (fun h => absurd h (by omega)) <;> simp (maxSteps := 1000000) (disch := omega) only [S, S1, S2, S3, S4, S5, ST, eq_self, reduceIte, reduceCtorEq, Nat.reduceEqDiff, Nat.reduceAdd]
    refine hQ _ _ _ ?_
    simp (maxSteps := 1000000) (disch := omega) only [g, S, S1, S2, S3, S4, S5, ST, eq_self, reduceIte, reduceCtorEq, Nat.reduceEqDiff, Nat.reduceAdd]
    exact hp
  · rw [if_neg g]
    refine brD.intro (fun h => absurd h (by omega)) (fun _ => ?_) <;> simp (maxSteps := 1000000) (disch := omega) only [S, S1, S2, S3, S4, S5, ST, eq_self, reduceIte, reduceCtorEq, Nat.reduceEqDiff, Nat.reduceAdd]
    refine hQ _ _ _ ?_
    simp (maxSteps := 1000000) (disch := omega) only [g, S, S1, S2, S3, S4, S5, ST, eq_self, reduceIte, reduceCtorEq, Nat.reduceEqDiff, Nat.reduceAdd]
    exact hp
set_option maxRecDepth 20000 in
set_option maxHeartbeats 1000000 in
theorem toGraph_c (n : Int) (v : Value) (ps : List (Int × Int)) (H : AH) (hr : RowP 81 H v ps) (hlen : ps.length ≤ 1099511627776) :
    ACalls Try.prog 14 [.agg (List.toArray [.int .i64 n, v])] H fun r H' => ∃ g, r = .agg (List.toArray [.int .i64 n, g]) ∧ MineP 81 H H' g ps ∧ H <+: H' := by
  refine in14 rfl ?_
  intro Q hQ
  simp (maxSteps := 1000000) (disch := omega) only [cd14, hr.boxL, alloc_G, S, S1, S2, S3, S4, S5, ST, eq_self, reduceIte, reduceCtorEq, Nat.reduceEqDiff, Nat.reduceAdd]
  generalize hA : H ++ [AObj.cells [.int .i64 n, v] 24 false] = A
  have pA : H <+: A := by rw [← hA]; exact List.prefix_append _ _
  have a0 : A[H.length]? = some (.cells [.int .i64 n, v] 24 false) := by rw [← hA]; exact at_new ..
  generalize hB : A ++ [AObj.cells [.int .i64 0, .slice none 0 0] 31 false] = B
  have pB : A <+: B := by rw [← hB]; exact List.prefix_append _ _
  have b1 : B[A.length]? = some (.cells [.int .i64 0, .slice none 0 0] 31 false) := by rw [← hB]; exact at_new ..
  have c0 : (B ++ [AObj.cells [.int .i64 0, .slice none 0 0] 31 false])[B.length]? = some (.cells [.int .i64 0, .slice none 0 0] 31 false) := at_new ..
  have pC : H <+: B ++ [AObj.cells [.int .i64 0, .slice none 0 0] 31 false] := pre_app (pA.trans pB) _
  have a1 : ∀ x, (B ++ [x])[H.length]? = some (.cells [.int .i64 n, v] 24 false) := fun x => at_app (pre_at pB a0) [x]
  have b2 : ∀ x, (B ++ [x])[A.length]? = some (.cells [.int .i64 0, .slice none 0 0] 31 false) := fun x => at_app b1 [x]
  have c1 : (B ++ [AObj.cells [.int .i64 n, .slice none 0 0] 31 false])[B.length]? = some (.cells [.int .i64 n, .slice none 0 0] 31 false) := at_new ..
  simp (maxSteps := 1000000) (disch := omega) only [cell_of (a1 _), st_at cs3 c0 (i := 0) (y := .int .i64 n) (by show 0 < 2; decide) rfl rfl, set_new, List.set_cons_zero, S, S1, S2, S3, S4, S5, ST, eq_self, reduceIte, reduceCtorEq, Nat.reduceEqDiff, Nat.reduceAdd]
  generalize hC : B ++ [AObj.cells [.int .i64 n, .slice none 0 0] 31 false] = C at *
  have pBC : B <+: C := by rw [← hC]; exact List.prefix_append _ _
  have pHC := (pA.trans pB).trans pBC
  refine CallH.by (toIntA2S_c v ps C (hr.pre pHC) hlen) ?_
  rintro g D ⟨hg, pD⟩
  have c2 := pre_at pD c1
  have hgs := hg.row.shape
  obtain ⟨q, eg⟩ := hgs
  have t1 : isTup g = false := by rw [eg]; rfl
  have t2 : g.cells.toList = [g] := by rw [eg]; rfl
  have d1 : (D.set B.length (.cells [.int .i64 n, g] 31 false))[B.length]? = some (.cells [.int .i64 n, g] 31 false) := at_set c2
  simp (maxSteps := 1000000) (disch := omega) only [st_at cs22 c2 (i := 1) (y := g) (by show 1 < 2; decide) t1 t2, List.set_cons_zero, List.set_cons_succ, ld_agg ag31 cs31 d1, S, S1, S2, S3, S4, S5, ST, eq_self, reduceIte, reduceCtorEq, Nat.reduceEqDiff, Nat.reduceAdd]
  have d2 : (D.set B.length (.cells [.int .i64 n, g] 31 false))[A.length]? = some (.cells [.int .i64 0, .slice none 0 0] 31 false) := by
    rw [List.getElem?_set_ne (by rw [← hB]; simp)]
    exact pre_at (pBC.trans pD) b1
  simp (maxSteps := 1000000) (disch := omega) only [st_G hg.row d2 rfl n, S, S1, S2, S3, S4, S5, ST, eq_self, reduceIte, reduceCtorEq, Nat.reduceEqDiff, Nat.reduceAdd]
  have d3 := at_set (d := .cells [.int .i64 n, g] 31 false) d2
  refine hQ _ _ _ (end_cell _ _ _ _ _ _ (.agg (List.toArray [.int .i64 n, g])) ?_ rfl ⟨g, rfl, ?_, ?_⟩)
  · simp (maxSteps := 1000000) (disch := omega) only [ld_agg ag31 cs31 d3, S, S1, S2, S3, S4, S5, ST, eq_self, reduceIte, reduceCtorEq, Nat.reduceEqDiff, Nat.reduceAdd]
  · refine (hg.keepL ?_).base pHC
    intro hl y hy
    have l1 := pHC.length_le
    have l2 : C.length = B.length + 1 := by rw [← hC]; simp
    have l3 : B.length = A.length + 1 := by rw [← hB]; simp
    rw [List.getElem?_set_ne (by omega), List.getElem?_set_ne (by omega)]
    exact hy
  · exact pre_set (pre_set (pHC.trans pD) (by have := (pA.trans pB).length_le; omega) _) pA.length_le _
theorem eqGraph_c (n m : Int) (v w : Value) (ps qs : List (Int × Int)) (H : AH) (hr : RowP 81 H v ps) (hr2 : RowP 81 H w qs) (hlen : ps.length ≤ 1099511627776) :
    ACalls Try.prog 17 [.agg (List.toArray [.int .i64 n, v]), .agg (List.toArray [.int .i64 m, w])] H fun r H' => r = .bool (decide (n = m ∧ ps = qs)) ∧ H <+: H' := by
  refine in17 rfl ?_
  intro Q hQ
  simp (maxSteps := 1000000) (disch := omega) only [cd17, hr.boxG, hr2.boxG, S, S1, S2, S3, S4, S5, ST, eq_self, reduceIte, reduceCtorEq, Nat.reduceEqDiff, Nat.reduceAdd]
  generalize hA : H ++ [AObj.cells [.int .i64 n, v] 31 false] = A
  have pA : H <+: A := by rw [← hA]; exact List.prefix_append _ _
  have a0 : A[H.length]? = some (.cells [.int .i64 n, v] 31 false) := by rw [← hA]; exact at_new ..
  generalize hB : A ++ [AObj.cells [.int .i64 m, w] 31 false] = B
  have pB : A <+: B := by rw [← hB]; exact List.prefix_append _ _
  have b0 := pre_at pB a0
  have b1 : B[A.length]? = some (.cells [.int .i64 m, w] 31 false) := by rw [← hB]; exact at_new ..
  have pHB := pA.trans pB
  simp (maxSteps := 1000000) (disch := omega) only [cell_of b0, cell_of b1, S, S1, S2, S3, S4, S5, ST, eq_self, reduceIte, reduceCtorEq, Nat.reduceEqDiff, Nat.reduceAdd]
  refine brD.intro (fun g => ?_) (fun g => ?_) <;> simp (maxSteps := 1000000) (disch := omega) only [cell_of b0, cell_of b1, S, S1, S2, S3, S4, S5, ST, eq_self, reduceIte, reduceCtorEq, Nat.reduceEqDiff, Nat.reduceAdd]
  · refine hQ _ _ _ ?_
    simp (maxSteps := 1000000) (disch := omega) only [S, S1, S2, S3, S4, S5, ST, eq_self, reduceIte, reduceCtorEq, Nat.reduceEqDiff, Nat.reduceAdd]
    refine ⟨?_, pHB⟩
    rw [decide_eq_false]
    intro h; exact g h.1
  · have g' := Decidable.not_not.1 g
    refine CallH.by (eqIntA2S_c v w ps qs B (hr.pre pHB) (hr2.pre pHB) hlen) ?_
    rintro _ C ⟨rfl, pC⟩
    have pHC := pHB.trans pC
    simp (maxSteps := 1000000) (disch := omega) only [S, S1, S2, S3, S4, S5, ST, eq_self, reduceIte, reduceCtorEq, Nat.reduceEqDiff, Nat.reduceAdd]
    by_cases e : ps = qs
    · rw [decide_eq_true e]
      simp (maxSteps := 1000000) (disch := omega) only [S, S1, S2, S3, S4, S5, ST, eq_self, reduceIte, reduceCtorEq, Nat.reduceEqDiff, Nat.reduceAdd]
      try (refine brD.intro (fun h => absurd h (by simp)) (fun _ => ?_))
      try simp (maxSteps := 1000000) (disch := omega) only [S, S1, S2, S3, S4, S5, ST, eq_self, reduceIte, reduceCtorEq, Nat.reduceEqDiff, Nat.reduceAdd]
      refine hQ _ _ _ ?_
      simp (maxSteps := 1000000) (disch := omega) only [S, S1, S2, S3, S4, S5, ST, eq_self, reduceIte, reduceCtorEq, Nat.reduceEqDiff, Nat.reduceAdd]
      exact ⟨by rw [decide_eq_true ⟨g', e⟩], pHC⟩
    · rw [decide_eq_false e]
      simp (maxSteps := 1000000) (disch := omega) only [S, S1, S2, S3, S4, S5, ST, eq_self, reduceIte, reduceCtorEq, Nat.reduceEqDiff, Nat.reduceAdd]
      try (refine brD.intro (fun _ => ?_) (fun h => absurd h (by simp)))
      try simp (maxSteps := 1000000) (disch := omega) only [S, S1, S2, S3, S4, S5, ST, eq_self, reduceIte, reduceCtorEq, Nat.reduceEqDiff, Nat.reduceAdd]
      refine hQ _ _ _ ?_
      simp (maxSteps := 1000000) (disch := omega) only [S, S1, S2, S3, S4, S5, ST, eq_self, reduceIte, reduceCtorEq, Nat.reduceEqDiff, Nat.reduceAdd]
      exact ⟨by rw [decide_eq_false (fun h => e h.2)], pHC⟩
theorem markGraph_B (n : Int) (v : Value) (ps : List (Int × Int)) (k : Int) (lo hi : Nat) (H : AH) (h : InP lo hi 81 H v ps) (hlen : ps.length ≤ 1099511627776) (hk : 0 ≤ k ∧ k ≤ 1099511627776) (hb : hi ≤ H.length) :
    ACalls Try.prog 18 [.agg (List.toArray [.int .i64 n, v]), .int .i64 k] H fun r H' => r = .int .i64 (k + 2 * ps.length) ∧ ∃ Hm, InP lo hi 81 Hm v (runP k ps.length) ∧ ElseR lo hi H Hm ∧ Hm <+: H' := by
  refine in18 rfl ?_
  intro Q hQ
  simp (maxSteps := 1000000) (disch := omega) only [cd18, h.row.1.boxG, cell_new, S, S1, S2, S3, S4, S5, ST, eq_self, reduceIte, reduceCtorEq, Nat.reduceEqDiff, Nat.reduceAdd]
  have hp := List.prefix_append H [AObj.cells [.int .i64 n, v] 31 false]
  refine CallH.by (markIntA2S_B v ps k lo hi _ (h.pre hp) hlen hk) ?_
  rintro _ H' ⟨rfl, hin, he⟩
  simp (maxSteps := 1000000) (disch := omega) only [S, S1, S2, S3, S4, S5, ST, eq_self, reduceIte, reduceCtorEq, Nat.reduceEqDiff, Nat.reduceAdd]
  refine hQ _ _ _ ?_
  simp (maxSteps := 1000000) (disch := omega) only [S, S1, S2, S3, S4, S5, ST, eq_self, reduceIte, reduceCtorEq, Nat.reduceEqDiff, Nat.reduceAdd]
  have hH : ∀ o, o < H.length → (H'.take H.length)[o]? = H'[o]? := fun o ho => List.getElem?_take_of_lt ho
  refine ⟨H'.take H.length, ?_, ⟨?_, ?_⟩, List.take_prefix _ _⟩
  · rcases hin with q | ⟨o, zs, h1, h2, h3, h4, h5⟩
    · exact .inl q
    · exact .inr ⟨o, zs, h1, h2, h3, by rw [hH o (by omega)]; exact h4, h5⟩
  · have := he.1
    simp only [List.length_append, List.length_cons, List.length_nil] at this
    rw [List.length_take]; omega
  · intro o x ho hx
    rw [hH o (at_lt hx)]
    exact he.2 o x ho (at_app hx _)
end Go.Proofs.Ytlfongfhbkefmaa.Ai
namespace Go.Proofs.Ytlfongfhbkefmaa.Ai
open Go
def ords67 : List (Nat × List (Nat × Bool)) := []
def cd67 : Cd := (.seq (.reg [⟨⟨some 6, Op.assign (Operand.const (Value.bool false)), none⟩, []⟩]) (.seq (.reg [⟨⟨some 7, Op.move (Operand.tmp 0), none⟩, []⟩,
  ⟨⟨some 8, Op.move (Operand.tmp 1), none⟩, []⟩,
  ⟨⟨some 9, Op.binOp BinOp.geq 3 (Operand.tmp 7) (Operand.tmp 8) 3, none⟩, []⟩,
  ⟨⟨some 10, Op.move (Operand.tmp 9), none⟩, []⟩,
  ⟨⟨some 11, Op.move (Operand.tmp 0), some (10, true)⟩, []⟩,
  ⟨⟨some 12, Op.move (Operand.tmp 2), some (10, true)⟩, []⟩,
  ⟨⟨some 13, Op.binOp BinOp.leq 3 (Operand.tmp 11) (Operand.tmp 12) 3, some (10, true)⟩, []⟩,
  ⟨⟨some 14, Op.pick (Operand.tmp 10) (Operand.tmp 13) (Operand.const (Value.bool false)), none⟩, []⟩,
  ⟨⟨some 6, Op.assign (Operand.tmp 14), none⟩, []⟩]) .ret))
theorem sl67 : slim Try.f67.ntmps ords67 (Try.f67.body.getD .skip) = some cd67 := by kernel_rfl
theorem in67 {args : List Value} {H : AH} {R : Value → AH → Prop} (hl : args.length = 3) (h : ∀ (Q : Exit → Sl → AH → Prop), (∀ e s H, endA Try.prog [ResultVar.tmp 6] R e s H → Q e s H) → wpC Try.prog cd67 Q (enterA args) H) : ACalls Try.prog 67 args H R :=
  ACalls.intro (by kernel_rfl) Try.func67 rfl (by kernel_rfl) sl67 hl (of_decide_eq_true (by kernel_rfl)) (by kernel_rfl) h
def ords72 : List (Nat × List (Nat × Bool)) := []
def cd72 : Cd := (.seq (.reg [⟨⟨some 6, Op.assign (Operand.const (Value.bool false)), none⟩, []⟩]) (.seq (.reg [⟨⟨some 7, Op.move (Operand.tmp 0), none⟩, []⟩,
  ⟨⟨some 8, Op.move (Operand.tmp 1), none⟩, []⟩,
  ⟨⟨some 9, Op.binOp BinOp.geq 3 (Operand.tmp 7) (Operand.tmp 8) 3, none⟩, []⟩,
  ⟨⟨some 10, Op.move (Operand.tmp 9), none⟩, []⟩,
  ⟨⟨some 11, Op.move (Operand.tmp 0), some (10, true)⟩, []⟩,
  ⟨⟨some 12, Op.move (Operand.tmp 2), some (10, true)⟩, []⟩,
  ⟨⟨some 13, Op.binOp BinOp.leq 3 (Operand.tmp 11) (Operand.tmp 12) 3, some (10, true)⟩, []⟩,
  ⟨⟨some 14, Op.pick (Operand.tmp 10) (Operand.tmp 13) (Operand.const (Value.bool false)), none⟩, []⟩,
  ⟨⟨some 6, Op.assign (Operand.tmp 14), none⟩, []⟩]) .ret))
theorem sl72 : slim Try.f72.ntmps ords72 (Try.f72.body.getD .skip) = some cd72 := by kernel_rfl
theorem in72 {args : List Value} {H : AH} {R : Value → AH → Prop} (hl : args.length = 3) (h : ∀ (Q : Exit → Sl → AH → Prop), (∀ e s H, endA Try.prog [ResultVar.tmp 6] R e s H → Q e s H) → wpC Try.prog cd72 Q (enterA args) H) : ACalls Try.prog 72 args H R :=
  ACalls.intro (by kernel_rfl) Try.func72 rfl (by kernel_rfl) sl72 hl (of_decide_eq_true (by kernel_rfl)) (by kernel_rfl) h
end Go.Proofs.Ytlfongfhbkefmaa.Ai
namespace Go.Proofs.Ytlfongfhbkefmaa.Ai
open Go Go.RowKit
set_option linter.unusedVariables false
set_option linter.unusedSimpArgs false
theorem l1In_c (a b c : Int) (H : AH) : ACalls Try.prog 67 [.int .i64 a, .int .i64 b, .int .i64 c] H fun r H' => r = .bool (decide (b ≤ a ∧ a ≤ c)) ∧ H = H' := by
  refine in67 rfl ?_
  intro Q hQ
  simp (maxSteps := 1000000) (disch := omega) only [cd67, S, S1, S2, S3, S4, S5, ST, eq_self, reduceIte, reduceCtorEq, Nat.reduceEqDiff, Nat.reduceAdd]
  refine brD.intro (fun h => ?_) (fun h => ?_) <;> simp (maxSteps := 1000000) (disch := omega) only [h, S, S1, S2, S3, S4, S5, ST, eq_self, reduceIte, reduceCtorEq, Nat.reduceEqDiff, Nat.reduceAdd] <;> refine hQ _ _ _ ?_ <;> simp (maxSteps := 1000000) (disch := omega) only [h, S, S1, S2, S3, S4, S5, ST, eq_self, reduceIte, reduceCtorEq, Nat.reduceEqDiff, Nat.reduceAdd] <;> simp [h]
theorem between_c (a b c : Int) (H : AH) : ACalls Try.prog 72 [.int .i64 a, .int .i64 b, .int .i64 c] H fun r H' => r = .bool (decide (b ≤ a ∧ a ≤ c)) ∧ H = H' := by
  refine in72 rfl ?_
  intro Q hQ
  simp (maxSteps := 1000000) (disch := omega) only [cd72, S, S1, S2, S3, S4, S5, ST, eq_self, reduceIte, reduceCtorEq, Nat.reduceEqDiff, Nat.reduceAdd]
  refine brD.intro (fun h => ?_) (fun h => ?_) <;> simp (maxSteps := 1000000) (disch := omega) only [h, S, S1, S2, S3, S4, S5, ST, eq_self, reduceIte, reduceCtorEq, Nat.reduceEqDiff, Nat.reduceAdd] <;> refine hQ _ _ _ ?_ <;> simp (maxSteps := 1000000) (disch := omega) only [h, S, S1, S2, S3, S4, S5, ST, eq_self, reduceIte, reduceCtorEq, Nat.reduceEqDiff, Nat.reduceAdd] <;> simp [h]
end Go.Proofs.Ytlfongfhbkefmaa.Ai
namespace Go.Proofs.Ytlfongfhbkefmaa.Ai
open Go
def Asc (ys : List Int) : Prop := ∀ i j, i < j → j < ys.length → ys.getD i 0 ≤ ys.getD j 0
def Rsg (n : Int) (ys : List Int) : Prop := ∀ i, i < ys.length → (0 ≤ ys.getD i 0 ∧ ys.getD i 0 ≤ n - 1) ∧ (0 < i → ys.getD (i - 1) 0 < ys.getD i 0)
def Prm (p : List Int) : Prop := p.length ≤ 8 ∧ ∀ x, x < p.length → (x : Int) ∈ p
instance (p : List Int) : Decidable (Prm p) := inferInstanceAs (Decidable (_ ∧ _))
theorem pos_ex {ys : List Int} {x : Int} (h : x ∈ ys) : ∃ i, i < ys.length ∧ ys.getD i 0 = x := by
  obtain ⟨i, hi, e⟩ := List.getElem_of_mem h
  exact ⟨i, hi, by simp [hi, e]⟩
theorem asc_at {ys : List Int} (ha : Asc ys) (h : ∀ x, x < ys.length → (x : Int) ∈ ys) : ∀ i, i < ys.length → ys.getD i 0 = i := by
  -- a place of each number
  have ex : ∀ x, ∃ i, x < ys.length → (i < ys.length ∧ ys.getD i 0 = x) := by
    intro x
    by_cases hx : x < ys.length
    · obtain ⟨i, hi⟩ := pos_ex (h x hx); exact ⟨i, fun _ => hi⟩
    · exact ⟨0, fun e => absurd e hx⟩
  let pos : Nat → Nat := fun x => Classical.choose (ex x)
  have hp : ∀ x, x < ys.length → pos x < ys.length ∧ ys.getD (pos x) 0 = x := fun x hx => Classical.choose_spec (ex x) hx
  have mono : ∀ x, x + 1 < ys.length → pos x < pos (x + 1) := by
    intro x hx
    have h1 := hp x (by omega)
    have h2 := hp (x + 1) hx
    rcases Nat.lt_trichotomy (pos x) (pos (x + 1)) with h3 | h3 | h3
    · exact h3
    · rw [h3] at h1; rw [h1.2] at h2; omega
    · have := ha _ _ h3 h1.1
      rw [h1.2, h2.2] at this; omega
  have lo : ∀ x, x < ys.length → x ≤ pos x := by
    intro x
    induction x with
    | zero => intro _; omega
    | succ x ih =>
      intro hx
      have := ih (by omega)
      have := mono x hx
      omega
  have hi' : ∀ d x, x + d + 1 = ys.length → pos x ≤ x := by
    intro d
    induction d with
    | zero => intro x hx; have := (hp x (by omega)).1; omega
    | succ d ih =>
      intro x hx
      have := ih (x + 1) (by omega)
      have := mono x (by omega)
      omega
  intro i hi
  have h1 := lo i hi
  have h2 := hi' (ys.length - i - 1) i (by omega)
  have h3 := hp i hi
  have : pos i = i := by omega
  rw [this] at h3
  exact h3.2
theorem prm_at {p : List Int} (h : Prm p) {ys : List Int} (hp : ys.Perm p) (ha : Asc ys) : ∀ i, i < ys.length → ys.getD i 0 = i :=
  asc_at ha (fun x hx => hp.mem_iff.2 (h.2 x (by have := hp.length_eq; omega)))
end Go.Proofs.Ytlfongfhbkefmaa.Ai
namespace Go.Proofs.Ytlfongfhbkefmaa.Ai
open Go
/-- a number put into an ascending list -/
def put : List Int → Int → List Int
  | [], x => [x]
  | y :: ys, x => if y < x then y :: put ys x else if y = x then y :: ys else x :: y :: ys
theorem putAt_eq0 (l : List Int) (x : Int) : ∀ k, k ≤ l.length → (∀ j, j < k → l.getD j 0 < x) → (k < l.length → x ≤ l.getD k 0) → put l x = if k < l.length ∧ l.getD k 0 = x then l else l.take k ++ x :: l.drop k := by
  induction l with
  | nil => intro k hk _ _; simp at hk; subst hk; simp [put]
  | cons y ys ih =>
    intro k hk h1 h2
    cases k with
    | zero =>
      have := h2 (by simp)
      simp only [List.getD_cons_zero] at this
      simp only [put]
      rw [if_neg (by omega)]
      by_cases e : y = x
      · rw [if_pos e, if_pos ⟨by simp, by simpa using e⟩]
      · rw [if_neg e, if_neg (by rintro ⟨_, h⟩; exact e (by simpa using h))]; simp
    | succ k =>
      have := h1 0 (by omega)
      simp only [List.getD_cons_zero] at this
      simp only [put]
      rw [if_pos this, ih k (by simpa using hk) (fun j hj => by have := h1 (j + 1) (by omega); simpa using this) (fun hkk => by have := h2 (by simp; omega); simpa using this)]
      by_cases c : k < ys.length ∧ ys.getD k 0 = x
      · rw [if_pos c, if_pos (by simpa using c)]
      · rw [if_neg c, if_neg (by simpa using c)]; simp
theorem put_mem (l : List Int) (x y : Int) : y ∈ put l x ↔ y = x ∨ y ∈ l := by
  induction l with
  | nil => simp [put]
  | cons z zs ih =>
    simp only [put]
    split
    · simp only [List.mem_cons, ih]
      constructor
      · rintro (h | h | h)
        · exact .inr (.inl h)
        · exact .inl h
        · exact .inr (.inr h)
      · rintro (h | h | h)
        · exact .inr (.inl h)
        · exact .inl h
        · exact .inr (.inr h)
    · split
      · rename_i h1 h2
        subst h2
        simp
      · simp
theorem put_sorted (l : List Int) (x : Int) (h : l.Pairwise (· < ·)) : (put l x).Pairwise (· < ·) := by
  induction l with
  | nil => simp [put]
  | cons y ys ih =>
    simp only [List.pairwise_cons] at h
    simp only [put]
    split
    · rename_i h1
      rw [List.pairwise_cons]
      refine ⟨fun z hz => ?_, ih h.2⟩
      rcases (put_mem ys x z).1 hz with e | e
      · rw [e]; exact h1
      · exact h.1 z e
    · split
      · rw [List.pairwise_cons]; exact h
      · rename_i h1 h2
        rw [List.pairwise_cons]
        refine ⟨fun z hz => ?_, by rw [List.pairwise_cons]; exact h⟩
        rcases List.mem_cons.1 hz with e | e
        · rw [e]; omega
        · have := h.1 z e; omega
/-- numbers put, one after the other -/
def puts (xs : List Int) : List Int := xs.foldl put []
end Go.Proofs.Ytlfongfhbkefmaa.Ai
namespace Go.Proofs.Ytlfongfhbkefmaa.Ai
open Go
def ords256 : List (Nat × List (Nat × Bool)) := []
def cd256 : Cd := (.seq (.reg [⟨⟨some 2, Op.assign (Operand.const (Value.bool false)), none⟩, []⟩]) (.seq (.reg [⟨⟨some 3, Op.move (Operand.tmp 0), none⟩, []⟩,
  ⟨⟨some 4, Op.move (Operand.tmp 0), none⟩, []⟩,
  ⟨⟨some 5, Op.binOp BinOp.neq 3 (Operand.tmp 3) (Operand.tmp 4) 3, none⟩, []⟩,
  ⟨⟨some 2, Op.assign (Operand.tmp 5), none⟩, []⟩]) .ret))
theorem sl256 : slim Try.f256.ntmps ords256 (Try.f256.body.getD .skip) = some cd256 := by kernel_rfl
theorem in256 {args : List Value} {H : AH} {R : Value → AH → Prop} (hl : args.length = 1) (h : ∀ (Q : Exit → Sl → AH → Prop), (∀ e s H, endA Try.prog [ResultVar.tmp 2] R e s H → Q e s H) → wpC Try.prog cd256 Q (enterA args) H) : ACalls Try.prog 256 args H R :=
  ACalls.intro (by kernel_rfl) Try.func256 rfl (by kernel_rfl) sl256 hl (of_decide_eq_true (by kernel_rfl)) (by kernel_rfl) h
def ords225 : List (Nat × List (Nat × Bool)) := []
def cd225 : Cd := (.seq (.reg [⟨⟨some 2, Op.assign (Operand.const (Value.int IntKind.i64 0)), none⟩, []⟩]) (.seq (.seq (.reg [⟨⟨some 3, Op.move (Operand.tmp 0), none⟩, []⟩,
  ⟨⟨some 4, Op.binOp BinOp.geq 122 (Operand.tmp 3) (Operand.const (Value.int IntKind.u64 4294967296)) 122, none⟩, []⟩]) (.cond (Operand.tmp 4) (.seq (.reg [⟨⟨some 5, Op.move (Operand.tmp 0), none⟩, []⟩,
  ⟨⟨some 6, Op.binOp BinOp.shr 122 (Operand.tmp 5) (Operand.const (Value.int IntKind.u64 32)) 97, none⟩, []⟩,
  ⟨⟨some 0, Op.assign (Operand.tmp 6), none⟩, []⟩]) (.reg [⟨⟨some 2, Op.assign (Operand.const (Value.int IntKind.i64 32)), none⟩, []⟩])) .skip)) (.seq (.seq (.reg [⟨⟨some 7, Op.move (Operand.tmp 0), none⟩, []⟩,
  ⟨⟨some 8, Op.binOp BinOp.geq 122 (Operand.tmp 7) (Operand.const (Value.int IntKind.u64 65536)) 122, none⟩, []⟩]) (.cond (Operand.tmp 8) (.seq (.reg [⟨⟨some 9, Op.move (Operand.tmp 0), none⟩, []⟩,
  ⟨⟨some 10, Op.binOp BinOp.shr 122 (Operand.tmp 9) (Operand.const (Value.int IntKind.u64 16)) 97, none⟩, []⟩,
  ⟨⟨some 0, Op.assign (Operand.tmp 10), none⟩, []⟩]) (.reg [⟨⟨some 11, Op.move (Operand.tmp 2), none⟩, []⟩,
  ⟨⟨some 12, Op.binOp BinOp.add 3 (Operand.tmp 11) (Operand.const (Value.int IntKind.i64 16)) 3, none⟩, []⟩,
  ⟨⟨some 2, Op.assign (Operand.tmp 12), none⟩, []⟩])) .skip)) (.seq (.seq (.reg [⟨⟨some 13, Op.move (Operand.tmp 0), none⟩, []⟩,
  ⟨⟨some 14, Op.binOp BinOp.geq 122 (Operand.tmp 13) (Operand.const (Value.int IntKind.u64 256)) 122, none⟩, []⟩]) (.cond (Operand.tmp 14) (.seq (.reg [⟨⟨some 15, Op.move (Operand.tmp 0), none⟩, []⟩,
  ⟨⟨some 16, Op.binOp BinOp.shr 122 (Operand.tmp 15) (Operand.const (Value.int IntKind.u64 8)) 97, none⟩, []⟩,
  ⟨⟨some 0, Op.assign (Operand.tmp 16), none⟩, []⟩]) (.reg [⟨⟨some 17, Op.move (Operand.tmp 2), none⟩, []⟩,
  ⟨⟨some 18, Op.binOp BinOp.add 3 (Operand.tmp 17) (Operand.const (Value.int IntKind.i64 8)) 3, none⟩, []⟩,
  ⟨⟨some 2, Op.assign (Operand.tmp 18), none⟩, []⟩])) .skip)) (.seq (.reg [⟨⟨some 19, Op.move (Operand.tmp 2), none⟩, []⟩,
  ⟨⟨some 20, Op.move (Operand.tmp 0), none⟩, []⟩,
  ⟨⟨some 21, Op.convert 122 5 (Operand.tmp 20), none⟩, []⟩,
  ⟨⟨some 22, Op.index 9 (Operand.const (Value.string { data := #[0, 1, 2, 2, 3, 3, 3, 3, 4, 4, 4, 4, 4, 4, 4, 4, 5, 5, 5, 5, 5, 5, 5, 5, 5, 5, 5, 5, 5, 5, 5, 5, 6, 6, 6, 6, 6, 6, 6, 6, 6, 6, 6, 6, 6, 6, 6, 6, 6, 6, 6, 6, 6, 6, 6, 6, 6, 6, 6, 6, 6, 6, 6, 6, 7, 7, 7, 7, 7, 7, 7, 7, 7, 7, 7, 7, 7, 7, 7, 7, 7, 7, 7, 7, 7, 7, 7, 7, 7, 7, 7, 7, 7, 7, 7, 7, 7, 7, 7, 7, 7, 7, 7, 7, 7, 7, 7, 7, 7, 7, 7, 7, 7, 7, 7, 7, 7, 7, 7, 7, 7, 7, 7, 7, 7, 7, 7, 7, 8, 8, 8, 8, 8, 8, 8, 8, 8, 8, 8, 8, 8, 8, 8, 8, 8, 8, 8, 8, 8, 8, 8, 8, 8, 8, 8, 8, 8, 8, 8, 8, 8, 8, 8, 8, 8, 8, 8, 8, 8, 8, 8, 8, 8, 8, 8, 8, 8, 8, 8, 8, 8, 8, 8, 8, 8, 8, 8, 8, 8, 8, 8, 8, 8, 8, 8, 8, 8, 8, 8, 8, 8, 8, 8, 8, 8, 8, 8, 8, 8, 8, 8, 8, 8, 8, 8, 8, 8, 8, 8, 8, 8, 8, 8, 8, 8, 8, 8, 8, 8, 8, 8, 8, 8, 8, 8, 8, 8, 8, 8, 8, 8, 8, 8, 8, 8, 8, 8, 8, 8, 8, 8, 8, 8, 8, 8, 8] })) (Operand.tmp 21), none⟩, []⟩,
  ⟨⟨some 23, Op.convert 5 3 (Operand.tmp 22), none⟩, []⟩,
  ⟨⟨some 24, Op.binOp BinOp.add 3 (Operand.tmp 19) (Operand.tmp 23) 3, none⟩, []⟩,
  ⟨⟨some 2, Op.assign (Operand.tmp 24), none⟩, []⟩]) .ret)))))
theorem sl225 : slim Try.f225.ntmps ords225 (Try.f225.body.getD .skip) = some cd225 := by kernel_rfl
theorem in225 {args : List Value} {H : AH} {R : Value → AH → Prop} (hl : args.length = 1) (h : ∀ (Q : Exit → Sl → AH → Prop), (∀ e s H, endA Try.prog [ResultVar.tmp 2] R e s H → Q e s H) → wpC Try.prog cd225 Q (enterA args) H) : ACalls Try.prog 225 args H R :=
  ACalls.intro (by kernel_rfl) Try.func225 rfl (by kernel_rfl) sl225 hl (of_decide_eq_true (by kernel_rfl)) (by kernel_rfl) h
def ords166 : List (Nat × List (Nat × Bool)) := []
def cd166 : Cd := (.seq (.reg [⟨⟨some 2, Op.assign (Operand.const (Value.int IntKind.i64 0)), none⟩, []⟩]) (.seq (.cond (Operand.const (Value.bool false)) (.seq (.reg [⟨⟨some 3, Op.move (Operand.tmp 0), none⟩, []⟩,
  ⟨⟨some 4, Op.convert 97 182 (Operand.tmp 3), none⟩, []⟩,
  ⟨⟨some 5, Op.call { callee := (Callee.value (Operand.func 224)), args := #[(Operand.tmp 4)], argTypes := #[182] }, none⟩, []⟩,
  ⟨⟨some 2, Op.assign (Operand.tmp 5), none⟩, []⟩]) .ret) .skip) (.seq (.reg [⟨⟨some 6, Op.move (Operand.tmp 0), none⟩, []⟩,
  ⟨⟨some 7, Op.call { callee := (Callee.value (Operand.func 225)), args := #[(Operand.tmp 6)], argTypes := #[122] }, none⟩, []⟩,
  ⟨⟨some 2, Op.assign (Operand.tmp 7), none⟩, []⟩]) .ret)))
theorem sl166 : slim Try.f166.ntmps ords166 (Try.f166.body.getD .skip) = some cd166 := by kernel_rfl
theorem in166 {args : List Value} {H : AH} {R : Value → AH → Prop} (hl : args.length = 1) (h : ∀ (Q : Exit → Sl → AH → Prop), (∀ e s H, endA Try.prog [ResultVar.tmp 2] R e s H → Q e s H) → wpC Try.prog cd166 Q (enterA args) H) : ACalls Try.prog 166 args H R :=
  ACalls.intro (by kernel_rfl) Try.func166 rfl (by kernel_rfl) sl166 hl (of_decide_eq_true (by kernel_rfl)) (by kernel_rfl) h
end Go.Proofs.Ytlfongfhbkefmaa.Ai
namespace Go.Proofs.Ytlfongfhbkefmaa.Ai
open Go Go.RowKit
set_option linter.unusedVariables false
set_option linter.unusedSimpArgs false
theorem isNaN_c (x : Int) (H : AH) : ACalls Try.prog 256 [.int .i64 x] H fun r H' => r = .bool false ∧ H = H' := by
  refine in256 rfl ?_
  intro Q hQ
  simp (maxSteps := 1000000) (disch := omega) only [cd256, S, S1, S2, S3, S4, S5, ST, eq_self, reduceIte, reduceCtorEq, Nat.reduceEqDiff, Nat.reduceAdd]
  refine hQ _ _ _ ?_
  simp (maxSteps := 1000000) (disch := omega) only [S, S1, S2, S3, S4, S5, ST, eq_self, reduceIte, reduceCtorEq, Nat.reduceEqDiff, Nat.reduceAdd]
theorem wrapU8 {n : Int} (h1 : 0 ≤ n) (h2 : n < 256) : IntKind.u8.wrap n = n := by rw [IntKind.wrap_u8]; omega
end Go.Proofs.Ytlfongfhbkefmaa.Ai
namespace Go.Proofs.Ytlfongfhbkefmaa.Ai
open Go
def ords208 : List (Nat × List (Nat × Bool)) := []
def cd208 : Cd := (.seq (.reg [⟨⟨some 2, Op.box 81 (Operand.tmp 0), none⟩, []⟩,
  ⟨⟨some 3, Op.box 81 (Operand.tmp 1), none⟩, []⟩,
  ⟨⟨some 4, Op.assign (Operand.const (Value.bool false)), none⟩, []⟩]) (.seq (.reg [⟨⟨some 5, Op.indexAddr 81 (Operand.tmp 2) (Operand.const (Value.int IntKind.i64 0)), none⟩, []⟩,
  ⟨⟨some 6, Op.load 3 (Operand.tmp 5), none⟩, []⟩,
  ⟨⟨some 7, Op.indexAddr 81 (Operand.tmp 3) (Operand.const (Value.int IntKind.i64 0)), none⟩, []⟩,
  ⟨⟨some 8, Op.load 3 (Operand.tmp 7), none⟩, []⟩,
  ⟨⟨some 9, Op.binOp BinOp.lss 3 (Operand.tmp 6) (Operand.tmp 8) 3, none⟩, []⟩,
  ⟨⟨some 10, Op.move (Operand.tmp 9), none⟩, []⟩,
  ⟨⟨some 11, Op.indexAddr 81 (Operand.tmp 2) (Operand.const (Value.int IntKind.i64 0)), some (10, false)⟩, []⟩,
  ⟨⟨some 12, Op.load 3 (Operand.tmp 11), some (10, false)⟩, []⟩,
  ⟨⟨some 13, Op.indexAddr 81 (Operand.tmp 3) (Operand.const (Value.int IntKind.i64 0)), some (10, false)⟩, []⟩,
  ⟨⟨some 14, Op.load 3 (Operand.tmp 13), some (10, false)⟩, []⟩,
  ⟨⟨some 15, Op.binOp BinOp.eql 3 (Operand.tmp 12) (Operand.tmp 14) 3, some (10, false)⟩, []⟩,
  ⟨⟨some 16, Op.move (Operand.tmp 15), some (10, false)⟩, []⟩,
  ⟨⟨some 17, Op.indexAddr 81 (Operand.tmp 2) (Operand.const (Value.int IntKind.i64 1)), some (16, true)⟩, []⟩,
  ⟨⟨some 18, Op.load 3 (Operand.tmp 17), some (16, true)⟩, []⟩,
  ⟨⟨some 19, Op.indexAddr 81 (Operand.tmp 3) (Operand.const (Value.int IntKind.i64 1)), some (16, true)⟩, []⟩,
  ⟨⟨some 20, Op.load 3 (Operand.tmp 19), some (16, true)⟩, []⟩,
  ⟨⟨some 21, Op.binOp BinOp.lss 3 (Operand.tmp 18) (Operand.tmp 20) 3, some (16, true)⟩, []⟩,
  ⟨⟨some 22, Op.pick (Operand.tmp 16) (Operand.tmp 21) (Operand.const (Value.bool false)), some (10, false)⟩, []⟩,
  ⟨⟨some 23, Op.pick (Operand.tmp 10) (Operand.const (Value.bool true)) (Operand.tmp 22), none⟩, []⟩,
  ⟨⟨some 4, Op.assign (Operand.tmp 23), none⟩, []⟩]) .ret))
theorem sl208 : slim Try.f208.ntmps ords208 (Try.f208.body.getD .skip) = some cd208 := by kernel_rfl
theorem in208 {args : List Value} {H : AH} {R : Value → AH → Prop} (hl : args.length = 2) (h : ∀ (Q : Exit → Sl → AH → Prop), (∀ e s H, endA Try.prog [ResultVar.tmp 4] R e s H → Q e s H) → wpC Try.prog cd208 Q (enterA args) H) : ACalls Try.prog 208 args H R :=
  ACalls.intro (by kernel_rfl) Try.func208 rfl (by kernel_rfl) sl208 hl (of_decide_eq_true (by kernel_rfl)) (by kernel_rfl) h
def ords212 : List (Nat × List (Nat × Bool)) := []
def cd212 : Cd := (.seq (.reg [⟨⟨some 4, Op.assign (Operand.const (Value.int IntKind.i64 0)), none⟩, []⟩]) (.seq (.reg [⟨⟨some 7, Op.move (Operand.tmp 0), none⟩, []⟩,
  ⟨⟨some 8, Op.call { callee := (Callee.value (Operand.func 256)), args := #[(Operand.tmp 7)], argTypes := #[3] }, none⟩, []⟩,
  ⟨⟨some 5, Op.assign (Operand.tmp 8), none⟩, []⟩]) (.seq (.reg [⟨⟨some 9, Op.move (Operand.tmp 1), none⟩, []⟩,
  ⟨⟨some 10, Op.call { callee := (Callee.value (Operand.func 256)), args := #[(Operand.tmp 9)], argTypes := #[3] }, none⟩, []⟩,
  ⟨⟨some 6, Op.assign (Operand.tmp 10), none⟩, []⟩]) (.seq (.seq (.reg [⟨⟨some 11, Op.move (Operand.tmp 5), none⟩, []⟩]) (.cond (Operand.tmp 11) (.seq (.seq (.reg [⟨⟨some 12, Op.move (Operand.tmp 6), none⟩, []⟩]) (.cond (Operand.tmp 12) (.seq (.reg [⟨⟨some 4, Op.assign (Operand.const (Value.int IntKind.i64 0)), none⟩, []⟩]) .ret) .skip)) (.seq (.reg [⟨⟨some 4, Op.assign (Operand.const (Value.int IntKind.i64 (-1))), none⟩, []⟩]) .ret)) .skip)) (.seq (.seq (.reg [⟨⟨some 13, Op.move (Operand.tmp 6), none⟩, []⟩]) (.cond (Operand.tmp 13) (.seq (.reg [⟨⟨some 4, Op.assign (Operand.const (Value.int IntKind.i64 1)), none⟩, []⟩]) .ret) .skip)) (.seq (.seq (.reg [⟨⟨some 14, Op.move (Operand.tmp 0), none⟩, []⟩,
  ⟨⟨some 15, Op.move (Operand.tmp 1), none⟩, []⟩,
  ⟨⟨some 16, Op.binOp BinOp.lss 3 (Operand.tmp 14) (Operand.tmp 15) 3, none⟩, []⟩]) (.cond (Operand.tmp 16) (.seq (.reg [⟨⟨some 4, Op.assign (Operand.const (Value.int IntKind.i64 (-1))), none⟩, []⟩]) .ret) .skip)) (.seq (.seq (.reg [⟨⟨some 17, Op.move (Operand.tmp 0), none⟩, []⟩,
  ⟨⟨some 18, Op.move (Operand.tmp 1), none⟩, []⟩,
  ⟨⟨some 19, Op.binOp BinOp.gtr 3 (Operand.tmp 17) (Operand.tmp 18) 3, none⟩, []⟩]) (.cond (Operand.tmp 19) (.seq (.reg [⟨⟨some 4, Op.assign (Operand.const (Value.int IntKind.i64 1)), none⟩, []⟩]) .ret) .skip)) (.seq (.reg [⟨⟨some 4, Op.assign (Operand.const (Value.int IntKind.i64 0)), none⟩, []⟩]) .ret))))))))
theorem sl212 : slim Try.f212.ntmps ords212 (Try.f212.body.getD .skip) = some cd212 := by kernel_rfl
theorem in212 {args : List Value} {H : AH} {R : Value → AH → Prop} (hl : args.length = 2) (h : ∀ (Q : Exit → Sl → AH → Prop), (∀ e s H, endA Try.prog [ResultVar.tmp 4] R e s H → Q e s H) → wpC Try.prog cd212 Q (enterA args) H) : ACalls Try.prog 212 args H R :=
  ACalls.intro (by kernel_rfl) Try.func212 rfl (by kernel_rfl) sl212 hl (of_decide_eq_true (by kernel_rfl)) (by kernel_rfl) h
def ords247 : List (Nat × List (Nat × Bool)) := []
def cd247 : Cd := (.seq (.reg [⟨⟨some 2, Op.assign (Operand.const (Value.int IntKind.i64 0)), none⟩, []⟩]) (.seq (.reg [⟨⟨some 3, Op.assign (Operand.const (Value.int IntKind.i64 0)), none⟩, []⟩]) (.seq (.seq (.reg [⟨⟨some 6, Op.move (Operand.tmp 0), none⟩, []⟩,
  ⟨⟨some 7, Op.call { callee := (Callee.builtin Builtin.len), args := #[(Operand.tmp 6)], argTypes := #[38] }, none⟩, []⟩,
  ⟨⟨some 8, Op.move (Operand.const (Value.int IntKind.i64 0)), none⟩, []⟩]) (.block 0 (.loop (.seq (.reg [⟨⟨some 9, Op.binOp BinOp.lss 3 (Operand.tmp 8) (Operand.tmp 7) 3, none⟩, []⟩]) (.seq (.cond (Operand.tmp 9) .skip (.exit 0)) (.seq (.block 1 (.seq (.reg [⟨⟨some 10, Op.indexAddr 38 (Operand.tmp 6) (Operand.tmp 8), none⟩, []⟩,
  ⟨⟨some 11, Op.load 3 (Operand.tmp 10), none⟩, []⟩,
  ⟨⟨some 5, Op.assign (Operand.tmp 11), none⟩, []⟩]) (.seq (.reg [⟨⟨some 12, Op.move (Operand.tmp 5), none⟩, []⟩,
  ⟨⟨some 13, Op.move (Operand.tmp 3), none⟩, []⟩,
  ⟨⟨some 14, Op.binOp BinOp.neq 3 (Operand.tmp 12) (Operand.tmp 13) 3, none⟩, []⟩]) (.cond (Operand.tmp 14) (.seq (.reg [⟨⟨some 15, Op.move (Operand.tmp 5), none⟩, []⟩,
  ⟨⟨some 2, Op.assign (Operand.tmp 15), none⟩, []⟩]) .ret) .skip)))) (.reg [⟨⟨some 16, Op.binOp BinOp.add 3 (Operand.tmp 8) (Operand.const (Value.int IntKind.i64 1)) 3, none⟩, []⟩,
  ⟨⟨some 8, Op.move (Operand.tmp 16), none⟩, []⟩]))))))) (.seq (.reg [⟨⟨some 17, Op.move (Operand.tmp 3), none⟩, []⟩,
  ⟨⟨some 2, Op.assign (Operand.tmp 17), none⟩, []⟩]) .ret))))
theorem sl247 : slim Try.f247.ntmps ords247 (Try.f247.body.getD .skip) = some cd247 := by kernel_rfl
theorem in247 {args : List Value} {H : AH} {R : Value → AH → Prop} (hl : args.length = 1) (h : ∀ (Q : Exit → Sl → AH → Prop), (∀ e s H, endA Try.prog [ResultVar.tmp 2] R e s H → Q e s H) → wpC Try.prog cd247 Q (enterA args) H) : ACalls Try.prog 247 args H R :=
  ACalls.intro (by kernel_rfl) Try.func247 rfl (by kernel_rfl) sl247 hl (of_decide_eq_true (by kernel_rfl)) (by kernel_rfl) h
def ords209 : List (Nat × List (Nat × Bool)) := [(1, [(0, false), (1, false), (2, false), (3, false), (5, false), (6, false), (7, false), (8, false), (4, true), (9, true), (10, false), (11, true), (12, false)])]
def cd209 : Cd := (.seq (.reg [⟨⟨some 2, Op.box 81 (Operand.tmp 0), none⟩, []⟩,
  ⟨⟨some 3, Op.box 81 (Operand.tmp 1), none⟩, []⟩,
  ⟨⟨some 4, Op.assign (Operand.const (Value.int IntKind.i64 0)), none⟩, []⟩]) (.seq (.reg [⟨⟨some 5, Op.indexAddr 81 (Operand.tmp 2) (Operand.const (Value.int IntKind.i64 0)), none⟩, []⟩,
  ⟨⟨some 6, Op.load 3 (Operand.tmp 5), none⟩, []⟩,
  ⟨⟨some 7, Op.indexAddr 81 (Operand.tmp 3) (Operand.const (Value.int IntKind.i64 0)), none⟩, []⟩,
  ⟨⟨some 8, Op.load 3 (Operand.tmp 7), none⟩, []⟩,
  ⟨⟨some 10, Op.indexAddr 81 (Operand.tmp 2) (Operand.const (Value.int IntKind.i64 1)), none⟩, []⟩,
  ⟨⟨some 11, Op.load 3 (Operand.tmp 10), none⟩, []⟩,
  ⟨⟨some 12, Op.indexAddr 81 (Operand.tmp 3) (Operand.const (Value.int IntKind.i64 1)), none⟩, []⟩,
  ⟨⟨some 13, Op.load 3 (Operand.tmp 12), none⟩, []⟩,
  ⟨⟨some 9, Op.call { callee := (Callee.value (Operand.func 212)), args := #[(Operand.tmp 6), (Operand.tmp 8)], argTypes := #[3, 3] }, none⟩, [⟨some 13, Op.load 3 (Operand.tmp 12), none⟩, ⟨some 11, Op.load 3 (Operand.tmp 10), none⟩]⟩,
  ⟨⟨some 14, Op.call { callee := (Callee.value (Operand.func 212)), args := #[(Operand.tmp 11), (Operand.tmp 13)], argTypes := #[3, 3] }, none⟩, []⟩,
  ⟨⟨some 15, Op.buildSlice 38 2 #[(0, (Operand.tmp 9)), (1, (Operand.tmp 14))], none⟩, []⟩,
  ⟨⟨some 16, Op.call { callee := (Callee.value (Operand.func 247)), args := #[(Operand.tmp 15)], argTypes := #[38] }, none⟩, []⟩,
  ⟨⟨some 4, Op.assign (Operand.tmp 16), none⟩, []⟩]) .ret))
theorem sl209 : slim Try.f209.ntmps ords209 (Try.f209.body.getD .skip) = some cd209 := by kernel_rfl
theorem in209 {args : List Value} {H : AH} {R : Value → AH → Prop} (hl : args.length = 2) (h : ∀ (Q : Exit → Sl → AH → Prop), (∀ e s H, endA Try.prog [ResultVar.tmp 4] R e s H → Q e s H) → wpC Try.prog cd209 Q (enterA args) H) : ACalls Try.prog 209 args H R :=
  ACalls.intro (by kernel_rfl) Try.func209 rfl (by kernel_rfl) sl209 hl (of_decide_eq_true (by kernel_rfl)) (by kernel_rfl) h
def ords150 : List (Nat × List (Nat × Bool)) := [(5, [(0, false), (1, false), (2, false), (3, false), (4, true), (5, false), (6, false), (7, false), (8, false), (9, false), (10, false), (11, true), (12, false), (13, false), (14, false), (15, false), (16, false), (17, false), (18, false), (19, false), (20, false), (21, false), (22, false), (23, false), (24, false), (25, false), (26, false), (27, false), (28, false), (29, false), (30, false), (31, true), (32, false), (33, false), (34, false)])]
def cd150 : Cd := (.seq (.reg [⟨⟨some 4, Op.assign (Operand.const (Value.bool false)), none⟩, []⟩]) (.seq (.seq (.reg [⟨⟨some 5, Op.assign (Operand.const (Value.int IntKind.i64 0)), none⟩, []⟩]) (.block 0 (.loop (.seq (.seq (.reg [⟨⟨some 7, Op.move (Operand.tmp 5), none⟩, []⟩,
  ⟨⟨some 8, Op.move (Operand.tmp 0), none⟩, []⟩,
  ⟨⟨some 9, Op.call { callee := (Callee.builtin Builtin.len), args := #[(Operand.tmp 8)], argTypes := #[22] }, none⟩, []⟩,
  ⟨⟨some 10, Op.binOp BinOp.lss 3 (Operand.tmp 7) (Operand.tmp 9) 3, none⟩, []⟩]) (.cond (Operand.tmp 10) .skip (.exit 0))) (.seq (.block 1 (.seq (.reg [⟨⟨some 13, Op.move (Operand.tmp 0), none⟩, []⟩,
  ⟨⟨some 14, Op.move (Operand.tmp 5), none⟩, []⟩,
  ⟨⟨some 15, Op.indexAddr 22 (Operand.tmp 13) (Operand.tmp 14), none⟩, []⟩,
  ⟨⟨some 16, Op.load 81 (Operand.tmp 15), none⟩, []⟩,
  ⟨⟨some 6, Op.alloc 81, none⟩, []⟩,
  ⟨⟨none, Op.store 81 (Operand.tmp 6) (Operand.tmp 16), none⟩, []⟩]) (.seq (.reg [⟨⟨some 17, Op.indexAddr 81 (Operand.tmp 6) (Operand.const (Value.int IntKind.i64 0)), none⟩, []⟩,
  ⟨⟨some 18, Op.load 3 (Operand.tmp 17), none⟩, []⟩,
  ⟨⟨some 19, Op.move (Operand.tmp 1), none⟩, []⟩,
  ⟨⟨some 20, Op.binOp BinOp.sub 3 (Operand.tmp 19) (Operand.const (Value.int IntKind.i64 1)) 3, none⟩, []⟩,
  ⟨⟨some 21, Op.call { callee := (Callee.value (Operand.func 67)), args := #[(Operand.tmp 18), (Operand.const (Value.int IntKind.i64 0)), (Operand.tmp 20)], argTypes := #[3, 3, 3] }, none⟩, []⟩,
  ⟨⟨some 22, Op.unOp UnOp.not 4 (Operand.tmp 21), none⟩, []⟩,
  ⟨⟨some 23, Op.move (Operand.tmp 22), none⟩, []⟩,
  ⟨⟨some 24, Op.indexAddr 81 (Operand.tmp 6) (Operand.const (Value.int IntKind.i64 1)), some (23, false)⟩, []⟩,
  ⟨⟨some 25, Op.load 3 (Operand.tmp 24), some (23, false)⟩, []⟩,
  ⟨⟨some 26, Op.move (Operand.tmp 1), some (23, false)⟩, []⟩,
  ⟨⟨some 27, Op.binOp BinOp.sub 3 (Operand.tmp 26) (Operand.const (Value.int IntKind.i64 1)) 3, some (23, false)⟩, []⟩,
  ⟨⟨some 28, Op.call { callee := (Callee.value (Operand.func 67)), args := #[(Operand.tmp 25), (Operand.const (Value.int IntKind.i64 0)), (Operand.tmp 27)], argTypes := #[3, 3, 3] }, some (23, false)⟩, []⟩,
  ⟨⟨some 29, Op.unOp UnOp.not 4 (Operand.tmp 28), some (23, false)⟩, []⟩,
  ⟨⟨some 30, Op.pick (Operand.tmp 23) (Operand.const (Value.bool true)) (Operand.tmp 29), none⟩, []⟩,
  ⟨⟨some 31, Op.move (Operand.tmp 30), none⟩, []⟩,
  ⟨⟨some 32, Op.indexAddr 81 (Operand.tmp 6) (Operand.const (Value.int IntKind.i64 0)), some (31, false)⟩, []⟩,
  ⟨⟨some 33, Op.load 3 (Operand.tmp 32), some (31, false)⟩, []⟩,
  ⟨⟨some 34, Op.indexAddr 81 (Operand.tmp 6) (Operand.const (Value.int IntKind.i64 1)), some (31, false)⟩, []⟩,
  ⟨⟨some 35, Op.load 3 (Operand.tmp 34), some (31, false)⟩, []⟩,
  ⟨⟨some 36, Op.binOp BinOp.geq 3 (Operand.tmp 33) (Operand.tmp 35) 3, some (31, false)⟩, []⟩,
  ⟨⟨some 37, Op.pick (Operand.tmp 31) (Operand.const (Value.bool true)) (Operand.tmp 36), none⟩, []⟩,
  ⟨⟨some 38, Op.move (Operand.tmp 37), none⟩, []⟩,
  ⟨⟨some 39, Op.move (Operand.tmp 5), some (38, false)⟩, []⟩,
  ⟨⟨some 40, Op.binOp BinOp.gtr 3 (Operand.tmp 39) (Operand.const (Value.int IntKind.i64 0)) 3, some (38, false)⟩, []⟩,
  ⟨⟨some 41, Op.move (Operand.tmp 40), some (38, false)⟩, []⟩,
  ⟨⟨some 42, Op.move (Operand.tmp 0), some (41, true)⟩, []⟩,
  ⟨⟨some 43, Op.move (Operand.tmp 5), some (41, true)⟩, []⟩,
  ⟨⟨some 44, Op.binOp BinOp.sub 3 (Operand.tmp 43) (Operand.const (Value.int IntKind.i64 1)) 3, some (41, true)⟩, []⟩,
  ⟨⟨some 45, Op.indexAddr 22 (Operand.tmp 42) (Operand.tmp 44), some (41, true)⟩, []⟩,
  ⟨⟨some 46, Op.load 81 (Operand.tmp 45), some (41, true)⟩, []⟩,
  ⟨⟨some 47, Op.load 81 (Operand.tmp 6), some (41, true)⟩, []⟩,
  ⟨⟨some 48, Op.call { callee := (Callee.value (Operand.func 208)), args := #[(Operand.tmp 46), (Operand.tmp 47)], argTypes := #[81, 81] }, some (41, true)⟩, []⟩,
  ⟨⟨some 49, Op.unOp UnOp.not 4 (Operand.tmp 48), some (41, true)⟩, []⟩,
  ⟨⟨some 50, Op.pick (Operand.tmp 41) (Operand.tmp 49) (Operand.const (Value.bool false)), some (38, false)⟩, []⟩,
  ⟨⟨some 51, Op.pick (Operand.tmp 38) (Operand.const (Value.bool true)) (Operand.tmp 50), none⟩, []⟩]) (.cond (Operand.tmp 51) (.seq (.reg [⟨⟨some 4, Op.assign (Operand.const (Value.bool false)), none⟩, []⟩]) .ret) .skip)))) (.reg [⟨⟨some 11, Op.move (Operand.tmp 5), none⟩, []⟩,
  ⟨⟨some 12, Op.binOp BinOp.add 3 (Operand.tmp 11) (Operand.const (Value.int IntKind.i64 1)) 3, none⟩, []⟩,
  ⟨⟨some 5, Op.assign (Operand.tmp 12), none⟩, []⟩])))))) (.seq (.reg [⟨⟨some 4, Op.assign (Operand.const (Value.bool true)), none⟩, []⟩]) .ret)))
theorem sl150 : slim Try.f150.ntmps ords150 (Try.f150.body.getD .skip) = some cd150 := by kernel_rfl
theorem in150 {args : List Value} {H : AH} {R : Value → AH → Prop} (hl : args.length = 2) (h : ∀ (Q : Exit → Sl → AH → Prop), (∀ e s H, endA Try.prog [ResultVar.tmp 4] R e s H → Q e s H) → wpC Try.prog cd150 Q (enterA args) H) : ACalls Try.prog 150 args H R :=
  ACalls.intro (by kernel_rfl) Try.func150 rfl (by kernel_rfl) sl150 hl (of_decide_eq_true (by kernel_rfl)) (by kernel_rfl) h
def ords153 : List (Nat × List (Nat × Bool)) := [(4, [(0, false), (1, false), (2, false), (3, false), (4, false), (5, false), (6, false), (7, false), (8, false), (9, false), (10, false), (11, false), (12, false), (13, false), (14, false), (15, false), (16, false), (17, false), (18, false), (19, false), (20, false), (21, false), (22, false), (23, false), (24, false), (25, false), (26, true), (27, false), (28, false), (29, false)])]
def cd153 : Cd := (.seq (.reg [⟨⟨some 4, Op.assign (Operand.const (Value.bool false)), none⟩, []⟩]) (.seq (.seq (.reg [⟨⟨some 7, Op.move (Operand.tmp 0), none⟩, []⟩,
  ⟨⟨some 8, Op.call { callee := (Callee.builtin Builtin.len), args := #[(Operand.tmp 7)], argTypes := #[22] }, none⟩, []⟩,
  ⟨⟨some 9, Op.move (Operand.const (Value.int IntKind.i64 0)), none⟩, []⟩]) (.block 0 (.loop (.seq (.reg [⟨⟨some 10, Op.binOp BinOp.lss 3 (Operand.tmp 9) (Operand.tmp 8) 3, none⟩, []⟩]) (.seq (.cond (Operand.tmp 10) .skip (.exit 0)) (.seq (.block 1 (.seq (.reg [⟨⟨some 11, Op.move (Operand.tmp 9), none⟩, []⟩,
  ⟨⟨some 12, Op.indexAddr 22 (Operand.tmp 7) (Operand.tmp 9), none⟩, []⟩,
  ⟨⟨some 13, Op.load 81 (Operand.tmp 12), none⟩, []⟩,
  ⟨⟨some 6, Op.alloc 81, none⟩, []⟩,
  ⟨⟨some 5, Op.assign (Operand.tmp 11), none⟩, []⟩,
  ⟨⟨none, Op.store 81 (Operand.tmp 6) (Operand.tmp 13), none⟩, []⟩]) (.seq (.reg [⟨⟨some 14, Op.indexAddr 81 (Operand.tmp 6) (Operand.const (Value.int IntKind.i64 0)), none⟩, []⟩,
  ⟨⟨some 15, Op.load 3 (Operand.tmp 14), none⟩, []⟩,
  ⟨⟨some 16, Op.binOp BinOp.lss 3 (Operand.tmp 15) (Operand.const (Value.int IntKind.i64 0)) 3, none⟩, []⟩,
  ⟨⟨some 17, Op.move (Operand.tmp 16), none⟩, []⟩,
  ⟨⟨some 18, Op.indexAddr 81 (Operand.tmp 6) (Operand.const (Value.int IntKind.i64 0)), some (17, false)⟩, []⟩,
  ⟨⟨some 19, Op.load 3 (Operand.tmp 18), some (17, false)⟩, []⟩,
  ⟨⟨some 20, Op.indexAddr 81 (Operand.tmp 6) (Operand.const (Value.int IntKind.i64 1)), some (17, false)⟩, []⟩,
  ⟨⟨some 21, Op.load 3 (Operand.tmp 20), some (17, false)⟩, []⟩,
  ⟨⟨some 22, Op.binOp BinOp.geq 3 (Operand.tmp 19) (Operand.tmp 21) 3, some (17, false)⟩, []⟩,
  ⟨⟨some 23, Op.pick (Operand.tmp 17) (Operand.const (Value.bool true)) (Operand.tmp 22), none⟩, []⟩,
  ⟨⟨some 24, Op.move (Operand.tmp 23), none⟩, []⟩,
  ⟨⟨some 25, Op.indexAddr 81 (Operand.tmp 6) (Operand.const (Value.int IntKind.i64 1)), some (24, false)⟩, []⟩,
  ⟨⟨some 26, Op.load 3 (Operand.tmp 25), some (24, false)⟩, []⟩,
  ⟨⟨some 27, Op.move (Operand.tmp 1), some (24, false)⟩, []⟩,
  ⟨⟨some 28, Op.binOp BinOp.geq 3 (Operand.tmp 26) (Operand.tmp 27) 3, some (24, false)⟩, []⟩,
  ⟨⟨some 29, Op.pick (Operand.tmp 24) (Operand.const (Value.bool true)) (Operand.tmp 28), none⟩, []⟩,
  ⟨⟨some 30, Op.move (Operand.tmp 29), none⟩, []⟩,
  ⟨⟨some 31, Op.move (Operand.tmp 5), some (30, false)⟩, []⟩,
  ⟨⟨some 32, Op.binOp BinOp.gtr 3 (Operand.tmp 31) (Operand.const (Value.int IntKind.i64 0)) 3, some (30, false)⟩, []⟩,
  ⟨⟨some 33, Op.move (Operand.tmp 32), some (30, false)⟩, []⟩,
  ⟨⟨some 34, Op.move (Operand.tmp 0), some (33, true)⟩, []⟩,
  ⟨⟨some 35, Op.move (Operand.tmp 5), some (33, true)⟩, []⟩,
  ⟨⟨some 36, Op.binOp BinOp.sub 3 (Operand.tmp 35) (Operand.const (Value.int IntKind.i64 1)) 3, some (33, true)⟩, []⟩,
  ⟨⟨some 37, Op.indexAddr 22 (Operand.tmp 34) (Operand.tmp 36), some (33, true)⟩, []⟩,
  ⟨⟨some 38, Op.load 81 (Operand.tmp 37), some (33, true)⟩, []⟩,
  ⟨⟨some 39, Op.load 81 (Operand.tmp 6), some (33, true)⟩, []⟩,
  ⟨⟨some 40, Op.call { callee := (Callee.value (Operand.func 209)), args := #[(Operand.tmp 38), (Operand.tmp 39)], argTypes := #[81, 81] }, some (33, true)⟩, []⟩,
  ⟨⟨some 41, Op.binOp BinOp.geq 3 (Operand.tmp 40) (Operand.const (Value.int IntKind.i64 0)) 3, some (33, true)⟩, []⟩,
  ⟨⟨some 42, Op.pick (Operand.tmp 33) (Operand.tmp 41) (Operand.const (Value.bool false)), some (30, false)⟩, []⟩,
  ⟨⟨some 43, Op.pick (Operand.tmp 30) (Operand.const (Value.bool true)) (Operand.tmp 42), none⟩, []⟩]) (.cond (Operand.tmp 43) (.seq (.reg [⟨⟨some 4, Op.assign (Operand.const (Value.bool false)), none⟩, []⟩]) .ret) .skip)))) (.reg [⟨⟨some 44, Op.binOp BinOp.add 3 (Operand.tmp 9) (Operand.const (Value.int IntKind.i64 1)) 3, none⟩, []⟩,
  ⟨⟨some 9, Op.move (Operand.tmp 44), none⟩, []⟩]))))))) (.seq (.reg [⟨⟨some 4, Op.assign (Operand.const (Value.bool true)), none⟩, []⟩]) .ret)))
theorem sl153 : slim Try.f153.ntmps ords153 (Try.f153.body.getD .skip) = some cd153 := by kernel_rfl
theorem in153 {args : List Value} {H : AH} {R : Value → AH → Prop} (hl : args.length = 2) (h : ∀ (Q : Exit → Sl → AH → Prop), (∀ e s H, endA Try.prog [ResultVar.tmp 4] R e s H → Q e s H) → wpC Try.prog cd153 Q (enterA args) H) : ACalls Try.prog 153 args H R :=
  ACalls.intro (by kernel_rfl) Try.func153 rfl (by kernel_rfl) sl153 hl (of_decide_eq_true (by kernel_rfl)) (by kernel_rfl) h
def ords66 : List (Nat × List (Nat × Bool)) := []
def cd66 : Cd := (.seq (.reg [⟨⟨some 1, Op.box 31 (Operand.tmp 0), none⟩, []⟩,
  ⟨⟨some 2, Op.assign (Operand.const (Value.bool false)), none⟩, []⟩]) (.seq (.reg [⟨⟨some 3, Op.fieldAddr 31 (Operand.tmp 1) 0, none⟩, []⟩,
  ⟨⟨some 4, Op.load 3 (Operand.tmp 3), none⟩, []⟩,
  ⟨⟨some 5, Op.call { callee := (Callee.value (Operand.func 67)), args := #[(Operand.tmp 4), (Operand.const (Value.int IntKind.i64 0)), (Operand.const (Value.int IntKind.i64 8))], argTypes := #[3, 3, 3] }, none⟩, []⟩,
  ⟨⟨some 6, Op.move (Operand.tmp 5), none⟩, []⟩,
  ⟨⟨some 7, Op.fieldAddr 31 (Operand.tmp 1) 1, some (6, true)⟩, []⟩,
  ⟨⟨some 8, Op.load 22 (Operand.tmp 7), some (6, true)⟩, []⟩,
  ⟨⟨some 9, Op.fieldAddr 31 (Operand.tmp 1) 0, some (6, true)⟩, []⟩,
  ⟨⟨some 10, Op.load 3 (Operand.tmp 9), some (6, true)⟩, []⟩,
  ⟨⟨some 11, Op.call { callee := (Callee.value (Operand.func 150)), args := #[(Operand.tmp 8), (Operand.tmp 10)], argTypes := #[22, 3] }, some (6, true)⟩, []⟩,
  ⟨⟨some 12, Op.pick (Operand.tmp 6) (Operand.tmp 11) (Operand.const (Value.bool false)), none⟩, []⟩,
  ⟨⟨some 2, Op.assign (Operand.tmp 12), none⟩, []⟩]) .ret))
theorem sl66 : slim Try.f66.ntmps ords66 (Try.f66.body.getD .skip) = some cd66 := by kernel_rfl
theorem in66 {args : List Value} {H : AH} {R : Value → AH → Prop} (hl : args.length = 1) (h : ∀ (Q : Exit → Sl → AH → Prop), (∀ e s H, endA Try.prog [ResultVar.tmp 2] R e s H → Q e s H) → wpC Try.prog cd66 Q (enterA args) H) : ACalls Try.prog 66 args H R :=
  ACalls.intro (by kernel_rfl) Try.func66 rfl (by kernel_rfl) sl66 hl (of_decide_eq_true (by kernel_rfl)) (by kernel_rfl) h
def ords71 : List (Nat × List (Nat × Bool)) := []
def cd71 : Cd := (.seq (.reg [⟨⟨some 1, Op.box 31 (Operand.tmp 0), none⟩, []⟩,
  ⟨⟨some 2, Op.assign (Operand.const (Value.bool false)), none⟩, []⟩]) (.seq (.reg [⟨⟨some 3, Op.fieldAddr 31 (Operand.tmp 1) 0, none⟩, []⟩,
  ⟨⟨some 4, Op.load 3 (Operand.tmp 3), none⟩, []⟩,
  ⟨⟨some 5, Op.call { callee := (Callee.value (Operand.func 72)), args := #[(Operand.tmp 4), (Operand.const (Value.int IntKind.i64 0)), (Operand.const (Value.int IntKind.i64 8))], argTypes := #[3, 3, 3] }, none⟩, []⟩,
  ⟨⟨some 6, Op.move (Operand.tmp 5), none⟩, []⟩,
  ⟨⟨some 7, Op.fieldAddr 31 (Operand.tmp 1) 1, some (6, true)⟩, []⟩,
  ⟨⟨some 8, Op.load 22 (Operand.tmp 7), some (6, true)⟩, []⟩,
  ⟨⟨some 9, Op.fieldAddr 31 (Operand.tmp 1) 0, some (6, true)⟩, []⟩,
  ⟨⟨some 10, Op.load 3 (Operand.tmp 9), some (6, true)⟩, []⟩,
  ⟨⟨some 11, Op.call { callee := (Callee.value (Operand.func 153)), args := #[(Operand.tmp 8), (Operand.tmp 10)], argTypes := #[22, 3] }, some (6, true)⟩, []⟩,
  ⟨⟨some 12, Op.pick (Operand.tmp 6) (Operand.tmp 11) (Operand.const (Value.bool false)), none⟩, []⟩,
  ⟨⟨some 2, Op.assign (Operand.tmp 12), none⟩, []⟩]) .ret))
theorem sl71 : slim Try.f71.ntmps ords71 (Try.f71.body.getD .skip) = some cd71 := by kernel_rfl
theorem in71 {args : List Value} {H : AH} {R : Value → AH → Prop} (hl : args.length = 1) (h : ∀ (Q : Exit → Sl → AH → Prop), (∀ e s H, endA Try.prog [ResultVar.tmp 2] R e s H → Q e s H) → wpC Try.prog cd71 Q (enterA args) H) : ACalls Try.prog 71 args H R :=
  ACalls.intro (by kernel_rfl) Try.func71 rfl (by kernel_rfl) sl71 hl (of_decide_eq_true (by kernel_rfl)) (by kernel_rfl) h
end Go.Proofs.Ytlfongfhbkefmaa.Ai
namespace Go.Proofs.Ytlfongfhbkefmaa.Ai
open Go Go.RowKit
set_option linter.unusedVariables false
set_option linter.unusedSimpArgs false
/-- pairs in order -/
def pairLt (p q : Int × Int) : Prop := p.1 < q.1 ∨ p.1 = q.1 ∧ p.2 < q.2
instance (p q : Int × Int) : Decidable (pairLt p q) := by unfold pairLt; infer_instance
def prOk (n : Int) (ps : List (Int × Int)) (i : Nat) : Prop :=
  0 ≤ (ps.getD i (0, 0)).1 ∧ (ps.getD i (0, 0)).1 < (ps.getD i (0, 0)).2 ∧ (ps.getD i (0, 0)).2 < n ∧ (0 < i → pairLt (ps.getD (i - 1) (0, 0)) (ps.getD i (0, 0)))
instance (n : Int) (ps : List (Int × Int)) (i : Nat) : Decidable (prOk n ps i) := by unfold prOk; infer_instance
def PrU (n : Int) (ps : List (Int × Int)) (k : Nat) : Prop := ∀ i, i < k → prOk n ps i
instance (n : Int) (ps : List (Int × Int)) (k : Nat) : Decidable (PrU n ps k) := by unfold PrU; infer_instance
def Grd (n : Int) (ps : List (Int × Int)) : Prop := (0 ≤ n ∧ n ≤ 8) ∧ PrU n ps ps.length
instance (n : Int) (ps : List (Int × Int)) : Decidable (Grd n ps) := by unfold Grd; infer_instance
theorem PrU.zero (n : Int) (ps : List (Int × Int)) : PrU n ps 0 := fun i h => absurd h (Nat.not_lt_zero i)
theorem PrU.succ {n : Int} {ps : List (Int × Int)} {k : Nat} (h : PrU n ps k) (h2 : prOk n ps k) : PrU n ps (k + 1) := by
  intro i hi
  rcases Nat.lt_succ_iff_lt_or_eq.1 hi with g | g
  · exact h i g
  · rw [g]; exact h2
theorem PrU.no {n : Int} {ps : List (Int × Int)} {k i : Nat} (hi : i < k) (h : ¬ prOk n ps i) : ¬ PrU n ps k := fun g => h (g i hi)
theorem l2Edge_c (p q : Int × Int) (H : AH) : ACalls Try.prog 208 [.agg (List.toArray [.int .i64 p.1, .int .i64 p.2]), .agg (List.toArray [.int .i64 q.1, .int .i64 q.2])] H fun r H' => r = .bool (decide (pairLt p q)) ∧ H <+: H' := by
  refine in208 rfl ?_
  intro Q hQ
  simp (maxSteps := 1000000) (disch := omega) only [cd208, box_a2, S, S1, S2, S3, S4, S5, ST, eq_self, reduceIte, reduceCtorEq, Nat.reduceEqDiff, Nat.reduceAdd]
  generalize hA : H ++ [AObj.cells [.int .i64 p.1, .int .i64 p.2] 81 false] = A
  have pA : H <+: A := by rw [← hA]; exact List.prefix_append _ _
  have a0 : A[H.length]? = some (.cells [.int .i64 p.1, .int .i64 p.2] 81 false) := by rw [← hA]; exact at_new ..
  generalize hB : A ++ [AObj.cells [.int .i64 q.1, .int .i64 q.2] 81 false] = B
  have pB : A <+: B := by rw [← hB]; exact List.prefix_append _ _
  have b0 := pre_at pB a0
  have b1 : B[A.length]? = some (.cells [.int .i64 q.1, .int .i64 q.2] 81 false) := by rw [← hB]; exact at_new ..
  have pHB := pA.trans pB
  simp (maxSteps := 1000000) (disch := omega) only [cell_of b0, cell_of b1, S, S1, S2, S3, S4, S5, ST, eq_self, reduceIte, reduceCtorEq, Nat.reduceEqDiff, Nat.reduceAdd]
  refine brD.intro (fun e1 => ?_) (fun e1 => ?_) <;> simp (maxSteps := 1000000) (disch := omega) only [e1, cell_of b0, cell_of b1, S, S1, S2, S3, S4, S5, ST, eq_self, reduceIte, reduceCtorEq, Nat.reduceEqDiff, Nat.reduceAdd]
  · refine hQ _ _ _ ?_
    simp (maxSteps := 1000000) (disch := omega) only [e1, S, S1, S2, S3, S4, S5, ST, eq_self, reduceIte, reduceCtorEq, Nat.reduceEqDiff, Nat.reduceAdd]
    exact ⟨by rw [decide_eq_true (show pairLt p q from .inl e1)], pHB⟩
  · refine brD.intro (fun e2 => ?_) (fun e2 => ?_) <;> simp (maxSteps := 1000000) (disch := omega) only [e1, e2, cell_of b0, cell_of b1, S, S1, S2, S3, S4, S5, ST, eq_self, reduceIte, reduceCtorEq, Nat.reduceEqDiff, Nat.reduceAdd]
    · refine hQ _ _ _ ?_
      simp (maxSteps := 1000000) (disch := omega) only [e1, e2, S, S1, S2, S3, S4, S5, ST, eq_self, reduceIte, reduceCtorEq, Nat.reduceEqDiff, Nat.reduceAdd]
      have : pairLt p q ↔ p.2 < q.2 := by unfold pairLt; omega
      exact ⟨by simp [this], pHB⟩
    · refine hQ _ _ _ ?_
      simp (maxSteps := 1000000) (disch := omega) only [e1, e2, S, S1, S2, S3, S4, S5, ST, eq_self, reduceIte, reduceCtorEq, Nat.reduceEqDiff, Nat.reduceAdd]
      have : ¬ pairLt p q := by unfold pairLt; omega
      exact ⟨by simp [this], pHB⟩
def cmpI (a b : Int) : Int := if a < b then -1 else if b < a then 1 else 0
def cmpP (p q : Int × Int) : Int := if cmpI p.1 q.1 ≠ 0 then cmpI p.1 q.1 else cmpI p.2 q.2
theorem cmpP_ge (p q : Int × Int) : (0 ≤ cmpP p q) ↔ ¬ pairLt p q := by
  unfold cmpP cmpI pairLt
  repeat' split
  all_goals omega
theorem Compare_c (a b : Int) (H : AH) : ACalls Try.prog 212 [.int .i64 a, .int .i64 b] H fun r H' => r = .int .i64 (cmpI a b) ∧ H = H' := by
  refine in212 rfl ?_
  intro Q hQ
  simp (maxSteps := 1000000) (disch := omega) only [cd212, S, S1, S2, S3, S4, S5, ST, eq_self, reduceIte, reduceCtorEq, Nat.reduceEqDiff, Nat.reduceAdd]
  refine CallH.by (isNaN_c a H) ?_
  rintro _ _ ⟨rfl, rfl⟩
  simp (maxSteps := 1000000) (disch := omega) only [S, S1, S2, S3, S4, S5, ST, eq_self, reduceIte, reduceCtorEq, Nat.reduceEqDiff, Nat.reduceAdd]
  refine CallH.by (isNaN_c b H) ?_
  rintro _ _ ⟨rfl, rfl⟩
  simp (maxSteps := 1000000) (disch := omega) only [S, S1, S2, S3, S4, S5, ST, eq_self, reduceIte, reduceCtorEq, Nat.reduceEqDiff, Nat.reduceAdd]
  refine brD.intro (fun e => ?_) (fun e => ?_) <;> simp (maxSteps := 1000000) (disch := omega) only [e, S, S1, S2, S3, S4, S5, ST, eq_self, reduceIte, reduceCtorEq, Nat.reduceEqDiff, Nat.reduceAdd]
  · refine hQ _ _ _ ?_
    simp (maxSteps := 1000000) (disch := omega) only [cmpI, e, S, S1, S2, S3, S4, S5, ST, eq_self, reduceIte, reduceCtorEq, Nat.reduceEqDiff, Nat.reduceAdd]
  · refine brD.intro (fun e2 => ?_) (fun e2 => ?_) <;> simp (maxSteps := 1000000) (disch := omega) only [e, e2, S, S1, S2, S3, S4, S5, ST, eq_self, reduceIte, reduceCtorEq, Nat.reduceEqDiff, Nat.reduceAdd]
    · refine hQ _ _ _ ?_
      simp (maxSteps := 1000000) (disch := omega) only [cmpI, e, e2, S, S1, S2, S3, S4, S5, ST, eq_self, reduceIte, reduceCtorEq, Nat.reduceEqDiff, Nat.reduceAdd]
    · refine hQ _ _ _ ?_
      simp (maxSteps := 1000000) (disch := omega) only [cmpI, e, e2, S, S1, S2, S3, S4, S5, ST, eq_self, reduceIte, reduceCtorEq, Nat.reduceEqDiff, Nat.reduceAdd]
theorem Or_c (a b : Int) (o : Nat) (H : AH) (ho : H[o]? = some (.cells (ints [a, b]) 3 false)) : ACalls Try.prog 247 [.slice (some ⟨o, 0, none⟩) 2 2] H fun r H' => r = .int .i64 (if a ≠ 0 then a else b) ∧ H = H' := by
  refine in247 rfl ?_
  intro Q hQ
  simp (maxSteps := 1000000) (disch := omega) only [cd247, S, S1, S2, S3, S4, S5, ST, eq_self, reduceIte, reduceCtorEq, Nat.reduceEqDiff, Nat.reduceAdd]
  refine LoopH.by (fun m s H' => ∃ i, m + i = 2 ∧ s 0 = .slice (some ⟨o, 0, none⟩) 2 2 ∧ s 3 = .int .i64 0 ∧ s 6 = .slice (some ⟨o, 0, none⟩) 2 2 ∧ s 7 = .int .i64 2 ∧ s 8 = .int .i64 ((i : Nat) : Int) ∧ H = H' ∧ ∀ j, j < i → [a, b].getD j 0 = 0) 2 ?_ ?_
  · exact ⟨0, rfl, rfl, rfl, rfl, rfl, rfl, rfl, fun j hj => absurd hj (Nat.not_lt_zero j)⟩
  · rintro m s H' ⟨i, hm, h0, h3, h6, h7, h8, rfl, hz⟩
    simp (maxSteps := 1000000) (disch := omega) only [h0, h3, h6, h7, h8, S, S1, S2, S3, S4, S5, ST, eq_self, reduceIte, reduceCtorEq, Nat.reduceEqDiff, Nat.reduceAdd]
    refine brD.intro (fun g => ?_) (fun g => ?_)
    · have hi : i < [a, b].length := by show i < 2; omega
      simp (maxSteps := 1000000) (disch := omega) only [h0, h3, h6, h7, h8, Int.toNat_natCast, Nat.zero_add, cell_ints ho hi, S, S1, S2, S3, S4, S5, ST, eq_self, reduceIte, reduceCtorEq, Nat.reduceEqDiff, Nat.reduceAdd]
      refine brD.intro (fun e => ?_) (fun e => ?_) <;> simp (maxSteps := 1000000) (disch := omega) only [h0, h3, h6, h7, h8, e, wrap64, S, S1, S2, S3, S4, S5, ST, eq_self, reduceIte, reduceCtorEq, Nat.reduceEqDiff, Nat.reduceAdd]
      · refine hQ _ _ _ ?_
        simp (maxSteps := 1000000) (disch := omega) only [S, S1, S2, S3, S4, S5, ST, eq_self, reduceIte, reduceCtorEq, Nat.reduceEqDiff, Nat.reduceAdd]
        have : i = 0 ∨ i = 1 := by omega
        rcases this with rfl | rfl
        · have e' : a ≠ 0 := e
          simp [e']
        · have e1 : a = 0 := hz 0 (by omega)
          simp [e1]
      · have f1 : ∀ j, j < i + 1 → [a, b].getD j 0 = 0 := by
          intro j hj
          rcases Nat.lt_succ_iff_lt_or_eq.1 hj with h | h
          · exact hz j h
          · rw [h]; exact Decidable.not_not.1 e
        refine ⟨m - 1, by omega, i + 1, ?_⟩
        (repeat' apply And.intro) <;> first | exact f1 | (simp only [Value.int.injEq, true_and]; omega) | omega | rfl | assumption | (simp; done) | (simp; omega)
    · simp (maxSteps := 1000000) (disch := omega) only [h3, S, S1, S2, S3, S4, S5, ST, eq_self, reduceIte, reduceCtorEq, Nat.reduceEqDiff, Nat.reduceAdd]
      refine hQ _ _ _ ?_
      simp (maxSteps := 1000000) (disch := omega) only [h3, S, S1, S2, S3, S4, S5, ST, eq_self, reduceIte, reduceCtorEq, Nat.reduceEqDiff, Nat.reduceAdd]
      have e1 : a = 0 := hz 0 (by omega)
      have e2 : b = 0 := hz 1 (by omega)
      simp [e1, e2]
set_option maxRecDepth 20000 in
theorem comparePairs_c (p q : Int × Int) (H : AH) : ACalls Try.prog 209 [.agg (List.toArray [.int .i64 p.1, .int .i64 p.2]), .agg (List.toArray [.int .i64 q.1, .int .i64 q.2])] H fun r H' => r = .int .i64 (cmpP p q) ∧ H <+: H' := by
  refine in209 rfl ?_
  intro Q hQ
  simp (maxSteps := 1000000) (disch := omega) only [cd209, box_a2, S, S1, S2, S3, S4, S5, ST, eq_self, reduceIte, reduceCtorEq, Nat.reduceEqDiff, Nat.reduceAdd]
  generalize hA : H ++ [AObj.cells [.int .i64 p.1, .int .i64 p.2] 81 false] = A
  have pA : H <+: A := by rw [← hA]; exact List.prefix_append _ _
  have a0 : A[H.length]? = some (.cells [.int .i64 p.1, .int .i64 p.2] 81 false) := by rw [← hA]; exact at_new ..
  generalize hB : A ++ [AObj.cells [.int .i64 q.1, .int .i64 q.2] 81 false] = B
  have pB : A <+: B := by rw [← hB]; exact List.prefix_append _ _
  have b0 := pre_at pB a0
  have b1 : B[A.length]? = some (.cells [.int .i64 q.1, .int .i64 q.2] 81 false) := by rw [← hB]; exact at_new ..
  have pHB := pA.trans pB
  simp (maxSteps := 1000000) (disch := omega) only [cell_of b0, cell_of b1, S, S1, S2, S3, S4, S5, ST, eq_self, reduceIte, reduceCtorEq, Nat.reduceEqDiff, Nat.reduceAdd]
  refine CallH.by (Compare_c p.1 q.1 B) ?_
  rintro _ _ ⟨rfl, rfl⟩
  simp (maxSteps := 1000000) (disch := omega) only [cell_of b0, cell_of b1, S, S1, S2, S3, S4, S5, ST, eq_self, reduceIte, reduceCtorEq, Nat.reduceEqDiff, Nat.reduceAdd]
  refine CallH.by (Compare_c p.2 q.2 B) ?_
  rintro _ _ ⟨rfl, rfl⟩
  simp (maxSteps := 1000000) (disch := omega) only [S, S1, S2, S3, S4, S5, ST, eq_self, reduceIte, reduceCtorEq, Nat.reduceEqDiff, Nat.reduceAdd]
  refine CallH.by (Or_c (cmpI p.1 q.1) (cmpI p.2 q.2) B.length _ (at_new ..)) ?_
  rintro _ _ ⟨rfl, rfl⟩
  simp (maxSteps := 1000000) (disch := omega) only [S, S1, S2, S3, S4, S5, ST, eq_self, reduceIte, reduceCtorEq, Nat.reduceEqDiff, Nat.reduceAdd]
  refine hQ _ _ _ ?_
  simp (maxSteps := 1000000) (disch := omega) only [cmpP, S, S1, S2, S3, S4, S5, ST, eq_self, reduceIte, reduceCtorEq, Nat.reduceEqDiff, Nat.reduceAdd]
  exact pre_app pHB _
set_option maxRecDepth 20000 in
set_option maxHeartbeats 4000000 in
theorem l2Pairs_c (v : Value) (n : Int) (ps : List (Int × Int)) (H : AH) (hr : RowP 81 H v ps) (hlen : ps.length ≤ 1099511627776) (hn : 0 ≤ n ∧ n ≤ 8) :
    ACalls Try.prog 150 [v, .int .i64 n] H fun r H' => r = .bool (decide (PrU n ps ps.length)) ∧ H <+: H' := by
  refine in150 rfl ?_
  intro Q hQ
  simp (maxSteps := 1000000) (disch := omega) only [cd150, S, S1, S2, S3, S4, S5, ST, eq_self, reduceIte, reduceCtorEq, Nat.reduceEqDiff, Nat.reduceAdd]
  refine LoopH.by (fun m s H' => ∃ i, m + i = ps.length ∧ s 0 = v ∧ s 1 = .int .i64 n ∧ s 5 = .int .i64 ((i : Nat) : Int) ∧ H <+: H' ∧ PrU n ps i) ps.length ?_ ?_
  · exact ⟨0, by simp, rfl, rfl, rfl, List.prefix_refl _, PrU.zero _ _⟩
  · rintro m s H' ⟨i, hm, h0, h1, h5, hp, hu⟩
    have hr' := hr.pre hp
    simp (maxSteps := 1000000) (disch := omega) only [h0, h1, h5, hr'.len Try.underlying22, S, S1, S2, S3, S4, S5, ST, eq_self, reduceIte, reduceCtorEq, Nat.reduceEqDiff, Nat.reduceAdd]
    refine brD.intro (fun g => ?_) (fun g => ?_)
    · have hi : i < ps.length := by omega
      have hst0 := store_a2 H' [.int .i64 0, .int .i64 0] rfl
      simp (maxSteps := 1000000) (disch := omega) only [h0, h1, h5, hr'.ix Try.underlying22 cs81, Int.toNat_natCast, hr'.ld ag81 cs81 hi, alloc_a2, hst0, cell_new, wrap64, S, S1, S2, S3, S4, S5, ST, eq_self, reduceIte, reduceCtorEq, Nat.reduceEqDiff, Nat.reduceAdd]
      generalize hB : H' ++ [AObj.cells [.int .i64 (ps.getD i (0, 0)).1, .int .i64 (ps.getD i (0, 0)).2] 81 false] = B
      have pB : H' <+: B := by rw [← hB]; exact List.prefix_append _ _
      have b0 : B[H'.length]? = some (.cells [.int .i64 (ps.getD i (0, 0)).1, .int .i64 (ps.getD i (0, 0)).2] 81 false) := by rw [← hB]; exact at_new ..
      have hrB := hr'.pre pB
      refine CallH.by (l1In_c _ _ _ B) ?_
      rintro _ _ ⟨rfl, rfl⟩
      simp (maxSteps := 1000000) (disch := omega) only [cell_of b0, wrap64, S, S1, S2, S3, S4, S5, ST, eq_self, reduceIte, reduceCtorEq, Nat.reduceEqDiff, Nat.reduceAdd]
      have hBp := hp.trans pB
      have e0 : ((i : Int) - 1).toNat = i - 1 := by omega
      have ok2 : prOk n ps i → PrU n ps (i + 1) := fun h => hu.succ h
      have bad : ¬ prOk n ps i → ∀ G, H <+: G → decide (PrU n ps ps.length) = false ∧ H <+: G := fun h G hG => ⟨decide_eq_false (PrU.no hi h), hG⟩
      have hld1 : 0 < i → loadA Try.prog 81 (.pointer (some ⟨rowO v, rowK v + 2 * (i - 1), none⟩)) B = some (.agg (List.toArray [.int .i64 (ps.getD (i - 1) (0, 0)).1, .int .i64 (ps.getD (i - 1) (0, 0)).2])) := fun h => hrB.ld ag81 cs81 (by omega)
      unfold prOk at ok2 bad
      generalize hx : ps.getD i (0, 0) = x at *
      generalize hy : ps.getD (i - 1) (0, 0) = y at *
      refine brD.intro (fun e1 => ?_) (fun e1 => ?_)
      · simp (maxSteps := 1000000) (disch := omega) only [e1, cell_of b0, h0, h1, h5, wrap64, S, S1, S2, S3, S4, S5, ST, eq_self, reduceIte, reduceCtorEq, Nat.reduceEqDiff, Nat.reduceAdd]
        refine CallH.by (l1In_c _ _ _ B) ?_
        rintro _ _ ⟨rfl, rfl⟩
        simp (maxSteps := 1000000) (disch := omega) only [e1, cell_of b0, h0, h1, h5, wrap64, S, S1, S2, S3, S4, S5, ST, eq_self, reduceIte, reduceCtorEq, Nat.reduceEqDiff, Nat.reduceAdd]
        refine brD.intro (fun e2 => ?_) (fun e2 => ?_)
        · simp (maxSteps := 1000000) (disch := omega) only [e1, e2, cell_of b0, h0, h1, h5, wrap64, S, S1, S2, S3, S4, S5, ST, eq_self, reduceIte, reduceCtorEq, Nat.reduceEqDiff, Nat.reduceAdd]
          refine brD.intro (fun e3 => ?_) (fun e3 => ?_) <;> simp (maxSteps := 1000000) (disch := omega) only [e1, e2, e3, cell_of b0, h0, h1, h5, wrap64, S, S1, S2, S3, S4, S5, ST, eq_self, reduceIte, reduceCtorEq, Nat.reduceEqDiff, Nat.reduceAdd]
          · refine hQ _ _ _ ?_
            simp (maxSteps := 1000000) (disch := omega) only [S, S1, S2, S3, S4, S5, ST, eq_self, reduceIte, reduceCtorEq, Nat.reduceEqDiff, Nat.reduceAdd]
            obtain ⟨q1, q2⟩ := bad (by omega) _ hBp
            rw [q1]
            exact ⟨rfl, q2⟩
          · refine brD.intro (fun e4 => ?_) (fun e4 => ?_) <;> simp (maxSteps := 1000000) (disch := omega) only [e1, e2, e3, e4, h0, h1, h5, wrap64, S, S1, S2, S3, S4, S5, ST, eq_self, reduceIte, reduceCtorEq, Nat.reduceEqDiff, Nat.reduceAdd]
            · have hi1 : 0 < i := by omega
              simp (maxSteps := 1000000) (disch := omega) only [e1, e2, e3, e4, e0, h0, h1, h5, hrB.ix Try.underlying22 cs81, hld1 hi1, ld_a2 b0, wrap64, S, S1, S2, S3, S4, S5, ST, eq_self, reduceIte, reduceCtorEq, Nat.reduceEqDiff, Nat.reduceAdd]
              refine CallH.by (l2Edge_c y x B) ?_
              rintro _ C ⟨rfl, pC⟩
              have hCp := hBp.trans pC
              simp (maxSteps := 1000000) (disch := omega) only [e1, e2, e3, e4, S, S1, S2, S3, S4, S5, ST, eq_self, reduceIte, reduceCtorEq, Nat.reduceEqDiff, Nat.reduceAdd]
              refine brD.intro (fun e5 => ?_) (fun e5 => ?_) <;> simp (maxSteps := 1000000) (disch := omega) only [e1, e2, e3, e4, e5, h0, h1, h5, wrap64, S, S1, S2, S3, S4, S5, ST, eq_self, reduceIte, reduceCtorEq, Nat.reduceEqDiff, Nat.reduceAdd]
              · have f1 := ok2 ⟨e1.1, by omega, by omega, fun _ => e5⟩
                refine ⟨m - 1, by omega, i + 1, ?_⟩
                (repeat' first | exact f1 | exact hCp | apply And.intro) <;> first | (simp only [Value.int.injEq, true_and]; omega) | omega | rfl | assumption | (simp; done) | (simp; omega)
              · refine hQ _ _ _ ?_
                simp (maxSteps := 1000000) (disch := omega) only [S, S1, S2, S3, S4, S5, ST, eq_self, reduceIte, reduceCtorEq, Nat.reduceEqDiff, Nat.reduceAdd]
                obtain ⟨q1, q2⟩ := bad (fun h => e5 (h.2.2.2 hi1)) _ hCp
                rw [q1]
                exact ⟨rfl, q2⟩
            · have f1 := ok2 ⟨e1.1, by omega, by omega, fun h => absurd h (by omega)⟩
              refine ⟨m - 1, by omega, i + 1, ?_⟩
              (repeat' first | exact f1 | exact hBp | apply And.intro) <;> first | (simp only [Value.int.injEq, true_and]; omega) | omega | rfl | assumption | (simp; done) | (simp; omega)
        · simp (maxSteps := 1000000) (disch := omega) only [e1, e2, S, S1, S2, S3, S4, S5, ST, eq_self, reduceIte, reduceCtorEq, Nat.reduceEqDiff, Nat.reduceAdd]
          refine hQ _ _ _ ?_
          simp (maxSteps := 1000000) (disch := omega) only [S, S1, S2, S3, S4, S5, ST, eq_self, reduceIte, reduceCtorEq, Nat.reduceEqDiff, Nat.reduceAdd]
          obtain ⟨q1, q2⟩ := bad (by omega) _ hBp
          rw [q1]
          exact ⟨rfl, q2⟩
      · simp (maxSteps := 1000000) (disch := omega) only [e1, S, S1, S2, S3, S4, S5, ST, eq_self, reduceIte, reduceCtorEq, Nat.reduceEqDiff, Nat.reduceAdd]
        refine hQ _ _ _ ?_
        simp (maxSteps := 1000000) (disch := omega) only [S, S1, S2, S3, S4, S5, ST, eq_self, reduceIte, reduceCtorEq, Nat.reduceEqDiff, Nat.reduceAdd]
        obtain ⟨q1, q2⟩ := bad (by omega) _ hBp
        rw [q1]
        exact ⟨rfl, q2⟩
    · simp (maxSteps := 1000000) (disch := omega) only [h0, h1, h5, S, S1, S2, S3, S4, S5, ST, eq_self, reduceIte, reduceCtorEq, Nat.reduceEqDiff, Nat.reduceAdd]
      refine hQ _ _ _ ?_
      simp (maxSteps := 1000000) (disch := omega) only [S, S1, S2, S3, S4, S5, ST, eq_self, reduceIte, reduceCtorEq, Nat.reduceEqDiff, Nat.reduceAdd]
      have : i = ps.length := by omega
      subst this
      simp [hu, hp]
set_option maxRecDepth 20000 in
set_option maxHeartbeats 4000000 in
theorem isPairs_c (v : Value) (n : Int) (ps : List (Int × Int)) (H : AH) (hr : RowP 81 H v ps) (hlen : ps.length ≤ 1099511627776) (hn : 0 ≤ n ∧ n ≤ 8) :
    ACalls Try.prog 153 [v, .int .i64 n] H fun r H' => r = .bool (decide (PrU n ps ps.length)) ∧ H <+: H' := by
  refine in153 rfl ?_
  intro Q hQ
  simp (maxSteps := 1000000) (disch := omega) only [cd153, hr.len Try.underlying22, S, S1, S2, S3, S4, S5, ST, eq_self, reduceIte, reduceCtorEq, Nat.reduceEqDiff, Nat.reduceAdd]
  refine LoopH.by (fun m s H' => ∃ i, m + i = ps.length ∧ s 0 = v ∧ s 1 = .int .i64 n ∧ s 7 = v ∧ s 8 = .int .i64 (ps.length : Int) ∧ s 9 = .int .i64 ((i : Nat) : Int) ∧ H <+: H' ∧ PrU n ps i) ps.length ?_ ?_
  · exact ⟨0, by simp, rfl, rfl, rfl, rfl, rfl, List.prefix_refl _, PrU.zero _ _⟩
  · rintro m s H' ⟨i, hm, h0, h1, h7, h8, h9, hp, hu⟩
    have hr' := hr.pre hp
    simp (maxSteps := 1000000) (disch := omega) only [h0, h1, h7, h8, h9, S, S1, S2, S3, S4, S5, ST, eq_self, reduceIte, reduceCtorEq, Nat.reduceEqDiff, Nat.reduceAdd]
    refine brD.intro (fun g => ?_) (fun g => ?_)
    · have hi : i < ps.length := by omega
      have hst0 := store_a2 H' [.int .i64 0, .int .i64 0] rfl
      simp (maxSteps := 1000000) (disch := omega) only [h0, h1, h7, h8, h9, hr'.ix Try.underlying22 cs81, Int.toNat_natCast, hr'.ld ag81 cs81 hi, alloc_a2, hst0, cell_new, wrap64, S, S1, S2, S3, S4, S5, ST, eq_self, reduceIte, reduceCtorEq, Nat.reduceEqDiff, Nat.reduceAdd]
      generalize hB : H' ++ [AObj.cells [.int .i64 (ps.getD i (0, 0)).1, .int .i64 (ps.getD i (0, 0)).2] 81 false] = B
      have pB : H' <+: B := by rw [← hB]; exact List.prefix_append _ _
      have b0 : B[H'.length]? = some (.cells [.int .i64 (ps.getD i (0, 0)).1, .int .i64 (ps.getD i (0, 0)).2] 81 false) := by rw [← hB]; exact at_new ..
      have hrB := hr'.pre pB
      have hBp := hp.trans pB
      have e0 : ((i : Int) - 1).toNat = i - 1 := by omega
      have ok2 : prOk n ps i → PrU n ps (i + 1) := fun h => hu.succ h
      have bad : ¬ prOk n ps i → ∀ G, H <+: G → decide (PrU n ps ps.length) = false ∧ H <+: G := fun h G hG => ⟨decide_eq_false (PrU.no hi h), hG⟩
      have hld1 : 0 < i → loadA Try.prog 81 (.pointer (some ⟨rowO v, rowK v + 2 * (i - 1), none⟩)) B = some (.agg (List.toArray [.int .i64 (ps.getD (i - 1) (0, 0)).1, .int .i64 (ps.getD (i - 1) (0, 0)).2])) := fun h => hrB.ld ag81 cs81 (by omega)
      unfold prOk at ok2 bad
      generalize hx : ps.getD i (0, 0) = x at *
      generalize hy : ps.getD (i - 1) (0, 0) = y at *
      refine brD.intro (fun e1 => ?_) (fun e1 => ?_) <;> simp (maxSteps := 1000000) (disch := omega) only [e1, cell_of b0, h0, h1, h7, h8, h9, wrap64, S, S1, S2, S3, S4, S5, ST, eq_self, reduceIte, reduceCtorEq, Nat.reduceEqDiff, Nat.reduceAdd]
      · refine hQ _ _ _ ?_
        simp (maxSteps := 1000000) (disch := omega) only [S, S1, S2, S3, S4, S5, ST, eq_self, reduceIte, reduceCtorEq, Nat.reduceEqDiff, Nat.reduceAdd]
        obtain ⟨q1, q2⟩ := bad (by omega) _ hBp
        rw [q1]
        exact ⟨rfl, q2⟩
      · refine brD.intro (fun e2 => ?_) (fun e2 => ?_) <;> simp (maxSteps := 1000000) (disch := omega) only [e1, e2, cell_of b0, h0, h1, h7, h8, h9, wrap64, S, S1, S2, S3, S4, S5, ST, eq_self, reduceIte, reduceCtorEq, Nat.reduceEqDiff, Nat.reduceAdd]
        · refine hQ _ _ _ ?_
          simp (maxSteps := 1000000) (disch := omega) only [S, S1, S2, S3, S4, S5, ST, eq_self, reduceIte, reduceCtorEq, Nat.reduceEqDiff, Nat.reduceAdd]
          obtain ⟨q1, q2⟩ := bad (by omega) _ hBp
          rw [q1]
          exact ⟨rfl, q2⟩
        · refine brD.intro (fun e3 => ?_) (fun e3 => ?_) <;> simp (maxSteps := 1000000) (disch := omega) only [e1, e2, e3, cell_of b0, h0, h1, h7, h8, h9, wrap64, S, S1, S2, S3, S4, S5, ST, eq_self, reduceIte, reduceCtorEq, Nat.reduceEqDiff, Nat.reduceAdd]
          · refine hQ _ _ _ ?_
            simp (maxSteps := 1000000) (disch := omega) only [S, S1, S2, S3, S4, S5, ST, eq_self, reduceIte, reduceCtorEq, Nat.reduceEqDiff, Nat.reduceAdd]
            obtain ⟨q1, q2⟩ := bad (by omega) _ hBp
            rw [q1]
            exact ⟨rfl, q2⟩
          · refine brD.intro (fun e4 => ?_) (fun e4 => ?_) <;> simp (maxSteps := 1000000) (disch := omega) only [e1, e2, e3, e4, h0, h1, h7, h8, h9, wrap64, S, S1, S2, S3, S4, S5, ST, eq_self, reduceIte, reduceCtorEq, Nat.reduceEqDiff, Nat.reduceAdd]
            · have hi1 : 0 < i := by omega
              simp (maxSteps := 1000000) (disch := omega) only [e1, e2, e3, e4, e0, h0, h1, h7, h8, h9, hrB.ix Try.underlying22 cs81, hld1 hi1, ld_a2 b0, wrap64, S, S1, S2, S3, S4, S5, ST, eq_self, reduceIte, reduceCtorEq, Nat.reduceEqDiff, Nat.reduceAdd]
              refine CallH.by (comparePairs_c y x B) ?_
              rintro _ C ⟨rfl, pC⟩
              have hCp := hBp.trans pC
              simp (maxSteps := 1000000) (disch := omega) only [e1, e2, e3, e4, S, S1, S2, S3, S4, S5, ST, eq_self, reduceIte, reduceCtorEq, Nat.reduceEqDiff, Nat.reduceAdd]
              refine brD.intro (fun e5 => ?_) (fun e5 => ?_) <;> simp (maxSteps := 1000000) (disch := omega) only [e1, e2, e3, e4, e5, h0, h1, h7, h8, h9, wrap64, S, S1, S2, S3, S4, S5, ST, eq_self, reduceIte, reduceCtorEq, Nat.reduceEqDiff, Nat.reduceAdd]
              · refine hQ _ _ _ ?_
                simp (maxSteps := 1000000) (disch := omega) only [S, S1, S2, S3, S4, S5, ST, eq_self, reduceIte, reduceCtorEq, Nat.reduceEqDiff, Nat.reduceAdd]
                obtain ⟨q1, q2⟩ := bad (fun h => (cmpP_ge y x).1 e5 (h.2.2.2 hi1)) _ hCp
                rw [q1]
                exact ⟨rfl, q2⟩
              · have f1 := ok2 ⟨by omega, by omega, by omega, fun _ => Decidable.not_not.1 fun h => e5 ((cmpP_ge y x).2 h)⟩
                refine ⟨m - 1, by omega, i + 1, ?_⟩
                (repeat' first | exact f1 | exact hCp | apply And.intro) <;> first | (simp only [Value.int.injEq, true_and]; omega) | omega | rfl | assumption | (simp; done) | (simp; omega)
            · have f1 := ok2 ⟨by omega, by omega, by omega, fun h => absurd h (by omega)⟩
              refine ⟨m - 1, by omega, i + 1, ?_⟩
              (repeat' first | exact f1 | exact hBp | apply And.intro) <;> first | (simp only [Value.int.injEq, true_and]; omega) | omega | rfl | assumption | (simp; done) | (simp; omega)
    · simp (maxSteps := 1000000) (disch := omega) only [h0, h1, h7, h8, h9, S, S1, S2, S3, S4, S5, ST, eq_self, reduceIte, reduceCtorEq, Nat.reduceEqDiff, Nat.reduceAdd]
      refine hQ _ _ _ ?_
      simp (maxSteps := 1000000) (disch := omega) only [S, S1, S2, S3, S4, S5, ST, eq_self, reduceIte, reduceCtorEq, Nat.reduceEqDiff, Nat.reduceAdd]
      have : i = ps.length := by omega
      subst this
      simp [hu, hp]
theorem l2Good_c (n : Int) (v : Value) (ps : List (Int × Int)) (H : AH) (hr : RowP 81 H v ps) (hlen : ps.length ≤ 1099511627776) :
    ACalls Try.prog 66 [.agg (List.toArray [.int .i64 n, v])] H fun r H' => r = .bool (decide (Grd n ps)) ∧ H <+: H' := by
  refine in66 rfl ?_
  intro Q hQ
  simp (maxSteps := 1000000) (disch := omega) only [cd66, hr.boxG, S, S1, S2, S3, S4, S5, ST, eq_self, reduceIte, reduceCtorEq, Nat.reduceEqDiff, Nat.reduceAdd]
  generalize hA : H ++ [AObj.cells [.int .i64 n, v] 31 false] = A
  have pA : H <+: A := by rw [← hA]; exact List.prefix_append _ _
  have cA : A[H.length]? = some (.cells [.int .i64 n, v] 31 false) := by rw [← hA]; exact at_new ..
  have rA := hr.pre pA
  simp (maxSteps := 1000000) (disch := omega) only [cell_of cA, S, S1, S2, S3, S4, S5, ST, eq_self, reduceIte, reduceCtorEq, Nat.reduceEqDiff, Nat.reduceAdd]
  refine CallH.by (l1In_c _ _ _ A) ?_
  rintro _ _ ⟨rfl, rfl⟩
  simp (maxSteps := 1000000) (disch := omega) only [cell_of cA, S, S1, S2, S3, S4, S5, ST, eq_self, reduceIte, reduceCtorEq, Nat.reduceEqDiff, Nat.reduceAdd]
  refine brD.intro (fun e => ?_) (fun e => ?_) <;> simp (maxSteps := 1000000) (disch := omega) only [e, cell_of cA, S, S1, S2, S3, S4, S5, ST, eq_self, reduceIte, reduceCtorEq, Nat.reduceEqDiff, Nat.reduceAdd]
  · refine CallH.by (l2Pairs_c v n ps A rA hlen e) ?_
    rintro _ B ⟨rfl, pB⟩
    simp (maxSteps := 1000000) (disch := omega) only [e, S, S1, S2, S3, S4, S5, ST, eq_self, reduceIte, reduceCtorEq, Nat.reduceEqDiff, Nat.reduceAdd]
    refine hQ _ _ _ ?_
    simp (maxSteps := 1000000) (disch := omega) only [e, S, S1, S2, S3, S4, S5, ST, eq_self, reduceIte, reduceCtorEq, Nat.reduceEqDiff, Nat.reduceAdd]
    exact ⟨by simp [Grd, e], pA.trans pB⟩
  · refine hQ _ _ _ ?_
    simp (maxSteps := 1000000) (disch := omega) only [e, S, S1, S2, S3, S4, S5, ST, eq_self, reduceIte, reduceCtorEq, Nat.reduceEqDiff, Nat.reduceAdd]
    exact ⟨by simp [Grd, e], pA⟩
theorem IsGraph_c (n : Int) (v : Value) (ps : List (Int × Int)) (H : AH) (hr : RowP 81 H v ps) (hlen : ps.length ≤ 1099511627776) :
    ACalls Try.prog 71 [.agg (List.toArray [.int .i64 n, v])] H fun r H' => r = .bool (decide (Grd n ps)) ∧ H <+: H' := by
  refine in71 rfl ?_
  intro Q hQ
  simp (maxSteps := 1000000) (disch := omega) only [cd71, hr.boxG, S, S1, S2, S3, S4, S5, ST, eq_self, reduceIte, reduceCtorEq, Nat.reduceEqDiff, Nat.reduceAdd]
  generalize hA : H ++ [AObj.cells [.int .i64 n, v] 31 false] = A
  have pA : H <+: A := by rw [← hA]; exact List.prefix_append _ _
  have cA : A[H.length]? = some (.cells [.int .i64 n, v] 31 false) := by rw [← hA]; exact at_new ..
  have rA := hr.pre pA
  simp (maxSteps := 1000000) (disch := omega) only [cell_of cA, S, S1, S2, S3, S4, S5, ST, eq_self, reduceIte, reduceCtorEq, Nat.reduceEqDiff, Nat.reduceAdd]
  refine CallH.by (between_c _ _ _ A) ?_
  rintro _ _ ⟨rfl, rfl⟩
  simp (maxSteps := 1000000) (disch := omega) only [cell_of cA, S, S1, S2, S3, S4, S5, ST, eq_self, reduceIte, reduceCtorEq, Nat.reduceEqDiff, Nat.reduceAdd]
  refine brD.intro (fun e => ?_) (fun e => ?_) <;> simp (maxSteps := 1000000) (disch := omega) only [e, cell_of cA, S, S1, S2, S3, S4, S5, ST, eq_self, reduceIte, reduceCtorEq, Nat.reduceEqDiff, Nat.reduceAdd]
  · refine CallH.by (isPairs_c v n ps A rA hlen e) ?_
    rintro _ B ⟨rfl, pB⟩
    simp (maxSteps := 1000000) (disch := omega) only [e, S, S1, S2, S3, S4, S5, ST, eq_self, reduceIte, reduceCtorEq, Nat.reduceEqDiff, Nat.reduceAdd]
    refine hQ _ _ _ ?_
    simp (maxSteps := 1000000) (disch := omega) only [e, S, S1, S2, S3, S4, S5, ST, eq_self, reduceIte, reduceCtorEq, Nat.reduceEqDiff, Nat.reduceAdd]
    exact ⟨by simp [Grd, e], pA.trans pB⟩
  · refine hQ _ _ _ ?_
    simp (maxSteps := 1000000) (disch := omega) only [e, S, S1, S2, S3, S4, S5, ST, eq_self, reduceIte, reduceCtorEq, Nat.reduceEqDiff, Nat.reduceAdd]
    exact ⟨by simp [Grd, e], pA⟩
end Go.Proofs.Ytlfongfhbkefmaa.Ai
namespace Go.Proofs.Ytlfongfhbkefmaa.Ai
open Go
def ords257 : List (Nat × List (Nat × Bool)) := []
def cd257 : Cd := (.seq (.reg [⟨⟨some 3, Op.box 31 (Operand.tmp 0), none⟩, []⟩,
  ⟨⟨some 6, Op.assign (Operand.const (Value.bool false)), none⟩, []⟩]) (.seq (.seq (.reg [⟨⟨some 7, Op.assign (Operand.const (Value.int IntKind.i64 0)), none⟩, []⟩]) (.block 0 (.loop (.seq (.seq (.reg [⟨⟨some 9, Op.move (Operand.tmp 7), none⟩, []⟩,
  ⟨⟨some 10, Op.fieldAddr 31 (Operand.tmp 3) 1, none⟩, []⟩,
  ⟨⟨some 11, Op.load 22 (Operand.tmp 10), none⟩, []⟩,
  ⟨⟨some 12, Op.call { callee := (Callee.builtin Builtin.len), args := #[(Operand.tmp 11)], argTypes := #[22] }, none⟩, []⟩,
  ⟨⟨some 13, Op.binOp BinOp.lss 3 (Operand.tmp 9) (Operand.tmp 12) 3, none⟩, []⟩]) (.cond (Operand.tmp 13) .skip (.exit 0))) (.seq (.block 1 (.seq (.reg [⟨⟨some 16, Op.fieldAddr 31 (Operand.tmp 3) 1, none⟩, []⟩,
  ⟨⟨some 17, Op.load 22 (Operand.tmp 16), none⟩, []⟩,
  ⟨⟨some 18, Op.move (Operand.tmp 7), none⟩, []⟩,
  ⟨⟨some 19, Op.indexAddr 22 (Operand.tmp 17) (Operand.tmp 18), none⟩, []⟩,
  ⟨⟨some 20, Op.load 81 (Operand.tmp 19), none⟩, []⟩,
  ⟨⟨some 8, Op.alloc 81, none⟩, []⟩,
  ⟨⟨none, Op.store 81 (Operand.tmp 8) (Operand.tmp 20), none⟩, []⟩]) (.seq (.reg [⟨⟨some 21, Op.indexAddr 81 (Operand.tmp 8) (Operand.const (Value.int IntKind.i64 0)), none⟩, []⟩,
  ⟨⟨some 22, Op.load 3 (Operand.tmp 21), none⟩, []⟩,
  ⟨⟨some 23, Op.move (Operand.tmp 1), none⟩, []⟩,
  ⟨⟨some 24, Op.binOp BinOp.eql 3 (Operand.tmp 22) (Operand.tmp 23) 3, none⟩, []⟩,
  ⟨⟨some 25, Op.move (Operand.tmp 24), none⟩, []⟩,
  ⟨⟨some 26, Op.indexAddr 81 (Operand.tmp 8) (Operand.const (Value.int IntKind.i64 1)), some (25, true)⟩, []⟩,
  ⟨⟨some 27, Op.load 3 (Operand.tmp 26), some (25, true)⟩, []⟩,
  ⟨⟨some 28, Op.move (Operand.tmp 2), some (25, true)⟩, []⟩,
  ⟨⟨some 29, Op.binOp BinOp.eql 3 (Operand.tmp 27) (Operand.tmp 28) 3, some (25, true)⟩, []⟩,
  ⟨⟨some 30, Op.pick (Operand.tmp 25) (Operand.tmp 29) (Operand.const (Value.bool false)), none⟩, []⟩,
  ⟨⟨some 31, Op.move (Operand.tmp 30), none⟩, []⟩,
  ⟨⟨some 32, Op.indexAddr 81 (Operand.tmp 8) (Operand.const (Value.int IntKind.i64 0)), some (31, false)⟩, []⟩,
  ⟨⟨some 33, Op.load 3 (Operand.tmp 32), some (31, false)⟩, []⟩,
  ⟨⟨some 34, Op.move (Operand.tmp 2), some (31, false)⟩, []⟩,
  ⟨⟨some 35, Op.binOp BinOp.eql 3 (Operand.tmp 33) (Operand.tmp 34) 3, some (31, false)⟩, []⟩,
  ⟨⟨some 36, Op.move (Operand.tmp 35), some (31, false)⟩, []⟩,
  ⟨⟨some 37, Op.indexAddr 81 (Operand.tmp 8) (Operand.const (Value.int IntKind.i64 1)), some (36, true)⟩, []⟩,
  ⟨⟨some 38, Op.load 3 (Operand.tmp 37), some (36, true)⟩, []⟩,
  ⟨⟨some 39, Op.move (Operand.tmp 1), some (36, true)⟩, []⟩,
  ⟨⟨some 40, Op.binOp BinOp.eql 3 (Operand.tmp 38) (Operand.tmp 39) 3, some (36, true)⟩, []⟩,
  ⟨⟨some 41, Op.pick (Operand.tmp 36) (Operand.tmp 40) (Operand.const (Value.bool false)), some (31, false)⟩, []⟩,
  ⟨⟨some 42, Op.pick (Operand.tmp 31) (Operand.const (Value.bool true)) (Operand.tmp 41), none⟩, []⟩]) (.cond (Operand.tmp 42) (.seq (.reg [⟨⟨some 6, Op.assign (Operand.const (Value.bool true)), none⟩, []⟩]) .ret) .skip)))) (.reg [⟨⟨some 14, Op.move (Operand.tmp 7), none⟩, []⟩,
  ⟨⟨some 15, Op.binOp BinOp.add 3 (Operand.tmp 14) (Operand.const (Value.int IntKind.i64 1)) 3, none⟩, []⟩,
  ⟨⟨some 7, Op.assign (Operand.tmp 15), none⟩, []⟩])))))) (.seq (.reg [⟨⟨some 6, Op.assign (Operand.const (Value.bool false)), none⟩, []⟩]) .ret)))
theorem sl257 : slim Try.f257.ntmps ords257 (Try.f257.body.getD .skip) = some cd257 := by kernel_rfl
theorem in257 {args : List Value} {H : AH} {R : Value → AH → Prop} (hl : args.length = 3) (h : ∀ (Q : Exit → Sl → AH → Prop), (∀ e s H, endA Try.prog [ResultVar.tmp 6] R e s H → Q e s H) → wpC Try.prog cd257 Q (enterA args) H) : ACalls Try.prog 257 args H R :=
  ACalls.intro (by kernel_rfl) Try.func257 rfl (by kernel_rfl) sl257 hl (of_decide_eq_true (by kernel_rfl)) (by kernel_rfl) h
end Go.Proofs.Ytlfongfhbkefmaa.Ai
namespace Go.Proofs.Ytlfongfhbkefmaa.Ai
open Go Go.RowKit
set_option linter.unusedVariables false
set_option linter.unusedSimpArgs false
def hitB (a b : Int) (e : Int × Int) : Bool := decide (e.1 = a ∧ e.2 = b ∨ e.1 = b ∧ e.2 = a)
/-- are two nodes neighbors -/
def nearB (es : List (Int × Int)) (a b : Int) : Bool := es.any (hitB a b)
theorem any_step {α : Type} (p : α → Bool) (xs : List α) (d : α) (i : Nat) (hi : i < xs.length) : (xs.drop i).any p = (p (xs.getD i d) || (xs.drop (i + 1)).any p) := by
  have : xs.getD i d = xs[i] := by simp [hi]
  rw [List.drop_eq_getElem_cons hi, List.any_cons, this]
theorem nearB_comm (es : List (Int × Int)) (a b : Int) : nearB es a b = nearB es b a := by
  have : hitB a b = hitB b a := by
    funext e
    unfold hitB
    rw [decide_eq_decide]
    exact ⟨fun h => h.elim .inr .inl, fun h => h.elim .inr .inl⟩
  unfold nearB
  rw [this]
theorem nearB_iff (es : List (Int × Int)) (a b : Int) : nearB es a b = true ↔ ((a, b) ∈ es ∨ (b, a) ∈ es) := by
  unfold nearB hitB
  rw [List.any_eq_true]
  constructor
  · rintro ⟨⟨x, y⟩, hm, h⟩
    rcases of_decide_eq_true h with h | h
    · obtain ⟨h1, h2⟩ := h
      simp only at h1 h2
      subst h1; subst h2; exact .inl hm
    · obtain ⟨h1, h2⟩ := h
      simp only at h1 h2
      subst h1; subst h2; exact .inr hm
  · rintro (h | h)
    · exact ⟨_, h, by simp⟩
    · exact ⟨_, h, by simp⟩
theorem grd_mem {n : Int} {es : List (Int × Int)} (hg : Grd n es) {e : Int × Int} (he : e ∈ es) : 0 ≤ e.1 ∧ e.1 < e.2 ∧ e.2 < n := by
  obtain ⟨i, hi, rfl⟩ := List.mem_iff_getElem.1 he
  obtain ⟨h1, h2, h3, _⟩ := hg.2 i hi
  have : es.getD i (0, 0) = es[i] := by simp [hi]
  rw [this] at h1 h2 h3
  exact ⟨h1, h2, h3⟩
theorem near_rng {n : Int} {es : List (Int × Int)} (hg : Grd n es) {a b : Int} (h : nearB es a b = true) : (0 ≤ a ∧ a < n) ∧ (0 ≤ b ∧ b < n) ∧ a ≠ b := by
  rcases (nearB_iff es a b).1 h with h | h <;> have := grd_mem hg h <;> simp only at this <;> omega
/-- the neighbors of a node below k -/
def nbsU (es : List (Int × Int)) (x : Int) : Nat → List Int
  | 0 => []
  | k + 1 => nbsU es x k ++ if nearB es x k = true then [(k : Int)] else []
theorem nbsU_len (es : List (Int × Int)) (x : Int) (k : Nat) : (nbsU es x k).length ≤ k := by
  induction k with
  | zero => simp [nbsU]
  | succ k ih => simp only [nbsU, List.length_append]; split <;> simp <;> omega
theorem nbsU_mem (es : List (Int × Int)) (x : Int) (k : Nat) (y : Int) : y ∈ nbsU es x k ↔ (0 ≤ y ∧ y < k) ∧ nearB es x y = true := by
  induction k with
  | zero => simp [nbsU]; intro h1 h2; omega
  | succ k ih =>
    simp only [nbsU, List.mem_append, ih]
    constructor
    · rintro (⟨h1, h2⟩ | h)
      · exact ⟨by omega, h2⟩
      · split at h
        · rename_i hn
          simp only [List.mem_cons, List.not_mem_nil, or_false] at h
          subst h; exact ⟨by omega, hn⟩
        · simp at h
    · rintro ⟨h1, h2⟩
      by_cases h : y < k
      · exact .inl ⟨by omega, h2⟩
      · obtain rfl : y = k := by omega
        right; rw [if_pos h2]; simp
set_option maxRecDepth 20000 in
set_option maxHeartbeats 1000000 in
theorem l2Near_c (n : Int) (v : Value) (es : List (Int × Int)) (a b : Int) (H : AH) (hr : RowP 81 H v es) (hlen : es.length ≤ 1099511627776) :
    ACalls Try.prog 257 [.agg (List.toArray [.int .i64 n, v]), .int .i64 a, .int .i64 b] H fun r H' => r = .bool (nearB es a b) ∧ H <+: H' := by
  refine in257 rfl ?_
  intro Q hQ
  simp (maxSteps := 1000000) (disch := omega) only [cd257, hr.boxG, S, S1, S2, S3, S4, S5, ST, eq_self, reduceIte, reduceCtorEq, Nat.reduceEqDiff, Nat.reduceAdd]
  generalize hA : H ++ [AObj.cells [.int .i64 n, v] 31 false] = A
  have pA : H <+: A := by rw [← hA]; exact List.prefix_append _ _
  have cA : A[H.length]? = some (.cells [.int .i64 n, v] 31 false) := by rw [← hA]; exact at_new ..
  have rA := hr.pre pA
  try simp (maxSteps := 1000000) (disch := omega) only [S, S1, S2, S3, S4, S5, ST, eq_self, reduceIte, reduceCtorEq, Nat.reduceEqDiff, Nat.reduceAdd]
  refine LoopH.by (fun m s H' => ∃ i, m + i = es.length ∧ s 1 = .int .i64 a ∧ s 2 = .int .i64 b ∧ s 3 = .pointer (some ⟨H.length, 0, none⟩) ∧ s 7 = .int .i64 ((i : Nat) : Int) ∧ nearB es a b = (es.drop i).any (hitB a b) ∧ A <+: H') es.length ?_ ?_
  · exact ⟨0, by simp, rfl, rfl, rfl, rfl, by rw [List.drop_zero]; rfl, List.prefix_refl _⟩
  · rintro m s H' ⟨i, hm, h1, h2, h3, h7, hn, hp⟩
    have hr' := rA.pre hp
    have cH := pre_at hp cA
    have hpp := pA.trans hp
    simp (maxSteps := 1000000) (disch := omega) only [h1, h2, h3, h7, cell_of cH, hr'.len Try.underlying22, S, S1, S2, S3, S4, S5, ST, eq_self, reduceIte, reduceCtorEq, Nat.reduceEqDiff, Nat.reduceAdd]
    refine brD.intro (fun g => ?_) (fun g => ?_)
    · have hi : i < es.length := by omega
      have hst0 := store_a2 H' [.int .i64 0, .int .i64 0] rfl
      rw [any_step _ es (0, 0) i hi] at hn
      simp (maxSteps := 1000000) (disch := omega) only [h1, h2, h3, h7, cell_of cH, hr'.ix Try.underlying22 cs81, Int.toNat_natCast, hr'.ld ag81 cs81 hi, alloc_a2, hst0, cell_new, wrap64, S, S1, S2, S3, S4, S5, ST, eq_self, reduceIte, reduceCtorEq, Nat.reduceEqDiff, Nat.reduceAdd]
      generalize hx : es.getD i (0, 0) = x at *
      have pB : A <+: H' ++ [AObj.cells [.int .i64 x.1, .int .i64 x.2] 81 false] := pre_app hp _
      have yes : hitB a b x = true → nearB es a b = true := fun h => by rw [hn, h]; rfl
      have no : hitB a b x = false → nearB es a b = (es.drop (i + 1)).any (hitB a b) := fun h => by rw [hn, h]; rfl
      unfold hitB at yes no
      rw [decide_eq_true_iff] at yes
      rw [decide_eq_false_iff_not] at no
      have second : ¬ (x.1 = a ∧ x.2 = b) → True := fun _ => trivial
      refine brD.intro (fun e1 => ?_) (fun e1 => ?_) <;> (first | have de1 := decide_eq_false e1 | have de1 := decide_eq_true e1) <;> simp (maxSteps := 1000000) (disch := omega) only [de1, h1, h2, h3, h7, cell_new, wrap64, S, S1, S2, S3, S4, S5, ST, eq_self, reduceIte, reduceCtorEq, Nat.reduceEqDiff, Nat.reduceAdd]
      · refine brD.intro (fun e2 => ?_) (fun e2 => ?_) <;> (first | have de2 := decide_eq_false e2 | have de2 := decide_eq_true e2) <;> simp (maxSteps := 1000000) (disch := omega) only [de1, de2, h1, h2, h3, h7, cell_new, wrap64, S, S1, S2, S3, S4, S5, ST, eq_self, reduceIte, reduceCtorEq, Nat.reduceEqDiff, Nat.reduceAdd]
        · refine hQ _ _ _ ?_
          simp (maxSteps := 1000000) (disch := omega) only [S, S1, S2, S3, S4, S5, ST, eq_self, reduceIte, reduceCtorEq, Nat.reduceEqDiff, Nat.reduceAdd]
          exact ⟨by rw [yes (by omega)], pA.trans pB⟩
        · refine brD.intro (fun e3 => ?_) (fun e3 => ?_) <;> (first | have de3 := decide_eq_false e3 | have de3 := decide_eq_true e3) <;> simp (maxSteps := 1000000) (disch := omega) only [de1, de2, de3, h1, h2, h3, h7, cell_new, wrap64, S, S1, S2, S3, S4, S5, ST, eq_self, reduceIte, reduceCtorEq, Nat.reduceEqDiff, Nat.reduceAdd]
          · refine brD.intro (fun e4 => ?_) (fun e4 => ?_) <;> (first | have de4 := decide_eq_false e4 | have de4 := decide_eq_true e4) <;> simp (maxSteps := 1000000) (disch := omega) only [de1, de2, de3, de4, h1, h2, h3, h7, cell_new, wrap64, S, S1, S2, S3, S4, S5, ST, eq_self, reduceIte, reduceCtorEq, Nat.reduceEqDiff, Nat.reduceAdd]
            · refine hQ _ _ _ ?_
              simp (maxSteps := 1000000) (disch := omega) only [S, S1, S2, S3, S4, S5, ST, eq_self, reduceIte, reduceCtorEq, Nat.reduceEqDiff, Nat.reduceAdd]
              exact ⟨by rw [yes (by omega)], pA.trans pB⟩
            · have f1 := no (by omega)
              refine ⟨m - 1, by omega, i + 1, ?_⟩
              (repeat' first | exact f1 | exact pB | apply And.intro) <;> first | (simp only [Value.int.injEq, true_and]; omega) | omega | rfl | assumption | (simp; done) | (simp; omega)
          · have f1 := no (by omega)
            refine ⟨m - 1, by omega, i + 1, ?_⟩
            (repeat' first | exact f1 | exact pB | apply And.intro) <;> first | (simp only [Value.int.injEq, true_and]; omega) | omega | rfl | assumption | (simp; done) | (simp; omega)
      · refine brD.intro (fun e3 => ?_) (fun e3 => ?_) <;> (first | have de3 := decide_eq_false e3 | have de3 := decide_eq_true e3) <;> simp (maxSteps := 1000000) (disch := omega) only [de1, de3, h1, h2, h3, h7, cell_new, wrap64, S, S1, S2, S3, S4, S5, ST, eq_self, reduceIte, reduceCtorEq, Nat.reduceEqDiff, Nat.reduceAdd]
        · refine brD.intro (fun e4 => ?_) (fun e4 => ?_) <;> (first | have de4 := decide_eq_false e4 | have de4 := decide_eq_true e4) <;> simp (maxSteps := 1000000) (disch := omega) only [de1, de3, de4, h1, h2, h3, h7, cell_new, wrap64, S, S1, S2, S3, S4, S5, ST, eq_self, reduceIte, reduceCtorEq, Nat.reduceEqDiff, Nat.reduceAdd]
          · refine hQ _ _ _ ?_
            simp (maxSteps := 1000000) (disch := omega) only [S, S1, S2, S3, S4, S5, ST, eq_self, reduceIte, reduceCtorEq, Nat.reduceEqDiff, Nat.reduceAdd]
            exact ⟨by rw [yes (by omega)], pA.trans pB⟩
          · have f1 := no (by omega)
            refine ⟨m - 1, by omega, i + 1, ?_⟩
            (repeat' first | exact f1 | exact pB | apply And.intro) <;> first | (simp only [Value.int.injEq, true_and]; omega) | omega | rfl | assumption | (simp; done) | (simp; omega)
        · have f1 := no (by omega)
          refine ⟨m - 1, by omega, i + 1, ?_⟩
          (repeat' first | exact f1 | exact pB | apply And.intro) <;> first | (simp only [Value.int.injEq, true_and]; omega) | omega | rfl | assumption | (simp; done) | (simp; omega)
    · simp (maxSteps := 1000000) (disch := omega) only [h1, h2, h3, h7, S, S1, S2, S3, S4, S5, ST, eq_self, reduceIte, reduceCtorEq, Nat.reduceEqDiff, Nat.reduceAdd]
      refine hQ _ _ _ ?_
      simp (maxSteps := 1000000) (disch := omega) only [S, S1, S2, S3, S4, S5, ST, eq_self, reduceIte, reduceCtorEq, Nat.reduceEqDiff, Nat.reduceAdd]
      rw [hn, List.drop_of_length_le (by omega)]
      exact ⟨rfl, hpp⟩
end Go.Proofs.Ytlfongfhbkefmaa.Ai
namespace Go.Proofs.Ytlfongfhbkefmaa.Ai
open Go Go.RowKit
set_option linter.unusedVariables false
set_option linter.unusedSimpArgs false
theorem own_base {e : TypeId} {H0 H1 H : AH} {v : Value} {xs : List Int} (h : Own e H0 H v xs) (hl : H1.length ≤ H0.length) : Own e H1 H v xs := by
  rcases h with h | ⟨o, h1, h2, h3⟩
  · exact .inl h
  · exact .inr ⟨o, h1, by omega, h3⟩
theorem own_keep {e : TypeId} {H0 H H' : AH} {v : Value} {xs : List Int} (h : Own e H0 H v xs) (hh : ∀ y, v ≠ .slice none 0 0 → H[rowO v]? = some y → H'[rowO v]? = some y) : Own e H0 H' v xs := by
  rcases h with h | ⟨o, h1, h2, h3⟩
  · exact .inl h
  · exact .inr ⟨o, h1, h2, by subst h1; exact hh _ (by intro e; cases e) h3⟩
theorem own_nil {e : TypeId} {H0 H : AH} {v : Value} {xs : List Int} (h : Own e H0 H v xs) : v = .slice none 0 0 ∨ (H0.length ≤ rowO v ∧ rowO v < H.length) := by
  rcases h with h | ⟨o, h1, h2, h3⟩
  · exact .inl h.1
  · subst h1; exact .inr ⟨h2, at_lt h3⟩
/-- lists of neighbours that grow -/
structure Adj (C G : AH) (o : Nat) (us : List Value) (L : List (List Int)) : Prop where
  at_ : G[o]? = some (.cells us 38 false)
  olt : o < C.length
  len : us.length = L.length
  el : ∀ i, i < L.length → Own 3 C G (us.getD i undef) (L.getD i [])
  ap : ∀ i j, i ≠ j → i < L.length → j < L.length → Apart (us.getD i undef) (us.getD j undef)
  keep : ∀ (j : Nat) (y : AObj), j ≠ o → C[j]? = some y → G[j]? = some y
  le : C.length ≤ G.length
theorem Adj.ne {C G : AH} {o : Nat} {us : List Value} {L : List (List Int)} (h : Adj C G o us L) {i : Nat} (hi : i < L.length) : us.getD i undef = .slice none 0 0 ∨ rowO (us.getD i undef) ≠ o := by
  rcases own_nil (h.el i hi) with g | g
  · exact .inl g
  · right; have := h.olt; omega
theorem Adj.pre {C G G' : AH} {o : Nat} {us : List Value} {L : List (List Int)} (h : Adj C G o us L) (hp : G <+: G') : Adj C G' o us L :=
  ⟨pre_at hp h.at_, h.olt, h.len, fun i hi => own_keep (h.el i hi) fun y _ hy => pre_at hp hy, h.ap, fun j y hj hy => pre_at hp (h.keep j y hj hy), Nat.le_trans h.le hp.length_le⟩
/-- one more, at one place -/
theorem Adj.upd1 {C G K : AH} {o x : Nat} {us : List Value} {L : List (List Int)} (h : Adj C G o us L) (hx : x < L.length) {v1 : Value} {l1 : List Int}
    (h1 : Own 3 C K v1 l1) (g1 : G.length ≤ rowO v1) (hl : G.length ≤ K.length)
    (hk : ∀ (j : Nat) (z : AObj), (us.getD x undef = .slice none 0 0 ∨ j ≠ rowO (us.getD x undef)) → G[j]? = some z → K[j]? = some z) :
    Adj C (K.set o (.cells (us.set x v1) 38 false)) o (us.set x v1) (L.set x l1) := by
  have hol := h.olt
  have hle := h.le
  have hul := h.len
  have ax : us.getD x undef = .slice none 0 0 ∨ o ≠ rowO (us.getD x undef) := (h.ne hx).imp id fun e => fun q => e q.symm
  have ko := hk o _ ax h.at_
  have gu : ∀ i, (us.set x v1).getD i undef = if x = i then (if x < us.length then v1 else undef) else us.getD i undef := by
    intro i
    rw [List.getD_eq_getElem?_getD, List.getElem?_set]
    by_cases e1 : x = i
    · rw [if_pos e1, if_pos e1, if_pos (by omega), if_pos (by omega)]; rfl
    · rw [if_neg e1, if_neg e1, List.getD_eq_getElem?_getD]
  have gl : ∀ i, (L.set x l1).getD i [] = if x = i then (if x < L.length then l1 else []) else L.getD i [] := by
    intro i
    rw [List.getD_eq_getElem?_getD, List.getElem?_set]
    by_cases e1 : x = i
    · rw [if_pos e1, if_pos e1, if_pos (by omega), if_pos (by omega)]; rfl
    · rw [if_neg e1, if_neg e1, List.getD_eq_getElem?_getD]
  have setk : ∀ {j : Nat} {z : AObj}, j ≠ o → K[j]? = some z → (K.set o (.cells (us.set x v1) 38 false))[j]? = some z := fun hj hz => by
    rw [List.getElem?_set_ne (fun e => hj e.symm)]; exact hz
  have old : ∀ i, i < L.length → i ≠ x → us.getD i undef ≠ .slice none 0 0 → rowO (us.getD i undef) < G.length ∧ ∀ z, G[rowO (us.getD i undef)]? = some z → K[rowO (us.getD i undef)]? = some z := by
    intro i hi ix hn
    rcases own_nil (h.el i hi) with q | q
    · exact absurd q hn
    refine ⟨q.2, fun z hz => hk _ _ ?_ hz⟩
    rcases h.ap i x ix hi hx with q1 | q1 | q1
    · exact .inl q1
    · exact absurd q1 hn
    · exact .inr q1
  refine ⟨at_set ko, hol, by simp [hul], fun i hi => ?_, fun i j hij hi hj => ?_, fun j z hj hz => ?_, by simp; omega⟩
  · rw [List.length_set] at hi
    rw [gu, gl]
    by_cases e1 : x = i
    · rw [if_pos e1, if_pos e1, if_pos (by omega), if_pos (by omega)]
      exact own_keep h1 fun z _ hz => setk (by omega) hz
    · rw [if_neg e1, if_neg e1]
      refine own_keep (h.el i hi) fun z hn hz => ?_
      have hq := old i hi (fun e => e1 e.symm) hn
      refine setk ?_ (hq.2 z hz)
      rcases h.ne hi with q | q
      · exact absurd q hn
      · exact q
  · rw [List.length_set] at hi hj
    have far : ∀ (q : Nat) (v : Value), q < L.length → q ≠ x → G.length ≤ rowO v → us.getD q undef = .slice none 0 0 ∨ rowO (us.getD q undef) ≠ rowO v := by
      intro q v hq qx hv
      by_cases hn : us.getD q undef = .slice none 0 0
      · exact .inl hn
      · right; have := (old q hq qx hn).1; omega
    rw [gu, gu]
    by_cases e1 : x = i
    · rw [if_pos e1, if_pos (by omega), if_neg (show ¬ x = j by omega)]
      rcases far j v1 hj (by omega) g1 with q | q
      · exact .inl q
      · exact .inr (.inr fun e => q e.symm)
    · rw [if_neg e1]
      by_cases e4 : x = j
      · rw [if_pos e4, if_pos (by omega)]
        rcases far i v1 hi (fun e => e1 e.symm) g1 with q | q
        · exact .inr (.inl q)
        · exact .inr (.inr q)
      · rw [if_neg e4]; exact h.ap i j hij hi hj
  · refine setk hj ?_
    have hC : us.getD x undef = .slice none 0 0 ∨ j ≠ rowO (us.getD x undef) := by
      have hjl := at_lt hz
      rcases own_nil (h.el x hx) with g | g
      · exact .inl g
      · right; omega
    exact hk j z hC (h.keep j z hj hz)
/-- one of the lists is touched, and is as before -/
theorem Adj.same {C G K : AH} {o x : Nat} {us : List Value} {L : List (List Int)} (h : Adj C G o us L) (hx : x < L.length) (h1 : Own 3 C K (us.getD x undef) (L.getD x [])) (he : Else (us.getD x undef) G K) : Adj C K o us L := by
  have ax : us.getD x undef = .slice none 0 0 ∨ o ≠ rowO (us.getD x undef) := (h.ne hx).imp id fun e => fun q => e q.symm
  refine ⟨he.2 _ _ ax h.at_, h.olt, h.len, fun i hi => ?_, h.ap, fun j z hj hz => he.2 _ _ ?_ (h.keep j z hj hz), by rw [he.1]; exact h.le⟩
  · by_cases e : i = x
    · subst e; exact h1
    · refine own_keep (h.el i hi) fun z hn hz => he.2 _ _ ?_ hz
      rcases h.ap i x e hi hx with q | q | q
      · exact .inl q
      · exact absurd q hn
      · exact .inr q
  · have hjl := at_lt hz
    rcases own_nil (h.el x hx) with g | g
    · exact .inl g
    · right; omega
/-- appending a number to one of the lists -/
theorem Adj.app1 {C G : AH} {o x : Nat} {us : List Value} {L : List (List Int)} (h : Adj C G o us L) (hx : x < L.length) (hb : (L.getD x []).length ≤ 1000000) (y : Int) :
    ∃ v K, appendA Try.prog 38 38 (us.getD x undef) (.slice (some ⟨G.length, 0, none⟩) 1 1) (G ++ [.cells [.int .i64 y] 3 false]) = some (v, K) ∧
      (∀ (j : Nat) (z : AObj), (us.getD x undef = .slice none 0 0 ∨ j ≠ rowO (us.getD x undef)) → G[j]? = some z → K[j]? = some z) ∧ K[o]? = some (.cells us 38 false) ∧ isTup v = false ∧ v.cells.toList = [v] ∧
      Adj C (K.set o (.cells (us.set x v) 38 false)) o (us.set x v) (L.set x (L.getD x [] ++ [y])) := by
  have hox := h.el x hx
  have hle := h.le
  have hlC : (G.take C.length).length = C.length := by simp; omega
  have ox2 : Own 3 (G.take C.length) G (us.getD x undef) (L.getD x []) := own_base hox (by omega)
  obtain ⟨v, K, j1, j2, j3, j4, j5, j6⟩ := own1_38 ox2 (List.take_prefix _ _) (by omega) y
  have hjC : Own 3 C K v (L.getD x [] ++ [y]) := own_base j2 (by omega)
  have ax : us.getD x undef = .slice none 0 0 ∨ o ≠ rowO (us.getD x undef) := (h.ne hx).imp id fun e => fun q => e q.symm
  have hlK : G.length ≤ K.length := by
    rcases own_nil hjC with q | q
    · have h1 : (L.getD x [] ++ [y]).length = 0 := by
        rcases hjC with ⟨_, q1⟩ | ⟨o', q1, _⟩
        · rw [q1]; rfl
        · rw [q1] at q; cases q
      simp at h1
    · omega
  obtain ⟨p, hp⟩ := j2.row.shape
  exact ⟨v, K, j1, fun j z hj hz => j4 j z hj hz, j4 o _ ax h.at_, j6, by rw [hp]; rfl, h.upd1 hx hjC j5 hlK fun j z hj hz => j4 j z hj hz⟩
end Go.Proofs.Ytlfongfhbkefmaa.Ai
namespace Go.Proofs.Ytlfongfhbkefmaa.Ai
open Go
set_option linter.unusedVariables false
/-- the places that only one of two has -/
def dix (a b : List Int) : Nat → List Int
  | 0 => []
  | k + 1 => dix a b k ++ (if (decide ((k : Int) ∈ a) != decide ((k : Int) ∈ b)) = true then [(k : Int)] else [])
theorem dix_mem (a b : List Int) (x : Int) : ∀ k, x ∈ dix a b k ↔ (0 ≤ x ∧ x < k) ∧ (decide (x ∈ a) != decide (x ∈ b)) = true
  | 0 => by simp [dix]; omega
  | k + 1 => by
    simp only [dix, List.mem_append, dix_mem a b x k]
    constructor
    · rintro (⟨h1, h2⟩ | h)
      · exact ⟨by omega, h2⟩
      · split at h
        · rename_i hk
          simp only [List.mem_singleton] at h
          subst h
          exact ⟨by omega, hk⟩
        · simp at h
    · rintro ⟨h1, h2⟩
      by_cases e : x = k
      · right
        subst e
        rw [if_pos h2]; simp
      · exact .inl ⟨by omega, h2⟩
theorem dix_len (a b : List Int) : ∀ k, (dix a b k).length ≤ k
  | 0 => Nat.le_refl _
  | k + 1 => by
    have := dix_len a b k
    simp only [dix, List.length_append]
    split <;> simp <;> omega
theorem dix_more (a b : List Int) {N : Nat} (ha : ∀ x ∈ a, x < N) (hb : ∀ x ∈ b, x < N) : ∀ k, N ≤ k → dix a b k = dix a b N := by
  intro k hk
  induction k with
  | zero =>
    have : N = 0 := by omega
    rw [this]
  | succ k ih =>
    by_cases e : N = k + 1
    · rw [e]
    · simp only [dix]
      rw [ih (by omega)]
      have h1 : (k : Int) ∉ a := fun h => by have := ha _ h; omega
      have h2 : (k : Int) ∉ b := fun h => by have := hb _ h; omega
      rw [decide_eq_false h1, decide_eq_false h2]
      simp
def dED (es : List (Int × Int)) (ds : List Int) : List (Int × Int) := ds.map fun i => es.getD i.toNat (0, 0)
/-- the edges that only one of two has -/
def dE (es : List (Int × Int)) (a b : List Int) : List (Int × Int) := dED es (dix a b es.length)
theorem dE_mem {es : List (Int × Int)} {a b : List Int} {e : Int × Int} (h : e ∈ dE es a b) : e ∈ es := by
  unfold dE dED at h
  rw [List.mem_map] at h
  obtain ⟨i, hi, rfl⟩ := h
  have := ((dix_mem a b i es.length).1 hi).1
  have hlt : i.toNat < es.length := by omega
  simp [hlt]
theorem dE_near {es : List (Int × Int)} {a b : List Int} {x y : Int} (h : nearB (dE es a b) x y = true) : nearB es x y = true := by
  rw [nearB_iff] at h ⊢
  exact h.imp dE_mem dE_mem
theorem dE_rng {n : Int} {es : List (Int × Int)} (hg : Grd n es) {a b : List Int} {x y : Int} (h : nearB (dE es a b) x y = true) : (0 ≤ x ∧ x < n) ∧ (0 ≤ y ∧ y < n) ∧ x ≠ y := near_rng hg (dE_near h)
/-- the numbers in a bag are those below 64 in a list -/
def BagI (b : Nat) (s : List Int) : Prop := b < 2 ^ 32 ∧ ∀ z : Nat, z < 64 → b.testBit z = decide ((z : Int) ∈ s)
theorem BagI.zero : BagI 0 [] := ⟨by decide, fun z _ => by simp⟩
theorem BagI.or {b y : Nat} {s : List Int} (h : BagI b s) (hy : y < 32) : BagI (b ||| 2 ^ y) (s ++ [(y : Int)]) := by
  refine ⟨Nat.or_lt_two_pow h.1 (Nat.pow_lt_pow_right (by decide) hy), fun z hz => ?_⟩
  rw [Nat.testBit_or, h.2 z hz, Nat.testBit_two_pow]
  by_cases e : y = z
  · subst e; simp
  · have e2 : ¬ ((z : Int) = y) := by omega
    simp [e, e2]
theorem BagI.congr {b : Nat} {s t : List Int} (h : BagI b s) (he : ∀ z : Nat, z < 64 → ((z : Int) ∈ s ↔ (z : Int) ∈ t)) : BagI b t :=
  ⟨h.1, fun z hz => by rw [h.2 z hz]; exact decide_eq_decide.2 (he z hz)⟩
end Go.Proofs.Ytlfongfhbkefmaa.Ai
namespace Go.Proofs.Ytlfongfhbkefmaa.Ai
open Go
set_option linter.unusedVariables false
/-- the places of one list, met from a place at the distance d - 1 -/
def bfsIn (d : Int) : List Int → List Int × List Int → List Int × List Int
  | [], st => st
  | j :: r, st => if st.1.getD j.toNat 0 < 0 then bfsIn d r (st.1.set j.toNat d, st.2 ++ [j]) else bfsIn d r st
/-- from the k-th place of the queue on -/
def bfsF (L : List (List Int)) : Nat → List Int × List Int → Nat → List Int
  | 0, st, _ => st.1
  | f + 1, st, k => if k < st.2.length then bfsF L f (bfsIn (st.1.getD (st.2.getD k 0).toNat 0 + 1) (L.getD (st.2.getD k 0).toNat []) st) (k + 1) else st.1
def bfs0 (N i : Nat) : List Int := (List.replicate N (-1)).set i 0
/-- lists of places -/
def LOk (N : Nat) (L : List (List Int)) : Prop := ∀ i, ∀ y ∈ L.getD i [], 0 ≤ y ∧ y < N
/-- what holds all along -/
structure BI (N : Nat) (st : List Int × List Int) : Prop where
  len : st.1.length = N
  q : ∀ x ∈ st.2, (0 ≤ x ∧ x < N) ∧ 0 ≤ st.1.getD x.toNat 0
  lo : ∀ v, v < N → -1 ≤ st.1.getD v 0 ∧ st.1.getD v 0 < st.2.length
  cnt : st.2.length + st.1.countP (· < 0) = N
theorem countP_set_neg (xs : List Int) (j : Nat) (d : Int) (hj : j < xs.length) (h : xs.getD j 0 < 0) (hd : 0 ≤ d) : (xs.set j d).countP (· < 0) + 1 = xs.countP (· < 0) := by
  induction xs generalizing j with
  | nil => simp at hj
  | cons x xs ih =>
    cases j with
    | zero =>
      have hx : x < 0 := by simpa using h
      simp only [List.set_cons_zero, List.countP_cons]
      simp only [decide_eq_true_eq]
      rw [if_neg (by omega), if_pos hx]
    | succ j =>
      have := ih j (by simpa using hj) (by simpa using h)
      simp only [List.set_cons_succ, List.countP_cons]
      omega
theorem BI.len_le {N : Nat} {st : List Int × List Int} (h : BI N st) : st.2.length ≤ N := by have := h.cnt; omega
theorem getD_setB (xs : List Int) (j v : Nat) (d : Int) (hv : v < xs.length) : (xs.set j d).getD v 0 = if j = v then d else xs.getD v 0 := by
  rw [List.getD_eq_getElem?_getD, List.getD_eq_getElem?_getD, List.getElem?_set]
  by_cases h : j = v
  · subst h; rw [if_pos rfl, if_pos rfl, if_pos hv]; rfl
  · rw [if_neg h, if_neg h]
theorem BI.put {N : Nat} {st : List Int × List Int} (h : BI N st) {j d : Int} (hj : 0 ≤ j ∧ j < N) (hn : st.1.getD j.toNat 0 < 0) (hd : 0 ≤ d ∧ d ≤ st.2.length) : BI N (st.1.set j.toNat d, st.2 ++ [j]) := by
  have hl := h.len
  refine ⟨by simp [hl], ?_, ?_, ?_⟩
  · intro x hx
    simp only [List.mem_append, List.mem_cons, List.not_mem_nil, or_false] at hx
    rcases hx with hx | rfl
    · obtain ⟨h1, h2⟩ := h.q x hx
      refine ⟨h1, ?_⟩
      show 0 ≤ (st.1.set j.toNat d).getD x.toNat 0
      rw [getD_setB _ _ _ _ (by omega)]
      split <;> omega
    · refine ⟨hj, ?_⟩
      show 0 ≤ (st.1.set x.toNat d).getD x.toNat 0
      rw [getD_setB _ _ _ _ (by omega), if_pos rfl]; omega
  · intro v hv
    have := h.lo v hv
    show -1 ≤ (st.1.set j.toNat d).getD v 0 ∧ (st.1.set j.toNat d).getD v 0 < ((st.2 ++ [j]).length : Nat)
    rw [getD_setB _ _ _ _ (by omega)]
    simp only [List.length_append, List.length_cons, List.length_nil]
    split <;> omega
  · have := countP_set_neg st.1 j.toNat d (by omega) hn hd.1
    have := h.cnt
    show (st.2 ++ [j]).length + (st.1.set j.toNat d).countP (· < 0) = N
    simp only [List.length_append, List.length_cons, List.length_nil]
    omega
theorem bfs0_BI (N i : Nat) (hi : i < N) : BI N (bfs0 N i, [(i : Int)]) := by
  have hat : ∀ v, v < N → (bfs0 N i).getD v 0 = if i = v then 0 else -1 := by
    intro v hv
    unfold bfs0
    rw [getD_setB _ _ _ _ (by simpa using hv)]
    split
    · rfl
    · rw [List.getD_eq_getElem?_getD, List.getElem?_replicate, if_pos hv]; rfl
  refine ⟨by simp [bfs0], ?_, ?_, ?_⟩
  · intro x hx
    simp only [List.mem_cons, List.not_mem_nil, or_false] at hx
    subst hx
    refine ⟨by omega, ?_⟩
    show 0 ≤ (bfs0 N i).getD (i : Int).toNat 0
    rw [Int.toNat_natCast, hat i hi, if_pos rfl]; omega
  · intro v hv
    show -1 ≤ (bfs0 N i).getD v 0 ∧ (bfs0 N i).getD v 0 < _
    rw [hat v hv]
    simp only [List.length_cons, List.length_nil]
    split <;> omega
  · show [(i : Int)].length + (bfs0 N i).countP (· < 0) = N
    have := countP_set_neg (List.replicate N (-1)) i 0 (by simpa using hi) (by rw [List.getD_eq_getElem?_getD, List.getElem?_replicate, if_pos hi]; decide) (by omega)
    have h2 : (List.replicate N (-1 : Int)).countP (· < 0) = N := by rw [List.countP_replicate]; simp
    unfold bfs0
    simp only [List.length_cons, List.length_nil]
    omega
theorem BI.inn {N : Nat} {d : Int} : ∀ (l : List Int) {st : List Int × List Int}, BI N st → (∀ y ∈ l, 0 ≤ y ∧ y < N) → (0 ≤ d ∧ d ≤ st.2.length) → BI N (bfsIn d l st)
  | [], st, h, _, _ => h
  | j :: r, st, h, hl, hd => by
    simp only [bfsIn]
    split
    · rename_i hn
      refine BI.inn r (h.put (hl j (by simp)) hn hd) (fun y hy => hl y (by simp [hy])) ?_
      simp only [List.length_append, List.length_cons, List.length_nil]
      omega
    · exact BI.inn r h (fun y hy => hl y (by simp [hy])) hd
/-- the inner loop keeps the beginning of the queue and what is known -/
theorem bfsIn_pre (d : Int) : ∀ (l : List Int) (st : List Int × List Int), st.2 <+: (bfsIn d l st).2
  | [], st => List.prefix_refl _
  | j :: r, st => by
    simp only [bfsIn]
    split
    · exact (List.prefix_append st.2 [j]).trans (bfsIn_pre d r (st.1.set j.toNat d, st.2 ++ [j]))
    · exact bfsIn_pre d r st
end Go.Proofs.Ytlfongfhbkefmaa.Ai
namespace Go.Proofs.Ytlfongfhbkefmaa.Ai
open Go
set_option linter.unusedVariables false
structure DI (L : List (List Int)) (i : Nat) (st : List Int × List Int) (k : Nat) : Prop where
  bi : BI L.length st
  iff : ∀ v, v < L.length → (0 ≤ st.1.getD v 0 ↔ (v : Int) ∈ st.2)
  src : ∀ v, v < L.length → 0 ≤ st.1.getD v 0 → (v = i ∧ st.1.getD v 0 = 0) ∨ ∃ u, u < L.length ∧ 0 ≤ st.1.getD u 0 ∧ (v : Int) ∈ L.getD u [] ∧ st.1.getD v 0 = st.1.getD u 0 + 1
  cl : ∀ j, j < k → ∀ y ∈ L.getD (st.2.getD j 0).toNat [], 0 ≤ st.1.getD y.toNat 0
  le : k ≤ st.2.length
  at_ : 0 ≤ st.1.getD i 0
theorem bfsIn_keep (d : Int) (v : Nat) : ∀ (l : List Int) (st : List Int × List Int), (∀ y ∈ l, 0 ≤ y ∧ y < st.1.length) → 0 ≤ st.1.getD v 0 → (bfsIn d l st).1.getD v 0 = st.1.getD v 0
  | [], st, _, _ => rfl
  | j :: r, st, hl, h => by
    simp only [bfsIn]
    have hj := hl j (by simp)
    split
    · rename_i hn
      have hvj : j.toNat ≠ v := fun e => by rw [e] at hn; omega
      have e1 : (st.1.set j.toNat d).getD v 0 = st.1.getD v 0 := by
        rw [List.getD_eq_getElem?_getD, List.getD_eq_getElem?_getD, List.getElem?_set_ne hvj]
      rw [bfsIn_keep d v r _ (fun y hy => by simpa using hl y (by simp [hy])) (by show 0 ≤ (st.1.set j.toNat d).getD v 0; rw [e1]; exact h)]
      exact e1
    · exact bfsIn_keep d v r st (fun y hy => hl y (by simp [hy])) h
theorem bfsIn_new (d : Int) (hd : 0 ≤ d) (v : Nat) : ∀ (l : List Int) (st : List Int × List Int), (∀ y ∈ l, 0 ≤ y ∧ y < st.1.length) → v < st.1.length → st.1.getD v 0 < 0 →
    (((v : Int) ∈ l ∧ (bfsIn d l st).1.getD v 0 = d ∧ (v : Int) ∈ (bfsIn d l st).2) ∨ ((v : Int) ∉ l ∧ (bfsIn d l st).1.getD v 0 = st.1.getD v 0 ∧ ((v : Int) ∈ (bfsIn d l st).2 → (v : Int) ∈ st.2)))
  | [], st, _, _, h => .inr ⟨by simp, rfl, id⟩
  | j :: r, st, hl, hv, h => by
    have hj := hl j (by simp)
    simp only [bfsIn]
    by_cases e : j = (v : Int)
    · subst e
      rw [Int.toNat_natCast, if_pos h]
      have e1 : (st.1.set v d).getD v 0 = d := by rw [getD_setB _ _ _ _ hv, if_pos rfl]
      refine .inl ⟨by simp, ?_, ?_⟩
      · rw [bfsIn_keep d v r _ (fun y hy => by simpa using hl y (by simp [hy])) (by show 0 ≤ (st.1.set v d).getD v 0; rw [e1]; exact hd)]
        exact e1
      · exact (bfsIn_pre d r _).subset (by simp)
    · have hne : ¬ (v : Int) = j := fun h => e h.symm
      split
      · rename_i hn
        have e1 : (st.1.set j.toNat d).getD v 0 = st.1.getD v 0 := by
          rw [getD_setB _ _ _ _ hv, if_neg (by omega)]
        rcases bfsIn_new d hd v r (st.1.set j.toNat d, st.2 ++ [j]) (fun y hy => by simpa using hl y (by simp [hy])) (by simpa using hv) (by show (st.1.set j.toNat d).getD v 0 < 0; rw [e1]; exact h) with ⟨h1, h2, h3⟩ | ⟨h1, h2, h3⟩
        · exact .inl ⟨by simp [h1], h2, h3⟩
        · refine .inr ⟨by simp [hne, h1], by rw [h2]; exact e1, fun h4 => ?_⟩
          have := h3 h4
          simpa [hne] using this
      · rcases bfsIn_new d hd v r st (fun y hy => hl y (by simp [hy])) hv h with ⟨h1, h2, h3⟩ | ⟨h1, h2, h3⟩
        · exact .inl ⟨by simp [h1], h2, h3⟩
        · exact .inr ⟨by simp [hne, h1], h2, h3⟩
theorem DI.step {L : List (List Int)} (hL : LOk L.length L) {i : Nat} {st : List Int × List Int} {k : Nat} (h : DI L i st k) (hk : k < st.2.length) :
    DI L i (bfsIn (st.1.getD (st.2.getD k 0).toNat 0 + 1) (L.getD (st.2.getD k 0).toNat []) st) (k + 1) := by
  have hm : st.2.getD k 0 ∈ st.2 := by simp [hk]
  obtain ⟨hxr, hx0⟩ := h.bi.q _ hm
  have hlo := h.bi.lo (st.2.getD k 0).toNat (by omega)
  have hlen := h.bi.len
  generalize hx : (st.2.getD k 0).toNat = x at *
  generalize hd : st.1.getD x 0 + 1 = d at *
  have hl := hL x
  have hl' : ∀ y ∈ L.getD x [], 0 ≤ y ∧ y < (st.1.length : Int) := by rw [hlen]; exact hl
  have hbi := BI.inn (d := d) _ h.bi hl (by omega)
  have hpre := bfsIn_pre d (L.getD x []) st
  have keep : ∀ v, 0 ≤ st.1.getD v 0 → _ := fun v hv => bfsIn_keep d v (L.getD x []) st hl' hv
  have new : ∀ v, v < L.length → st.1.getD v 0 < 0 → _ := fun v hv hn => bfsIn_new d (by omega) v (L.getD x []) st hl' (by omega) hn
  refine ⟨hbi, ?_, ?_, ?_, ?_, ?_⟩
  · intro v hv
    by_cases hn : 0 ≤ st.1.getD v 0
    · rw [keep v hn]
      exact ⟨fun _ => hpre.subset ((h.iff v hv).1 hn), fun _ => hn⟩
    · rcases new v hv (by omega) with ⟨h1, h2, h3⟩ | ⟨h1, h2, h3⟩
      · rw [h2]; exact ⟨fun _ => h3, fun _ => by omega⟩
      · rw [h2]; exact ⟨fun g => absurd g hn, fun g => (h.iff v hv).2 (h3 g)⟩
  · intro v hv hp
    by_cases hn : 0 ≤ st.1.getD v 0
    · rw [keep v hn]
      rcases h.src v hv hn with h1 | ⟨u, u1, u2, u3, u4⟩
      · exact .inl h1
      · exact .inr ⟨u, u1, by rw [keep u u2]; exact u2, u3, by rw [keep u u2]; exact u4⟩
    · rcases new v hv (by omega) with ⟨h1, h2, h3⟩ | ⟨h1, h2, h3⟩
      · refine .inr ⟨x, by omega, by rw [keep x hx0]; exact hx0, h1, ?_⟩
        rw [h2, keep x hx0, ← hd]
      · rw [h2] at hp; exact absurd hp hn
  · intro j hj y hy
    have hg : (bfsIn d (L.getD x []) st).2.getD j 0 = st.2.getD j 0 := by
      obtain ⟨t, ht⟩ := hpre
      rw [← ht, List.getD_eq_getElem?_getD, List.getElem?_append_left (by omega), ← List.getD_eq_getElem?_getD]
    rw [hg] at hy
    by_cases hn : 0 ≤ st.1.getD y.toNat 0
    · rw [keep _ hn]; exact hn
    · by_cases e : j = k
      · subst e
        rw [hx] at hy
        have hr := hl y hy
        rcases new y.toNat (by omega) (by omega) with ⟨h1, h2, h3⟩ | ⟨h1, h2, h3⟩
        · rw [h2]; omega
        · rw [Int.toNat_of_nonneg hr.1] at h1; exact absurd hy h1
      · exact absurd (h.cl j (by omega) y hy) hn
  · have := hpre.length_le
    omega
  · rw [keep i h.at_]; exact h.at_
theorem DI.run {L : List (List Int)} (hL : LOk L.length L) {i : Nat} : ∀ (f : Nat) (st : List Int × List Int) (k : Nat), f + k = L.length + 1 → DI L i st k → ∃ q, DI L i (bfsF L f st k, q) q.length
  | 0, st, k, hf, h => by have := h.bi.len_le; have := h.le; omega
  | f + 1, st, k, hf, h => by
    simp only [bfsF]
    split
    · rename_i hk
      exact DI.run hL f _ _ (by omega) (h.step hL hk)
    · have e : k = st.2.length := by have := h.le; omega
      exact ⟨st.2, by rw [← e]; exact h⟩
theorem DI.zero {L : List (List Int)} {i : Nat} (hi : i < L.length) : DI L i (bfs0 L.length i, [(i : Int)]) 0 := by
  have hat : ∀ v, v < L.length → (bfs0 L.length i).getD v 0 = if i = v then 0 else -1 := by
    intro v hv
    unfold bfs0
    rw [getD_setB _ _ _ _ (by simpa using hv)]
    split
    · rfl
    · rw [List.getD_eq_getElem?_getD, List.getElem?_replicate, if_pos hv]; rfl
  refine ⟨bfs0_BI _ i hi, ?_, ?_, fun j hj => absurd hj (Nat.not_lt_zero j), Nat.zero_le _, ?_⟩
  · intro v hv
    show 0 ≤ (bfs0 L.length i).getD v 0 ↔ (v : Int) ∈ [(i : Int)]
    rw [hat v hv, List.mem_singleton]
    split <;> omega
  · intro v hv h
    left
    have h' : 0 ≤ (bfs0 L.length i).getD v 0 := h
    rw [hat v hv] at h'
    show v = i ∧ (bfs0 L.length i).getD v 0 = 0
    rw [hat v hv]
    by_cases e : i = v
    · exact ⟨e.symm, by rw [if_pos e]⟩
    · rw [if_neg e] at h'; omega
  · show 0 ≤ (bfs0 L.length i).getD i 0
    rw [hat i hi, if_pos rfl]; omega
/-- the distance of a place in the queue -/
def dq (st : List Int × List Int) (a : Nat) : Int := st.1.getD (st.2.getD a 0).toNat 0
theorem bfsIn_mono (d : Int) (hd : 0 ≤ d) : ∀ (l : List Int) (st : List Int × List Int), (∀ y ∈ l, 0 ≤ y ∧ y < st.1.length) → (∀ x ∈ st.2, (0 ≤ x ∧ x < st.1.length) ∧ 0 ≤ st.1.getD x.toNat 0) →
    (∀ a b, a ≤ b → b < st.2.length → dq st a ≤ dq st b) → (∀ b, b < st.2.length → dq st b ≤ d) →
    (∀ a b, a ≤ b → b < (bfsIn d l st).2.length → dq (bfsIn d l st) a ≤ dq (bfsIn d l st) b) ∧ ∀ b, b < (bfsIn d l st).2.length → dq (bfsIn d l st) b ≤ d
  | [], st, _, _, h1, h2 => ⟨h1, h2⟩
  | j :: r, st, hl, hq, h1, h2 => by
    have hj := hl j (by simp)
    simp only [bfsIn]
    split
    · rename_i hn
      have keep : ∀ a, a < st.2.length → dq (st.1.set j.toNat d, st.2 ++ [j]) a = dq st a := by
        intro a ha
        have hm : st.2.getD a 0 ∈ st.2 := by simp [ha]
        have hx := hq _ hm
        unfold dq
        have e1 : (st.2 ++ [j]).getD a 0 = st.2.getD a 0 := by
          rw [List.getD_eq_getElem?_getD, List.getElem?_append_left ha, ← List.getD_eq_getElem?_getD]
        show (st.1.set j.toNat d).getD ((st.2 ++ [j]).getD a 0).toNat 0 = _
        rw [e1, getD_setB _ _ _ _ (by omega), if_neg (fun e => by rw [e] at hn; omega)]
      have last : dq (st.1.set j.toNat d, st.2 ++ [j]) st.2.length = d := by
        unfold dq
        show (st.1.set j.toNat d).getD ((st.2 ++ [j]).getD st.2.length 0).toNat 0 = d
        rw [show (st.2 ++ [j]).getD st.2.length 0 = j by simp, getD_setB _ _ _ _ (by omega), if_pos rfl]
      refine bfsIn_mono d hd r _ (fun y hy => by simpa using hl y (by simp [hy])) ?_ ?_ ?_
      · intro x hx
        rcases List.mem_append.1 hx with hx | hx
        · have := hq x hx
          refine ⟨by simpa using this.1, ?_⟩
          show 0 ≤ (st.1.set j.toNat d).getD x.toNat 0
          rw [getD_setB _ _ _ _ (by omega)]
          split <;> omega
        · rw [List.mem_singleton] at hx; subst hx
          refine ⟨by simpa using hj, ?_⟩
          show 0 ≤ (st.1.set x.toNat d).getD x.toNat 0
          rw [getD_setB _ _ _ _ (by omega), if_pos rfl]; exact hd
      · intro a b hab hb
        have hb' : b < st.2.length + 1 := by simpa using hb
        by_cases eb : b = st.2.length
        · subst eb
          rw [last]
          by_cases ea : a = st.2.length
          · subst ea; rw [last]; exact Int.le_refl _
          · rw [keep a (by omega)]; exact h2 a (by omega)
        · rw [keep b (by omega), keep a (by omega)]; exact h1 a b hab (by omega)
      · intro b hb
        have hb' : b < st.2.length + 1 := by simpa using hb
        by_cases eb : b = st.2.length
        · subst eb; rw [last]; exact Int.le_refl _
        · rw [keep b (by omega)]; exact h2 b (by omega)
    · exact bfsIn_mono d hd r st (fun y hy => hl y (by simp [hy])) hq h1 h2
structure DS (L : List (List Int)) (i : Nat) (st : List Int × List Int) (k : Nat) : Prop where
  di : DI L i st k
  zero : st.1.getD i 0 = 0
  mono : ∀ a b, a ≤ b → b < st.2.length → dq st a ≤ dq st b
  near : ∀ a b, k ≤ a → a < st.2.length → b < st.2.length → dq st b ≤ dq st a + 1
  ed : ∀ a, a < k → ∀ y ∈ L.getD (st.2.getD a 0).toNat [], 0 ≤ st.1.getD y.toNat 0 ∧ st.1.getD y.toNat 0 ≤ dq st a + 1
theorem DS.step {L : List (List Int)} (hL : LOk L.length L) {i : Nat} (hi : i < L.length) {st : List Int × List Int} {k : Nat} (h : DS L i st k) (hk : k < st.2.length) :
    DS L i (bfsIn (st.1.getD (st.2.getD k 0).toNat 0 + 1) (L.getD (st.2.getD k 0).toNat []) st) (k + 1) := by
  have hd1 := h.di.step hL hk
  have hm : st.2.getD k 0 ∈ st.2 := by simp [hk]
  obtain ⟨hxr, hx0⟩ := h.di.bi.q _ hm
  have hlen := h.di.bi.len
  have hl := hL (st.2.getD k 0).toNat
  have hdk : dq st k + 1 = st.1.getD (st.2.getD k 0).toNat 0 + 1 := rfl
  have hl' : ∀ y ∈ L.getD (st.2.getD k 0).toNat [], 0 ≤ y ∧ y < (st.1.length : Int) := by rw [hlen]; exact hl
  have hmono := bfsIn_mono (dq st k + 1) (by unfold dq; omega) _ st hl' (fun x hx => by have := h.di.bi.q x hx; rw [hlen]; exact this) h.mono (fun b hb => h.near k b (Nat.le_refl _) hk hb)
  have hpre := bfsIn_pre (dq st k + 1) (L.getD (st.2.getD k 0).toNat []) st
  have keep : ∀ v, 0 ≤ st.1.getD v 0 → _ := fun v hv => bfsIn_keep (dq st k + 1) v (L.getD (st.2.getD k 0).toNat []) st hl' hv
  have gq : ∀ a, a < st.2.length → (bfsIn (dq st k + 1) (L.getD (st.2.getD k 0).toNat []) st).2.getD a 0 = st.2.getD a 0 := by
    intro a ha
    obtain ⟨t, ht⟩ := hpre
    rw [← ht, List.getD_eq_getElem?_getD, List.getElem?_append_left ha, ← List.getD_eq_getElem?_getD]
  have kq : ∀ a, a < st.2.length → dq (bfsIn (dq st k + 1) (L.getD (st.2.getD k 0).toNat []) st) a = dq st a := by
    intro a ha
    have hma : st.2.getD a 0 ∈ st.2 := by simp [ha]
    unfold dq at *
    rw [gq a ha]
    exact keep _ (h.di.bi.q _ hma).2
  have hpl := hpre.length_le
  rw [← hdk] at hd1 ⊢
  refine ⟨hd1, ?_, hmono.1, ?_, ?_⟩
  · rw [keep i (by rw [h.zero]; exact Int.le_refl _)]; exact h.zero
  · intro a b ha hal hb
    have h1 := hmono.2 b hb
    have h2 := hmono.1 k a (by omega) hal
    rw [kq k hk] at h2
    omega
  · intro a ha y hy
    rw [gq a (by omega)] at hy
    by_cases e : a = k
    · subst e
      rw [kq a hk]
      have hyr := hl y hy
      by_cases hn : 0 ≤ st.1.getD y.toNat 0
      · rw [keep _ hn]
        refine ⟨hn, ?_⟩
        have hin := (h.di.iff y.toNat (by omega)).1 hn
        rw [Int.toNat_of_nonneg hyr.1] at hin
        obtain ⟨b, hb, eb⟩ := List.mem_iff_getElem.1 hin
        have e2 : st.2.getD b 0 = y := by simp [hb, eb]
        have := h.near a b (Nat.le_refl _) hk hb
        have e3 : dq st b = st.1.getD y.toNat 0 := by unfold dq; rw [e2]
        rw [e3] at this; exact this
      · rcases bfsIn_new (dq st a + 1) (by unfold dq; omega) y.toNat _ st hl' (by omega) (by omega) with ⟨_, g2, _⟩ | ⟨g1, _⟩
        · rw [g2]; exact ⟨by unfold dq; omega, Int.le_refl _⟩
        · rw [Int.toNat_of_nonneg hyr.1] at g1; exact absurd hy g1
    · rw [kq a (by omega)]
      have h1 := h.ed a (by omega) y hy
      rw [keep _ h1.1]; exact h1
theorem DS.run {L : List (List Int)} (hL : LOk L.length L) {i : Nat} (hi : i < L.length) : ∀ (f : Nat) (st : List Int × List Int) (k : Nat), f + k = L.length + 1 → DS L i st k → ∃ q, DS L i (bfsF L f st k, q) q.length
  | 0, st, k, hf, h => by have := h.di.bi.len_le; have := h.di.le; omega
  | f + 1, st, k, hf, h => by
    simp only [bfsF]
    split
    · rename_i hk
      exact DS.run hL hi f _ _ (by omega) (h.step hL hi hk)
    · have e : k = st.2.length := by have := h.di.le; omega
      exact ⟨st.2, by rw [← e]; exact h⟩
end Go.Proofs.Ytlfongfhbkefmaa.Ai
namespace Go.Proofs.Ytlfongfhbkefmaa.Ai
open Go
end Go.Proofs.Ytlfongfhbkefmaa.Ai
namespace Go.Proofs.Ytlfongfhbkefmaa.Ai
open Go Go.RowKit
set_option linter.unusedVariables false
set_option linter.unusedSimpArgs false
/-- all numbers below one -/
def alls (n : Nat) : List Int := (List.range n).map fun z : Nat => (z : Int)
theorem alls_len (n : Nat) : (alls n).length = n := by simp [alls]
theorem alls_mem (n : Nat) (z : Int) : z ∈ alls n ↔ 0 ≤ z ∧ z < n := by
  unfold alls
  rw [List.mem_map]
  constructor
  · rintro ⟨a, ha, rfl⟩
    have := List.mem_range.1 ha
    omega
  · rintro ⟨h1, h2⟩
    exact ⟨z.toNat, List.mem_range.2 (by omega), by omega⟩
theorem alls_srt (n : Nat) : (alls n).Pairwise (· < ·) := by
  unfold alls
  refine List.Pairwise.map _ ?_ List.pairwise_lt_range
  intro a b hab
  omega
theorem alls_succ (n : Nat) : alls (n + 1) = alls n ++ [(n : Int)] := by
  unfold alls; rw [List.range_succ, List.map_append]; rfl
end Go.Proofs.Ytlfongfhbkefmaa.Ai
namespace Go.Proofs.Ytlfongfhbkefmaa.Ai
open Go
set_option linter.unusedVariables false
/-- the neighbors of one place: those not seen yet are added -/
def ptIn : List Int → List Bool × List Int → List Bool × List Int
  | [], st => st
  | j :: r, st => if st.1.getD j.toNat false = true then ptIn r st else ptIn r (st.1.set j.toNat true, st.2 ++ [j])
def ptF (L : List (List Int)) : Nat → List Bool × List Int → Nat → List Bool × List Int
  | 0, st, _ => st
  | f + 1, st, k => if k < st.2.length then ptF L f (ptIn (L.getD (st.2.getD k 0).toNat []) st) (k + 1) else st
structure PI (N C : Nat) (st : List Bool × List Int) : Prop where
  len : st.1.length = N
  q : ∀ x ∈ st.2, (0 ≤ x ∧ x < N) ∧ st.1.getD x.toNat false = true
  nd : st.2.Nodup
  cnt : st.2.length + st.1.countP (fun b => !b) = C
  le : C ≤ N
theorem getD_setBool (xs : List Bool) (j v : Nat) (d : Bool) (hv : v < xs.length) : (xs.set j d).getD v false = if j = v then d else xs.getD v false := by
  rw [List.getD_eq_getElem?_getD, List.getD_eq_getElem?_getD, List.getElem?_set]
  by_cases h : j = v
  · subst h; rw [if_pos rfl, if_pos rfl, if_pos hv]; rfl
  · rw [if_neg h, if_neg h]
theorem countP_set_true : ∀ (xs : List Bool) (j : Nat), j < xs.length → xs.getD j false = false → (xs.set j true).countP (fun b => !b) + 1 = xs.countP (fun b => !b)
  | [], j, h, _ => by simp at h
  | x :: xs, 0, _, h => by
    have hx : x = false := by simpa using h
    subst hx
    simp [List.countP_cons]
  | x :: xs, j + 1, hj, h => by
    have := countP_set_true xs j (by simpa using hj) (by simpa using h)
    simp only [List.set_cons_succ, List.countP_cons]
    omega
theorem PI.len_le {N C : Nat} {st : List Bool × List Int} (h : PI N C st) : st.2.length ≤ N := by have := h.cnt; have := h.le; omega
theorem PI.put {N C : Nat} {st : List Bool × List Int} (h : PI N C st) {j : Int} (hj : 0 ≤ j ∧ j < N) (hn : ¬ st.1.getD j.toNat false = true) : PI N C (st.1.set j.toNat true, st.2 ++ [j]) := by
  have hl := h.len
  have hf : st.1.getD j.toNat false = false := by simpa using hn
  refine ⟨by simp [hl], ?_, ?_, ?_, h.le⟩
  · intro x hx
    simp only [List.mem_append, List.mem_cons, List.not_mem_nil, or_false] at hx
    rcases hx with hx | rfl
    · obtain ⟨h1, h2⟩ := h.q x hx
      refine ⟨h1, ?_⟩
      show (st.1.set j.toNat true).getD x.toNat false = true
      rw [getD_setBool _ _ _ _ (by omega)]
      split
      · rfl
      · exact h2
    · refine ⟨hj, ?_⟩
      show (st.1.set x.toNat true).getD x.toNat false = true
      rw [getD_setBool _ _ _ _ (by omega), if_pos rfl]
  · rw [List.nodup_append]
    refine ⟨h.nd, by simp, ?_⟩
    intro a ha b hb hab
    simp only [List.mem_cons, List.not_mem_nil, or_false] at hb
    subst hab; subst hb
    exact hn (h.q a ha).2
  · have := countP_set_true st.1 j.toNat (by omega) hf
    have := h.cnt
    show (st.2 ++ [j]).length + (st.1.set j.toNat true).countP (fun b => !b) = C
    simp only [List.length_append, List.length_cons, List.length_nil]
    omega
theorem PI.first {N : Nat} {s : List Bool} (hs : s.length = N) {k : Nat} (hk : k < N) (hn : ¬ s.getD k false = true) : PI N (s.countP fun b => !b) (s.set k true, [(k : Int)]) := by
  have hf : s.getD k false = false := by simpa using hn
  refine ⟨by simp [hs], ?_, by simp, ?_, ?_⟩
  · intro x hx
    simp only [List.mem_cons, List.not_mem_nil, or_false] at hx
    subst hx
    refine ⟨by omega, ?_⟩
    show (s.set k true).getD (k : Int).toNat false = true
    rw [Int.toNat_natCast, getD_setBool _ _ _ _ (by omega), if_pos rfl]
  · have := countP_set_true s k (by omega) hf
    show [(k : Int)].length + (s.set k true).countP (fun b => !b) = _
    simp only [List.length_cons, List.length_nil]
    omega
  · rw [← hs]; exact List.countP_le_length
theorem PI.inn {N C : Nat} : ∀ (l : List Int) {st : List Bool × List Int}, PI N C st → (∀ y ∈ l, 0 ≤ y ∧ y < N) → PI N C (ptIn l st)
  | [], st, h, _ => h
  | j :: r, st, h, hl => by
    simp only [ptIn]
    split
    · exact PI.inn r h (fun y hy => hl y (by simp [hy]))
    · rename_i hn
      exact PI.inn r (h.put (hl j (by simp)) hn) (fun y hy => hl y (by simp [hy]))
theorem ptIn_pre : ∀ (l : List Int) (st : List Bool × List Int), st.2 <+: (ptIn l st).2
  | [], st => List.prefix_refl _
  | j :: r, st => by
    simp only [ptIn]
    split
    · exact ptIn_pre r st
    · exact (List.prefix_append st.2 [j]).trans (ptIn_pre r (st.1.set j.toNat true, st.2 ++ [j]))
end Go.Proofs.Ytlfongfhbkefmaa.Ai
namespace Go.Proofs.Ytlfongfhbkefmaa.Ai
open Go
def ords171 : List (Nat × List (Nat × Bool)) := []
def cd171 : Cd := (.seq (.reg [⟨⟨some 4, Op.assign (Operand.const (Value.bool false)), none⟩, []⟩]) (.seq (.reg [⟨⟨some 5, Op.move (Operand.tmp 0), none⟩, []⟩,
  ⟨⟨some 6, Op.move (Operand.tmp 1), none⟩, []⟩,
  ⟨⟨some 7, Op.binOp BinOp.shr 98 (Operand.tmp 5) (Operand.tmp 6) 3, none⟩, []⟩,
  ⟨⟨some 8, Op.binOp BinOp.and 98 (Operand.tmp 7) (Operand.const (Value.int IntKind.u64 1)) 98, none⟩, []⟩,
  ⟨⟨some 9, Op.binOp BinOp.eql 98 (Operand.tmp 8) (Operand.const (Value.int IntKind.u64 1)) 98, none⟩, []⟩,
  ⟨⟨some 4, Op.assign (Operand.tmp 9), none⟩, []⟩]) .ret))
theorem sl171 : slim Try.f171.ntmps ords171 (Try.f171.body.getD .skip) = some cd171 := by kernel_rfl
theorem in171 {args : List Value} {H : AH} {R : Value → AH → Prop} (hl : args.length = 2) (h : ∀ (Q : Exit → Sl → AH → Prop), (∀ e s H, endA Try.prog [ResultVar.tmp 4] R e s H → Q e s H) → wpC Try.prog cd171 Q (enterA args) H) : ACalls Try.prog 171 args H R :=
  ACalls.intro (by kernel_rfl) Try.func171 rfl (by kernel_rfl) sl171 hl (of_decide_eq_true (by kernel_rfl)) (by kernel_rfl) h
end Go.Proofs.Ytlfongfhbkefmaa.Ai
namespace Go.Proofs.Ytlfongfhbkefmaa.Ai
open Go Go.RowKit
set_option linter.unusedVariables false
set_option linter.unusedSimpArgs false
theorem ofInt_nat (n : Nat) (h : n < 2 ^ 64) : (BitVec.ofInt 64 (n : Int)).toNat = n := by
  rw [BitVec.ofInt_natCast, BitVec.toNat_ofNat, Nat.mod_eq_of_lt h]
theorem and_nat (a b : Nat) (ha : a < 2 ^ 64) (hb : b < 2 ^ 64) : bitsA .and .u64 (a : Int) (b : Int) = ((a &&& b : Nat) : Int) := by
  have h : a &&& b < 2 ^ 64 := Nat.lt_of_le_of_lt Nat.and_le_left ha
  have e : (BitVec.ofInt 64 (a : Int) &&& BitVec.ofInt 64 (b : Int)).toNat = a &&& b := by rw [BitVec.toNat_and, ofInt_nat a ha, ofInt_nat b hb]
  show IntKind.u64.wrap (((BitVec.ofInt 64 (a : Int) &&& BitVec.ofInt 64 (b : Int)).toNat : Nat) : Int) = _
  rw [e, IntKind.wrap_u64]; omega
theorem or_nat (a b : Nat) (ha : a < 2 ^ 64) (hb : b < 2 ^ 64) : bitsA .or .u64 (a : Int) (b : Int) = ((a ||| b : Nat) : Int) := by
  have h : a ||| b < 2 ^ 64 := Nat.or_lt_two_pow ha hb
  have e : (BitVec.ofInt 64 (a : Int) ||| BitVec.ofInt 64 (b : Int)).toNat = a ||| b := by rw [BitVec.toNat_or, ofInt_nat a ha, ofInt_nat b hb]
  show IntKind.u64.wrap (((BitVec.ofInt 64 (a : Int) ||| BitVec.ofInt 64 (b : Int)).toNat : Nat) : Int) = _
  rw [e, IntKind.wrap_u64]; omega
theorem shr_nat (a y : Nat) (hy : y ≤ 64) : (a : Int).fdiv (2 ^ (min (y : Int).toNat 64)) = ((a / 2 ^ y : Nat) : Int) := by
  rw [Int.toNat_natCast, Nat.min_eq_left hy]
  rw [Int.fdiv_eq_ediv_of_nonneg _ (Int.le_of_lt (Int.pow_pos (by decide)))]
  norm_cast
theorem bit_and (b y : Nat) : ((b / 2 ^ y) &&& 1 = 1) ↔ b.testBit y = true := by
  rw [Nat.testBit_eq_decide_div_mod_eq, Nat.and_one_is_mod]
  simp
theorem bin_shr (P : Program) (t : TypeId) (b y : Nat) (hy : y < 64) : binA P .shr t (.int .u64 (b : Int)) (.int .i64 (y : Int)) = some (.int .u64 ((b / 2 ^ y : Nat) : Int)) := by
  have : ¬ ((y : Int) < 0) := by omega
  simp only [binA, shiftA, this, if_false, IntKind.bits]
  rw [if_pos (.inr trivial)]
  have := shr_nat b y (by omega)
  simp only [this]
theorem bin_and (P : Program) (t : TypeId) (a b : Nat) (ha : a < 2 ^ 64) (hb : b < 2 ^ 64) : binA P .and t (.int .u64 (a : Int)) (.int .u64 (b : Int)) = some (.int .u64 ((a &&& b : Nat) : Int)) := by
  simp only [binA, intA, and_nat a b ha hb]
  simp
theorem bin_or (P : Program) (t : TypeId) (a b : Nat) (ha : a < 2 ^ 64) (hb : b < 2 ^ 64) : binA P .or t (.int .u64 (a : Int)) (.int .u64 (b : Int)) = some (.int .u64 ((a ||| b : Nat) : Int)) := by
  simp only [binA, intA, or_nat a b ha hb]
  simp
theorem bin_shl (P : Program) (t : TypeId) (y : Nat) (hy : y < 64) : binA P .shl t (.int .u64 1) (.int .i64 (y : Int)) = some (.int .u64 ((2 ^ y : Nat) : Int)) := by
  have h0 : ¬ ((y : Int) < 0) := by omega
  have h1 : 2 ^ y < 2 ^ 64 := Nat.pow_lt_pow_right (by decide) hy
  have h2 : (1 : Int) * 2 ^ (min (y : Int).toNat 64) = ((2 ^ y : Nat) : Int) := by
    rw [Int.toNat_natCast, Nat.min_eq_left (by omega), Int.one_mul]; norm_cast
  have h3 : binA P .shl t (.int .u64 1) (.int .i64 (y : Int)) = some (.int .u64 (IntKind.u64.wrap ((1 : Int) * 2 ^ (min (y : Int).toNat 64)))) := by
    simp only [binA, shiftA]
    rw [if_pos (.inl trivial), if_neg h0]; rfl
  have h4 : ((2 ^ y : Nat) : Int) % 18446744073709551616 = ((2 ^ y : Nat) : Int) := by
    generalize 2 ^ y = z at h1
    omega
  rw [h3, h2, IntKind.wrap_u64, h4]
theorem div_lt (b y : Nat) (hb : b < 2 ^ 64) : b / 2 ^ y < 2 ^ 64 := Nat.lt_of_le_of_lt (Nat.div_le_self _ _) hb
theorem has_c (b y : Nat) (H : AH) (hb : b < 2 ^ 64) (hy : y < 64) : ACalls Try.prog 171 [.int .u64 (b : Int), .int .i64 (y : Int)] H fun r H' => r = .bool (b.testBit y) ∧ H = H' := by
  refine in171 rfl ?_
  intro Q hQ
  have e1 := bin_shr Try.prog 98 b y hy
  have e2 : binA Try.prog .and 98 (.int .u64 ((b / 2 ^ y : Nat) : Int)) (.int .u64 1) = some (.int .u64 (((b / 2 ^ y) &&& 1 : Nat) : Int)) := bin_and Try.prog 98 (b / 2 ^ y) 1 (div_lt b y hb) (by decide)
  simp (maxSteps := 1000000) (disch := omega) only [cd171, e1, e2, S, S1, S2, S3, S4, S5, ST, eq_self, reduceIte, reduceCtorEq, Nat.reduceEqDiff, Nat.reduceAdd]
  refine hQ _ _ _ ?_
  simp (maxSteps := 1000000) (disch := omega) only [S, S1, S2, S3, S4, S5, ST, eq_self, reduceIte, reduceCtorEq, Nat.reduceEqDiff, Nat.reduceAdd]
  have : ((((b / 2 ^ y) &&& 1 : Nat) : Int) = 1) ↔ b.testBit y = true := by
    rw [← bit_and]; omega
  simp only [this]
  simp
/-- a word that is a set of numbers below L -/
def Bits (b : Nat) (L : Nat) (s : List Int) : Prop := b < 256 ∧ ∀ z, z < L → b.testBit z = decide ((z : Int) ∈ s)
theorem Bits.or {b L y : Nat} {s : List Int} (h : Bits b L s) (hy : y < 8) : Bits (b ||| 2 ^ y) L (s ++ [(y : Int)]) := by
  refine ⟨?_, fun z hz => ?_⟩
  · have h1 : 2 ^ y < 2 ^ 8 := Nat.pow_lt_pow_right (by decide) hy
    exact Nat.or_lt_two_pow (n := 8) h.1 h1
  · rw [Nat.testBit_or, h.2 z hz, Nat.testBit_two_pow]
    have e : (y = z) ↔ ((z : Int) = y) := by omega
    by_cases hm : (z : Int) ∈ s <;> by_cases hz2 : y = z <;> simp [hm, hz2, e]
    · intro hh; exact hz2 (by omega)
theorem Bits.no {b L x y : Nat} {s : List Int} (h : Bits b L s) (hx : x < L) (hy : y < L) : (b &&& (2 ^ x ||| 2 ^ y) ≠ 0) ↔ ((x : Int) ∈ s ∨ (y : Int) ∈ s) := by
  have hbx := h.2 x hx
  have hby := h.2 y hy
  constructor
  · intro hne
    apply Decidable.byContradiction
    intro hno
    rw [not_or] at hno
    rw [decide_eq_false hno.1] at hbx
    rw [decide_eq_false hno.2] at hby
    apply hne
    apply Nat.eq_of_testBit_eq
    intro z
    rw [Nat.testBit_and, Nat.testBit_or, Nat.testBit_two_pow, Nat.testBit_two_pow, Nat.zero_testBit]
    by_cases e1 : x = z
    · subst e1; rw [hbx]; rfl
    · by_cases e2 : y = z
      · subst e2; rw [hby]; rfl
      · simp [e1, e2]
  · rintro h' h0
    rcases h' with g | g
    · rw [decide_eq_true g] at hbx
      have := congrArg (fun n => Nat.testBit n x) h0
      simp only [Nat.testBit_and, Nat.testBit_or, Nat.testBit_two_pow, Nat.zero_testBit, hbx] at this
      simp at this
    · rw [decide_eq_true g] at hby
      have := congrArg (fun n => Nat.testBit n y) h0
      simp only [Nat.testBit_and, Nat.testBit_or, Nat.testBit_two_pow, Nat.zero_testBit, hby] at this
      simp at this
theorem Bits.or2 {b L x y : Nat} {s : List Int} (h : Bits b L s) (hx : x < 8) (hy : y < 8) : Bits (b ||| (2 ^ x ||| 2 ^ y)) L (s ++ [(x : Int), (y : Int)]) := by
  rw [← Nat.or_assoc]
  have := (h.or hx).or hy
  rwa [List.append_assoc] at this
end Go.Proofs.Ytlfongfhbkefmaa.Ai
namespace Go.Proofs.Ytlfongfhbkefmaa.Ai
open Go
end Go.Proofs.Ytlfongfhbkefmaa.Ai
namespace Go.Proofs.Ytlfongfhbkefmaa.Ai
open Go Go.RowKit
set_option linter.unusedVariables false
set_option linter.unusedSimpArgs false
/-- a part of an object -/
theorem sl_own {P : Program} {t e : TypeId} (hu : P.underlying t = some (.slice e)) (hc : P.cellsOf e = 1) {H : AH} {o k n c : Nat} {vs : List Value} {ro : Bool} (ho : H[o]? = some (.cells vs e ro)) {lo hi : Option Value} {l r : Nat} (h1 : boundA lo 0 = some l) (h2 : boundA hi n = some r) (hl : l ≤ r) (hr : r ≤ n) :
    sliceA P t (.slice (some ⟨o, k, none⟩) n c) lo hi none H = some (.slice (some ⟨o, k + l, none⟩) (r - l) (r - l)) := by
  simp only [sliceA, hu, h1, h2, ho, hc, Nat.mul_one]
  rw [if_pos ⟨hl, hr, trivial, Nat.one_pos⟩]
end Go.Proofs.Ytlfongfhbkefmaa.Ai
namespace Go.Proofs.Ytlfongfhbkefmaa.Ai
open Go
end Go.Proofs.Ytlfongfhbkefmaa.Ai
namespace Go.Proofs.Ytlfongfhbkefmaa.Ai
open Go Go.RowKit
set_option linter.unusedVariables false
set_option linter.unusedSimpArgs false
/-- the list of distances and the queue in the heap -/
def QH (H0 H : AH) (oo : Nat) (out : List Int) (oq kq nq : Nat) (q : List Int) : Prop :=
  (∃ zs, H[oq]? = some (.cells (ints zs) 3 false) ∧ (zs.drop kq).take nq = q ∧ kq + nq ≤ zs.length) ∧ H[oo]? = some (.cells (ints out) 3 false) ∧ H0.length ≤ oo ∧ H0.length ≤ oq ∧ oq ≠ oo ∧ H0 <+: H
/-- appending to a part of an object of ints -/
theorem app_q {P : Program} {t e : TypeId} (hu : P.underlying t = some (.slice e)) (hc : P.cellsOf e = 1) (hby : P.bytesOf e ≤ 64) (hz : zeroOk P e = true) {H : AH} {o k n c : Nat} {zs : List Int} {x : Int} (ho : H[o]? = some (.cells (ints zs) e false)) (hn : k + n ≤ zs.length) (hb : n ≤ 1099511627775) :
    appendA P t t (.slice (some ⟨o, k, none⟩) n c) (.slice (some ⟨H.length, 0, none⟩) 1 1) (H ++ [.cells [.int .i64 x] e false]) = some (.slice (some ⟨H.length + 1, 0, none⟩) (n + 1) (n + 1), H.set o .dead ++ [.cells [.int .i64 x] e false, .cells (ints ((zs.drop k).take n ++ [x])) e false]) := by
  have hlt : o < H.length := at_lt ho
  have hb2 : (n + 1) * P.bytesOf e ≤ 140737488355328 := by
    refine Nat.le_trans (Nat.mul_le_mul_left _ hby) ?_
    omega
  have ho2 : (H ++ [AObj.cells [.int .i64 x] e false])[o]? = some (.cells (ints zs) e false) := at_app ho _
  have hsc : sliceCells P e (.slice (some ⟨H.length, 0, none⟩) 1 1) (H ++ [.cells [.int .i64 x] e false]) = some (1, [.int .i64 x]) := by
    simp only [sliceCells, at_new, hc]; simp
  simp only [appendA, hu, hc, hsc, ho2, hz]
  rw [if_pos (by simp), if_neg (by simp), if_pos ⟨trivial, by rw [ints_len]; omega, hb2, by omega, trivial⟩]
  have : List.take (n * 1) (List.drop k (ints zs)) ++ [Value.int .i64 x] = ints ((zs.drop k).take n ++ [x]) := by
    simp [ints, List.map_take, List.map_drop]
  rw [this, List.length_append, List.set_append_left _ _ hlt]
  simp
theorem QH.push {H0 H : AH} {oo : Nat} {out : List Int} {oq kq nq : Nat} {q : List Int} (h : QH H0 H oo out oq kq nq q) (y : Nat) (d x : Int) (hb : nq ≤ 1099511627775) :
    ∃ H2, appendA Try.prog 38 38 (.slice (some ⟨oq, kq, none⟩) nq nq) (.slice (some ⟨(H.set oo (.cells (ints (out.set y d)) 3 false)).length, 0, none⟩) 1 1) (H.set oo (.cells (ints (out.set y d)) 3 false) ++ [.cells [.int .i64 x] 3 false]) = some (.slice (some ⟨(H.set oo (.cells (ints (out.set y d)) 3 false)).length + 1, 0, none⟩) (nq + 1) (nq + 1), H2) ∧
      QH H0 H2 oo (out.set y d) ((H.set oo (.cells (ints (out.set y d)) 3 false)).length + 1) 0 (nq + 1) (q ++ [x]) := by
  obtain ⟨⟨zs, h1, h2, h3⟩, h4, h5, h6, h7, h8⟩ := h
  have hlt := at_lt h4
  generalize hH1 : H.set oo (.cells (ints (out.set y d)) 3 false) = H1
  have l1 : H1.length = H.length := by rw [← hH1]; simp
  have k1 : H1[oq]? = some (.cells (ints zs) 3 false) := by rw [← hH1, List.getElem?_set_ne (fun e => h7 e.symm)]; exact h1
  have k4 : H1[oo]? = some (.cells (ints (out.set y d)) 3 false) := by rw [← hH1]; exact at_set h4
  have hp1 : H0 <+: H1 := by rw [← hH1]; exact pre_set h8 h5 _
  refine ⟨_, app_q Try.underlying38 cs3 (by rw [by3]; decide) zk3 k1 h3 hb, ⟨(zs.drop kq).take nq ++ [x], ?_, ?_, ?_⟩, ?_, h5, ?_, ?_, ?_⟩
  · rw [List.getElem?_append_right (by simp)]
    simp
  · rw [List.drop_zero, h2, List.take_of_length_le]
    rw [← h2]; simp; omega
  · simp; omega
  · rw [List.getElem?_append_left (by simp; omega), List.getElem?_set_ne h7]
    exact k4
  · have := h8.length_le; omega
  · omega
  · exact pre_app (pre_set hp1 h6 _) _
theorem QH.tail {H0 H : AH} {oo : Nat} {out : List Int} {oq kq nq : Nat} {x : Int} {q : List Int} (h : QH H0 H oo out oq kq nq (x :: q)) : QH H0 H oo out oq (kq + 1) (nq - 1) q ∧ cellA H oq kq = some (.int .i64 x) ∧ 0 < nq := by
  obtain ⟨⟨zs, h1, h2, h3⟩, h4⟩ := h
  have hl := congrArg List.length h2
  simp only [List.length_take, List.length_drop, List.length_cons] at hl
  have hk : kq < zs.length := by omega
  obtain ⟨n, rfl⟩ : ∃ n, nq = n + 1 := ⟨nq - 1, by omega⟩
  rw [List.drop_eq_getElem_cons hk, List.take_succ_cons] at h2
  injection h2 with e1 e2
  refine ⟨⟨⟨zs, h1, by simpa using e2, by omega⟩, h4⟩, ?_, by omega⟩
  rw [cell_of h1, ints_at zs hk]
  congr 2
  simp [hk, e1]
theorem QH.at {H0 H : AH} {oo : Nat} {out : List Int} {oq kq nq : Nat} {q : List Int} (h : QH H0 H oo out oq kq nq q) {j : Nat} (hj : j < q.length) : cellA H oq (kq + j) = some (.int .i64 (q.getD j 0)) := by
  obtain ⟨⟨zs, h1, h2, h3⟩, _⟩ := h
  have hl := congrArg List.length h2
  simp only [List.length_take, List.length_drop] at hl
  have hk : kq + j < zs.length := by omega
  rw [cell_of h1, ints_at zs hk]
  congr 2
  rw [← h2, List.getD_eq_getElem?_getD, List.getD_eq_getElem?_getD, List.getElem?_take, if_pos (by omega), List.getElem?_drop]
end Go.Proofs.Ytlfongfhbkefmaa.Ai
namespace Go.Proofs.Ytlfongfhbkefmaa.Ai
open Go Go.RowKit
set_option linter.unusedVariables false
theorem InU.appL {P : Program} {t2 e2 e : TypeId} (hu : P.underlying t2 = some (.slice e2)) (hc : P.cellsOf e2 = 1) (hby : P.bytesOf e2 ≤ 64) (hz : zeroOk P e2 = true) {lo hi hi2 : Nat} {H : AH} {o : Nat} {us : List Value} {w : Value} {ls ms : List (List Int)}
    (h : InU lo hi e2 e H o us ls) (hw : InL hi hi2 e2 e H w ms) (hl1 : lo ≤ hi) (hl2 : hi ≤ hi2) (hl3 : hi2 ≤ H.length) (hb : ls.length + ms.length ≤ 1099511627775) :
    ∃ v' H' o' us', appendA P t2 t2 (.slice (some ⟨o, 0, none⟩) ls.length ls.length) w H = some (v', H') ∧ v' = .slice (some ⟨o', 0, none⟩) (ls ++ ms).length (ls ++ ms).length ∧
      InU lo H'.length e2 e H' o' us' (ls ++ ms) ∧ H.length ≤ H'.length ∧ (∀ (j : Nat) (y : AObj), j ≠ o → H[j]? = some y → H'[j]? = some y) ∧ (o' = o ∨ H.length ≤ o') := by
  have bb : ∀ n : Nat, n ≤ 1099511627776 → n * P.bytesOf e2 ≤ 140737488355328 := fun n hn => by
    refine Nat.le_trans (Nat.mul_le_mul_left _ hby) ?_
    omega
  by_cases hm : ms.length = 0
  · have hms : ms = [] := List.eq_nil_of_length_eq_zero hm
    subst hms
    have hsc : ∃ us2, sliceCells P e2 w H = some (0, us2) := by
      rcases hw with ⟨rfl, _⟩ | ⟨o2, us2, rfl, g1, g2, g3, _⟩
      · exact ⟨[], rfl⟩
      · refine ⟨(us2.drop 0).take (0 * P.cellsOf e2), ?_⟩
        simp only [sliceCells, g3, List.length_nil]
        rw [if_pos ⟨by omega, trivial⟩]
    obtain ⟨us2, hsc⟩ := hsc
    refine ⟨_, H, o, us, ?_, by rw [List.append_nil], ?_, Nat.le_refl _, fun j y _ hy => hy, .inl rfl⟩
    · simp only [appendA, hu, hc, hsc, isSl]
      rw [if_pos (by simp), if_pos (by simp), if_pos trivial]
    · rw [List.append_nil]
      obtain ⟨h1, h2, h3, h4, h5, h6⟩ := h
      exact ⟨h1, by omega, h3, h4, fun i hi' => ⟨(h5 i hi').1.wide (Nat.le_refl _) (by omega), (h5 i hi').2⟩, h6⟩
  rcases hw with ⟨_, e0⟩ | ⟨o2, us2, rfl, g1, g2, g3, g4, g5, g6⟩
  · rw [e0] at hm; simp at hm
  have hsc : sliceCells P e2 (.slice (some ⟨o2, 0, none⟩) ms.length ms.length) H = some (ms.length, us2.take ms.length) := by
    simp only [sliceCells, g3, hc, Nat.mul_one, List.drop_zero]
    rw [if_pos ⟨by omega, trivial⟩]
  obtain ⟨h2, h3, h4, h5, h6, h7⟩ := h
  have ho := at_lt h4
  have keep : ∀ (j : Nat) (y : AObj), j ≠ o → H[j]? = some y → (H.set o AObj.dead ++ [AObj.cells (us.take ls.length ++ us2.take ms.length) e2 false])[j]? = some y := by
    intro j y hj hy
    exact at_old hy (fun e => hj e.symm) _
  refine ⟨.slice (some ⟨H.length, 0, none⟩) (ls.length + ms.length) (ls.length + ms.length), H.set o AObj.dead ++ [AObj.cells (us.take ls.length ++ us2.take ms.length) e2 false], H.length, us.take ls.length ++ us2.take ms.length, ?_, by rw [List.length_append], ?_, by simp, keep, .inr (Nat.le_refl _)⟩
  · simp only [appendA, hu, hc, hsc, hz, h4]
    rw [if_pos (by simp), if_neg hm, if_pos ⟨trivial, by omega, bb _ (by omega), by omega, trivial⟩]
    simp
  · have hul : (us.take ls.length).length = ls.length := by simp; omega
    have hul2 : (us2.take ms.length).length = ms.length := by simp; omega
    have uat : ∀ i, i < ls.length → (us.take ls.length ++ us2.take ms.length).getD i undef = us.getD i undef := by
      intro i hi'
      rw [List.getD_eq_getElem?_getD, List.getD_eq_getElem?_getD, List.getElem?_append_left (by omega), List.getElem?_take, if_pos hi']
    have uat2 : ∀ i, i < ms.length → (us.take ls.length ++ us2.take ms.length).getD (ls.length + i) undef = us2.getD i undef := by
      intro i hi'
      rw [List.getD_eq_getElem?_getD, List.getD_eq_getElem?_getD, List.getElem?_append_right (by omega), hul, Nat.add_sub_cancel_left, List.getElem?_take, if_pos hi']
    have lat : ∀ i, i < ls.length → (ls ++ ms).getD i [] = ls.getD i [] := by
      intro i hi'
      rw [List.getD_eq_getElem?_getD, List.getD_eq_getElem?_getD, List.getElem?_append_left hi']
    have lat2 : ∀ i, i < ms.length → (ls ++ ms).getD (ls.length + i) [] = ms.getD i [] := by
      intro i hi'
      rw [List.getD_eq_getElem?_getD, List.getD_eq_getElem?_getD, List.getElem?_append_right (by omega), Nat.add_sub_cancel_left]
    have cross : ∀ i j, i < ls.length → j < ms.length → Apart (us.getD i undef) (us2.getD j undef) := by
      intro i j hi' hj'
      rcases (h6 i hi').1.at_ with g | g
      · exact .inr (.inl g)
      · rcases (g5 j hj').1.at_ with g' | g'
        · exact .inl g'
        · exact .inr (.inr (by omega))
    refine ⟨by omega, by simp, ?_, by simp; omega, ?_, ?_⟩
    · rw [List.getElem?_append_right (by simp)]; simp
    · intro i hi'
      rw [List.length_append] at hi'
      by_cases hc' : i < ls.length
      · rw [uat i hc', lat i hc']
        obtain ⟨k1, k2⟩ := h6 i hc'
        refine ⟨(k1.move fun y hn hy => ?_).wide (Nat.le_refl _) (by simp; omega), ?_⟩
        · rcases k2 with g | g
          · exact absurd g hn
          · exact keep _ _ g hy
        · rcases k1.at_ with g | g
          · exact .inl g
          · exact .inr (by omega)
      · obtain ⟨j, rfl⟩ : ∃ j, i = ls.length + j := ⟨i - ls.length, by omega⟩
        have hj : j < ms.length := by omega
        rw [uat2 j hj, lat2 j hj]
        obtain ⟨k1, k2⟩ := g5 j hj
        refine ⟨(k1.move fun y hn hy => ?_).wide hl1 (by simp; omega), ?_⟩
        · rcases k1.at_ with g | g
          · exact absurd g hn
          · exact keep _ _ (by omega) hy
        · rcases k1.at_ with g | g
          · exact .inl g
          · exact .inr (by omega)
    · intro i j hij hi' hj'
      rw [List.length_append] at hi' hj'
      by_cases ci : i < ls.length <;> by_cases cj : j < ls.length
      · rw [uat i ci, uat j cj]; exact h7 i j hij ci cj
      · obtain ⟨j', rfl⟩ : ∃ j', j = ls.length + j' := ⟨j - ls.length, by omega⟩
        rw [uat i ci, uat2 j' (by omega)]; exact cross i j' ci (by omega)
      · obtain ⟨i', rfl⟩ : ∃ i', i = ls.length + i' := ⟨i - ls.length, by omega⟩
        rw [uat j cj, uat2 i' (by omega)]
        rcases cross j i' cj (by omega) with g | g | g
        · exact .inr (.inl g)
        · exact .inl g
        · exact .inr (.inr fun e => g e.symm)
      · obtain ⟨i', rfl⟩ : ∃ i', i = ls.length + i' := ⟨i - ls.length, by omega⟩
        obtain ⟨j', rfl⟩ : ∃ j', j = ls.length + j' := ⟨j - ls.length, by omega⟩
        rw [uat2 i' (by omega), uat2 j' (by omega)]
        exact g6 i' j' (by omega) (by omega) (by omega)
/-- the lists of a list of lists -/
theorem InL.parts {lo hi : Nat} {e2 e : TypeId} {H : AH} {v : Value} {ls : List (List Int)} (h : InL lo hi e2 e H v ls) : ∃ us : List Value, RowV e2 H v us ∧ us.length = ls.length ∧ ∀ i, i < ls.length → InI lo hi e H (us.getD i undef) (ls.getD i []) := by
  rcases h with ⟨h1, h2⟩ | ⟨o, us, h0, h1, h2, h3, h4, h5, h6⟩
  · subst h1; subst h2; exact ⟨[], .inl ⟨rfl, rfl⟩, rfl, fun i hi => absurd hi (by simp)⟩
  · refine ⟨us.take ls.length, .inr ⟨o, 0, us, false, by simp [h0, Nat.min_eq_left h4], h3, by simp; omega, by simp [Nat.min_eq_left h4]⟩, by simp; omega, fun i hi => ?_⟩
    have : (us.take ls.length).getD i undef = us.getD i undef := by
      rw [List.getD_eq_getElem?_getD, List.getD_eq_getElem?_getD, List.getElem?_take, if_pos hi]
    rw [this]
    exact (h5 i hi).1
end Go.Proofs.Ytlfongfhbkefmaa.Ai
