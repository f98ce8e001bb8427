/- The types of this translation: cells, bytes, zero values; by the kernel. -/
import Derived.Test.YthhnpchjjbjabaaProg
import Derived.Test.YthhnpchjjbjabaaAiM3
import Derived.KernelRfl
namespace Go.Proofs.Ythhnpchjjbjabaa.Ai
open Go
/- int -/
theorem cs3 : Try.prog.cellsOf 3 = 1 := by kernel_rfl
theorem by3 : Try.prog.bytesOf 3 = 8 := by kernel_rfl
theorem ag3 : isAggA Try.prog 3 = some false := by kernel_rfl
theorem ze3 : zeroA Try.prog 3 = some (.int .i64 0) := by kernel_rfl
theorem zk3 : zeroOk Try.prog 3 = true := by kernel_rfl
/- bool -/
theorem cs4 : Try.prog.cellsOf 4 = 1 := by kernel_rfl
theorem by4 : Try.prog.bytesOf 4 = 1 := by kernel_rfl
theorem ag4 : isAggA Try.prog 4 = some false := by kernel_rfl
theorem ze4 : zeroA Try.prog 4 = some (.bool false) := by kernel_rfl
theorem zk4 : zeroOk Try.prog 4 = true := by kernel_rfl
/- uint8 -/
theorem cs5 : Try.prog.cellsOf 5 = 1 := by kernel_rfl
theorem by5 : Try.prog.bytesOf 5 = 1 := by kernel_rfl
theorem ag5 : isAggA Try.prog 5 = some false := by kernel_rfl
theorem ze5 : zeroA Try.prog 5 = some (.int .u8 0) := by kernel_rfl
theorem zk5 : zeroOk Try.prog 5 = true := by kernel_rfl
/- string -/
theorem cs9 : Try.prog.cellsOf 9 = 1 := by kernel_rfl
theorem by9 : Try.prog.bytesOf 9 = 16 := by kernel_rfl
theorem ag9 : isAggA Try.prog 9 = some false := by kernel_rfl
theorem ze9 : zeroA Try.prog 9 = some (.string ⟨#[]⟩) := by kernel_rfl
theorem zk9 : zeroOk Try.prog 9 = true := by kernel_rfl
/- [][2]int -/
theorem cs22 : Try.prog.cellsOf 22 = 1 := by kernel_rfl
theorem by22 : Try.prog.bytesOf 22 = 24 := by kernel_rfl
theorem ag22 : isAggA Try.prog 22 = some false := by kernel_rfl
theorem ze22 : zeroA Try.prog 22 = some (.slice none 0 0) := by kernel_rfl
theorem zk22 : zeroOk Try.prog 22 = true := by kernel_rfl
/- laws.Graph -/
theorem cs24 : Try.prog.cellsOf 24 = 2 := by kernel_rfl
theorem by24 : Try.prog.bytesOf 24 = 32 := by kernel_rfl
theorem ag24 : isAggA Try.prog 24 = some true := by kernel_rfl
theorem ze24 : zeroA Try.prog 24 = some (.agg #[(.int .i64 0), (.slice none 0 0)]) := by kernel_rfl
theorem zk24 : zeroOk Try.prog 24 = true := by kernel_rfl
/- impl.Graph -/
theorem cs28 : Try.prog.cellsOf 28 = 2 := by kernel_rfl
theorem by28 : Try.prog.bytesOf 28 = 32 := by kernel_rfl
theorem ag28 : isAggA Try.prog 28 = some true := by kernel_rfl
theorem ze28 : zeroA Try.prog 28 = some (.agg #[(.int .i64 0), (.slice none 0 0)]) := by kernel_rfl
theorem zk28 : zeroOk Try.prog 28 = true := by kernel_rfl
/- func(laws.Graph) impl.Graph -/
theorem cs29 : Try.prog.cellsOf 29 = 1 := by kernel_rfl
theorem by29 : Try.prog.bytesOf 29 = 8 := by kernel_rfl
theorem ag29 : isAggA Try.prog 29 = some false := by kernel_rfl
theorem ze29 : zeroA Try.prog 29 = some .nilFunc := by kernel_rfl
theorem zk29 : zeroOk Try.prog 29 = true := by kernel_rfl
/- []int -/
theorem cs32 : Try.prog.cellsOf 32 = 1 := by kernel_rfl
theorem by32 : Try.prog.bytesOf 32 = 24 := by kernel_rfl
theorem ag32 : isAggA Try.prog 32 = some false := by kernel_rfl
theorem ze32 : zeroA Try.prog 32 = some (.slice none 0 0) := by kernel_rfl
theorem zk32 : zeroOk Try.prog 32 = true := by kernel_rfl
/- [][]int -/
theorem cs38 : Try.prog.cellsOf 38 = 1 := by kernel_rfl
theorem by38 : Try.prog.bytesOf 38 = 24 := by kernel_rfl
theorem ag38 : isAggA Try.prog 38 = some false := by kernel_rfl
theorem ze38 : zeroA Try.prog 38 = some (.slice none 0 0) := by kernel_rfl
theorem zk38 : zeroOk Try.prog 38 = true := by kernel_rfl
/- impl.Space -/
theorem cs40 : Try.prog.cellsOf 40 = 2 := by kernel_rfl
theorem by40 : Try.prog.bytesOf 40 = 48 := by kernel_rfl
theorem ag40 : isAggA Try.prog 40 = some true := by kernel_rfl
theorem ze40 : zeroA Try.prog 40 = some (.agg #[(.slice none 0 0), (.slice none 0 0)]) := by kernel_rfl
theorem zk40 : zeroOk Try.prog 40 = true := by kernel_rfl
/- map[int]int -/
theorem cs70 : Try.prog.cellsOf 70 = 1 := by kernel_rfl
theorem by70 : Try.prog.bytesOf 70 = 8 := by kernel_rfl
theorem ag70 : isAggA Try.prog 70 = some false := by kernel_rfl
theorem ze70 : zeroA Try.prog 70 = some (.map none) := by kernel_rfl
theorem zk70 : zeroOk Try.prog 70 = true := by kernel_rfl
/- [2]int -/
theorem cs76 : Try.prog.cellsOf 76 = 2 := by kernel_rfl
theorem by76 : Try.prog.bytesOf 76 = 16 := by kernel_rfl
theorem ag76 : isAggA Try.prog 76 = some true := by kernel_rfl
theorem ze76 : zeroA Try.prog 76 = some (.agg #[(.int .i64 0), (.int .i64 0)]) := by kernel_rfl
theorem zk76 : zeroOk Try.prog 76 = true := by kernel_rfl
/- func([][]int, func([]int, []int) bool) impl.Space -/
theorem cs78 : Try.prog.cellsOf 78 = 1 := by kernel_rfl
theorem by78 : Try.prog.bytesOf 78 = 8 := by kernel_rfl
theorem ag78 : isAggA Try.prog 78 = some false := by kernel_rfl
theorem ze78 : zeroA Try.prog 78 = some .nilFunc := by kernel_rfl
theorem zk78 : zeroOk Try.prog 78 = true := by kernel_rfl
/- func(impl.Graph, []int, []int) impl.Graph -/
theorem cs114 : Try.prog.cellsOf 114 = 1 := by kernel_rfl
theorem by114 : Try.prog.bytesOf 114 = 8 := by kernel_rfl
theorem ag114 : isAggA Try.prog 114 = some false := by kernel_rfl
theorem ze114 : zeroA Try.prog 114 = some .nilFunc := by kernel_rfl
theorem zk114 : zeroOk Try.prog 114 = true := by kernel_rfl
/- uint -/
theorem cs116 : Try.prog.cellsOf 116 = 1 := by kernel_rfl
theorem by116 : Try.prog.bytesOf 116 = 8 := by kernel_rfl
theorem ag116 : isAggA Try.prog 116 = some false := by kernel_rfl
theorem ze116 : zeroA Try.prog 116 = some (.int .u64 0) := by kernel_rfl
theorem zk116 : zeroOk Try.prog 116 = true := by kernel_rfl
/- impl.bag -/
theorem cs117 : Try.prog.cellsOf 117 = 1 := by kernel_rfl
theorem by117 : Try.prog.bytesOf 117 = 8 := by kernel_rfl
theorem ag117 : isAggA Try.prog 117 = some false := by kernel_rfl
theorem ze117 : zeroA Try.prog 117 = some (.int .u64 0) := by kernel_rfl
theorem zk117 : zeroOk Try.prog 117 = true := by kernel_rfl
/- func([]int) impl.bag -/
theorem cs118 : Try.prog.cellsOf 118 = 1 := by kernel_rfl
theorem by118 : Try.prog.bytesOf 118 = 8 := by kernel_rfl
theorem ag118 : isAggA Try.prog 118 = some false := by kernel_rfl
theorem ze118 : zeroA Try.prog 118 = some .nilFunc := by kernel_rfl
theorem zk118 : zeroOk Try.prog 118 = true := by kernel_rfl
/- []bool -/
theorem cs128 : Try.prog.cellsOf 128 = 1 := by kernel_rfl
theorem by128 : Try.prog.bytesOf 128 = 24 := by kernel_rfl
theorem ag128 : isAggA Try.prog 128 = some false := by kernel_rfl
theorem ze128 : zeroA Try.prog 128 = some (.slice none 0 0) := by kernel_rfl
theorem zk128 : zeroOk Try.prog 128 = true := by kernel_rfl
/- uint32 -/
theorem cs149 : Try.prog.cellsOf 149 = 1 := by kernel_rfl
theorem by149 : Try.prog.bytesOf 149 = 4 := by kernel_rfl
theorem ag149 : isAggA Try.prog 149 = some false := by kernel_rfl
theorem ze149 : zeroA Try.prog 149 = some (.int .u32 0) := by kernel_rfl
theorem zk149 : zeroOk Try.prog 149 = true := by kernel_rfl
/- uint64 -/
theorem cs151 : Try.prog.cellsOf 151 = 1 := by kernel_rfl
theorem by151 : Try.prog.bytesOf 151 = 8 := by kernel_rfl
theorem ag151 : isAggA Try.prog 151 = some false := by kernel_rfl
theorem ze151 : zeroA Try.prog 151 = some (.int .u64 0) := by kernel_rfl
theorem zk151 : zeroOk Try.prog 151 = true := by kernel_rfl
theorem own1_22 {H0 H : AH} {v : Value} {ps : List (Int × Int)} (h : MineP 76 H0 H v ps) (hp : H0 <+: H) (hb : ps.length ≤ 1099511627775) (a b : Int) : ∃ v' H', appendA Try.prog 22 22 v (.slice (some ⟨H.length, 0, none⟩) 1 1) (H ++ [.cells [.int .i64 a, .int .i64 b] 76 false]) = some (v', H') ∧ MineP 76 H0 H' v' (ps ++ [(a, b)]) ∧ H0 <+: H' ∧ Kept v H H' ∧ H.length ≤ rowO v' ∧ isTup v' = false := MineP.app1 Try.underlying22 cs76 (by rw [by76]; decide) zk76 h hp hb a b
theorem mks22 {n : Int} (h0 : 0 ≤ n) (h1 : n ≤ 1099511627776) (H : AH) : makeSliceA Try.prog 22 (.int .i64 n) (.int .i64 n) H = some (.slice (some ⟨H.length, 0, none⟩) n.toNat n.toNat, H ++ [.cells (ints (flat (List.replicate n.toNat (0, 0)))) 76 false]) := mk_prs Try.underlying22 cs76 (by rw [by76]; decide) ze76 h0 h1 H
theorem app32 {H : AH} {o : Nat} {vs : List Value} {v : Value} {n c : Nat} (ho : H[o]? = some (.cells vs 3 false)) (hn : vs.length = n) (hb : n ≤ 1099511627776) : appendA Try.prog 32 32 (.slice (some ⟨o, 0, none⟩) n c) (.slice (some ⟨H.length, 0, none⟩) 1 1) (H ++ [.cells [v] 3 false]) = some (.slice (some ⟨H.length + 1, 0, none⟩) (n + 1) (n + 1), H.set o .dead ++ [.cells [v] 3 false, .cells (vs ++ [v]) 3 false]) := app_one Try.underlying32 cs3 (by rw [by3]; decide) zk3 ho hn hb
theorem mks32 {n : Int} (h0 : 0 ≤ n) (h1 : n ≤ 1099511627776) (H : AH) : makeSliceA Try.prog 32 (.int .i64 n) (.int .i64 n) H = some (.slice (some ⟨H.length, 0, none⟩) n.toNat n.toNat, H ++ [.cells (ints (List.replicate n.toNat 0)) 3 false]) := mk_ints Try.underlying32 cs3 (by rw [by3]; decide) ze3 h0 h1 H
theorem own1_32 {H0 H : AH} {v : Value} {ys : List Int} (h : Own 3 H0 H v ys) (hp : H0 <+: H) (hb : ys.length ≤ 1099511627775) (x : Int) : ∃ v' H', appendA Try.prog 32 32 v (.slice (some ⟨H.length, 0, none⟩) 1 1) (H ++ [.cells [.int .i64 x] 3 false]) = some (v', H') ∧ Own 3 H0 H' v' (ys ++ [x]) ∧ H0 <+: H' ∧ Kept v H H' ∧ H.length ≤ rowO v' ∧ isTup v' = false := Own.app1 Try.underlying32 cs3 (by rw [by3]; decide) zk3 h hp hb x
theorem appi32 {H : AH} {o : Nat} {xs : List Int} {x : Int} {n c : Nat} (ho : H[o]? = some (.cells (ints xs) 3 false)) (hn : xs.length = n) (hb : n ≤ 1099511627776) : appendA Try.prog 32 32 (.slice (some ⟨o, 0, none⟩) n c) (.slice (some ⟨H.length, 0, none⟩) 1 1) (H ++ [.cells [.int .i64 x] 3 false]) = some (.slice (some ⟨H.length + 1, 0, none⟩) (n + 1) (n + 1), H.set o .dead ++ [.cells [.int .i64 x] 3 false, .cells (ints (xs ++ [x])) 3 false]) := by rw [ints_app]; exact app32 ho (by rw [ints_len]; exact hn) hb
theorem app38 {H : AH} {o : Nat} {vs : List Value} {v : Value} {n c : Nat} (ho : H[o]? = some (.cells vs 32 false)) (hn : vs.length = n) (hb : n ≤ 1099511627776) : appendA Try.prog 38 38 (.slice (some ⟨o, 0, none⟩) n c) (.slice (some ⟨H.length, 0, none⟩) 1 1) (H ++ [.cells [v] 32 false]) = some (.slice (some ⟨H.length + 1, 0, none⟩) (n + 1) (n + 1), H.set o .dead ++ [.cells [v] 32 false, .cells (vs ++ [v]) 32 false]) := app_one Try.underlying38 cs32 (by rw [by32]; decide) zk32 ho hn hb
theorem ixa76 (p : Addr) (k : IntKind) {i : Int} (h0 : 0 ≤ i) (h1 : i < 2) : indexAddrA Try.prog 76 (.pointer (some p)) (.int k i) = some (.pointer (some ⟨p.block, p.off + i.toNat, none⟩)) := ix_arr Try.underlying76 cs3 p k h0 h1
theorem app128 {H : AH} {o : Nat} {vs : List Value} {v : Value} {n c : Nat} (ho : H[o]? = some (.cells vs 4 false)) (hn : vs.length = n) (hb : n ≤ 1099511627776) : appendA Try.prog 128 128 (.slice (some ⟨o, 0, none⟩) n c) (.slice (some ⟨H.length, 0, none⟩) 1 1) (H ++ [.cells [v] 4 false]) = some (.slice (some ⟨H.length + 1, 0, none⟩) (n + 1) (n + 1), H.set o .dead ++ [.cells [v] 4 false, .cells (vs ++ [v]) 4 false]) := app_one Try.underlying128 cs4 (by rw [by4]; decide) zk4 ho hn hb
theorem ST : (∀ p H, loadA Try.prog 3 (.pointer (some p)) H = cellA H p.block p.off) ∧
    (∀ p H, loadA Try.prog 4 (.pointer (some p)) H = cellA H p.block p.off) ∧
    (∀ a b, binA Try.prog .eql 4 (.bool a) (.bool b) = some (.bool (decide (a = b)))) ∧
    (∀ a b, binA Try.prog .neq 4 (.bool a) (.bool b) = some (.bool (decide (a ≠ b)))) ∧
    (∀ p H, loadA Try.prog 5 (.pointer (some p)) H = cellA H p.block p.off) ∧
    (∀ p H, loadA Try.prog 9 (.pointer (some p)) H = cellA H p.block p.off) ∧
    (∀ p H, loadA Try.prog 22 (.pointer (some p)) H = cellA H p.block p.off) ∧
    (∀ H, buildSliceA Try.prog 22 0 [] H = some (.slice (some ⟨H.length, 0, none⟩) 0 0, H ++ [.cells [] 76 false])) ∧
    (∀ H a b, buildSliceA Try.prog 22 1 [(0, .agg (List.toArray [a, b]))] H = some (.slice (some ⟨H.length, 0, none⟩) 1 1, H ++ [.cells [a, b] 76 false])) ∧
    (∀ (p : Addr) (n c : Nat) (k : IntKind) {i : Int}, 0 ≤ i → i < (n : Int) → indexAddrA Try.prog 22 (.slice (some p) n c) (.int k i) = some (.pointer (some ⟨p.block, p.off + 2 * i.toNat, none⟩))) ∧
    (∀ a n c m d, binA Try.prog .eql 22 (.slice a n c) (.slice none m d) = some (.bool (a.isNone))) ∧
    (∀ a n c m d, binA Try.prog .neq 22 (.slice a n c) (.slice none m d) = some (.bool (!a.isNone))) ∧
    (∀ x H, lenS Try.prog 22 x H = lenA Try.prog 22 x) ∧
    (∀ p n c, lenA Try.prog 22 (.slice p n c) = some (.int .i64 n)) ∧
    (∀ (p : Addr), fieldAddrA Try.prog 24 (.pointer (some p)) 0 = some (.pointer (some ⟨p.block, p.off, none⟩))) ∧
    (∀ (p : Addr), fieldAddrA Try.prog 24 (.pointer (some p)) 1 = some (.pointer (some ⟨p.block, p.off + 1, none⟩))) ∧
    (∀ (p : Addr), fieldAddrA Try.prog 28 (.pointer (some p)) 0 = some (.pointer (some ⟨p.block, p.off, none⟩))) ∧
    (∀ (p : Addr), fieldAddrA Try.prog 28 (.pointer (some p)) 1 = some (.pointer (some ⟨p.block, p.off + 1, none⟩))) ∧
    (∀ p H, loadA Try.prog 29 (.pointer (some p)) H = cellA H p.block p.off) ∧
    (∀ p H, loadA Try.prog 32 (.pointer (some p)) H = cellA H p.block p.off) ∧
    (∀ (p : Addr) (n c : Nat) (k : IntKind) {i : Int}, 0 ≤ i → i < (n : Int) → indexAddrA Try.prog 32 (.slice (some p) n c) (.int k i) = some (.pointer (some ⟨p.block, p.off + i.toNat, none⟩))) ∧
    (∀ H, buildSliceA Try.prog 32 0 [] H = some (.slice (some ⟨H.length, 0, none⟩) 0 0, H ++ [.cells [] 3 false])) ∧
    (∀ H k0 x0, buildSliceA Try.prog 32 1 [(0, (.int k0 x0))] H = some (.slice (some ⟨H.length, 0, none⟩) 1 1, H ++ [.cells [(.int k0 x0)] 3 false])) ∧
    (∀ H k0 x0 k1 x1, buildSliceA Try.prog 32 2 [(0, (.int k0 x0)), (1, (.int k1 x1))] H = some (.slice (some ⟨H.length, 0, none⟩) 2 2, H ++ [.cells [(.int k0 x0), (.int k1 x1)] 3 false])) ∧
    (∀ H k0 x0 k1 x1 k2 x2, buildSliceA Try.prog 32 3 [(0, (.int k0 x0)), (1, (.int k1 x1)), (2, (.int k2 x2))] H = some (.slice (some ⟨H.length, 0, none⟩) 3 3, H ++ [.cells [(.int k0 x0), (.int k1 x1), (.int k2 x2)] 3 false])) ∧
    (∀ a n c m d, binA Try.prog .eql 32 (.slice a n c) (.slice none m d) = some (.bool (a.isNone))) ∧
    (∀ a n c m d, binA Try.prog .neq 32 (.slice a n c) (.slice none m d) = some (.bool (!a.isNone))) ∧
    (∀ x H, lenS Try.prog 32 x H = lenA Try.prog 32 x) ∧
    (∀ p n c, lenA Try.prog 32 (.slice p n c) = some (.int .i64 n)) ∧
    (∀ p H, loadA Try.prog 38 (.pointer (some p)) H = cellA H p.block p.off) ∧
    (∀ (p : Addr) (n c : Nat) (k : IntKind) {i : Int}, 0 ≤ i → i < (n : Int) → indexAddrA Try.prog 38 (.slice (some p) n c) (.int k i) = some (.pointer (some ⟨p.block, p.off + i.toNat, none⟩))) ∧
    (∀ H, buildSliceA Try.prog 38 0 [] H = some (.slice (some ⟨H.length, 0, none⟩) 0 0, H ++ [.cells [] 32 false])) ∧
    (∀ H p0 n0 c0, buildSliceA Try.prog 38 1 [(0, (.slice p0 n0 c0))] H = some (.slice (some ⟨H.length, 0, none⟩) 1 1, H ++ [.cells [(.slice p0 n0 c0)] 32 false])) ∧
    (∀ H p0 n0 c0 p1 n1 c1, buildSliceA Try.prog 38 2 [(0, (.slice p0 n0 c0)), (1, (.slice p1 n1 c1))] H = some (.slice (some ⟨H.length, 0, none⟩) 2 2, H ++ [.cells [(.slice p0 n0 c0), (.slice p1 n1 c1)] 32 false])) ∧
    (∀ H p0 n0 c0 p1 n1 c1 p2 n2 c2, buildSliceA Try.prog 38 3 [(0, (.slice p0 n0 c0)), (1, (.slice p1 n1 c1)), (2, (.slice p2 n2 c2))] H = some (.slice (some ⟨H.length, 0, none⟩) 3 3, H ++ [.cells [(.slice p0 n0 c0), (.slice p1 n1 c1), (.slice p2 n2 c2)] 32 false])) ∧
    (∀ a n c m d, binA Try.prog .eql 38 (.slice a n c) (.slice none m d) = some (.bool (a.isNone))) ∧
    (∀ a n c m d, binA Try.prog .neq 38 (.slice a n c) (.slice none m d) = some (.bool (!a.isNone))) ∧
    (∀ x H, lenS Try.prog 38 x H = lenA Try.prog 38 x) ∧
    (∀ p n c, lenA Try.prog 38 (.slice p n c) = some (.int .i64 n)) ∧
    (∀ (p : Addr), fieldAddrA Try.prog 40 (.pointer (some p)) 0 = some (.pointer (some ⟨p.block, p.off, none⟩))) ∧
    (∀ (p : Addr), fieldAddrA Try.prog 40 (.pointer (some p)) 1 = some (.pointer (some ⟨p.block, p.off + 1, none⟩))) ∧
    (∀ p H, loadA Try.prog 70 (.pointer (some p)) H = cellA H p.block p.off) ∧
    (∀ x H, lenS Try.prog 70 x H = lenMapA Try.prog 70 x H) ∧
    (∀ (p : Addr) (k : IntKind), indexAddrA Try.prog 76 (.pointer (some p)) (.int k 0) = some (.pointer (some ⟨p.block, p.off, none⟩))) ∧
    (∀ (p : Addr) (k : IntKind), indexAddrA Try.prog 76 (.pointer (some p)) (.int k 1) = some (.pointer (some ⟨p.block, p.off + 1, none⟩))) ∧
    (∀ p H, loadA Try.prog 78 (.pointer (some p)) H = cellA H p.block p.off) ∧
    (∀ p H, loadA Try.prog 114 (.pointer (some p)) H = cellA H p.block p.off) ∧
    (∀ p H, loadA Try.prog 116 (.pointer (some p)) H = cellA H p.block p.off) ∧
    (∀ p H, loadA Try.prog 117 (.pointer (some p)) H = cellA H p.block p.off) ∧
    (∀ p H, loadA Try.prog 118 (.pointer (some p)) H = cellA H p.block p.off) ∧
    (∀ p H, loadA Try.prog 128 (.pointer (some p)) H = cellA H p.block p.off) ∧
    (∀ (p : Addr) (n c : Nat) (k : IntKind) {i : Int}, 0 ≤ i → i < (n : Int) → indexAddrA Try.prog 128 (.slice (some p) n c) (.int k i) = some (.pointer (some ⟨p.block, p.off + i.toNat, none⟩))) ∧
    (∀ H, buildSliceA Try.prog 128 0 [] H = some (.slice (some ⟨H.length, 0, none⟩) 0 0, H ++ [.cells [] 4 false])) ∧
    (∀ H x0, buildSliceA Try.prog 128 1 [(0, (.bool x0))] H = some (.slice (some ⟨H.length, 0, none⟩) 1 1, H ++ [.cells [(.bool x0)] 4 false])) ∧
    (∀ H x0 x1, buildSliceA Try.prog 128 2 [(0, (.bool x0)), (1, (.bool x1))] H = some (.slice (some ⟨H.length, 0, none⟩) 2 2, H ++ [.cells [(.bool x0), (.bool x1)] 4 false])) ∧
    (∀ H x0 x1 x2, buildSliceA Try.prog 128 3 [(0, (.bool x0)), (1, (.bool x1)), (2, (.bool x2))] H = some (.slice (some ⟨H.length, 0, none⟩) 3 3, H ++ [.cells [(.bool x0), (.bool x1), (.bool x2)] 4 false])) ∧
    (∀ a n c m d, binA Try.prog .eql 128 (.slice a n c) (.slice none m d) = some (.bool (a.isNone))) ∧
    (∀ a n c m d, binA Try.prog .neq 128 (.slice a n c) (.slice none m d) = some (.bool (!a.isNone))) ∧
    (∀ x H, lenS Try.prog 128 x H = lenA Try.prog 128 x) ∧
    (∀ p n c, lenA Try.prog 128 (.slice p n c) = some (.int .i64 n)) ∧
    (∀ p H, loadA Try.prog 149 (.pointer (some p)) H = cellA H p.block p.off) ∧
    (∀ p H, loadA Try.prog 151 (.pointer (some p)) H = cellA H p.block p.off) ∧
    (∀ k n, convA Try.prog 3 5 (.int k n) = some (.int .u8 (IntKind.u8.wrap n))) ∧
    (∀ k n, convA Try.prog 3 116 (.int k n) = some (.int .u64 (IntKind.u64.wrap n))) ∧
    (∀ k n, convA Try.prog 3 117 (.int k n) = some (.int .u64 (IntKind.u64.wrap n))) ∧
    (∀ k n, convA Try.prog 3 149 (.int k n) = some (.int .u32 (IntKind.u32.wrap n))) ∧
    (∀ k n, convA Try.prog 3 151 (.int k n) = some (.int .u64 (IntKind.u64.wrap n))) ∧
    (∀ k n, convA Try.prog 5 3 (.int k n) = some (.int .i64 (IntKind.i64.wrap n))) ∧
    (∀ k n, convA Try.prog 5 116 (.int k n) = some (.int .u64 (IntKind.u64.wrap n))) ∧
    (∀ k n, convA Try.prog 5 117 (.int k n) = some (.int .u64 (IntKind.u64.wrap n))) ∧
    (∀ k n, convA Try.prog 5 149 (.int k n) = some (.int .u32 (IntKind.u32.wrap n))) ∧
    (∀ k n, convA Try.prog 5 151 (.int k n) = some (.int .u64 (IntKind.u64.wrap n))) ∧
    (∀ k n, convA Try.prog 116 3 (.int k n) = some (.int .i64 (IntKind.i64.wrap n))) ∧
    (∀ k n, convA Try.prog 116 5 (.int k n) = some (.int .u8 (IntKind.u8.wrap n))) ∧
    (∀ k n, convA Try.prog 116 117 (.int k n) = some (.int .u64 (IntKind.u64.wrap n))) ∧
    (∀ k n, convA Try.prog 116 149 (.int k n) = some (.int .u32 (IntKind.u32.wrap n))) ∧
    (∀ k n, convA Try.prog 116 151 (.int k n) = some (.int .u64 (IntKind.u64.wrap n))) ∧
    (∀ k n, convA Try.prog 117 3 (.int k n) = some (.int .i64 (IntKind.i64.wrap n))) ∧
    (∀ k n, convA Try.prog 117 5 (.int k n) = some (.int .u8 (IntKind.u8.wrap n))) ∧
    (∀ k n, convA Try.prog 117 116 (.int k n) = some (.int .u64 (IntKind.u64.wrap n))) ∧
    (∀ k n, convA Try.prog 117 149 (.int k n) = some (.int .u32 (IntKind.u32.wrap n))) ∧
    (∀ k n, convA Try.prog 117 151 (.int k n) = some (.int .u64 (IntKind.u64.wrap n))) ∧
    (∀ k n, convA Try.prog 149 3 (.int k n) = some (.int .i64 (IntKind.i64.wrap n))) ∧
    (∀ k n, convA Try.prog 149 5 (.int k n) = some (.int .u8 (IntKind.u8.wrap n))) ∧
    (∀ k n, convA Try.prog 149 116 (.int k n) = some (.int .u64 (IntKind.u64.wrap n))) ∧
    (∀ k n, convA Try.prog 149 117 (.int k n) = some (.int .u64 (IntKind.u64.wrap n))) ∧
    (∀ k n, convA Try.prog 149 151 (.int k n) = some (.int .u64 (IntKind.u64.wrap n))) ∧
    (∀ k n, convA Try.prog 151 3 (.int k n) = some (.int .i64 (IntKind.i64.wrap n))) ∧
    (∀ k n, convA Try.prog 151 5 (.int k n) = some (.int .u8 (IntKind.u8.wrap n))) ∧
    (∀ k n, convA Try.prog 151 116 (.int k n) = some (.int .u64 (IntKind.u64.wrap n))) ∧
    (∀ k n, convA Try.prog 151 117 (.int k n) = some (.int .u64 (IntKind.u64.wrap n))) ∧
    (∀ k n, convA Try.prog 151 149 (.int k n) = some (.int .u32 (IntKind.u32.wrap n))) :=
  ⟨ld_one ag3,
   ld_one ag4,
   eq_bool_eql Try.underlying4,
   eq_bool_neq Try.underlying4,
   ld_one ag5,
   ld_one ag9,
   ld_one ag22,
   bsP0 Try.underlying22 cs76 ze76 ⟨by kernel_rfl, by kernel_rfl⟩,
   bsP1 Try.underlying22 cs76 ze76,
   ix_two Try.underlying22 cs76,
   eq_nil_eql Try.underlying22,
   eq_nil_neq Try.underlying22,
   lenS_sl (by decide),
   ln_sl Try.underlying22,
   fun p => by kernel_rfl,
   fun p => by kernel_rfl,
   fun p => by kernel_rfl,
   fun p => by kernel_rfl,
   ld_one ag29,
   ld_one ag32,
   ix_one Try.underlying32 cs3,
   bs0 Try.underlying32 cs3 ze3 ⟨by kernel_rfl, by kernel_rfl⟩,
   fun H _ _ => bs1 Try.underlying32 cs3 ze3 ⟨by kernel_rfl, by kernel_rfl⟩ H rfl,
   fun H _ _ _ _ => bs2 Try.underlying32 cs3 ze3 ⟨by kernel_rfl, by kernel_rfl⟩ H rfl rfl,
   fun H _ _ _ _ _ _ => bs3 Try.underlying32 cs3 ze3 ⟨by kernel_rfl, by kernel_rfl⟩ H rfl rfl rfl,
   eq_nil_eql Try.underlying32,
   eq_nil_neq Try.underlying32,
   lenS_sl (by decide),
   ln_sl Try.underlying32,
   ld_one ag38,
   ix_one Try.underlying38 cs32,
   bs0 Try.underlying38 cs32 ze32 ⟨by kernel_rfl, by kernel_rfl⟩,
   fun H _ _ _ => bs1 Try.underlying38 cs32 ze32 ⟨by kernel_rfl, by kernel_rfl⟩ H rfl,
   fun H _ _ _ _ _ _ => bs2 Try.underlying38 cs32 ze32 ⟨by kernel_rfl, by kernel_rfl⟩ H rfl rfl,
   fun H _ _ _ _ _ _ _ _ _ => bs3 Try.underlying38 cs32 ze32 ⟨by kernel_rfl, by kernel_rfl⟩ H rfl rfl rfl,
   eq_nil_eql Try.underlying38,
   eq_nil_neq Try.underlying38,
   lenS_sl (by decide),
   ln_sl Try.underlying38,
   fun p => by kernel_rfl,
   fun p => by kernel_rfl,
   ld_one ag70,
   lenS_map,
   fun p k => ix_arr Try.underlying76 cs3 p k (by decide) (by decide),
   fun p k => ix_arr Try.underlying76 cs3 p k (by decide) (by decide),
   ld_one ag78,
   ld_one ag114,
   ld_one ag116,
   ld_one ag117,
   ld_one ag118,
   ld_one ag128,
   ix_one Try.underlying128 cs4,
   bs0 Try.underlying128 cs4 ze4 ⟨by kernel_rfl, by kernel_rfl⟩,
   fun H _ => bs1 Try.underlying128 cs4 ze4 ⟨by kernel_rfl, by kernel_rfl⟩ H rfl,
   fun H _ _ => bs2 Try.underlying128 cs4 ze4 ⟨by kernel_rfl, by kernel_rfl⟩ H rfl rfl,
   fun H _ _ _ => bs3 Try.underlying128 cs4 ze4 ⟨by kernel_rfl, by kernel_rfl⟩ H rfl rfl rfl,
   eq_nil_eql Try.underlying128,
   eq_nil_neq Try.underlying128,
   lenS_sl (by decide),
   ln_sl Try.underlying128,
   ld_one ag149,
   ld_one ag151,
   fun _ _ => by simp only [convA, Try.underlying3, Try.underlying5],
   fun _ _ => by simp only [convA, Try.underlying3, Try.underlying116],
   fun _ _ => by simp only [convA, Try.underlying3, Try.underlying117],
   fun _ _ => by simp only [convA, Try.underlying3, Try.underlying149],
   fun _ _ => by simp only [convA, Try.underlying3, Try.underlying151],
   fun _ _ => by simp only [convA, Try.underlying5, Try.underlying3],
   fun _ _ => by simp only [convA, Try.underlying5, Try.underlying116],
   fun _ _ => by simp only [convA, Try.underlying5, Try.underlying117],
   fun _ _ => by simp only [convA, Try.underlying5, Try.underlying149],
   fun _ _ => by simp only [convA, Try.underlying5, Try.underlying151],
   fun _ _ => by simp only [convA, Try.underlying116, Try.underlying3],
   fun _ _ => by simp only [convA, Try.underlying116, Try.underlying5],
   fun _ _ => by simp only [convA, Try.underlying116, Try.underlying117],
   fun _ _ => by simp only [convA, Try.underlying116, Try.underlying149],
   fun _ _ => by simp only [convA, Try.underlying116, Try.underlying151],
   fun _ _ => by simp only [convA, Try.underlying117, Try.underlying3],
   fun _ _ => by simp only [convA, Try.underlying117, Try.underlying5],
   fun _ _ => by simp only [convA, Try.underlying117, Try.underlying116],
   fun _ _ => by simp only [convA, Try.underlying117, Try.underlying149],
   fun _ _ => by simp only [convA, Try.underlying117, Try.underlying151],
   fun _ _ => by simp only [convA, Try.underlying149, Try.underlying3],
   fun _ _ => by simp only [convA, Try.underlying149, Try.underlying5],
   fun _ _ => by simp only [convA, Try.underlying149, Try.underlying116],
   fun _ _ => by simp only [convA, Try.underlying149, Try.underlying117],
   fun _ _ => by simp only [convA, Try.underlying149, Try.underlying151],
   fun _ _ => by simp only [convA, Try.underlying151, Try.underlying3],
   fun _ _ => by simp only [convA, Try.underlying151, Try.underlying5],
   fun _ _ => by simp only [convA, Try.underlying151, Try.underlying116],
   fun _ _ => by simp only [convA, Try.underlying151, Try.underlying117],
   fun _ _ => by simp only [convA, Try.underlying151, Try.underlying149]⟩
end Go.Proofs.Ythhnpchjjbjabaa.Ai
