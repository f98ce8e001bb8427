/- The types of this translation: cells, bytes, zero values; by the kernel. -/
import Derived.Test.YtahakecifgjcnaaProg
import Derived.Test.YtahakecifgjcnaaAiM3
import Derived.KernelRfl
namespace Go.Proofs.Ytahakecifgjcnaa.Ai
open Go
/- int -/
theorem cs3 : Try.prog.cellsOf 3 = 1 := by kernel_rfl
theorem by3 : Try.prog.bytesOf 3 = 8 := by kernel_rfl
theorem ag3 : isAggA Try.prog 3 = some false := by kernel_rfl
theorem ze3 : zeroA Try.prog 3 = some (.int .i64 0) := by kernel_rfl
theorem zk3 : zeroOk Try.prog 3 = true := by kernel_rfl
/- bool -/
theorem cs4 : Try.prog.cellsOf 4 = 1 := by kernel_rfl
theorem by4 : Try.prog.bytesOf 4 = 1 := by kernel_rfl
theorem ag4 : isAggA Try.prog 4 = some false := by kernel_rfl
theorem ze4 : zeroA Try.prog 4 = some (.bool false) := by kernel_rfl
theorem zk4 : zeroOk Try.prog 4 = true := by kernel_rfl
/- uint8 -/
theorem cs5 : Try.prog.cellsOf 5 = 1 := by kernel_rfl
theorem by5 : Try.prog.bytesOf 5 = 1 := by kernel_rfl
theorem ag5 : isAggA Try.prog 5 = some false := by kernel_rfl
theorem ze5 : zeroA Try.prog 5 = some (.int .u8 0) := by kernel_rfl
theorem zk5 : zeroOk Try.prog 5 = true := by kernel_rfl
/- string -/
theorem cs9 : Try.prog.cellsOf 9 = 1 := by kernel_rfl
theorem by9 : Try.prog.bytesOf 9 = 16 := by kernel_rfl
theorem ag9 : isAggA Try.prog 9 = some false := by kernel_rfl
theorem ze9 : zeroA Try.prog 9 = some (.string ⟨#[]⟩) := by kernel_rfl
theorem zk9 : zeroOk Try.prog 9 = true := by kernel_rfl
/- []int -/
theorem cs22 : Try.prog.cellsOf 22 = 1 := by kernel_rfl
theorem by22 : Try.prog.bytesOf 22 = 24 := by kernel_rfl
theorem ag22 : isAggA Try.prog 22 = some false := by kernel_rfl
theorem ze22 : zeroA Try.prog 22 = some (.slice none 0 0) := by kernel_rfl
theorem zk22 : zeroOk Try.prog 22 = true := by kernel_rfl
/- [][2]int -/
theorem cs23 : Try.prog.cellsOf 23 = 1 := by kernel_rfl
theorem by23 : Try.prog.bytesOf 23 = 24 := by kernel_rfl
theorem ag23 : isAggA Try.prog 23 = some false := by kernel_rfl
theorem ze23 : zeroA Try.prog 23 = some (.slice none 0 0) := by kernel_rfl
theorem zk23 : zeroOk Try.prog 23 = true := by kernel_rfl
/- laws.Graph -/
theorem cs37 : Try.prog.cellsOf 37 = 2 := by kernel_rfl
theorem by37 : Try.prog.bytesOf 37 = 32 := by kernel_rfl
theorem ag37 : isAggA Try.prog 37 = some true := by kernel_rfl
theorem ze37 : zeroA Try.prog 37 = some (.agg #[(.int .i64 0), (.slice none 0 0)]) := by kernel_rfl
theorem zk37 : zeroOk Try.prog 37 = true := by kernel_rfl
/- impl.Graph -/
theorem cs41 : Try.prog.cellsOf 41 = 2 := by kernel_rfl
theorem by41 : Try.prog.bytesOf 41 = 32 := by kernel_rfl
theorem ag41 : isAggA Try.prog 41 = some true := by kernel_rfl
theorem ze41 : zeroA Try.prog 41 = some (.agg #[(.int .i64 0), (.slice none 0 0)]) := by kernel_rfl
theorem zk41 : zeroOk Try.prog 41 = true := by kernel_rfl
/- func(laws.Graph) impl.Graph -/
theorem cs42 : Try.prog.cellsOf 42 = 1 := by kernel_rfl
theorem by42 : Try.prog.bytesOf 42 = 8 := by kernel_rfl
theorem ag42 : isAggA Try.prog 42 = some false := by kernel_rfl
theorem ze42 : zeroA Try.prog 42 = some .nilFunc := by kernel_rfl
theorem zk42 : zeroOk Try.prog 42 = true := by kernel_rfl
/- [][]int -/
theorem cs47 : Try.prog.cellsOf 47 = 1 := by kernel_rfl
theorem by47 : Try.prog.bytesOf 47 = 24 := by kernel_rfl
theorem ag47 : isAggA Try.prog 47 = some false := by kernel_rfl
theorem ze47 : zeroA Try.prog 47 = some (.slice none 0 0) := by kernel_rfl
theorem zk47 : zeroOk Try.prog 47 = true := by kernel_rfl
/- impl.Space -/
theorem cs49 : Try.prog.cellsOf 49 = 2 := by kernel_rfl
theorem by49 : Try.prog.bytesOf 49 = 48 := by kernel_rfl
theorem ag49 : isAggA Try.prog 49 = some true := by kernel_rfl
theorem ze49 : zeroA Try.prog 49 = some (.agg #[(.slice none 0 0), (.slice none 0 0)]) := by kernel_rfl
theorem zk49 : zeroOk Try.prog 49 = true := by kernel_rfl
/- [2]int -/
theorem cs66 : Try.prog.cellsOf 66 = 2 := by kernel_rfl
theorem by66 : Try.prog.bytesOf 66 = 16 := by kernel_rfl
theorem ag66 : isAggA Try.prog 66 = some true := by kernel_rfl
theorem ze66 : zeroA Try.prog 66 = some (.agg #[(.int .i64 0), (.int .i64 0)]) := by kernel_rfl
theorem zk66 : zeroOk Try.prog 66 = true := by kernel_rfl
/- func(int) impl.Space -/
theorem cs84 : Try.prog.cellsOf 84 = 1 := by kernel_rfl
theorem by84 : Try.prog.bytesOf 84 = 8 := by kernel_rfl
theorem ag84 : isAggA Try.prog 84 = some false := by kernel_rfl
theorem ze84 : zeroA Try.prog 84 = some .nilFunc := by kernel_rfl
theorem zk84 : zeroOk Try.prog 84 = true := by kernel_rfl
/- func([][]int, func([]int, []int) bool) impl.Space -/
theorem cs85 : Try.prog.cellsOf 85 = 1 := by kernel_rfl
theorem by85 : Try.prog.bytesOf 85 = 8 := by kernel_rfl
theorem ag85 : isAggA Try.prog 85 = some false := by kernel_rfl
theorem ze85 : zeroA Try.prog 85 = some .nilFunc := by kernel_rfl
theorem zk85 : zeroOk Try.prog 85 = true := by kernel_rfl
/- map[int]int -/
theorem cs99 : Try.prog.cellsOf 99 = 1 := by kernel_rfl
theorem by99 : Try.prog.bytesOf 99 = 8 := by kernel_rfl
theorem ag99 : isAggA Try.prog 99 = some false := by kernel_rfl
theorem ze99 : zeroA Try.prog 99 = some (.map none) := by kernel_rfl
theorem zk99 : zeroOk Try.prog 99 = true := by kernel_rfl
/- uint -/
theorem cs110 : Try.prog.cellsOf 110 = 1 := by kernel_rfl
theorem by110 : Try.prog.bytesOf 110 = 8 := by kernel_rfl
theorem ag110 : isAggA Try.prog 110 = some false := by kernel_rfl
theorem ze110 : zeroA Try.prog 110 = some (.int .u64 0) := by kernel_rfl
theorem zk110 : zeroOk Try.prog 110 = true := by kernel_rfl
/- impl.bag -/
theorem cs111 : Try.prog.cellsOf 111 = 1 := by kernel_rfl
theorem by111 : Try.prog.bytesOf 111 = 8 := by kernel_rfl
theorem ag111 : isAggA Try.prog 111 = some false := by kernel_rfl
theorem ze111 : zeroA Try.prog 111 = some (.int .u64 0) := by kernel_rfl
theorem zk111 : zeroOk Try.prog 111 = true := by kernel_rfl
/- []bool -/
theorem cs134 : Try.prog.cellsOf 134 = 1 := by kernel_rfl
theorem by134 : Try.prog.bytesOf 134 = 24 := by kernel_rfl
theorem ag134 : isAggA Try.prog 134 = some false := by kernel_rfl
theorem ze134 : zeroA Try.prog 134 = some (.slice none 0 0) := by kernel_rfl
theorem zk134 : zeroOk Try.prog 134 = true := by kernel_rfl
/- uint32 -/
theorem cs147 : Try.prog.cellsOf 147 = 1 := by kernel_rfl
theorem by147 : Try.prog.bytesOf 147 = 4 := by kernel_rfl
theorem ag147 : isAggA Try.prog 147 = some false := by kernel_rfl
theorem ze147 : zeroA Try.prog 147 = some (.int .u32 0) := by kernel_rfl
theorem zk147 : zeroOk Try.prog 147 = true := by kernel_rfl
/- uint64 -/
theorem cs149 : Try.prog.cellsOf 149 = 1 := by kernel_rfl
theorem by149 : Try.prog.bytesOf 149 = 8 := by kernel_rfl
theorem ag149 : isAggA Try.prog 149 = some false := by kernel_rfl
theorem ze149 : zeroA Try.prog 149 = some (.int .u64 0) := by kernel_rfl
theorem zk149 : zeroOk Try.prog 149 = true := by kernel_rfl
theorem app22 {H : AH} {o : Nat} {vs : List Value} {v : Value} {n c : Nat} (ho : H[o]? = some (.cells vs 3 false)) (hn : vs.length = n) (hb : n ≤ 1099511627776) : appendA Try.prog 22 22 (.slice (some ⟨o, 0, none⟩) n c) (.slice (some ⟨H.length, 0, none⟩) 1 1) (H ++ [.cells [v] 3 false]) = some (.slice (some ⟨H.length + 1, 0, none⟩) (n + 1) (n + 1), H.set o .dead ++ [.cells [v] 3 false, .cells (vs ++ [v]) 3 false]) := app_one Try.underlying22 cs3 (by rw [by3]; decide) zk3 ho hn hb
theorem mks22 {n : Int} (h0 : 0 ≤ n) (h1 : n ≤ 1099511627776) (H : AH) : makeSliceA Try.prog 22 (.int .i64 n) (.int .i64 n) H = some (.slice (some ⟨H.length, 0, none⟩) n.toNat n.toNat, H ++ [.cells (ints (List.replicate n.toNat 0)) 3 false]) := mk_ints Try.underlying22 cs3 (by rw [by3]; decide) ze3 h0 h1 H
theorem own1_22 {H0 H : AH} {v : Value} {ys : List Int} (h : Own 3 H0 H v ys) (hp : H0 <+: H) (hb : ys.length ≤ 1099511627775) (x : Int) : ∃ v' H', appendA Try.prog 22 22 v (.slice (some ⟨H.length, 0, none⟩) 1 1) (H ++ [.cells [.int .i64 x] 3 false]) = some (v', H') ∧ Own 3 H0 H' v' (ys ++ [x]) ∧ H0 <+: H' ∧ Kept v H H' ∧ H.length ≤ rowO v' ∧ isTup v' = false := Own.app1 Try.underlying22 cs3 (by rw [by3]; decide) zk3 h hp hb x
theorem appi22 {H : AH} {o : Nat} {xs : List Int} {x : Int} {n c : Nat} (ho : H[o]? = some (.cells (ints xs) 3 false)) (hn : xs.length = n) (hb : n ≤ 1099511627776) : appendA Try.prog 22 22 (.slice (some ⟨o, 0, none⟩) n c) (.slice (some ⟨H.length, 0, none⟩) 1 1) (H ++ [.cells [.int .i64 x] 3 false]) = some (.slice (some ⟨H.length + 1, 0, none⟩) (n + 1) (n + 1), H.set o .dead ++ [.cells [.int .i64 x] 3 false, .cells (ints (xs ++ [x])) 3 false]) := by rw [ints_app]; exact app22 ho (by rw [ints_len]; exact hn) hb
theorem own1_23 {H0 H : AH} {v : Value} {ps : List (Int × Int)} (h : MineP 66 H0 H v ps) (hp : H0 <+: H) (hb : ps.length ≤ 1099511627775) (a b : Int) : ∃ v' H', appendA Try.prog 23 23 v (.slice (some ⟨H.length, 0, none⟩) 1 1) (H ++ [.cells [.int .i64 a, .int .i64 b] 66 false]) = some (v', H') ∧ MineP 66 H0 H' v' (ps ++ [(a, b)]) ∧ H0 <+: H' ∧ Kept v H H' ∧ H.length ≤ rowO v' ∧ isTup v' = false := MineP.app1 Try.underlying23 cs66 (by rw [by66]; decide) zk66 h hp hb a b
theorem mks23 {n : Int} (h0 : 0 ≤ n) (h1 : n ≤ 1099511627776) (H : AH) : makeSliceA Try.prog 23 (.int .i64 n) (.int .i64 n) H = some (.slice (some ⟨H.length, 0, none⟩) n.toNat n.toNat, H ++ [.cells (ints (flat (List.replicate n.toNat (0, 0)))) 66 false]) := mk_prs Try.underlying23 cs66 (by rw [by66]; decide) ze66 h0 h1 H
theorem app47 {H : AH} {o : Nat} {vs : List Value} {v : Value} {n c : Nat} (ho : H[o]? = some (.cells vs 22 false)) (hn : vs.length = n) (hb : n ≤ 1099511627776) : appendA Try.prog 47 47 (.slice (some ⟨o, 0, none⟩) n c) (.slice (some ⟨H.length, 0, none⟩) 1 1) (H ++ [.cells [v] 22 false]) = some (.slice (some ⟨H.length + 1, 0, none⟩) (n + 1) (n + 1), H.set o .dead ++ [.cells [v] 22 false, .cells (vs ++ [v]) 22 false]) := app_one Try.underlying47 cs22 (by rw [by22]; decide) zk22 ho hn hb
theorem ixa66 (p : Addr) (k : IntKind) {i : Int} (h0 : 0 ≤ i) (h1 : i < 2) : indexAddrA Try.prog 66 (.pointer (some p)) (.int k i) = some (.pointer (some ⟨p.block, p.off + i.toNat, none⟩)) := ix_arr Try.underlying66 cs3 p k h0 h1
theorem app134 {H : AH} {o : Nat} {vs : List Value} {v : Value} {n c : Nat} (ho : H[o]? = some (.cells vs 4 false)) (hn : vs.length = n) (hb : n ≤ 1099511627776) : appendA Try.prog 134 134 (.slice (some ⟨o, 0, none⟩) n c) (.slice (some ⟨H.length, 0, none⟩) 1 1) (H ++ [.cells [v] 4 false]) = some (.slice (some ⟨H.length + 1, 0, none⟩) (n + 1) (n + 1), H.set o .dead ++ [.cells [v] 4 false, .cells (vs ++ [v]) 4 false]) := app_one Try.underlying134 cs4 (by rw [by4]; decide) zk4 ho hn hb
theorem ST : (∀ p H, loadA Try.prog 3 (.pointer (some p)) H = cellA H p.block p.off) ∧
    (∀ p H, loadA Try.prog 4 (.pointer (some p)) H = cellA H p.block p.off) ∧
    (∀ a b, binA Try.prog .eql 4 (.bool a) (.bool b) = some (.bool (decide (a = b)))) ∧
    (∀ a b, binA Try.prog .neq 4 (.bool a) (.bool b) = some (.bool (decide (a ≠ b)))) ∧
    (∀ p H, loadA Try.prog 5 (.pointer (some p)) H = cellA H p.block p.off) ∧
    (∀ p H, loadA Try.prog 9 (.pointer (some p)) H = cellA H p.block p.off) ∧
    (∀ p H, loadA Try.prog 22 (.pointer (some p)) H = cellA H p.block p.off) ∧
    (∀ (p : Addr) (n c : Nat) (k : IntKind) {i : Int}, 0 ≤ i → i < (n : Int) → indexAddrA Try.prog 22 (.slice (some p) n c) (.int k i) = some (.pointer (some ⟨p.block, p.off + i.toNat, none⟩))) ∧
    (∀ H, buildSliceA Try.prog 22 0 [] H = some (.slice (some ⟨H.length, 0, none⟩) 0 0, H ++ [.cells [] 3 false])) ∧
    (∀ H k0 x0, buildSliceA Try.prog 22 1 [(0, (.int k0 x0))] H = some (.slice (some ⟨H.length, 0, none⟩) 1 1, H ++ [.cells [(.int k0 x0)] 3 false])) ∧
    (∀ H k0 x0 k1 x1, buildSliceA Try.prog 22 2 [(0, (.int k0 x0)), (1, (.int k1 x1))] H = some (.slice (some ⟨H.length, 0, none⟩) 2 2, H ++ [.cells [(.int k0 x0), (.int k1 x1)] 3 false])) ∧
    (∀ H k0 x0 k1 x1 k2 x2, buildSliceA Try.prog 22 3 [(0, (.int k0 x0)), (1, (.int k1 x1)), (2, (.int k2 x2))] H = some (.slice (some ⟨H.length, 0, none⟩) 3 3, H ++ [.cells [(.int k0 x0), (.int k1 x1), (.int k2 x2)] 3 false])) ∧
    (∀ a n c m d, binA Try.prog .eql 22 (.slice a n c) (.slice none m d) = some (.bool (a.isNone))) ∧
    (∀ a n c m d, binA Try.prog .neq 22 (.slice a n c) (.slice none m d) = some (.bool (!a.isNone))) ∧
    (∀ p n c, lenA Try.prog 22 (.slice p n c) = some (.int .i64 n)) ∧
    (∀ p H, loadA Try.prog 23 (.pointer (some p)) H = cellA H p.block p.off) ∧
    (∀ H, buildSliceA Try.prog 23 0 [] H = some (.slice (some ⟨H.length, 0, none⟩) 0 0, H ++ [.cells [] 66 false])) ∧
    (∀ H a b, buildSliceA Try.prog 23 1 [(0, .agg (List.toArray [a, b]))] H = some (.slice (some ⟨H.length, 0, none⟩) 1 1, H ++ [.cells [a, b] 66 false])) ∧
    (∀ (p : Addr) (n c : Nat) (k : IntKind) {i : Int}, 0 ≤ i → i < (n : Int) → indexAddrA Try.prog 23 (.slice (some p) n c) (.int k i) = some (.pointer (some ⟨p.block, p.off + 2 * i.toNat, none⟩))) ∧
    (∀ a n c m d, binA Try.prog .eql 23 (.slice a n c) (.slice none m d) = some (.bool (a.isNone))) ∧
    (∀ a n c m d, binA Try.prog .neq 23 (.slice a n c) (.slice none m d) = some (.bool (!a.isNone))) ∧
    (∀ p n c, lenA Try.prog 23 (.slice p n c) = some (.int .i64 n)) ∧
    (∀ (p : Addr), fieldAddrA Try.prog 37 (.pointer (some p)) 0 = some (.pointer (some ⟨p.block, p.off, none⟩))) ∧
    (∀ (p : Addr), fieldAddrA Try.prog 37 (.pointer (some p)) 1 = some (.pointer (some ⟨p.block, p.off + 1, none⟩))) ∧
    (∀ (p : Addr), fieldAddrA Try.prog 41 (.pointer (some p)) 0 = some (.pointer (some ⟨p.block, p.off, none⟩))) ∧
    (∀ (p : Addr), fieldAddrA Try.prog 41 (.pointer (some p)) 1 = some (.pointer (some ⟨p.block, p.off + 1, none⟩))) ∧
    (∀ p H, loadA Try.prog 42 (.pointer (some p)) H = cellA H p.block p.off) ∧
    (∀ p H, loadA Try.prog 47 (.pointer (some p)) H = cellA H p.block p.off) ∧
    (∀ (p : Addr) (n c : Nat) (k : IntKind) {i : Int}, 0 ≤ i → i < (n : Int) → indexAddrA Try.prog 47 (.slice (some p) n c) (.int k i) = some (.pointer (some ⟨p.block, p.off + i.toNat, none⟩))) ∧
    (∀ H, buildSliceA Try.prog 47 0 [] H = some (.slice (some ⟨H.length, 0, none⟩) 0 0, H ++ [.cells [] 22 false])) ∧
    (∀ H p0 n0 c0, buildSliceA Try.prog 47 1 [(0, (.slice p0 n0 c0))] H = some (.slice (some ⟨H.length, 0, none⟩) 1 1, H ++ [.cells [(.slice p0 n0 c0)] 22 false])) ∧
    (∀ H p0 n0 c0 p1 n1 c1, buildSliceA Try.prog 47 2 [(0, (.slice p0 n0 c0)), (1, (.slice p1 n1 c1))] H = some (.slice (some ⟨H.length, 0, none⟩) 2 2, H ++ [.cells [(.slice p0 n0 c0), (.slice p1 n1 c1)] 22 false])) ∧
    (∀ H p0 n0 c0 p1 n1 c1 p2 n2 c2, buildSliceA Try.prog 47 3 [(0, (.slice p0 n0 c0)), (1, (.slice p1 n1 c1)), (2, (.slice p2 n2 c2))] H = some (.slice (some ⟨H.length, 0, none⟩) 3 3, H ++ [.cells [(.slice p0 n0 c0), (.slice p1 n1 c1), (.slice p2 n2 c2)] 22 false])) ∧
    (∀ a n c m d, binA Try.prog .eql 47 (.slice a n c) (.slice none m d) = some (.bool (a.isNone))) ∧
    (∀ a n c m d, binA Try.prog .neq 47 (.slice a n c) (.slice none m d) = some (.bool (!a.isNone))) ∧
    (∀ p n c, lenA Try.prog 47 (.slice p n c) = some (.int .i64 n)) ∧
    (∀ (p : Addr), fieldAddrA Try.prog 49 (.pointer (some p)) 0 = some (.pointer (some ⟨p.block, p.off, none⟩))) ∧
    (∀ (p : Addr), fieldAddrA Try.prog 49 (.pointer (some p)) 1 = some (.pointer (some ⟨p.block, p.off + 1, none⟩))) ∧
    (∀ (p : Addr) (k : IntKind), indexAddrA Try.prog 66 (.pointer (some p)) (.int k 0) = some (.pointer (some ⟨p.block, p.off, none⟩))) ∧
    (∀ (p : Addr) (k : IntKind), indexAddrA Try.prog 66 (.pointer (some p)) (.int k 1) = some (.pointer (some ⟨p.block, p.off + 1, none⟩))) ∧
    (∀ p H, loadA Try.prog 84 (.pointer (some p)) H = cellA H p.block p.off) ∧
    (∀ p H, loadA Try.prog 85 (.pointer (some p)) H = cellA H p.block p.off) ∧
    (∀ p H, loadA Try.prog 99 (.pointer (some p)) H = cellA H p.block p.off) ∧
    (∀ p H, loadA Try.prog 110 (.pointer (some p)) H = cellA H p.block p.off) ∧
    (∀ p H, loadA Try.prog 111 (.pointer (some p)) H = cellA H p.block p.off) ∧
    (∀ p H, loadA Try.prog 134 (.pointer (some p)) H = cellA H p.block p.off) ∧
    (∀ (p : Addr) (n c : Nat) (k : IntKind) {i : Int}, 0 ≤ i → i < (n : Int) → indexAddrA Try.prog 134 (.slice (some p) n c) (.int k i) = some (.pointer (some ⟨p.block, p.off + i.toNat, none⟩))) ∧
    (∀ H, buildSliceA Try.prog 134 0 [] H = some (.slice (some ⟨H.length, 0, none⟩) 0 0, H ++ [.cells [] 4 false])) ∧
    (∀ H x0, buildSliceA Try.prog 134 1 [(0, (.bool x0))] H = some (.slice (some ⟨H.length, 0, none⟩) 1 1, H ++ [.cells [(.bool x0)] 4 false])) ∧
    (∀ H x0 x1, buildSliceA Try.prog 134 2 [(0, (.bool x0)), (1, (.bool x1))] H = some (.slice (some ⟨H.length, 0, none⟩) 2 2, H ++ [.cells [(.bool x0), (.bool x1)] 4 false])) ∧
    (∀ H x0 x1 x2, buildSliceA Try.prog 134 3 [(0, (.bool x0)), (1, (.bool x1)), (2, (.bool x2))] H = some (.slice (some ⟨H.length, 0, none⟩) 3 3, H ++ [.cells [(.bool x0), (.bool x1), (.bool x2)] 4 false])) ∧
    (∀ a n c m d, binA Try.prog .eql 134 (.slice a n c) (.slice none m d) = some (.bool (a.isNone))) ∧
    (∀ a n c m d, binA Try.prog .neq 134 (.slice a n c) (.slice none m d) = some (.bool (!a.isNone))) ∧
    (∀ p n c, lenA Try.prog 134 (.slice p n c) = some (.int .i64 n)) ∧
    (∀ p H, loadA Try.prog 147 (.pointer (some p)) H = cellA H p.block p.off) ∧
    (∀ p H, loadA Try.prog 149 (.pointer (some p)) H = cellA H p.block p.off) ∧
    (∀ k n, convA Try.prog 3 5 (.int k n) = some (.int .u8 (IntKind.u8.wrap n))) ∧
    (∀ k n, convA Try.prog 3 110 (.int k n) = some (.int .u64 (IntKind.u64.wrap n))) ∧
    (∀ k n, convA Try.prog 3 111 (.int k n) = some (.int .u64 (IntKind.u64.wrap n))) ∧
    (∀ k n, convA Try.prog 3 147 (.int k n) = some (.int .u32 (IntKind.u32.wrap n))) ∧
    (∀ k n, convA Try.prog 3 149 (.int k n) = some (.int .u64 (IntKind.u64.wrap n))) ∧
    (∀ k n, convA Try.prog 5 3 (.int k n) = some (.int .i64 (IntKind.i64.wrap n))) ∧
    (∀ k n, convA Try.prog 5 110 (.int k n) = some (.int .u64 (IntKind.u64.wrap n))) ∧
    (∀ k n, convA Try.prog 5 111 (.int k n) = some (.int .u64 (IntKind.u64.wrap n))) ∧
    (∀ k n, convA Try.prog 5 147 (.int k n) = some (.int .u32 (IntKind.u32.wrap n))) ∧
    (∀ k n, convA Try.prog 5 149 (.int k n) = some (.int .u64 (IntKind.u64.wrap n))) ∧
    (∀ k n, convA Try.prog 110 3 (.int k n) = some (.int .i64 (IntKind.i64.wrap n))) ∧
    (∀ k n, convA Try.prog 110 5 (.int k n) = some (.int .u8 (IntKind.u8.wrap n))) ∧
    (∀ k n, convA Try.prog 110 111 (.int k n) = some (.int .u64 (IntKind.u64.wrap n))) ∧
    (∀ k n, convA Try.prog 110 147 (.int k n) = some (.int .u32 (IntKind.u32.wrap n))) ∧
    (∀ k n, convA Try.prog 110 149 (.int k n) = some (.int .u64 (IntKind.u64.wrap n))) ∧
    (∀ k n, convA Try.prog 111 3 (.int k n) = some (.int .i64 (IntKind.i64.wrap n))) ∧
    (∀ k n, convA Try.prog 111 5 (.int k n) = some (.int .u8 (IntKind.u8.wrap n))) ∧
    (∀ k n, convA Try.prog 111 110 (.int k n) = some (.int .u64 (IntKind.u64.wrap n))) ∧
    (∀ k n, convA Try.prog 111 147 (.int k n) = some (.int .u32 (IntKind.u32.wrap n))) ∧
    (∀ k n, convA Try.prog 111 149 (.int k n) = some (.int .u64 (IntKind.u64.wrap n))) ∧
    (∀ k n, convA Try.prog 147 3 (.int k n) = some (.int .i64 (IntKind.i64.wrap n))) ∧
    (∀ k n, convA Try.prog 147 5 (.int k n) = some (.int .u8 (IntKind.u8.wrap n))) ∧
    (∀ k n, convA Try.prog 147 110 (.int k n) = some (.int .u64 (IntKind.u64.wrap n))) ∧
    (∀ k n, convA Try.prog 147 111 (.int k n) = some (.int .u64 (IntKind.u64.wrap n))) ∧
    (∀ k n, convA Try.prog 147 149 (.int k n) = some (.int .u64 (IntKind.u64.wrap n))) ∧
    (∀ k n, convA Try.prog 149 3 (.int k n) = some (.int .i64 (IntKind.i64.wrap n))) ∧
    (∀ k n, convA Try.prog 149 5 (.int k n) = some (.int .u8 (IntKind.u8.wrap n))) ∧
    (∀ k n, convA Try.prog 149 110 (.int k n) = some (.int .u64 (IntKind.u64.wrap n))) ∧
    (∀ k n, convA Try.prog 149 111 (.int k n) = some (.int .u64 (IntKind.u64.wrap n))) ∧
    (∀ k n, convA Try.prog 149 147 (.int k n) = some (.int .u32 (IntKind.u32.wrap n))) :=
  ⟨ld_one ag3,
   ld_one ag4,
   eq_bool_eql Try.underlying4,
   eq_bool_neq Try.underlying4,
   ld_one ag5,
   ld_one ag9,
   ld_one ag22,
   ix_one Try.underlying22 cs3,
   bs0 Try.underlying22 cs3 ze3 ⟨by kernel_rfl, by kernel_rfl⟩,
   fun H _ _ => bs1 Try.underlying22 cs3 ze3 ⟨by kernel_rfl, by kernel_rfl⟩ H rfl,
   fun H _ _ _ _ => bs2 Try.underlying22 cs3 ze3 ⟨by kernel_rfl, by kernel_rfl⟩ H rfl rfl,
   fun H _ _ _ _ _ _ => bs3 Try.underlying22 cs3 ze3 ⟨by kernel_rfl, by kernel_rfl⟩ H rfl rfl rfl,
   eq_nil_eql Try.underlying22,
   eq_nil_neq Try.underlying22,
   ln_sl Try.underlying22,
   ld_one ag23,
   bsP0 Try.underlying23 cs66 ze66 ⟨by kernel_rfl, by kernel_rfl⟩,
   bsP1 Try.underlying23 cs66 ze66,
   ix_two Try.underlying23 cs66,
   eq_nil_eql Try.underlying23,
   eq_nil_neq Try.underlying23,
   ln_sl Try.underlying23,
   fun p => by kernel_rfl,
   fun p => by kernel_rfl,
   fun p => by kernel_rfl,
   fun p => by kernel_rfl,
   ld_one ag42,
   ld_one ag47,
   ix_one Try.underlying47 cs22,
   bs0 Try.underlying47 cs22 ze22 ⟨by kernel_rfl, by kernel_rfl⟩,
   fun H _ _ _ => bs1 Try.underlying47 cs22 ze22 ⟨by kernel_rfl, by kernel_rfl⟩ H rfl,
   fun H _ _ _ _ _ _ => bs2 Try.underlying47 cs22 ze22 ⟨by kernel_rfl, by kernel_rfl⟩ H rfl rfl,
   fun H _ _ _ _ _ _ _ _ _ => bs3 Try.underlying47 cs22 ze22 ⟨by kernel_rfl, by kernel_rfl⟩ H rfl rfl rfl,
   eq_nil_eql Try.underlying47,
   eq_nil_neq Try.underlying47,
   ln_sl Try.underlying47,
   fun p => by kernel_rfl,
   fun p => by kernel_rfl,
   fun p k => ix_arr Try.underlying66 cs3 p k (by decide) (by decide),
   fun p k => ix_arr Try.underlying66 cs3 p k (by decide) (by decide),
   ld_one ag84,
   ld_one ag85,
   ld_one ag99,
   ld_one ag110,
   ld_one ag111,
   ld_one ag134,
   ix_one Try.underlying134 cs4,
   bs0 Try.underlying134 cs4 ze4 ⟨by kernel_rfl, by kernel_rfl⟩,
   fun H _ => bs1 Try.underlying134 cs4 ze4 ⟨by kernel_rfl, by kernel_rfl⟩ H rfl,
   fun H _ _ => bs2 Try.underlying134 cs4 ze4 ⟨by kernel_rfl, by kernel_rfl⟩ H rfl rfl,
   fun H _ _ _ => bs3 Try.underlying134 cs4 ze4 ⟨by kernel_rfl, by kernel_rfl⟩ H rfl rfl rfl,
   eq_nil_eql Try.underlying134,
   eq_nil_neq Try.underlying134,
   ln_sl Try.underlying134,
   ld_one ag147,
   ld_one ag149,
   fun _ _ => by simp only [convA, Try.underlying3, Try.underlying5],
   fun _ _ => by simp only [convA, Try.underlying3, Try.underlying110],
   fun _ _ => by simp only [convA, Try.underlying3, Try.underlying111],
   fun _ _ => by simp only [convA, Try.underlying3, Try.underlying147],
   fun _ _ => by simp only [convA, Try.underlying3, Try.underlying149],
   fun _ _ => by simp only [convA, Try.underlying5, Try.underlying3],
   fun _ _ => by simp only [convA, Try.underlying5, Try.underlying110],
   fun _ _ => by simp only [convA, Try.underlying5, Try.underlying111],
   fun _ _ => by simp only [convA, Try.underlying5, Try.underlying147],
   fun _ _ => by simp only [convA, Try.underlying5, Try.underlying149],
   fun _ _ => by simp only [convA, Try.underlying110, Try.underlying3],
   fun _ _ => by simp only [convA, Try.underlying110, Try.underlying5],
   fun _ _ => by simp only [convA, Try.underlying110, Try.underlying111],
   fun _ _ => by simp only [convA, Try.underlying110, Try.underlying147],
   fun _ _ => by simp only [convA, Try.underlying110, Try.underlying149],
   fun _ _ => by simp only [convA, Try.underlying111, Try.underlying3],
   fun _ _ => by simp only [convA, Try.underlying111, Try.underlying5],
   fun _ _ => by simp only [convA, Try.underlying111, Try.underlying110],
   fun _ _ => by simp only [convA, Try.underlying111, Try.underlying147],
   fun _ _ => by simp only [convA, Try.underlying111, Try.underlying149],
   fun _ _ => by simp only [convA, Try.underlying147, Try.underlying3],
   fun _ _ => by simp only [convA, Try.underlying147, Try.underlying5],
   fun _ _ => by simp only [convA, Try.underlying147, Try.underlying110],
   fun _ _ => by simp only [convA, Try.underlying147, Try.underlying111],
   fun _ _ => by simp only [convA, Try.underlying147, Try.underlying149],
   fun _ _ => by simp only [convA, Try.underlying149, Try.underlying3],
   fun _ _ => by simp only [convA, Try.underlying149, Try.underlying5],
   fun _ _ => by simp only [convA, Try.underlying149, Try.underlying110],
   fun _ _ => by simp only [convA, Try.underlying149, Try.underlying111],
   fun _ _ => by simp only [convA, Try.underlying149, Try.underlying147]⟩
end Go.Proofs.Ytahakecifgjcnaa.Ai
