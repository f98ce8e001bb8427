/- The types of this translation: cells, bytes, zero values; by the kernel. -/
import Derived.Test.YtnoihoeaconllaaProg
import Derived.Test.YtnoihoeaconllaaAiM3
import Derived.KernelRfl
namespace Go.Proofs.Ytnoihoeaconllaa.Ai
open Go
/- int -/
theorem cs3 : Try.prog.cellsOf 3 = 1 := by kernel_rfl
theorem by3 : Try.prog.bytesOf 3 = 8 := by kernel_rfl
theorem ag3 : isAggA Try.prog 3 = some false := by kernel_rfl
theorem ze3 : zeroA Try.prog 3 = some (.int .i64 0) := by kernel_rfl
theorem zk3 : zeroOk Try.prog 3 = true := by kernel_rfl
/- bool -/
theorem cs4 : Try.prog.cellsOf 4 = 1 := by kernel_rfl
theorem by4 : Try.prog.bytesOf 4 = 1 := by kernel_rfl
theorem ag4 : isAggA Try.prog 4 = some false := by kernel_rfl
theorem ze4 : zeroA Try.prog 4 = some (.bool false) := by kernel_rfl
theorem zk4 : zeroOk Try.prog 4 = true := by kernel_rfl
/- uint8 -/
theorem cs5 : Try.prog.cellsOf 5 = 1 := by kernel_rfl
theorem by5 : Try.prog.bytesOf 5 = 1 := by kernel_rfl
theorem ag5 : isAggA Try.prog 5 = some false := by kernel_rfl
theorem ze5 : zeroA Try.prog 5 = some (.int .u8 0) := by kernel_rfl
theorem zk5 : zeroOk Try.prog 5 = true := by kernel_rfl
/- string -/
theorem cs9 : Try.prog.cellsOf 9 = 1 := by kernel_rfl
theorem by9 : Try.prog.bytesOf 9 = 16 := by kernel_rfl
theorem ag9 : isAggA Try.prog 9 = some false := by kernel_rfl
theorem ze9 : zeroA Try.prog 9 = some (.string ⟨#[]⟩) := by kernel_rfl
theorem zk9 : zeroOk Try.prog 9 = true := by kernel_rfl
/- []int -/
theorem cs22 : Try.prog.cellsOf 22 = 1 := by kernel_rfl
theorem by22 : Try.prog.bytesOf 22 = 24 := by kernel_rfl
theorem ag22 : isAggA Try.prog 22 = some false := by kernel_rfl
theorem ze22 : zeroA Try.prog 22 = some (.slice none 0 0) := by kernel_rfl
theorem zk22 : zeroOk Try.prog 22 = true := by kernel_rfl
/- [][]int -/
theorem cs35 : Try.prog.cellsOf 35 = 1 := by kernel_rfl
theorem by35 : Try.prog.bytesOf 35 = 24 := by kernel_rfl
theorem ag35 : isAggA Try.prog 35 = some false := by kernel_rfl
theorem ze35 : zeroA Try.prog 35 = some (.slice none 0 0) := by kernel_rfl
theorem zk35 : zeroOk Try.prog 35 = true := by kernel_rfl
/- [][2]int -/
theorem cs42 : Try.prog.cellsOf 42 = 1 := by kernel_rfl
theorem by42 : Try.prog.bytesOf 42 = 24 := by kernel_rfl
theorem ag42 : isAggA Try.prog 42 = some false := by kernel_rfl
theorem ze42 : zeroA Try.prog 42 = some (.slice none 0 0) := by kernel_rfl
theorem zk42 : zeroOk Try.prog 42 = true := by kernel_rfl
/- laws.Graph -/
theorem cs54 : Try.prog.cellsOf 54 = 2 := by kernel_rfl
theorem by54 : Try.prog.bytesOf 54 = 32 := by kernel_rfl
theorem ag54 : isAggA Try.prog 54 = some true := by kernel_rfl
theorem ze54 : zeroA Try.prog 54 = some (.agg #[(.int .i64 0), (.slice none 0 0)]) := by kernel_rfl
theorem zk54 : zeroOk Try.prog 54 = true := by kernel_rfl
/- impl.Graph -/
theorem cs58 : Try.prog.cellsOf 58 = 2 := by kernel_rfl
theorem by58 : Try.prog.bytesOf 58 = 32 := by kernel_rfl
theorem ag58 : isAggA Try.prog 58 = some true := by kernel_rfl
theorem ze58 : zeroA Try.prog 58 = some (.agg #[(.int .i64 0), (.slice none 0 0)]) := by kernel_rfl
theorem zk58 : zeroOk Try.prog 58 = true := by kernel_rfl
/- func(laws.Graph) impl.Graph -/
theorem cs59 : Try.prog.cellsOf 59 = 1 := by kernel_rfl
theorem by59 : Try.prog.bytesOf 59 = 8 := by kernel_rfl
theorem ag59 : isAggA Try.prog 59 = some false := by kernel_rfl
theorem ze59 : zeroA Try.prog 59 = some .nilFunc := by kernel_rfl
theorem zk59 : zeroOk Try.prog 59 = true := by kernel_rfl
/- [2]int -/
theorem cs70 : Try.prog.cellsOf 70 = 2 := by kernel_rfl
theorem by70 : Try.prog.bytesOf 70 = 16 := by kernel_rfl
theorem ag70 : isAggA Try.prog 70 = some true := by kernel_rfl
theorem ze70 : zeroA Try.prog 70 = some (.agg #[(.int .i64 0), (.int .i64 0)]) := by kernel_rfl
theorem zk70 : zeroOk Try.prog 70 = true := by kernel_rfl
/- uint -/
theorem cs87 : Try.prog.cellsOf 87 = 1 := by kernel_rfl
theorem by87 : Try.prog.bytesOf 87 = 8 := by kernel_rfl
theorem ag87 : isAggA Try.prog 87 = some false := by kernel_rfl
theorem ze87 : zeroA Try.prog 87 = some (.int .u64 0) := by kernel_rfl
theorem zk87 : zeroOk Try.prog 87 = true := by kernel_rfl
/- impl.bag -/
theorem cs88 : Try.prog.cellsOf 88 = 1 := by kernel_rfl
theorem by88 : Try.prog.bytesOf 88 = 8 := by kernel_rfl
theorem ag88 : isAggA Try.prog 88 = some false := by kernel_rfl
theorem ze88 : zeroA Try.prog 88 = some (.int .u64 0) := by kernel_rfl
theorem zk88 : zeroOk Try.prog 88 = true := by kernel_rfl
/- uint32 -/
theorem cs102 : Try.prog.cellsOf 102 = 1 := by kernel_rfl
theorem by102 : Try.prog.bytesOf 102 = 4 := by kernel_rfl
theorem ag102 : isAggA Try.prog 102 = some false := by kernel_rfl
theorem ze102 : zeroA Try.prog 102 = some (.int .u32 0) := by kernel_rfl
theorem zk102 : zeroOk Try.prog 102 = true := by kernel_rfl
/- uint64 -/
theorem cs104 : Try.prog.cellsOf 104 = 1 := by kernel_rfl
theorem by104 : Try.prog.bytesOf 104 = 8 := by kernel_rfl
theorem ag104 : isAggA Try.prog 104 = some false := by kernel_rfl
theorem ze104 : zeroA Try.prog 104 = some (.int .u64 0) := by kernel_rfl
theorem zk104 : zeroOk Try.prog 104 = true := by kernel_rfl
theorem app22 {H : AH} {o : Nat} {vs : List Value} {v : Value} {n c : Nat} (ho : H[o]? = some (.cells vs 3 false)) (hn : vs.length = n) (hb : n ≤ 1099511627776) : appendA Try.prog 22 22 (.slice (some ⟨o, 0, none⟩) n c) (.slice (some ⟨H.length, 0, none⟩) 1 1) (H ++ [.cells [v] 3 false]) = some (.slice (some ⟨H.length + 1, 0, none⟩) (n + 1) (n + 1), H.set o .dead ++ [.cells [v] 3 false, .cells (vs ++ [v]) 3 false]) := app_one Try.underlying22 cs3 (by rw [by3]; decide) zk3 ho hn hb
theorem mks22 {n : Int} (h0 : 0 ≤ n) (h1 : n ≤ 1099511627776) (H : AH) : makeSliceA Try.prog 22 (.int .i64 n) (.int .i64 n) H = some (.slice (some ⟨H.length, 0, none⟩) n.toNat n.toNat, H ++ [.cells (ints (List.replicate n.toNat 0)) 3 false]) := mk_ints Try.underlying22 cs3 (by rw [by3]; decide) ze3 h0 h1 H
theorem own1_22 {H0 H : AH} {v : Value} {ys : List Int} (h : Own 3 H0 H v ys) (hp : H0 <+: H) (hb : ys.length ≤ 1099511627775) (x : Int) : ∃ v' H', appendA Try.prog 22 22 v (.slice (some ⟨H.length, 0, none⟩) 1 1) (H ++ [.cells [.int .i64 x] 3 false]) = some (v', H') ∧ Own 3 H0 H' v' (ys ++ [x]) ∧ H0 <+: H' ∧ Kept v H H' ∧ H.length ≤ rowO v' ∧ isTup v' = false := Own.app1 Try.underlying22 cs3 (by rw [by3]; decide) zk3 h hp hb x
theorem appi22 {H : AH} {o : Nat} {xs : List Int} {x : Int} {n c : Nat} (ho : H[o]? = some (.cells (ints xs) 3 false)) (hn : xs.length = n) (hb : n ≤ 1099511627776) : appendA Try.prog 22 22 (.slice (some ⟨o, 0, none⟩) n c) (.slice (some ⟨H.length, 0, none⟩) 1 1) (H ++ [.cells [.int .i64 x] 3 false]) = some (.slice (some ⟨H.length + 1, 0, none⟩) (n + 1) (n + 1), H.set o .dead ++ [.cells [.int .i64 x] 3 false, .cells (ints (xs ++ [x])) 3 false]) := by rw [ints_app]; exact app22 ho (by rw [ints_len]; exact hn) hb
theorem app35 {H : AH} {o : Nat} {vs : List Value} {v : Value} {n c : Nat} (ho : H[o]? = some (.cells vs 22 false)) (hn : vs.length = n) (hb : n ≤ 1099511627776) : appendA Try.prog 35 35 (.slice (some ⟨o, 0, none⟩) n c) (.slice (some ⟨H.length, 0, none⟩) 1 1) (H ++ [.cells [v] 22 false]) = some (.slice (some ⟨H.length + 1, 0, none⟩) (n + 1) (n + 1), H.set o .dead ++ [.cells [v] 22 false, .cells (vs ++ [v]) 22 false]) := app_one Try.underlying35 cs22 (by rw [by22]; decide) zk22 ho hn hb
theorem own1_42 {H0 H : AH} {v : Value} {ps : List (Int × Int)} (h : MineP 70 H0 H v ps) (hp : H0 <+: H) (hb : ps.length ≤ 1099511627775) (a b : Int) : ∃ v' H', appendA Try.prog 42 42 v (.slice (some ⟨H.length, 0, none⟩) 1 1) (H ++ [.cells [.int .i64 a, .int .i64 b] 70 false]) = some (v', H') ∧ MineP 70 H0 H' v' (ps ++ [(a, b)]) ∧ H0 <+: H' ∧ Kept v H H' ∧ H.length ≤ rowO v' ∧ isTup v' = false := MineP.app1 Try.underlying42 cs70 (by rw [by70]; decide) zk70 h hp hb a b
theorem mks42 {n : Int} (h0 : 0 ≤ n) (h1 : n ≤ 1099511627776) (H : AH) : makeSliceA Try.prog 42 (.int .i64 n) (.int .i64 n) H = some (.slice (some ⟨H.length, 0, none⟩) n.toNat n.toNat, H ++ [.cells (ints (flat (List.replicate n.toNat (0, 0)))) 70 false]) := mk_prs Try.underlying42 cs70 (by rw [by70]; decide) ze70 h0 h1 H
theorem ixa70 (p : Addr) (k : IntKind) {i : Int} (h0 : 0 ≤ i) (h1 : i < 2) : indexAddrA Try.prog 70 (.pointer (some p)) (.int k i) = some (.pointer (some ⟨p.block, p.off + i.toNat, none⟩)) := ix_arr Try.underlying70 cs3 p k h0 h1
theorem ST : (∀ p H, loadA Try.prog 3 (.pointer (some p)) H = cellA H p.block p.off) ∧
    (∀ p H, loadA Try.prog 4 (.pointer (some p)) H = cellA H p.block p.off) ∧
    (∀ a b, binA Try.prog .eql 4 (.bool a) (.bool b) = some (.bool (decide (a = b)))) ∧
    (∀ a b, binA Try.prog .neq 4 (.bool a) (.bool b) = some (.bool (decide (a ≠ b)))) ∧
    (∀ p H, loadA Try.prog 5 (.pointer (some p)) H = cellA H p.block p.off) ∧
    (∀ p H, loadA Try.prog 9 (.pointer (some p)) H = cellA H p.block p.off) ∧
    (∀ p H, loadA Try.prog 22 (.pointer (some p)) H = cellA H p.block p.off) ∧
    (∀ (p : Addr) (n c : Nat) (k : IntKind) {i : Int}, 0 ≤ i → i < (n : Int) → indexAddrA Try.prog 22 (.slice (some p) n c) (.int k i) = some (.pointer (some ⟨p.block, p.off + i.toNat, none⟩))) ∧
    (∀ H, buildSliceA Try.prog 22 0 [] H = some (.slice (some ⟨H.length, 0, none⟩) 0 0, H ++ [.cells [] 3 false])) ∧
    (∀ H k0 x0, buildSliceA Try.prog 22 1 [(0, (.int k0 x0))] H = some (.slice (some ⟨H.length, 0, none⟩) 1 1, H ++ [.cells [(.int k0 x0)] 3 false])) ∧
    (∀ H k0 x0 k1 x1, buildSliceA Try.prog 22 2 [(0, (.int k0 x0)), (1, (.int k1 x1))] H = some (.slice (some ⟨H.length, 0, none⟩) 2 2, H ++ [.cells [(.int k0 x0), (.int k1 x1)] 3 false])) ∧
    (∀ H k0 x0 k1 x1 k2 x2, buildSliceA Try.prog 22 3 [(0, (.int k0 x0)), (1, (.int k1 x1)), (2, (.int k2 x2))] H = some (.slice (some ⟨H.length, 0, none⟩) 3 3, H ++ [.cells [(.int k0 x0), (.int k1 x1), (.int k2 x2)] 3 false])) ∧
    (∀ a n c m d, binA Try.prog .eql 22 (.slice a n c) (.slice none m d) = some (.bool (a.isNone))) ∧
    (∀ a n c m d, binA Try.prog .neq 22 (.slice a n c) (.slice none m d) = some (.bool (!a.isNone))) ∧
    (∀ p n c, lenA Try.prog 22 (.slice p n c) = some (.int .i64 n)) ∧
    (∀ p H, loadA Try.prog 35 (.pointer (some p)) H = cellA H p.block p.off) ∧
    (∀ (p : Addr) (n c : Nat) (k : IntKind) {i : Int}, 0 ≤ i → i < (n : Int) → indexAddrA Try.prog 35 (.slice (some p) n c) (.int k i) = some (.pointer (some ⟨p.block, p.off + i.toNat, none⟩))) ∧
    (∀ H, buildSliceA Try.prog 35 0 [] H = some (.slice (some ⟨H.length, 0, none⟩) 0 0, H ++ [.cells [] 22 false])) ∧
    (∀ H p0 n0 c0, buildSliceA Try.prog 35 1 [(0, (.slice p0 n0 c0))] H = some (.slice (some ⟨H.length, 0, none⟩) 1 1, H ++ [.cells [(.slice p0 n0 c0)] 22 false])) ∧
    (∀ H p0 n0 c0 p1 n1 c1, buildSliceA Try.prog 35 2 [(0, (.slice p0 n0 c0)), (1, (.slice p1 n1 c1))] H = some (.slice (some ⟨H.length, 0, none⟩) 2 2, H ++ [.cells [(.slice p0 n0 c0), (.slice p1 n1 c1)] 22 false])) ∧
    (∀ H p0 n0 c0 p1 n1 c1 p2 n2 c2, buildSliceA Try.prog 35 3 [(0, (.slice p0 n0 c0)), (1, (.slice p1 n1 c1)), (2, (.slice p2 n2 c2))] H = some (.slice (some ⟨H.length, 0, none⟩) 3 3, H ++ [.cells [(.slice p0 n0 c0), (.slice p1 n1 c1), (.slice p2 n2 c2)] 22 false])) ∧
    (∀ a n c m d, binA Try.prog .eql 35 (.slice a n c) (.slice none m d) = some (.bool (a.isNone))) ∧
    (∀ a n c m d, binA Try.prog .neq 35 (.slice a n c) (.slice none m d) = some (.bool (!a.isNone))) ∧
    (∀ p n c, lenA Try.prog 35 (.slice p n c) = some (.int .i64 n)) ∧
    (∀ p H, loadA Try.prog 42 (.pointer (some p)) H = cellA H p.block p.off) ∧
    (∀ H, buildSliceA Try.prog 42 0 [] H = some (.slice (some ⟨H.length, 0, none⟩) 0 0, H ++ [.cells [] 70 false])) ∧
    (∀ H a b, buildSliceA Try.prog 42 1 [(0, .agg (List.toArray [a, b]))] H = some (.slice (some ⟨H.length, 0, none⟩) 1 1, H ++ [.cells [a, b] 70 false])) ∧
    (∀ (p : Addr) (n c : Nat) (k : IntKind) {i : Int}, 0 ≤ i → i < (n : Int) → indexAddrA Try.prog 42 (.slice (some p) n c) (.int k i) = some (.pointer (some ⟨p.block, p.off + 2 * i.toNat, none⟩))) ∧
    (∀ a n c m d, binA Try.prog .eql 42 (.slice a n c) (.slice none m d) = some (.bool (a.isNone))) ∧
    (∀ a n c m d, binA Try.prog .neq 42 (.slice a n c) (.slice none m d) = some (.bool (!a.isNone))) ∧
    (∀ p n c, lenA Try.prog 42 (.slice p n c) = some (.int .i64 n)) ∧
    (∀ p H, loadA Try.prog 59 (.pointer (some p)) H = cellA H p.block p.off) ∧
    (∀ (p : Addr) (k : IntKind), indexAddrA Try.prog 70 (.pointer (some p)) (.int k 0) = some (.pointer (some ⟨p.block, p.off, none⟩))) ∧
    (∀ (p : Addr) (k : IntKind), indexAddrA Try.prog 70 (.pointer (some p)) (.int k 1) = some (.pointer (some ⟨p.block, p.off + 1, none⟩))) ∧
    (∀ p H, loadA Try.prog 87 (.pointer (some p)) H = cellA H p.block p.off) ∧
    (∀ p H, loadA Try.prog 88 (.pointer (some p)) H = cellA H p.block p.off) ∧
    (∀ p H, loadA Try.prog 102 (.pointer (some p)) H = cellA H p.block p.off) ∧
    (∀ p H, loadA Try.prog 104 (.pointer (some p)) H = cellA H p.block p.off) ∧
    (∀ k n, convA Try.prog 3 5 (.int k n) = some (.int .u8 (IntKind.u8.wrap n))) ∧
    (∀ k n, convA Try.prog 3 87 (.int k n) = some (.int .u64 (IntKind.u64.wrap n))) ∧
    (∀ k n, convA Try.prog 3 88 (.int k n) = some (.int .u64 (IntKind.u64.wrap n))) ∧
    (∀ k n, convA Try.prog 3 102 (.int k n) = some (.int .u32 (IntKind.u32.wrap n))) ∧
    (∀ k n, convA Try.prog 3 104 (.int k n) = some (.int .u64 (IntKind.u64.wrap n))) ∧
    (∀ k n, convA Try.prog 5 3 (.int k n) = some (.int .i64 (IntKind.i64.wrap n))) ∧
    (∀ k n, convA Try.prog 5 87 (.int k n) = some (.int .u64 (IntKind.u64.wrap n))) ∧
    (∀ k n, convA Try.prog 5 88 (.int k n) = some (.int .u64 (IntKind.u64.wrap n))) ∧
    (∀ k n, convA Try.prog 5 102 (.int k n) = some (.int .u32 (IntKind.u32.wrap n))) ∧
    (∀ k n, convA Try.prog 5 104 (.int k n) = some (.int .u64 (IntKind.u64.wrap n))) ∧
    (∀ k n, convA Try.prog 87 3 (.int k n) = some (.int .i64 (IntKind.i64.wrap n))) ∧
    (∀ k n, convA Try.prog 87 5 (.int k n) = some (.int .u8 (IntKind.u8.wrap n))) ∧
    (∀ k n, convA Try.prog 87 88 (.int k n) = some (.int .u64 (IntKind.u64.wrap n))) ∧
    (∀ k n, convA Try.prog 87 102 (.int k n) = some (.int .u32 (IntKind.u32.wrap n))) ∧
    (∀ k n, convA Try.prog 87 104 (.int k n) = some (.int .u64 (IntKind.u64.wrap n))) ∧
    (∀ k n, convA Try.prog 88 3 (.int k n) = some (.int .i64 (IntKind.i64.wrap n))) ∧
    (∀ k n, convA Try.prog 88 5 (.int k n) = some (.int .u8 (IntKind.u8.wrap n))) ∧
    (∀ k n, convA Try.prog 88 87 (.int k n) = some (.int .u64 (IntKind.u64.wrap n))) ∧
    (∀ k n, convA Try.prog 88 102 (.int k n) = some (.int .u32 (IntKind.u32.wrap n))) ∧
    (∀ k n, convA Try.prog 88 104 (.int k n) = some (.int .u64 (IntKind.u64.wrap n))) ∧
    (∀ k n, convA Try.prog 102 3 (.int k n) = some (.int .i64 (IntKind.i64.wrap n))) ∧
    (∀ k n, convA Try.prog 102 5 (.int k n) = some (.int .u8 (IntKind.u8.wrap n))) ∧
    (∀ k n, convA Try.prog 102 87 (.int k n) = some (.int .u64 (IntKind.u64.wrap n))) ∧
    (∀ k n, convA Try.prog 102 88 (.int k n) = some (.int .u64 (IntKind.u64.wrap n))) ∧
    (∀ k n, convA Try.prog 102 104 (.int k n) = some (.int .u64 (IntKind.u64.wrap n))) ∧
    (∀ k n, convA Try.prog 104 3 (.int k n) = some (.int .i64 (IntKind.i64.wrap n))) ∧
    (∀ k n, convA Try.prog 104 5 (.int k n) = some (.int .u8 (IntKind.u8.wrap n))) ∧
    (∀ k n, convA Try.prog 104 87 (.int k n) = some (.int .u64 (IntKind.u64.wrap n))) ∧
    (∀ k n, convA Try.prog 104 88 (.int k n) = some (.int .u64 (IntKind.u64.wrap n))) ∧
    (∀ k n, convA Try.prog 104 102 (.int k n) = some (.int .u32 (IntKind.u32.wrap n))) :=
  ⟨ld_one ag3,
   ld_one ag4,
   eq_bool_eql Try.underlying4,
   eq_bool_neq Try.underlying4,
   ld_one ag5,
   ld_one ag9,
   ld_one ag22,
   ix_one Try.underlying22 cs3,
   bs0 Try.underlying22 cs3 ze3 ⟨by kernel_rfl, by kernel_rfl⟩,
   fun H _ _ => bs1 Try.underlying22 cs3 ze3 ⟨by kernel_rfl, by kernel_rfl⟩ H rfl,
   fun H _ _ _ _ => bs2 Try.underlying22 cs3 ze3 ⟨by kernel_rfl, by kernel_rfl⟩ H rfl rfl,
   fun H _ _ _ _ _ _ => bs3 Try.underlying22 cs3 ze3 ⟨by kernel_rfl, by kernel_rfl⟩ H rfl rfl rfl,
   eq_nil_eql Try.underlying22,
   eq_nil_neq Try.underlying22,
   ln_sl Try.underlying22,
   ld_one ag35,
   ix_one Try.underlying35 cs22,
   bs0 Try.underlying35 cs22 ze22 ⟨by kernel_rfl, by kernel_rfl⟩,
   fun H _ _ _ => bs1 Try.underlying35 cs22 ze22 ⟨by kernel_rfl, by kernel_rfl⟩ H rfl,
   fun H _ _ _ _ _ _ => bs2 Try.underlying35 cs22 ze22 ⟨by kernel_rfl, by kernel_rfl⟩ H rfl rfl,
   fun H _ _ _ _ _ _ _ _ _ => bs3 Try.underlying35 cs22 ze22 ⟨by kernel_rfl, by kernel_rfl⟩ H rfl rfl rfl,
   eq_nil_eql Try.underlying35,
   eq_nil_neq Try.underlying35,
   ln_sl Try.underlying35,
   ld_one ag42,
   bsP0 Try.underlying42 cs70 ze70 ⟨by kernel_rfl, by kernel_rfl⟩,
   bsP1 Try.underlying42 cs70 ze70,
   ix_two Try.underlying42 cs70,
   eq_nil_eql Try.underlying42,
   eq_nil_neq Try.underlying42,
   ln_sl Try.underlying42,
   ld_one ag59,
   fun p k => ix_arr Try.underlying70 cs3 p k (by decide) (by decide),
   fun p k => ix_arr Try.underlying70 cs3 p k (by decide) (by decide),
   ld_one ag87,
   ld_one ag88,
   ld_one ag102,
   ld_one ag104,
   fun _ _ => by simp only [convA, Try.underlying3, Try.underlying5],
   fun _ _ => by simp only [convA, Try.underlying3, Try.underlying87],
   fun _ _ => by simp only [convA, Try.underlying3, Try.underlying88],
   fun _ _ => by simp only [convA, Try.underlying3, Try.underlying102],
   fun _ _ => by simp only [convA, Try.underlying3, Try.underlying104],
   fun _ _ => by simp only [convA, Try.underlying5, Try.underlying3],
   fun _ _ => by simp only [convA, Try.underlying5, Try.underlying87],
   fun _ _ => by simp only [convA, Try.underlying5, Try.underlying88],
   fun _ _ => by simp only [convA, Try.underlying5, Try.underlying102],
   fun _ _ => by simp only [convA, Try.underlying5, Try.underlying104],
   fun _ _ => by simp only [convA, Try.underlying87, Try.underlying3],
   fun _ _ => by simp only [convA, Try.underlying87, Try.underlying5],
   fun _ _ => by simp only [convA, Try.underlying87, Try.underlying88],
   fun _ _ => by simp only [convA, Try.underlying87, Try.underlying102],
   fun _ _ => by simp only [convA, Try.underlying87, Try.underlying104],
   fun _ _ => by simp only [convA, Try.underlying88, Try.underlying3],
   fun _ _ => by simp only [convA, Try.underlying88, Try.underlying5],
   fun _ _ => by simp only [convA, Try.underlying88, Try.underlying87],
   fun _ _ => by simp only [convA, Try.underlying88, Try.underlying102],
   fun _ _ => by simp only [convA, Try.underlying88, Try.underlying104],
   fun _ _ => by simp only [convA, Try.underlying102, Try.underlying3],
   fun _ _ => by simp only [convA, Try.underlying102, Try.underlying5],
   fun _ _ => by simp only [convA, Try.underlying102, Try.underlying87],
   fun _ _ => by simp only [convA, Try.underlying102, Try.underlying88],
   fun _ _ => by simp only [convA, Try.underlying102, Try.underlying104],
   fun _ _ => by simp only [convA, Try.underlying104, Try.underlying3],
   fun _ _ => by simp only [convA, Try.underlying104, Try.underlying5],
   fun _ _ => by simp only [convA, Try.underlying104, Try.underlying87],
   fun _ _ => by simp only [convA, Try.underlying104, Try.underlying88],
   fun _ _ => by simp only [convA, Try.underlying104, Try.underlying102]⟩
end Go.Proofs.Ytnoihoeaconllaa.Ai
