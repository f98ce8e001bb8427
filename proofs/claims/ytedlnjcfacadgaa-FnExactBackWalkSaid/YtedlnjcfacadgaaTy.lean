/- The types of this translation: cells, bytes, zero values; by the kernel. -/
import Derived.Test.YtedlnjcfacadgaaProg
import Derived.Test.YtedlnjcfacadgaaAiR
import Derived.KernelRfl
namespace Go.Proofs.Ytedlnjcfacadgaa.Ai
open Go
/- int -/
theorem cs3 : Try.prog.cellsOf 3 = 1 := by kernel_rfl
theorem by3 : Try.prog.bytesOf 3 = 8 := by kernel_rfl
theorem ag3 : isAggA Try.prog 3 = some false := by kernel_rfl
theorem ze3 : zeroA Try.prog 3 = some (.int .i64 0) := by kernel_rfl
theorem zk3 : zeroOk Try.prog 3 = true := by kernel_rfl
/- bool -/
theorem cs4 : Try.prog.cellsOf 4 = 1 := by kernel_rfl
theorem by4 : Try.prog.bytesOf 4 = 1 := by kernel_rfl
theorem ag4 : isAggA Try.prog 4 = some false := by kernel_rfl
theorem ze4 : zeroA Try.prog 4 = some (.bool false) := by kernel_rfl
theorem zk4 : zeroOk Try.prog 4 = true := by kernel_rfl
/- []int -/
theorem cs25 : Try.prog.cellsOf 25 = 1 := by kernel_rfl
theorem by25 : Try.prog.bytesOf 25 = 24 := by kernel_rfl
theorem ag25 : isAggA Try.prog 25 = some false := by kernel_rfl
theorem ze25 : zeroA Try.prog 25 = some (.slice none 0 0) := by kernel_rfl
theorem zk25 : zeroOk Try.prog 25 = true := by kernel_rfl
/- [9]int -/
theorem cs44 : Try.prog.cellsOf 44 = 9 := by kernel_rfl
theorem by44 : Try.prog.bytesOf 44 = 72 := by kernel_rfl
theorem ag44 : isAggA Try.prog 44 = some true := by kernel_rfl
theorem ze44 : zeroA Try.prog 44 = some (.agg #[(.int .i64 0), (.int .i64 0), (.int .i64 0), (.int .i64 0), (.int .i64 0), (.int .i64 0), (.int .i64 0), (.int .i64 0), (.int .i64 0)]) := by kernel_rfl
theorem zk44 : zeroOk Try.prog 44 = true := by kernel_rfl
/- [][]int -/
theorem cs58 : Try.prog.cellsOf 58 = 1 := by kernel_rfl
theorem by58 : Try.prog.bytesOf 58 = 24 := by kernel_rfl
theorem ag58 : isAggA Try.prog 58 = some false := by kernel_rfl
theorem ze58 : zeroA Try.prog 58 = some (.slice none 0 0) := by kernel_rfl
theorem zk58 : zeroOk Try.prog 58 = true := by kernel_rfl
/- uint32 -/
theorem cs69 : Try.prog.cellsOf 69 = 1 := by kernel_rfl
theorem by69 : Try.prog.bytesOf 69 = 4 := by kernel_rfl
theorem ag69 : isAggA Try.prog 69 = some false := by kernel_rfl
theorem ze69 : zeroA Try.prog 69 = some (.int .u32 0) := by kernel_rfl
theorem zk69 : zeroOk Try.prog 69 = true := by kernel_rfl
theorem app25 {H : AH} {o : Nat} {vs : List Value} {v : Value} {n c : Nat} (ho : H[o]? = some (.cells vs 3 false)) (hn : vs.length = n) (hb : n ≤ 1099511627776) : appendA Try.prog 25 25 (.slice (some ⟨o, 0, none⟩) n c) (.slice (some ⟨H.length, 0, none⟩) 1 1) (H ++ [.cells [v] 3 false]) = some (.slice (some ⟨H.length + 1, 0, none⟩) (n + 1) (n + 1), H.set o .dead ++ [.cells [v] 3 false, .cells (vs ++ [v]) 3 false]) := app_one Try.underlying25 cs3 (by rw [by3]; decide) zk3 ho hn hb
theorem mks25 {n : Int} (h0 : 0 ≤ n) (h1 : n ≤ 1099511627776) (H : AH) : makeSliceA Try.prog 25 (.int .i64 n) (.int .i64 n) H = some (.slice (some ⟨H.length, 0, none⟩) n.toNat n.toNat, H ++ [.cells (ints (List.replicate n.toNat 0)) 3 false]) := mk_ints Try.underlying25 cs3 (by rw [by3]; decide) ze3 h0 h1 H
theorem own1_25 {H0 H : AH} {v : Value} {ys : List Int} (h : Own 3 H0 H v ys) (hp : H0 <+: H) (hb : ys.length ≤ 1099511627775) (x : Int) : ∃ v' H', appendA Try.prog 25 25 v (.slice (some ⟨H.length, 0, none⟩) 1 1) (H ++ [.cells [.int .i64 x] 3 false]) = some (v', H') ∧ Own 3 H0 H' v' (ys ++ [x]) ∧ H0 <+: H' ∧ Kept v H H' ∧ H.length ≤ rowO v' ∧ isTup v' = false := Own.app1 Try.underlying25 cs3 (by rw [by3]; decide) zk3 h hp hb x
theorem appi25 {H : AH} {o : Nat} {xs : List Int} {x : Int} {n c : Nat} (ho : H[o]? = some (.cells (ints xs) 3 false)) (hn : xs.length = n) (hb : n ≤ 1099511627776) : appendA Try.prog 25 25 (.slice (some ⟨o, 0, none⟩) n c) (.slice (some ⟨H.length, 0, none⟩) 1 1) (H ++ [.cells [.int .i64 x] 3 false]) = some (.slice (some ⟨H.length + 1, 0, none⟩) (n + 1) (n + 1), H.set o .dead ++ [.cells [.int .i64 x] 3 false, .cells (ints (xs ++ [x])) 3 false]) := by rw [ints_app]; exact app25 ho (by rw [ints_len]; exact hn) hb
theorem app58 {H : AH} {o : Nat} {vs : List Value} {v : Value} {n c : Nat} (ho : H[o]? = some (.cells vs 25 false)) (hn : vs.length = n) (hb : n ≤ 1099511627776) : appendA Try.prog 58 58 (.slice (some ⟨o, 0, none⟩) n c) (.slice (some ⟨H.length, 0, none⟩) 1 1) (H ++ [.cells [v] 25 false]) = some (.slice (some ⟨H.length + 1, 0, none⟩) (n + 1) (n + 1), H.set o .dead ++ [.cells [v] 25 false, .cells (vs ++ [v]) 25 false]) := app_one Try.underlying58 cs25 (by rw [by25]; decide) zk25 ho hn hb
theorem ST : (∀ p H, loadA Try.prog 3 (.pointer (some p)) H = cellA H p.block p.off) ∧
    (∀ p H, loadA Try.prog 4 (.pointer (some p)) H = cellA H p.block p.off) ∧
    (∀ a b, binA Try.prog .eql 4 (.bool a) (.bool b) = some (.bool (decide (a = b)))) ∧
    (∀ a b, binA Try.prog .neq 4 (.bool a) (.bool b) = some (.bool (decide (a ≠ b)))) ∧
    (∀ p H, loadA Try.prog 25 (.pointer (some p)) H = cellA H p.block p.off) ∧
    (∀ (p : Addr) (n c : Nat) (k : IntKind) {i : Int}, 0 ≤ i → i < (n : Int) → indexAddrA Try.prog 25 (.slice (some p) n c) (.int k i) = some (.pointer (some ⟨p.block, p.off + i.toNat, none⟩))) ∧
    (∀ H, buildSliceA Try.prog 25 0 [] H = some (.slice (some ⟨H.length, 0, none⟩) 0 0, H ++ [.cells [] 3 false])) ∧
    (∀ H k0 x0, buildSliceA Try.prog 25 1 [(0, (.int k0 x0))] H = some (.slice (some ⟨H.length, 0, none⟩) 1 1, H ++ [.cells [(.int k0 x0)] 3 false])) ∧
    (∀ H k0 x0 k1 x1, buildSliceA Try.prog 25 2 [(0, (.int k0 x0)), (1, (.int k1 x1))] H = some (.slice (some ⟨H.length, 0, none⟩) 2 2, H ++ [.cells [(.int k0 x0), (.int k1 x1)] 3 false])) ∧
    (∀ H k0 x0 k1 x1 k2 x2, buildSliceA Try.prog 25 3 [(0, (.int k0 x0)), (1, (.int k1 x1)), (2, (.int k2 x2))] H = some (.slice (some ⟨H.length, 0, none⟩) 3 3, H ++ [.cells [(.int k0 x0), (.int k1 x1), (.int k2 x2)] 3 false])) ∧
    (∀ a n c m d, binA Try.prog .eql 25 (.slice a n c) (.slice none m d) = some (.bool (a.isNone))) ∧
    (∀ a n c m d, binA Try.prog .neq 25 (.slice a n c) (.slice none m d) = some (.bool (!a.isNone))) ∧
    (∀ p n c, lenA Try.prog 25 (.slice p n c) = some (.int .i64 n)) ∧
    (∀ p H, loadA Try.prog 58 (.pointer (some p)) H = cellA H p.block p.off) ∧
    (∀ (p : Addr) (n c : Nat) (k : IntKind) {i : Int}, 0 ≤ i → i < (n : Int) → indexAddrA Try.prog 58 (.slice (some p) n c) (.int k i) = some (.pointer (some ⟨p.block, p.off + i.toNat, none⟩))) ∧
    (∀ H, buildSliceA Try.prog 58 0 [] H = some (.slice (some ⟨H.length, 0, none⟩) 0 0, H ++ [.cells [] 25 false])) ∧
    (∀ H p0 n0 c0, buildSliceA Try.prog 58 1 [(0, (.slice p0 n0 c0))] H = some (.slice (some ⟨H.length, 0, none⟩) 1 1, H ++ [.cells [(.slice p0 n0 c0)] 25 false])) ∧
    (∀ H p0 n0 c0 p1 n1 c1, buildSliceA Try.prog 58 2 [(0, (.slice p0 n0 c0)), (1, (.slice p1 n1 c1))] H = some (.slice (some ⟨H.length, 0, none⟩) 2 2, H ++ [.cells [(.slice p0 n0 c0), (.slice p1 n1 c1)] 25 false])) ∧
    (∀ H p0 n0 c0 p1 n1 c1 p2 n2 c2, buildSliceA Try.prog 58 3 [(0, (.slice p0 n0 c0)), (1, (.slice p1 n1 c1)), (2, (.slice p2 n2 c2))] H = some (.slice (some ⟨H.length, 0, none⟩) 3 3, H ++ [.cells [(.slice p0 n0 c0), (.slice p1 n1 c1), (.slice p2 n2 c2)] 25 false])) ∧
    (∀ a n c m d, binA Try.prog .eql 58 (.slice a n c) (.slice none m d) = some (.bool (a.isNone))) ∧
    (∀ a n c m d, binA Try.prog .neq 58 (.slice a n c) (.slice none m d) = some (.bool (!a.isNone))) ∧
    (∀ p n c, lenA Try.prog 58 (.slice p n c) = some (.int .i64 n)) ∧
    (∀ p H, loadA Try.prog 69 (.pointer (some p)) H = cellA H p.block p.off) :=
  ⟨ld_one ag3,
   ld_one ag4,
   eq_bool_eql Try.underlying4,
   eq_bool_neq Try.underlying4,
   ld_one ag25,
   ix_one Try.underlying25 cs3,
   bs0 Try.underlying25 cs3 ze3 ⟨by kernel_rfl, by kernel_rfl⟩,
   fun H _ _ => bs1 Try.underlying25 cs3 ze3 ⟨by kernel_rfl, by kernel_rfl⟩ H rfl,
   fun H _ _ _ _ => bs2 Try.underlying25 cs3 ze3 ⟨by kernel_rfl, by kernel_rfl⟩ H rfl rfl,
   fun H _ _ _ _ _ _ => bs3 Try.underlying25 cs3 ze3 ⟨by kernel_rfl, by kernel_rfl⟩ H rfl rfl rfl,
   eq_nil_eql Try.underlying25,
   eq_nil_neq Try.underlying25,
   ln_sl Try.underlying25,
   ld_one ag58,
   ix_one Try.underlying58 cs25,
   bs0 Try.underlying58 cs25 ze25 ⟨by kernel_rfl, by kernel_rfl⟩,
   fun H _ _ _ => bs1 Try.underlying58 cs25 ze25 ⟨by kernel_rfl, by kernel_rfl⟩ H rfl,
   fun H _ _ _ _ _ _ => bs2 Try.underlying58 cs25 ze25 ⟨by kernel_rfl, by kernel_rfl⟩ H rfl rfl,
   fun H _ _ _ _ _ _ _ _ _ => bs3 Try.underlying58 cs25 ze25 ⟨by kernel_rfl, by kernel_rfl⟩ H rfl rfl rfl,
   eq_nil_eql Try.underlying58,
   eq_nil_neq Try.underlying58,
   ln_sl Try.underlying58,
   ld_one ag69⟩
end Go.Proofs.Ytedlnjcfacadgaa.Ai
