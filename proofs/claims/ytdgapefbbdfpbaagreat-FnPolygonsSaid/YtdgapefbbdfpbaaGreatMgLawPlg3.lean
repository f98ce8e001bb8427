/- Texts of this claim, joined: Ty, Arr, Grf, Bag, Ones, Drw, Drb, Has, PermP, PutP, Put, Base, Corn, IdxP, Tri, Tri2, Tri3, TriP, Dgs, Sort, Good. -/
import Derived.Test.YtdgapefbbdfpbaaGreatProg
import Derived.KernelRfl
import Derived.Laws.Bits64
import Derived.Laws.BitsLemmas
import Derived.Test.YtdgapefbbdfpbaaGreatMgLawPlg2
namespace Go.Proofs.YtdgapefbbdfpbaaGreat.Ai
open Go
theorem cs3 : Tryz.prog.cellsOf 3 = 1 := by kernel_rfl
theorem by3 : Tryz.prog.bytesOf 3 = 8 := by kernel_rfl
theorem ag3 : isAggA Tryz.prog 3 = some false := by kernel_rfl
theorem ze3 : zeroA Tryz.prog 3 = some (.int .i64 0) := by kernel_rfl
theorem zk3 : zeroOk Tryz.prog 3 = true := by kernel_rfl
theorem ag4 : isAggA Tryz.prog 4 = some false := by kernel_rfl
theorem ag5 : isAggA Tryz.prog 5 = some false := by kernel_rfl
theorem ag9 : isAggA Tryz.prog 9 = some false := by kernel_rfl
theorem cs25 : Tryz.prog.cellsOf 25 = 1 := by kernel_rfl
theorem ag25 : isAggA Tryz.prog 25 = some false := by kernel_rfl
theorem cs26 : Tryz.prog.cellsOf 26 = 1 := by kernel_rfl
theorem ag26 : isAggA Tryz.prog 26 = some false := by kernel_rfl
theorem cs28 : Tryz.prog.cellsOf 28 = 2 := by kernel_rfl
theorem ag28 : isAggA Tryz.prog 28 = some true := by kernel_rfl
theorem cs34 : Tryz.prog.cellsOf 34 = 1 := by kernel_rfl
theorem by34 : Tryz.prog.bytesOf 34 = 24 := by kernel_rfl
theorem ag34 : isAggA Tryz.prog 34 = some false := by kernel_rfl
theorem ze34 : zeroA Tryz.prog 34 = some (.slice none 0 0) := by kernel_rfl
theorem zk34 : zeroOk Tryz.prog 34 = true := by kernel_rfl
theorem ag72 : isAggA Tryz.prog 72 = some false := by kernel_rfl
theorem ag77 : isAggA Tryz.prog 77 = some false := by kernel_rfl
theorem ag79 : isAggA Tryz.prog 79 = some false := by kernel_rfl
theorem cs81 : Tryz.prog.cellsOf 81 = 9 := by kernel_rfl
theorem cs96 : Tryz.prog.cellsOf 96 = 2 := by kernel_rfl
theorem by96 : Tryz.prog.bytesOf 96 = 16 := by kernel_rfl
theorem ag96 : isAggA Tryz.prog 96 = some true := by kernel_rfl
theorem ze96 : zeroA Tryz.prog 96 = some (.agg #[(.int .i64 0), (.int .i64 0)]) := by kernel_rfl
theorem zk96 : zeroOk Tryz.prog 96 = true := by kernel_rfl
theorem ag111 : isAggA Tryz.prog 111 = some false := by kernel_rfl
theorem ag116 : isAggA Tryz.prog 116 = some false := by kernel_rfl
theorem ag117 : isAggA Tryz.prog 117 = some false := by kernel_rfl
theorem cs118 : Tryz.prog.cellsOf 118 = 1 := by kernel_rfl
theorem ag118 : isAggA Tryz.prog 118 = some false := by kernel_rfl
theorem ze118 : zeroA Tryz.prog 118 = some (.int .u64 0) := by kernel_rfl
theorem ag120 : isAggA Tryz.prog 120 = some false := by kernel_rfl
theorem ag142 : isAggA Tryz.prog 142 = some false := by kernel_rfl
theorem ag156 : isAggA Tryz.prog 156 = some false := by kernel_rfl
theorem own1_26 {H0 H : AH} {v : Value} {ps : List (Int × Int)} (h : MineP 96 H0 H v ps) (hp : H0 <+: H) (hb : ps.length ≤ 1099511627775) (a b : Int) : ∃ v' H', appendA Tryz.prog 26 26 v (.slice (some ⟨H.length, 0, none⟩) 1 1) (H ++ [.cells [.int .i64 a, .int .i64 b] 96 false]) = some (v', H') ∧ MineP 96 H0 H' v' (ps ++ [(a, b)]) ∧ H0 <+: H' ∧ Kept v H H' ∧ H.length ≤ rowO v' ∧ isTup v' = false := MineP.app1 Tryz.underlying26 cs96 (by rw [by96]; decide) zk96 h hp hb a b
theorem app34 {H : AH} {o : Nat} {vs : List Value} {v : Value} {n c : Nat} (ho : H[o]? = some (.cells vs 3 false)) (hn : vs.length = n) (hb : n ≤ 1099511627776) : appendA Tryz.prog 34 34 (.slice (some ⟨o, 0, none⟩) n c) (.slice (some ⟨H.length, 0, none⟩) 1 1) (H ++ [.cells [v] 3 false]) = some (.slice (some ⟨H.length + 1, 0, none⟩) (n + 1) (n + 1), H.set o .dead ++ [.cells [v] 3 false, .cells (vs ++ [v]) 3 false]) := app_one Tryz.underlying34 cs3 (by rw [by3]; decide) zk3 ho hn hb
theorem own1_34 {H0 H : AH} {v : Value} {ys : List Int} (h : Own 3 H0 H v ys) (hp : H0 <+: H) (hb : ys.length ≤ 1099511627775) (x : Int) : ∃ v' H', appendA Tryz.prog 34 34 v (.slice (some ⟨H.length, 0, none⟩) 1 1) (H ++ [.cells [.int .i64 x] 3 false]) = some (v', H') ∧ Own 3 H0 H' v' (ys ++ [x]) ∧ H0 <+: H' ∧ Kept v H H' ∧ H.length ≤ rowO v' ∧ isTup v' = false := Own.app1 Tryz.underlying34 cs3 (by rw [by3]; decide) zk3 h hp hb x
theorem appi34 {H : AH} {o : Nat} {xs : List Int} {x : Int} {n c : Nat} (ho : H[o]? = some (.cells (ints xs) 3 false)) (hn : xs.length = n) (hb : n ≤ 1099511627776) : appendA Tryz.prog 34 34 (.slice (some ⟨o, 0, none⟩) n c) (.slice (some ⟨H.length, 0, none⟩) 1 1) (H ++ [.cells [.int .i64 x] 3 false]) = some (.slice (some ⟨H.length + 1, 0, none⟩) (n + 1) (n + 1), H.set o .dead ++ [.cells [.int .i64 x] 3 false, .cells (ints (xs ++ [x])) 3 false]) := by rw [ints_app]; exact app34 ho (by rw [ints_len]; exact hn) hb
theorem ST : (∀ p H, loadA Tryz.prog 3 (.pointer (some p)) H = cellA H p.block p.off) ∧
    (∀ p H, loadA Tryz.prog 4 (.pointer (some p)) H = cellA H p.block p.off) ∧
    (∀ a b, binA Tryz.prog .eql 4 (.bool a) (.bool b) = some (.bool (decide (a = b)))) ∧
    (∀ a b, binA Tryz.prog .neq 4 (.bool a) (.bool b) = some (.bool (decide (a ≠ b)))) ∧
    (∀ p H, loadA Tryz.prog 5 (.pointer (some p)) H = cellA H p.block p.off) ∧
    (∀ p H, loadA Tryz.prog 9 (.pointer (some p)) H = cellA H p.block p.off) ∧
    (∀ p H, loadA Tryz.prog 25 (.pointer (some p)) H = cellA H p.block p.off) ∧
    (∀ (p : Addr) (n c : Nat) (k : IntKind) {i : Int}, 0 ≤ i → i < (n : Int) → indexAddrA Tryz.prog 25 (.slice (some p) n c) (.int k i) = some (.pointer (some ⟨p.block, p.off + i.toNat, none⟩))) ∧
    (∀ H, buildSliceA Tryz.prog 25 0 [] H = some (.slice (some ⟨H.length, 0, none⟩) 0 0, H ++ [.cells [] 34 false])) ∧
    (∀ H p0 n0 c0, buildSliceA Tryz.prog 25 1 [(0, (.slice p0 n0 c0))] H = some (.slice (some ⟨H.length, 0, none⟩) 1 1, H ++ [.cells [(.slice p0 n0 c0)] 34 false])) ∧
    (∀ H p0 n0 c0 p1 n1 c1, buildSliceA Tryz.prog 25 2 [(0, (.slice p0 n0 c0)), (1, (.slice p1 n1 c1))] H = some (.slice (some ⟨H.length, 0, none⟩) 2 2, H ++ [.cells [(.slice p0 n0 c0), (.slice p1 n1 c1)] 34 false])) ∧
    (∀ H p0 n0 c0 p1 n1 c1 p2 n2 c2, buildSliceA Tryz.prog 25 3 [(0, (.slice p0 n0 c0)), (1, (.slice p1 n1 c1)), (2, (.slice p2 n2 c2))] H = some (.slice (some ⟨H.length, 0, none⟩) 3 3, H ++ [.cells [(.slice p0 n0 c0), (.slice p1 n1 c1), (.slice p2 n2 c2)] 34 false])) ∧
    (∀ a n c m d, binA Tryz.prog .eql 25 (.slice a n c) (.slice none m d) = some (.bool (a.isNone))) ∧
    (∀ a n c m d, binA Tryz.prog .neq 25 (.slice a n c) (.slice none m d) = some (.bool (!a.isNone))) ∧
    (∀ x H, lenS Tryz.prog 25 x H = lenA Tryz.prog 25 x) ∧
    (∀ p n c, lenA Tryz.prog 25 (.slice p n c) = some (.int .i64 n)) ∧
    (∀ p H, loadA Tryz.prog 26 (.pointer (some p)) H = cellA H p.block p.off) ∧
    (∀ H, buildSliceA Tryz.prog 26 0 [] H = some (.slice (some ⟨H.length, 0, none⟩) 0 0, H ++ [.cells [] 96 false])) ∧
    (∀ H a b, buildSliceA Tryz.prog 26 1 [(0, .agg (List.toArray [a, b]))] H = some (.slice (some ⟨H.length, 0, none⟩) 1 1, H ++ [.cells [a, b] 96 false])) ∧
    (∀ (p : Addr) (n c : Nat) (k : IntKind) {i : Int}, 0 ≤ i → i < (n : Int) → indexAddrA Tryz.prog 26 (.slice (some p) n c) (.int k i) = some (.pointer (some ⟨p.block, p.off + 2 * i.toNat, none⟩))) ∧
    (∀ a n c m d, binA Tryz.prog .eql 26 (.slice a n c) (.slice none m d) = some (.bool (a.isNone))) ∧
    (∀ a n c m d, binA Tryz.prog .neq 26 (.slice a n c) (.slice none m d) = some (.bool (!a.isNone))) ∧
    (∀ x H, lenS Tryz.prog 26 x H = lenA Tryz.prog 26 x) ∧
    (∀ p n c, lenA Tryz.prog 26 (.slice p n c) = some (.int .i64 n)) ∧
    (∀ (p : Addr), fieldAddrA Tryz.prog 28 (.pointer (some p)) 0 = some (.pointer (some ⟨p.block, p.off, none⟩))) ∧
    (∀ (p : Addr), fieldAddrA Tryz.prog 28 (.pointer (some p)) 1 = some (.pointer (some ⟨p.block, p.off + 1, none⟩))) ∧
    (∀ p H, loadA Tryz.prog 34 (.pointer (some p)) H = cellA H p.block p.off) ∧
    (∀ (p : Addr) (n c : Nat) (k : IntKind) {i : Int}, 0 ≤ i → i < (n : Int) → indexAddrA Tryz.prog 34 (.slice (some p) n c) (.int k i) = some (.pointer (some ⟨p.block, p.off + i.toNat, none⟩))) ∧
    (∀ H, buildSliceA Tryz.prog 34 0 [] H = some (.slice (some ⟨H.length, 0, none⟩) 0 0, H ++ [.cells [] 3 false])) ∧
    (∀ H k0 x0, buildSliceA Tryz.prog 34 1 [(0, (.int k0 x0))] H = some (.slice (some ⟨H.length, 0, none⟩) 1 1, H ++ [.cells [(.int k0 x0)] 3 false])) ∧
    (∀ H k0 x0 k1 x1, buildSliceA Tryz.prog 34 2 [(0, (.int k0 x0)), (1, (.int k1 x1))] H = some (.slice (some ⟨H.length, 0, none⟩) 2 2, H ++ [.cells [(.int k0 x0), (.int k1 x1)] 3 false])) ∧
    (∀ H k0 x0 k1 x1 k2 x2, buildSliceA Tryz.prog 34 3 [(0, (.int k0 x0)), (1, (.int k1 x1)), (2, (.int k2 x2))] H = some (.slice (some ⟨H.length, 0, none⟩) 3 3, H ++ [.cells [(.int k0 x0), (.int k1 x1), (.int k2 x2)] 3 false])) ∧
    (∀ a n c m d, binA Tryz.prog .eql 34 (.slice a n c) (.slice none m d) = some (.bool (a.isNone))) ∧
    (∀ a n c m d, binA Tryz.prog .neq 34 (.slice a n c) (.slice none m d) = some (.bool (!a.isNone))) ∧
    (∀ x H, lenS Tryz.prog 34 x H = lenA Tryz.prog 34 x) ∧
    (∀ p n c, lenA Tryz.prog 34 (.slice p n c) = some (.int .i64 n)) ∧
    (∀ (p : Addr), fieldAddrA Tryz.prog 59 (.pointer (some p)) 0 = some (.pointer (some ⟨p.block, p.off, none⟩))) ∧
    (∀ (p : Addr), fieldAddrA Tryz.prog 59 (.pointer (some p)) 1 = some (.pointer (some ⟨p.block, p.off + 1, none⟩))) ∧
    (∀ p H, loadA Tryz.prog 72 (.pointer (some p)) H = cellA H p.block p.off) ∧
    (∀ p H, loadA Tryz.prog 77 (.pointer (some p)) H = cellA H p.block p.off) ∧
    (∀ p H, loadA Tryz.prog 79 (.pointer (some p)) H = cellA H p.block p.off) ∧
    (∀ (p : Addr) (k : IntKind), indexAddrA Tryz.prog 81 (.pointer (some p)) (.int k 0) = some (.pointer (some ⟨p.block, p.off, none⟩))) ∧
    (∀ (p : Addr) (k : IntKind), indexAddrA Tryz.prog 81 (.pointer (some p)) (.int k 1) = some (.pointer (some ⟨p.block, p.off + 1, none⟩))) ∧
    (∀ (p : Addr) (k : IntKind), indexAddrA Tryz.prog 81 (.pointer (some p)) (.int k 2) = some (.pointer (some ⟨p.block, p.off + 2, none⟩))) ∧
    (∀ (p : Addr) (k : IntKind), indexAddrA Tryz.prog 96 (.pointer (some p)) (.int k 0) = some (.pointer (some ⟨p.block, p.off, none⟩))) ∧
    (∀ (p : Addr) (k : IntKind), indexAddrA Tryz.prog 96 (.pointer (some p)) (.int k 1) = some (.pointer (some ⟨p.block, p.off + 1, none⟩))) ∧
    (∀ p H, loadA Tryz.prog 111 (.pointer (some p)) H = cellA H p.block p.off) ∧
    (∀ p H, loadA Tryz.prog 116 (.pointer (some p)) H = cellA H p.block p.off) ∧
    (∀ (p : Addr) (n c : Nat) (k : IntKind) {i : Int}, 0 ≤ i → i < (n : Int) → indexAddrA Tryz.prog 116 (.slice (some p) n c) (.int k i) = some (.pointer (some ⟨p.block, p.off + i.toNat, none⟩))) ∧
    (∀ H, buildSliceA Tryz.prog 116 0 [] H = some (.slice (some ⟨H.length, 0, none⟩) 0 0, H ++ [.cells [] 118 false])) ∧
    (∀ H k0 x0, buildSliceA Tryz.prog 116 1 [(0, (.int k0 x0))] H = some (.slice (some ⟨H.length, 0, none⟩) 1 1, H ++ [.cells [(.int k0 x0)] 118 false])) ∧
    (∀ H k0 x0 k1 x1, buildSliceA Tryz.prog 116 2 [(0, (.int k0 x0)), (1, (.int k1 x1))] H = some (.slice (some ⟨H.length, 0, none⟩) 2 2, H ++ [.cells [(.int k0 x0), (.int k1 x1)] 118 false])) ∧
    (∀ H k0 x0 k1 x1 k2 x2, buildSliceA Tryz.prog 116 3 [(0, (.int k0 x0)), (1, (.int k1 x1)), (2, (.int k2 x2))] H = some (.slice (some ⟨H.length, 0, none⟩) 3 3, H ++ [.cells [(.int k0 x0), (.int k1 x1), (.int k2 x2)] 118 false])) ∧
    (∀ a n c m d, binA Tryz.prog .eql 116 (.slice a n c) (.slice none m d) = some (.bool (a.isNone))) ∧
    (∀ a n c m d, binA Tryz.prog .neq 116 (.slice a n c) (.slice none m d) = some (.bool (!a.isNone))) ∧
    (∀ x H, lenS Tryz.prog 116 x H = lenA Tryz.prog 116 x) ∧
    (∀ p n c, lenA Tryz.prog 116 (.slice p n c) = some (.int .i64 n)) ∧
    (∀ p H, loadA Tryz.prog 117 (.pointer (some p)) H = cellA H p.block p.off) ∧
    (∀ p H, loadA Tryz.prog 118 (.pointer (some p)) H = cellA H p.block p.off) ∧
    (∀ p H, loadA Tryz.prog 120 (.pointer (some p)) H = cellA H p.block p.off) ∧
    (∀ p H, loadA Tryz.prog 142 (.pointer (some p)) H = cellA H p.block p.off) ∧
    (∀ p H, loadA Tryz.prog 156 (.pointer (some p)) H = cellA H p.block p.off) ∧
    (∀ k n, convA Tryz.prog 3 5 (.int k n) = some (.int .u8 (IntKind.u8.wrap n))) ∧
    (∀ k n, convA Tryz.prog 3 72 (.int k n) = some (.int .u64 (IntKind.u64.wrap n))) ∧
    (∀ k n, convA Tryz.prog 3 117 (.int k n) = some (.int .u64 (IntKind.u64.wrap n))) ∧
    (∀ k n, convA Tryz.prog 3 118 (.int k n) = some (.int .u64 (IntKind.u64.wrap n))) ∧
    (∀ k n, convA Tryz.prog 3 156 (.int k n) = some (.int .u32 (IntKind.u32.wrap n))) ∧
    (∀ k n, convA Tryz.prog 5 3 (.int k n) = some (.int .i64 (IntKind.i64.wrap n))) ∧
    (∀ k n, convA Tryz.prog 5 72 (.int k n) = some (.int .u64 (IntKind.u64.wrap n))) ∧
    (∀ k n, convA Tryz.prog 5 117 (.int k n) = some (.int .u64 (IntKind.u64.wrap n))) ∧
    (∀ k n, convA Tryz.prog 5 118 (.int k n) = some (.int .u64 (IntKind.u64.wrap n))) ∧
    (∀ k n, convA Tryz.prog 5 156 (.int k n) = some (.int .u32 (IntKind.u32.wrap n))) ∧
    (∀ k n, convA Tryz.prog 72 3 (.int k n) = some (.int .i64 (IntKind.i64.wrap n))) ∧
    (∀ k n, convA Tryz.prog 72 5 (.int k n) = some (.int .u8 (IntKind.u8.wrap n))) ∧
    (∀ k n, convA Tryz.prog 72 117 (.int k n) = some (.int .u64 (IntKind.u64.wrap n))) ∧
    (∀ k n, convA Tryz.prog 72 118 (.int k n) = some (.int .u64 (IntKind.u64.wrap n))) ∧
    (∀ k n, convA Tryz.prog 72 156 (.int k n) = some (.int .u32 (IntKind.u32.wrap n))) ∧
    (∀ k n, convA Tryz.prog 117 3 (.int k n) = some (.int .i64 (IntKind.i64.wrap n))) ∧
    (∀ k n, convA Tryz.prog 117 5 (.int k n) = some (.int .u8 (IntKind.u8.wrap n))) ∧
    (∀ k n, convA Tryz.prog 117 72 (.int k n) = some (.int .u64 (IntKind.u64.wrap n))) ∧
    (∀ k n, convA Tryz.prog 117 118 (.int k n) = some (.int .u64 (IntKind.u64.wrap n))) ∧
    (∀ k n, convA Tryz.prog 117 156 (.int k n) = some (.int .u32 (IntKind.u32.wrap n))) ∧
    (∀ k n, convA Tryz.prog 118 3 (.int k n) = some (.int .i64 (IntKind.i64.wrap n))) ∧
    (∀ k n, convA Tryz.prog 118 5 (.int k n) = some (.int .u8 (IntKind.u8.wrap n))) ∧
    (∀ k n, convA Tryz.prog 118 72 (.int k n) = some (.int .u64 (IntKind.u64.wrap n))) ∧
    (∀ k n, convA Tryz.prog 118 117 (.int k n) = some (.int .u64 (IntKind.u64.wrap n))) ∧
    (∀ k n, convA Tryz.prog 118 156 (.int k n) = some (.int .u32 (IntKind.u32.wrap n))) ∧
    (∀ k n, convA Tryz.prog 156 3 (.int k n) = some (.int .i64 (IntKind.i64.wrap n))) ∧
    (∀ k n, convA Tryz.prog 156 5 (.int k n) = some (.int .u8 (IntKind.u8.wrap n))) ∧
    (∀ k n, convA Tryz.prog 156 72 (.int k n) = some (.int .u64 (IntKind.u64.wrap n))) ∧
    (∀ k n, convA Tryz.prog 156 117 (.int k n) = some (.int .u64 (IntKind.u64.wrap n))) ∧
    (∀ k n, convA Tryz.prog 156 118 (.int k n) = some (.int .u64 (IntKind.u64.wrap n))) :=
  ⟨ld_one ag3,
   ld_one ag4,
   eq_bool_eql Tryz.underlying4,
   eq_bool_neq Tryz.underlying4,
   ld_one ag5,
   ld_one ag9,
   ld_one ag25,
   ix_one Tryz.underlying25 cs34,
   bs0 Tryz.underlying25 cs34 ze34 ⟨by kernel_rfl, by kernel_rfl⟩,
   fun H _ _ _ => bs1 Tryz.underlying25 cs34 ze34 ⟨by kernel_rfl, by kernel_rfl⟩ H rfl,
   fun H _ _ _ _ _ _ => bs2 Tryz.underlying25 cs34 ze34 ⟨by kernel_rfl, by kernel_rfl⟩ H rfl rfl,
   fun H _ _ _ _ _ _ _ _ _ => bs3 Tryz.underlying25 cs34 ze34 ⟨by kernel_rfl, by kernel_rfl⟩ H rfl rfl rfl,
   eq_nil_eql Tryz.underlying25,
   eq_nil_neq Tryz.underlying25,
   lenS_sl (by decide),
   ln_sl Tryz.underlying25,
   ld_one ag26,
   bsP0 Tryz.underlying26 cs96 ze96 ⟨by kernel_rfl, by kernel_rfl⟩,
   bsP1 Tryz.underlying26 cs96 ze96,
   ix_two Tryz.underlying26 cs96,
   eq_nil_eql Tryz.underlying26,
   eq_nil_neq Tryz.underlying26,
   lenS_sl (by decide),
   ln_sl Tryz.underlying26,
   fun p => by kernel_rfl,
   fun p => by kernel_rfl,
   ld_one ag34,
   ix_one Tryz.underlying34 cs3,
   bs0 Tryz.underlying34 cs3 ze3 ⟨by kernel_rfl, by kernel_rfl⟩,
   fun H _ _ => bs1 Tryz.underlying34 cs3 ze3 ⟨by kernel_rfl, by kernel_rfl⟩ H rfl,
   fun H _ _ _ _ => bs2 Tryz.underlying34 cs3 ze3 ⟨by kernel_rfl, by kernel_rfl⟩ H rfl rfl,
   fun H _ _ _ _ _ _ => bs3 Tryz.underlying34 cs3 ze3 ⟨by kernel_rfl, by kernel_rfl⟩ H rfl rfl rfl,
   eq_nil_eql Tryz.underlying34,
   eq_nil_neq Tryz.underlying34,
   lenS_sl (by decide),
   ln_sl Tryz.underlying34,
   fun p => by kernel_rfl,
   fun p => by kernel_rfl,
   ld_one ag72,
   ld_one ag77,
   ld_one ag79,
   fun p k => ix_arr Tryz.underlying81 cs3 p k (by decide) (by decide),
   fun p k => ix_arr Tryz.underlying81 cs3 p k (by decide) (by decide),
   fun p k => ix_arr Tryz.underlying81 cs3 p k (by decide) (by decide),
   fun p k => ix_arr Tryz.underlying96 cs3 p k (by decide) (by decide),
   fun p k => ix_arr Tryz.underlying96 cs3 p k (by decide) (by decide),
   ld_one ag111,
   ld_one ag116,
   ix_one Tryz.underlying116 cs118,
   bs0 Tryz.underlying116 cs118 ze118 ⟨by kernel_rfl, by kernel_rfl⟩,
   fun H _ _ => bs1 Tryz.underlying116 cs118 ze118 ⟨by kernel_rfl, by kernel_rfl⟩ H rfl,
   fun H _ _ _ _ => bs2 Tryz.underlying116 cs118 ze118 ⟨by kernel_rfl, by kernel_rfl⟩ H rfl rfl,
   fun H _ _ _ _ _ _ => bs3 Tryz.underlying116 cs118 ze118 ⟨by kernel_rfl, by kernel_rfl⟩ H rfl rfl rfl,
   eq_nil_eql Tryz.underlying116,
   eq_nil_neq Tryz.underlying116,
   lenS_sl (by decide),
   ln_sl Tryz.underlying116,
   ld_one ag117,
   ld_one ag118,
   ld_one ag120,
   ld_one ag142,
   ld_one ag156,
   fun _ _ => by simp only [convA, Tryz.underlying3, Tryz.underlying5],
   fun _ _ => by simp only [convA, Tryz.underlying3, Tryz.underlying72],
   fun _ _ => by simp only [convA, Tryz.underlying3, Tryz.underlying117],
   fun _ _ => by simp only [convA, Tryz.underlying3, Tryz.underlying118],
   fun _ _ => by simp only [convA, Tryz.underlying3, Tryz.underlying156],
   fun _ _ => by simp only [convA, Tryz.underlying5, Tryz.underlying3],
   fun _ _ => by simp only [convA, Tryz.underlying5, Tryz.underlying72],
   fun _ _ => by simp only [convA, Tryz.underlying5, Tryz.underlying117],
   fun _ _ => by simp only [convA, Tryz.underlying5, Tryz.underlying118],
   fun _ _ => by simp only [convA, Tryz.underlying5, Tryz.underlying156],
   fun _ _ => by simp only [convA, Tryz.underlying72, Tryz.underlying3],
   fun _ _ => by simp only [convA, Tryz.underlying72, Tryz.underlying5],
   fun _ _ => by simp only [convA, Tryz.underlying72, Tryz.underlying117],
   fun _ _ => by simp only [convA, Tryz.underlying72, Tryz.underlying118],
   fun _ _ => by simp only [convA, Tryz.underlying72, Tryz.underlying156],
   fun _ _ => by simp only [convA, Tryz.underlying117, Tryz.underlying3],
   fun _ _ => by simp only [convA, Tryz.underlying117, Tryz.underlying5],
   fun _ _ => by simp only [convA, Tryz.underlying117, Tryz.underlying72],
   fun _ _ => by simp only [convA, Tryz.underlying117, Tryz.underlying118],
   fun _ _ => by simp only [convA, Tryz.underlying117, Tryz.underlying156],
   fun _ _ => by simp only [convA, Tryz.underlying118, Tryz.underlying3],
   fun _ _ => by simp only [convA, Tryz.underlying118, Tryz.underlying5],
   fun _ _ => by simp only [convA, Tryz.underlying118, Tryz.underlying72],
   fun _ _ => by simp only [convA, Tryz.underlying118, Tryz.underlying117],
   fun _ _ => by simp only [convA, Tryz.underlying118, Tryz.underlying156],
   fun _ _ => by simp only [convA, Tryz.underlying156, Tryz.underlying3],
   fun _ _ => by simp only [convA, Tryz.underlying156, Tryz.underlying5],
   fun _ _ => by simp only [convA, Tryz.underlying156, Tryz.underlying72],
   fun _ _ => by simp only [convA, Tryz.underlying156, Tryz.underlying117],
   fun _ _ => by simp only [convA, Tryz.underlying156, Tryz.underlying118]⟩
end Go.Proofs.YtdgapefbbdfpbaaGreat.Ai
namespace Go.Proofs.YtdgapefbbdfpbaaGreat.Ai
open Go Go.RowKit
set_option linter.unusedVariables false
set_option linter.unusedSimpArgs false
theorem alloc_a2 (H : AH) : allocA Tryz.prog 96 H = some (.pointer (some ⟨H.length, 0, none⟩), H ++ [.cells [.int .i64 0, .int .i64 0] 96 false]) := by kernel_rfl
theorem build_a2 (a b : Int) : buildA Tryz.prog 96 [(0, .int .i64 a), (1, .int .i64 b)] = some (.agg (List.toArray [.int .i64 a, .int .i64 b])) := by kernel_rfl
theorem store_a2 (H : AH) (vs : List Value) (hv : vs.length = 2) (a b : Value) : storeA Tryz.prog 96 (.pointer (some ⟨H.length, 0, none⟩)) (.agg (List.toArray [a, b])) (H ++ [.cells vs 96 false]) = some (H ++ [.cells [a, b] 96 false]) :=
  st_new rfl (by rw [cs96]; rfl) (by rw [cs96]; decide) (by rw [cs96]; exact hv)
theorem load_a2 (H : AH) (a b : Value) : loadA Tryz.prog 96 (.pointer (some ⟨H.length, 0, none⟩)) (H ++ [.cells [a, b] 96 false]) = some (.agg (List.toArray [a, b])) := by
  simp only [loadA, at_new, ag96, cs96]
  rfl
theorem end_cell (P : Program) (a : Nat) (t : TypeId) (R : Value → AH → Prop) (s : Sl) (H : AH) (v : Value) (h : loadA P t (s a) H = some v) (ht : isTup v = false) (hr : R v H) : endA P [.cell a t] R .ret s H := by
  simp only [endA, resA, h, ht]
  simp [outA]
  exact hr
end Go.Proofs.YtdgapefbbdfpbaaGreat.Ai
namespace Go.Proofs.YtdgapefbbdfpbaaGreat.Ai
open Go Go.RowKit
set_option linter.unusedVariables false
set_option linter.unusedSimpArgs false
theorem st_at {P : Program} {t e : TypeId} (hc : P.cellsOf t = 1) {H : AH} {o i : Nat} {vs : List Value} {y : Value} (ho : H[o]? = some (.cells vs e false)) (hi : i < vs.length) (h1 : isTup y = false) (h2 : y.cells.toList = [y]) :
    storeA P t (.pointer (some ⟨o, i, none⟩)) y H = some (H.set o (.cells (vs.set i y) e false)) := by
  simp only [storeA, ho]
  rw [h2, if_pos ⟨h1, by rw [hc]; rfl, by omega, by simp; omega⟩]
  have : putAt vs i [y] = vs.set i y := by
    unfold putAt
    rw [List.set_eq_take_append_cons_drop, if_pos hi]
    simp
  rw [this]
theorem ld_agg {P : Program} {t e : TypeId} (h : isAggA P t = some true) (hc : P.cellsOf t = 2) {H : AH} {o : Nat} {a b : Value} {ro : Bool} (ho : H[o]? = some (.cells [a, b] e ro)) : loadA P t (.pointer (some ⟨o, 0, none⟩)) H = some (.agg (List.toArray [a, b])) :=
  ld_two h hc (by rw [cell_of ho]; rfl) (by rw [cell_of ho]; rfl)
section
variable {e : TypeId} {G H : AH} {v : Value} {ps : List (Int × Int)}
end
theorem MineP.keepL {e : TypeId} {H0 H H' : AH} {v : Value} {ps : List (Int × Int)} (h : MineP e H0 H v ps) (hh : H0.length ≤ rowO v → ∀ y, H[rowO v]? = some y → H'[rowO v]? = some y) : MineP e H0 H' v ps := by
  rcases h with h | ⟨o, zs, h1, h2, h3, h4⟩
  · exact .inl h
  · subst h1; exact .inr ⟨o, zs, rfl, h2, hh h2 _ h3, h4⟩
theorem cell_new (H : AH) (vs : List Value) (e : TypeId) (ro : Bool) (i : Nat) : cellA (H ++ [.cells vs e ro]) H.length i = vs[i]? := cell_of (at_new ..) i
end Go.Proofs.YtdgapefbbdfpbaaGreat.Ai
namespace Go.Proofs.YtdgapefbbdfpbaaGreat.Ai
open Go Go.RowKit
set_option linter.unusedVariables false
set_option linter.unusedSimpArgs false
theorem ofInt_nat (n : Nat) (h : n < 2 ^ 64) : (BitVec.ofInt 64 (n : Int)).toNat = n := by
  rw [BitVec.ofInt_natCast, BitVec.toNat_ofNat, Nat.mod_eq_of_lt h]
theorem and_nat (a b : Nat) (ha : a < 2 ^ 64) (hb : b < 2 ^ 64) : bitsA .and .u64 (a : Int) (b : Int) = ((a &&& b : Nat) : Int) := by
  have h : a &&& b < 2 ^ 64 := Nat.lt_of_le_of_lt Nat.and_le_left ha
  have e : (BitVec.ofInt 64 (a : Int) &&& BitVec.ofInt 64 (b : Int)).toNat = a &&& b := by rw [BitVec.toNat_and, ofInt_nat a ha, ofInt_nat b hb]
  show IntKind.u64.wrap (((BitVec.ofInt 64 (a : Int) &&& BitVec.ofInt 64 (b : Int)).toNat : Nat) : Int) = _
  rw [e, IntKind.wrap_u64]; omega
theorem shr_nat (a y : Nat) (hy : y ≤ 64) : (a : Int).fdiv (2 ^ (min (y : Int).toNat 64)) = ((a / 2 ^ y : Nat) : Int) := by
  rw [Int.toNat_natCast, Nat.min_eq_left hy]
  rw [Int.fdiv_eq_ediv_of_nonneg _ (Int.le_of_lt (Int.pow_pos (by decide)))]
  norm_cast
theorem bin_and (P : Program) (t : TypeId) (a b : Nat) (ha : a < 2 ^ 64) (hb : b < 2 ^ 64) : binA P .and t (.int .u64 (a : Int)) (.int .u64 (b : Int)) = some (.int .u64 ((a &&& b : Nat) : Int)) := by
  simp only [binA, intA, and_nat a b ha hb]
  simp
/-- a word that is a set of numbers below L -/
def Bits (b : Nat) (L : Nat) (s : List Int) : Prop := b < 256 ∧ ∀ z, z < L → b.testBit z = decide ((z : Int) ∈ s)
theorem Bits.or {b L y : Nat} {s : List Int} (h : Bits b L s) (hy : y < 8) : Bits (b ||| 2 ^ y) L (s ++ [(y : Int)]) := by
  refine ⟨?_, fun z hz => ?_⟩
  · have h1 : 2 ^ y < 2 ^ 8 := Nat.pow_lt_pow_right (by decide) hy
    exact Nat.or_lt_two_pow (n := 8) h.1 h1
  · rw [Nat.testBit_or, h.2 z hz, Nat.testBit_two_pow]
    have e : (y = z) ↔ ((z : Int) = y) := by omega
    by_cases hm : (z : Int) ∈ s <;> by_cases hz2 : y = z <;> simp [hm, hz2, e]
    · intro hh; exact hz2 (by omega)
theorem Bits.no {b L x y : Nat} {s : List Int} (h : Bits b L s) (hx : x < L) (hy : y < L) : (b &&& (2 ^ x ||| 2 ^ y) ≠ 0) ↔ ((x : Int) ∈ s ∨ (y : Int) ∈ s) := by
  have hbx := h.2 x hx
  have hby := h.2 y hy
  constructor
  · intro hne
    apply Decidable.byContradiction
    intro hno
    rw [not_or] at hno
    rw [decide_eq_false hno.1] at hbx
    rw [decide_eq_false hno.2] at hby
    apply hne
    apply Nat.eq_of_testBit_eq
    intro z
    rw [Nat.testBit_and, Nat.testBit_or, Nat.testBit_two_pow, Nat.testBit_two_pow, Nat.zero_testBit]
    by_cases e1 : x = z
    · subst e1; rw [hbx]; rfl
    · by_cases e2 : y = z
      · subst e2; rw [hby]; rfl
      · simp [e1, e2]
  · rintro h' h0
    rcases h' with g | g
    · rw [decide_eq_true g] at hbx
      have := congrArg (fun n => Nat.testBit n x) h0
      simp only [Nat.testBit_and, Nat.testBit_or, Nat.testBit_two_pow, Nat.zero_testBit, hbx] at this
      simp at this
    · rw [decide_eq_true g] at hby
      have := congrArg (fun n => Nat.testBit n y) h0
      simp only [Nat.testBit_and, Nat.testBit_or, Nat.testBit_two_pow, Nat.zero_testBit, hby] at this
      simp at this
end Go.Proofs.YtdgapefbbdfpbaaGreat.Ai
namespace Go.Proofs.YtdgapefbbdfpbaaGreat.Ai
open Go Go.RowKit
set_option linter.unusedVariables false
set_option linter.unusedSimpArgs false
theorem bin_shrU (P : Program) (t : TypeId) (b y : Nat) (hy : y < 64) : binA P .shr t (.int .u64 (b : Int)) (.int .u64 (y : Int)) = some (.int .u64 ((b / 2 ^ y : Nat) : Int)) := by
  have : ¬ ((y : Int) < 0) := by omega
  simp only [binA, shiftA, this, if_false, IntKind.bits]
  rw [if_pos (.inr trivial)]
  have := shr_nat b y (by omega)
  simp only [this]
end Go.Proofs.YtdgapefbbdfpbaaGreat.Ai
namespace Go.Proofs.YtdgapefbbdfpbaaGreat.Ai
open Go
def ords133 : List (Nat × List (Nat × Bool)) := [(2, [(0, false), (1, false), (2, false), (3, false), (4, false), (5, false), (6, false), (7, false), (8, false), (9, false)]), (3, [(0, false), (1, false), (2, false), (3, false), (4, false), (5, false), (6, false), (7, false), (8, false), (9, false), (10, false), (11, false)]), (6, [(0, false), (1, false), (2, false), (3, false), (4, false), (5, false), (6, false), (7, false), (8, false), (9, false)])]
def cd133 : Cd := (.seq (.reg [⟨⟨some 2, Op.assign (Operand.const (Value.int IntKind.i64 0)), none⟩, []⟩]) (.seq (.reg [⟨⟨some 3, Op.assign (Operand.const (Value.int IntKind.i64 0)), none⟩, []⟩]) (.seq (.seq (.reg [⟨⟨some 4, Op.move (Operand.tmp 0), none⟩, []⟩,
  ⟨⟨some 5, Op.nilCheck (Operand.tmp 4), none⟩, []⟩,
  ⟨⟨some 6, Op.fieldAddr 74 (Operand.tmp 5) 1, none⟩, []⟩,
  ⟨⟨some 7, Op.load 3 (Operand.tmp 6), none⟩, []⟩,
  ⟨⟨some 8, Op.move (Operand.tmp 0), none⟩, []⟩,
  ⟨⟨some 9, Op.nilCheck (Operand.tmp 8), none⟩, []⟩,
  ⟨⟨some 10, Op.fieldAddr 74 (Operand.tmp 9) 0, none⟩, []⟩,
  ⟨⟨some 11, Op.load 22 (Operand.tmp 10), none⟩, []⟩,
  ⟨⟨some 12, Op.call { callee := (Callee.builtin Builtin.len), args := #[(Operand.tmp 11)], argTypes := #[22] }, none⟩, []⟩,
  ⟨⟨some 13, Op.binOp BinOp.lss 3 (Operand.tmp 7) (Operand.tmp 12) 3, none⟩, []⟩]) (.cond (Operand.tmp 13) (.reg [⟨⟨some 14, Op.move (Operand.tmp 0), none⟩, []⟩,
  ⟨⟨some 15, Op.nilCheck (Operand.tmp 14), none⟩, []⟩,
  ⟨⟨some 16, Op.fieldAddr 74 (Operand.tmp 15) 0, none⟩, []⟩,
  ⟨⟨some 17, Op.load 22 (Operand.tmp 16), none⟩, []⟩,
  ⟨⟨some 18, Op.move (Operand.tmp 0), none⟩, []⟩,
  ⟨⟨some 19, Op.nilCheck (Operand.tmp 18), none⟩, []⟩,
  ⟨⟨some 20, Op.fieldAddr 74 (Operand.tmp 19) 1, none⟩, []⟩,
  ⟨⟨some 21, Op.load 3 (Operand.tmp 20), none⟩, []⟩,
  ⟨⟨some 22, Op.indexAddr 22 (Operand.tmp 17) (Operand.tmp 21), none⟩, []⟩,
  ⟨⟨some 23, Op.load 5 (Operand.tmp 22), none⟩, []⟩,
  ⟨⟨some 24, Op.convert 5 3 (Operand.tmp 23), none⟩, []⟩,
  ⟨⟨some 3, Op.assign (Operand.tmp 24), none⟩, []⟩]) .skip)) (.seq (.reg [⟨⟨some 25, Op.move (Operand.tmp 0), none⟩, []⟩,
  ⟨⟨some 26, Op.nilCheck (Operand.tmp 25), none⟩, []⟩,
  ⟨⟨some 27, Op.fieldAddr 74 (Operand.tmp 26) 1, none⟩, []⟩,
  ⟨⟨some 28, Op.load 3 (Operand.tmp 27), none⟩, []⟩,
  ⟨⟨some 29, Op.binOp BinOp.add 3 (Operand.tmp 28) (Operand.const (Value.int IntKind.i64 1)) 3, none⟩, []⟩,
  ⟨⟨some 30, Op.nilCheck (Operand.tmp 25), none⟩, []⟩,
  ⟨⟨some 31, Op.fieldAddr 74 (Operand.tmp 30) 1, none⟩, []⟩,
  ⟨⟨none, Op.store 3 (Operand.tmp 31) (Operand.tmp 29), none⟩, []⟩]) (.seq (.reg [⟨⟨some 32, Op.move (Operand.tmp 0), none⟩, []⟩,
  ⟨⟨some 33, Op.move (Operand.tmp 0), none⟩, []⟩,
  ⟨⟨some 34, Op.nilCheck (Operand.tmp 33), none⟩, []⟩,
  ⟨⟨some 35, Op.fieldAddr 74 (Operand.tmp 34) 2, none⟩, []⟩,
  ⟨⟨some 36, Op.load 72 (Operand.tmp 35), none⟩, []⟩,
  ⟨⟨some 37, Op.binOp BinOp.mul 72 (Operand.tmp 36) (Operand.const (Value.int IntKind.u64 6364136223846793005)) 72, none⟩, []⟩,
  ⟨⟨some 38, Op.move (Operand.tmp 3), none⟩, []⟩,
  ⟨⟨some 39, Op.convert 3 72 (Operand.tmp 38), none⟩, []⟩,
  ⟨⟨some 40, Op.binOp BinOp.add 72 (Operand.tmp 37) (Operand.tmp 39) 72, none⟩, []⟩,
  ⟨⟨some 41, Op.binOp BinOp.add 72 (Operand.tmp 40) (Operand.const (Value.int IntKind.u64 462197)) 72, none⟩, []⟩,
  ⟨⟨some 42, Op.nilCheck (Operand.tmp 32), none⟩, []⟩,
  ⟨⟨some 43, Op.fieldAddr 74 (Operand.tmp 42) 2, none⟩, []⟩,
  ⟨⟨none, Op.store 72 (Operand.tmp 43) (Operand.tmp 41), none⟩, []⟩]) (.seq (.seq (.reg [⟨⟨some 44, Op.move (Operand.tmp 0), none⟩, []⟩,
  ⟨⟨some 45, Op.nilCheck (Operand.tmp 44), none⟩, []⟩,
  ⟨⟨some 46, Op.fieldAddr 74 (Operand.tmp 45) 1, none⟩, []⟩,
  ⟨⟨some 47, Op.load 3 (Operand.tmp 46), none⟩, []⟩,
  ⟨⟨some 48, Op.move (Operand.tmp 0), none⟩, []⟩,
  ⟨⟨some 49, Op.nilCheck (Operand.tmp 48), none⟩, []⟩,
  ⟨⟨some 50, Op.fieldAddr 74 (Operand.tmp 49) 0, none⟩, []⟩,
  ⟨⟨some 51, Op.load 22 (Operand.tmp 50), none⟩, []⟩,
  ⟨⟨some 52, Op.call { callee := (Callee.builtin Builtin.len), args := #[(Operand.tmp 51)], argTypes := #[22] }, none⟩, []⟩,
  ⟨⟨some 53, Op.binOp BinOp.leq 3 (Operand.tmp 47) (Operand.tmp 52) 3, none⟩, []⟩]) (.cond (Operand.tmp 53) (.seq (.reg [⟨⟨some 54, Op.move (Operand.tmp 3), none⟩, []⟩,
  ⟨⟨some 2, Op.assign (Operand.tmp 54), none⟩, []⟩]) .ret) .skip)) (.seq (.reg [⟨⟨some 55, Op.move (Operand.tmp 0), none⟩, []⟩,
  ⟨⟨some 56, Op.nilCheck (Operand.tmp 55), none⟩, []⟩,
  ⟨⟨some 57, Op.fieldAddr 74 (Operand.tmp 56) 2, none⟩, []⟩,
  ⟨⟨some 58, Op.load 72 (Operand.tmp 57), none⟩, []⟩,
  ⟨⟨some 59, Op.binOp BinOp.shr 72 (Operand.tmp 58) (Operand.const (Value.int IntKind.u64 40)) 117, none⟩, []⟩,
  ⟨⟨some 60, Op.binOp BinOp.and 72 (Operand.tmp 59) (Operand.const (Value.int IntKind.u64 255)) 72, none⟩, []⟩,
  ⟨⟨some 61, Op.convert 72 3 (Operand.tmp 60), none⟩, []⟩,
  ⟨⟨some 2, Op.assign (Operand.tmp 61), none⟩, []⟩]) .ret)))))))
theorem sl133 : slim Tryz.f133.ntmps ords133 (Tryz.f133.body.getD .skip) = some cd133 := by kernel_rfl
theorem in133 {args : List Value} {H : AH} {R : Value → AH → Prop} (hl : args.length = 1) (h : ∀ (Q : Exit → Sl → AH → Prop), (∀ e s H, endA Tryz.prog [ResultVar.tmp 2] R e s H → Q e s H) → wpC Tryz.prog cd133 Q (enterA args) H) : ACalls Tryz.prog 133 args H R :=
  ACalls.intro (by kernel_rfl) Tryz.func133 rfl (by kernel_rfl) sl133 hl (of_decide_eq_true (by kernel_rfl)) (by kernel_rfl) h
def ords69 : List (Nat × List (Nat × Bool)) := []
def cd69 : Cd := (.seq (.reg [⟨⟨some 4, Op.assign (Operand.const (Value.int IntKind.i64 0)), none⟩, []⟩]) (.seq (.seq (.reg [⟨⟨some 6, Op.move (Operand.tmp 1), none⟩, []⟩,
  ⟨⟨some 7, Op.binOp BinOp.leq 3 (Operand.tmp 6) (Operand.const (Value.int IntKind.i64 1)) 3, none⟩, []⟩]) (.cond (Operand.tmp 7) (.seq (.reg [⟨⟨some 4, Op.assign (Operand.const (Value.int IntKind.i64 0)), none⟩, []⟩]) .ret) .skip)) (.seq (.reg [⟨⟨some 8, Op.move (Operand.tmp 0), none⟩, []⟩,
  ⟨⟨some 9, Op.call { callee := (Callee.value (Operand.func 133)), args := #[(Operand.tmp 8)], argTypes := #[71] }, none⟩, []⟩,
  ⟨⟨some 5, Op.assign (Operand.tmp 9), none⟩, []⟩]) (.seq (.seq (.reg [⟨⟨some 10, Op.move (Operand.tmp 1), none⟩, []⟩,
  ⟨⟨some 11, Op.binOp BinOp.gtr 3 (Operand.tmp 10) (Operand.const (Value.int IntKind.i64 200)) 3, none⟩, []⟩]) (.cond (Operand.tmp 11) (.reg [⟨⟨some 12, Op.move (Operand.tmp 5), none⟩, []⟩,
  ⟨⟨some 13, Op.binOp BinOp.mul 3 (Operand.tmp 12) (Operand.const (Value.int IntKind.i64 256)) 3, none⟩, []⟩,
  ⟨⟨some 14, Op.move (Operand.tmp 0), none⟩, []⟩,
  ⟨⟨some 15, Op.call { callee := (Callee.value (Operand.func 133)), args := #[(Operand.tmp 14)], argTypes := #[71] }, none⟩, []⟩,
  ⟨⟨some 16, Op.binOp BinOp.add 3 (Operand.tmp 13) (Operand.tmp 15) 3, none⟩, []⟩,
  ⟨⟨some 5, Op.assign (Operand.tmp 16), none⟩, []⟩]) .skip)) (.seq (.reg [⟨⟨some 17, Op.move (Operand.tmp 5), none⟩, []⟩,
  ⟨⟨some 18, Op.move (Operand.tmp 1), none⟩, []⟩,
  ⟨⟨some 19, Op.binOp BinOp.rem 3 (Operand.tmp 17) (Operand.tmp 18) 3, none⟩, []⟩,
  ⟨⟨some 4, Op.assign (Operand.tmp 19), none⟩, []⟩]) .ret)))))
theorem sl69 : slim Tryz.f69.ntmps ords69 (Tryz.f69.body.getD .skip) = some cd69 := by kernel_rfl
theorem in69 {args : List Value} {H : AH} {R : Value → AH → Prop} (hl : args.length = 2) (h : ∀ (Q : Exit → Sl → AH → Prop), (∀ e s H, endA Tryz.prog [ResultVar.tmp 4] R e s H → Q e s H) → wpC Tryz.prog cd69 Q (enterA args) H) : ACalls Tryz.prog 69 args H R :=
  ACalls.intro (by kernel_rfl) Tryz.func69 rfl (by kernel_rfl) sl69 hl (of_decide_eq_true (by kernel_rfl)) (by kernel_rfl) h
def ords68 : List (Nat × List (Nat × Bool)) := []
def cd68 : Cd := (.seq (.reg [⟨⟨some 4, Op.assign (Operand.const (Value.bool false)), none⟩, []⟩]) (.seq (.reg [⟨⟨some 5, Op.move (Operand.tmp 0), none⟩, []⟩,
  ⟨⟨some 6, Op.move (Operand.tmp 1), none⟩, []⟩,
  ⟨⟨some 7, Op.call { callee := (Callee.value (Operand.func 69)), args := #[(Operand.tmp 5), (Operand.tmp 6)], argTypes := #[71, 3] }, none⟩, []⟩,
  ⟨⟨some 8, Op.binOp BinOp.eql 3 (Operand.tmp 7) (Operand.const (Value.int IntKind.i64 0)) 3, none⟩, []⟩,
  ⟨⟨some 4, Op.assign (Operand.tmp 8), none⟩, []⟩]) .ret))
theorem sl68 : slim Tryz.f68.ntmps ords68 (Tryz.f68.body.getD .skip) = some cd68 := by kernel_rfl
theorem in68 {args : List Value} {H : AH} {R : Value → AH → Prop} (hl : args.length = 2) (h : ∀ (Q : Exit → Sl → AH → Prop), (∀ e s H, endA Tryz.prog [ResultVar.tmp 4] R e s H → Q e s H) → wpC Tryz.prog cd68 Q (enterA args) H) : ACalls Tryz.prog 68 args H R :=
  ACalls.intro (by kernel_rfl) Tryz.func68 rfl (by kernel_rfl) sl68 hl (of_decide_eq_true (by kernel_rfl)) (by kernel_rfl) h
def ords57 : List (Nat × List (Nat × Bool)) := []
def cd57 : Cd := (.seq (.reg [⟨⟨some 4, Op.assign (Operand.const (Value.int IntKind.i64 0)), none⟩, []⟩]) (.seq (.reg [⟨⟨some 5, Op.move (Operand.tmp 1), none⟩, []⟩,
  ⟨⟨some 6, Op.move (Operand.tmp 0), none⟩, []⟩,
  ⟨⟨some 7, Op.move (Operand.tmp 1), none⟩, []⟩,
  ⟨⟨some 8, Op.call { callee := (Callee.builtin Builtin.len), args := #[(Operand.tmp 7)], argTypes := #[34] }, none⟩, []⟩,
  ⟨⟨some 9, Op.call { callee := (Callee.value (Operand.func 69)), args := #[(Operand.tmp 6), (Operand.tmp 8)], argTypes := #[71, 3] }, none⟩, []⟩,
  ⟨⟨some 10, Op.indexAddr 34 (Operand.tmp 5) (Operand.tmp 9), none⟩, []⟩,
  ⟨⟨some 11, Op.load 3 (Operand.tmp 10), none⟩, []⟩,
  ⟨⟨some 4, Op.assign (Operand.tmp 11), none⟩, []⟩]) .ret))
theorem sl57 : slim Tryz.f57.ntmps ords57 (Tryz.f57.body.getD .skip) = some cd57 := by kernel_rfl
theorem in57 {args : List Value} {H : AH} {R : Value → AH → Prop} (hl : args.length = 2) (h : ∀ (Q : Exit → Sl → AH → Prop), (∀ e s H, endA Tryz.prog [ResultVar.tmp 4] R e s H → Q e s H) → wpC Tryz.prog cd57 Q (enterA args) H) : ACalls Tryz.prog 57 args H R :=
  ACalls.intro (by kernel_rfl) Tryz.func57 rfl (by kernel_rfl) sl57 hl (of_decide_eq_true (by kernel_rfl)) (by kernel_rfl) h
end Go.Proofs.YtdgapefbbdfpbaaGreat.Ai
namespace Go.Proofs.YtdgapefbbdfpbaaGreat.Ai
open Go Go.RowKit
set_option linter.unusedVariables false
set_option linter.unusedSimpArgs false
theorem fa_cur (p : Addr) : fieldAddrA Tryz.prog 74 (.pointer (some p)) 0 = some (.pointer (some ⟨p.block, p.off, none⟩)) ∧ fieldAddrA Tryz.prog 74 (.pointer (some p)) 1 = some (.pointer (some ⟨p.block, p.off + 1, none⟩)) ∧ fieldAddrA Tryz.prog 74 (.pointer (some p)) 2 = some (.pointer (some ⟨p.block, p.off + 2, none⟩)) := ⟨by kernel_rfl, by kernel_rfl, by kernel_rfl⟩
theorem cs_u8 : Tryz.prog.cellsOf 5 = 1 := by kernel_rfl
theorem cs_u64 : Tryz.prog.cellsOf 72 = 1 := by kernel_rfl
theorem ag_u8 : isAggA Tryz.prog 5 = some false := by kernel_rfl
theorem ag_u64 : isAggA Tryz.prog 72 = some false := by kernel_rfl
theorem ag_by : isAggA Tryz.prog 22 = some false := by kernel_rfl
theorem len_by : ∀ x H, lenS Tryz.prog 22 x H = lenA Tryz.prog 22 x := lenS_sl (by decide)
theorem nilP (p : Addr) : nilA (.pointer (some p)) = some (.pointer (some p)) := rfl
/-- a cursor in memory, over some bytes; it has gone N bytes at most -/
structure Cur (H : AH) (o : Nat) (v : Value) (us : List Value) (N : Nat) : Prop where
  cur : ∃ at_ seed : Nat, H[o]? = some (.cells [v, .int .i64 (at_ : Int), .int .u64 (seed : Int)] 74 false) ∧ at_ ≤ N ∧ seed < 2 ^ 64
  row : RowV 5 H v us
  byt : ∀ i, i < us.length → ∃ b : Nat, us.getD i undef = .int .u8 (b : Int) ∧ b < 256
  ap : v = .slice none 0 0 ∨ rowO v ≠ o
  le : us.length ≤ 1048576
/-- one object changes -/
def OnlyO (o : Nat) (H H' : AH) : Prop := H'.length = H.length ∧ ∀ (j : Nat) (y : AObj), j ≠ o → H[j]? = some y → H'[j]? = some y
theorem OnlyO.trans {o : Nat} {H H' H'' : AH} (h : OnlyO o H H') (k : OnlyO o H' H'') : OnlyO o H H'' := ⟨k.1.trans h.1, fun j y hj hy => k.2 j y hj (h.2 j y hj hy)⟩
theorem OnlyO.refl (o : Nat) (H : AH) : OnlyO o H H := ⟨rfl, fun _ _ _ h => h⟩
theorem Cur.more {H : AH} {o : Nat} {v : Value} {us : List Value} {N M : Nat} (h : Cur H o v us N) (hm : N ≤ M) : Cur H o v us M := by
  obtain ⟨a, s, h1, h2, h3⟩ := h.cur
  exact ⟨⟨a, s, h1, by omega, h3⟩, h.row, h.byt, h.ap, h.le⟩
theorem Cur.pre {H H' : AH} {o : Nat} {v : Value} {us : List Value} {N : Nat} (h : Cur H o v us N) (hp : H <+: H') : Cur H' o v us N := by
  obtain ⟨a, s, h1, h2, h3⟩ := h.cur
  exact ⟨⟨a, s, pre_at hp h1, h2, h3⟩, h.row.pre hp, h.byt, h.ap, h.le⟩
set_option maxRecDepth 20000 in
set_option maxHeartbeats 4000000 in
theorem next_c {H : AH} {o : Nat} {v : Value} {us : List Value} {N : Nat} (h : Cur H o v us N) (hN : N ≤ 1000000000) :
    ACalls Tryz.prog 133 [.pointer (some ⟨o, 0, none⟩)] H fun r H' => (∃ x : Nat, r = .int .i64 (x : Int) ∧ x < 256) ∧ Cur H' o v us (N + 1) ∧ OnlyO o H H' := by
  obtain ⟨at_, seed, ho, hat, hs⟩ := h.cur
  have hle := h.le
  have hol := at_lt ho
  refine in133 rfl ?_
  intro Q hQ
  -- the end, from a byte on
  have fin : ∀ (b : Nat), b < 256 → ∀ z : Int, 0 ≤ z → z < 18446744073709551616 → ∀ H2 : AH, H2 = (H.set o (.cells [v, .int .i64 ((at_ + 1 : Nat) : Int), .int .u64 (seed : Int)] 74 false)).set o (.cells [v, .int .i64 ((at_ + 1 : Nat) : Int), .int .u64 z] 74 false) → Cur H2 o v us (N + 1) ∧ OnlyO o H H2 := by
    intro b hb z z0 z1 H2 e
    have only : OnlyO o H H2 := by
      subst e
      refine ⟨by simp, fun j y hj hy => ?_⟩
      rw [List.getElem?_set_ne (fun e => hj e.symm), List.getElem?_set_ne (fun e => hj e.symm)]
      exact hy
    refine ⟨⟨⟨at_ + 1, z.toNat, ?_, by omega, by omega⟩, ?_, h.byt, h.ap, hle⟩, only⟩
    · subst e
      rw [List.getElem?_set_self (by simpa using hol), Int.toNat_of_nonneg z0]
    · rcases h.row with q | q
      · exact .inl q
      · refine RowV.mono (.inr q) fun y hy => ?_
        rcases h.ap with g | g
        · obtain ⟨o', k', _, _, g1, _⟩ := q
          rw [g] at g1; cases g1
        · exact only.2 _ _ g hy
  have s1 := st_at (P := Tryz.prog) (t := 3) (i := 1) (y := .int .i64 ((at_ + 1 : Nat) : Int)) cs3 ho (by show 1 < 3; decide) rfl rfl
  have hw1 : IntKind.i64.wrap ((at_ : Int) + 1) = ((at_ + 1 : Nat) : Int) := by rw [wrap64 (by omega) (by omega)]; omega
  have c1 : (H.set o (.cells ([v, .int .i64 (at_ : Int), .int .u64 (seed : Int)].set 1 (.int .i64 ((at_ + 1 : Nat) : Int))) 74 false))[o]? = some (.cells [v, .int .i64 ((at_ + 1 : Nat) : Int), .int .u64 (seed : Int)] 74 false) := by
    rw [List.getElem?_set_self hol]; rfl
  have fa := fun p => fa_cur p
  generalize hK : H.set o (.cells ([v, .int .i64 (at_ : Int), .int .u64 (seed : Int)].set 1 (.int .i64 ((at_ + 1 : Nat) : Int))) 74 false) = K at s1 c1
  have hK2 : K = H.set o (.cells [v, .int .i64 ((at_ + 1 : Nat) : Int), .int .u64 (seed : Int)] 74 false) := by rw [← hK]; rfl
  rw [← hK2] at fin
  have s2 : ∀ z : Int, storeA Tryz.prog 72 (.pointer (some ⟨o, 2, none⟩)) (.int .u64 z) K = some (K.set o (.cells [v, .int .i64 ((at_ + 1 : Nat) : Int), .int .u64 z] 74 false)) := fun z =>
    st_at (P := Tryz.prog) (t := 72) (i := 2) (y := .int .u64 z) cs_u64 c1 (by show 2 < 3; decide) rfl rfl
  have hKl : o < K.length := at_lt c1
  have c2 : ∀ z : Int, (K.set o (.cells [v, .int .i64 ((at_ + 1 : Nat) : Int), .int .u64 z] 74 false))[o]? = some (.cells [v, .int .i64 ((at_ + 1 : Nat) : Int), .int .u64 z] 74 false) := fun z => List.getElem?_set_self hKl
  have wz : ∀ y : Int, 0 ≤ IntKind.u64.wrap y ∧ IntKind.u64.wrap y < 18446744073709551616 := fun y => by rw [IntKind.wrap_u64]; omega
  simp (maxSteps := 1000000) (disch := omega) only [cd133, nilP, (fa_cur _).1, (fa_cur _).2.1, (fa_cur _).2.2, ld_one ag_by, ld_one ag_u8, ld_one ag_u64, cell_of ho, len_by, h.row.len Tryz.underlying22, S, S1, S2, S3, S4, S5, ST, eq_self, reduceIte, reduceCtorEq, Nat.reduceEqDiff, Nat.reduceAdd]
  refine brD.intro (fun g => ?_) (fun g => ?_)
  · have hi : at_ < us.length := by omega
    obtain ⟨b, hb1, hb2⟩ := h.byt at_ hi
    have hc := h.row.cell hi
    rw [hb1] at hc
    simp (maxSteps := 1000000) (disch := omega) only [nilP, (fa_cur _).1, (fa_cur _).2.1, (fa_cur _).2.2, ld_one ag_by, ld_one ag_u8, ld_one ag_u64, cell_of ho, h.row.ix Tryz.underlying22 cs_u8, Int.toNat_natCast, hc, hw1, s1, cell_of c1, s2, S, S1, S2, S3, S4, S5, ST, eq_self, reduceIte, reduceCtorEq, Nat.reduceEqDiff, Nat.reduceAdd]
    generalize hzz : IntKind.u64.wrap (IntKind.u64.wrap (IntKind.u64.wrap ((seed : Int) * 6364136223846793005) + IntKind.u64.wrap (IntKind.i64.wrap (b : Int))) + 462197) = z
    have hz : 0 ≤ z ∧ z < 18446744073709551616 := by rw [← hzz]; exact wz _
    obtain ⟨q1, q2⟩ := fin b hb2 z hz.1 hz.2 _ rfl
    have hw2 : IntKind.i64.wrap (b : Int) = (b : Int) := wrap64 (by omega) (by omega)
    simp (maxSteps := 1000000) (disch := omega) only [nilP, (fa_cur _).1, (fa_cur _).2.1, (fa_cur _).2.2, ld_one ag_by, ld_one ag_u64, cell_of (c2 z), len_by, h.row.len Tryz.underlying22, S, S1, S2, S3, S4, S5, ST, eq_self, reduceIte, reduceCtorEq, Nat.reduceEqDiff, Nat.reduceAdd]
    refine brD.intro (fun g2 => ?_) (fun g2 => absurd (show ((at_ + 1 : Nat) : Int) ≤ (us.length : Int) by omega) g2)
    simp (maxSteps := 1000000) (disch := omega) only [hw2, S, S1, S2, S3, S4, S5, ST, eq_self, reduceIte, reduceCtorEq, Nat.reduceEqDiff, Nat.reduceAdd]
    refine hQ _ _ _ ?_
    simp (maxSteps := 1000000) (disch := omega) only [S, S1, S2, S3, S4, S5, ST, eq_self, reduceIte, reduceCtorEq, Nat.reduceEqDiff, Nat.reduceAdd]
    exact ⟨⟨b, rfl, hb2⟩, q1, q2⟩
  · simp (maxSteps := 1000000) (disch := omega) only [nilP, (fa_cur _).1, (fa_cur _).2.1, (fa_cur _).2.2, ld_one ag_by, ld_one ag_u8, ld_one ag_u64, cell_of ho, hw1, s1, cell_of c1, s2, S, S1, S2, S3, S4, S5, ST, eq_self, reduceIte, reduceCtorEq, Nat.reduceEqDiff, Nat.reduceAdd]
    generalize hzz : IntKind.u64.wrap (IntKind.u64.wrap (IntKind.u64.wrap ((seed : Int) * 6364136223846793005) + IntKind.u64.wrap 0) + 462197) = z
    have hz : 0 ≤ z ∧ z < 18446744073709551616 := by rw [← hzz]; exact wz _
    obtain ⟨q1, q2⟩ := fin 0 (by omega) z hz.1 hz.2 _ rfl
    obtain ⟨zn, rfl⟩ : ∃ k : Nat, z = k := ⟨z.toNat, by omega⟩
    simp (maxSteps := 1000000) (disch := omega) only [nilP, (fa_cur _).1, (fa_cur _).2.1, (fa_cur _).2.2, ld_one ag_by, ld_one ag_u64, cell_of (c2 _), len_by, h.row.len Tryz.underlying22, S, S1, S2, S3, S4, S5, ST, eq_self, reduceIte, reduceCtorEq, Nat.reduceEqDiff, Nat.reduceAdd]
    refine brD.intro (fun g2 => absurd g2 (by omega)) (fun g2 => ?_)
    have k1 : binA Tryz.prog .shr 72 (.int .u64 (zn : Int)) (.int .u64 40) = some (.int .u64 ((zn / 2 ^ 40 : Nat) : Int)) := bin_shrU _ _ zn 40 (by decide)
    have hd : zn / 2 ^ 40 < 2 ^ 64 := Nat.lt_of_le_of_lt (Nat.div_le_self _ _) (by omega)
    have k2 : binA Tryz.prog .and 72 (.int .u64 ((zn / 2 ^ 40 : Nat) : Int)) (.int .u64 255) = some (.int .u64 ((zn / 2 ^ 40 &&& 255 : Nat) : Int)) := bin_and _ _ _ 255 hd (by decide)
    have hle2 : zn / 2 ^ 40 &&& 255 ≤ 255 := Nat.and_le_right
    generalize zn / 2 ^ 40 &&& 255 = r at *
    have c3 : convA Tryz.prog 72 3 (.int .u64 (r : Int)) = some (.int .i64 (r : Int)) := by
      simp only [convA, Tryz.underlying72, Tryz.underlying3]
      rw [wrap64 (by omega) (by omega)]
    simp (maxSteps := 1000000) (disch := omega) only [nilP, (fa_cur _).1, (fa_cur _).2.1, (fa_cur _).2.2, ld_one ag_u64, cell_of (c2 _), k1, k2, c3, S, S1, S2, S3, S4, S5, ST, eq_self, reduceIte, reduceCtorEq, Nat.reduceEqDiff, Nat.reduceAdd]
    refine hQ _ _ _ ?_
    simp (maxSteps := 1000000) (disch := omega) only [S, S1, S2, S3, S4, S5, ST, eq_self, reduceIte, reduceCtorEq, Nat.reduceEqDiff, Nat.reduceAdd]
    exact ⟨⟨r, rfl, by omega⟩, q1, q2⟩
set_option maxHeartbeats 1000000 in
theorem pick_c {H : AH} {o : Nat} {v : Value} {us : List Value} {N : Nat} (h : Cur H o v us N) (hN : N ≤ 1000000000) (n : Int) (hn : n ≤ 200) :
    ACalls Tryz.prog 69 [.pointer (some ⟨o, 0, none⟩), .int .i64 n] H fun r H' => (∃ x : Nat, r = .int .i64 (x : Int) ∧ ((x : Int) < n ∨ x = 0)) ∧ Cur H' o v us (N + 1) ∧ OnlyO o H H' := by
  refine in69 rfl ?_
  intro Q hQ
  simp (maxSteps := 1000000) (disch := omega) only [cd69, S, S1, S2, S3, S4, S5, ST, eq_self, reduceIte, reduceCtorEq, Nat.reduceEqDiff, Nat.reduceAdd]
  refine brD.intro (fun g => ?_) (fun g => ?_)
  · simp (maxSteps := 1000000) (disch := omega) only [S, S1, S2, S3, S4, S5, ST, eq_self, reduceIte, reduceCtorEq, Nat.reduceEqDiff, Nat.reduceAdd]
    refine hQ _ _ _ ?_
    simp (maxSteps := 1000000) (disch := omega) only [S, S1, S2, S3, S4, S5, ST, eq_self, reduceIte, reduceCtorEq, Nat.reduceEqDiff, Nat.reduceAdd]
    exact ⟨⟨0, rfl, .inr rfl⟩, h.more (by omega), OnlyO.refl o H⟩
  simp (maxSteps := 1000000) (disch := omega) only [S, S1, S2, S3, S4, S5, ST, eq_self, reduceIte, reduceCtorEq, Nat.reduceEqDiff, Nat.reduceAdd]
  refine CallH.by (next_c h hN) ?_
  rintro _ K ⟨⟨x, rfl, hx⟩, hK, oK⟩
  have hn0 : n ≠ 0 := by omega
  have hmod : (x : Int).tmod n = ((x % n.toNat : Nat) : Int) := by
    rw [Int.tmod_eq_emod_of_nonneg (by omega)]
    have : n = (n.toNat : Int) := by omega
    conv => lhs; rw [this]
    exact (Int.natCast_emod x n.toNat).symm
  simp (maxSteps := 1000000) (disch := omega) only [S, S1, S2, S3, S4, S5, ST, eq_self, reduceIte, reduceCtorEq, Nat.reduceEqDiff, Nat.reduceAdd]
  refine brD.intro (fun g2 => absurd g2 (by omega)) (fun g2 => ?_)
  simp (maxSteps := 1000000) (disch := omega) only [hn0, hmod, S, S1, S2, S3, S4, S5, ST, eq_self, reduceIte, reduceCtorEq, Nat.reduceEqDiff, Nat.reduceAdd]
  refine hQ _ _ _ ?_
  simp (maxSteps := 1000000) (disch := omega) only [S, S1, S2, S3, S4, S5, ST, eq_self, reduceIte, reduceCtorEq, Nat.reduceEqDiff, Nat.reduceAdd]
  have := Nat.mod_lt x (show 0 < n.toNat by omega)
  exact ⟨⟨x % n.toNat, rfl, .inl (by omega)⟩, hK, oK⟩
theorem one_c {H : AH} {o : Nat} {v : Value} {us : List Value} {N : Nat} (h : Cur H o v us N) (hN : N ≤ 1000000000) (n : Int) (hn : n ≤ 200) :
    ACalls Tryz.prog 68 [.pointer (some ⟨o, 0, none⟩), .int .i64 n] H fun r H' => (∃ b : Bool, r = .bool b) ∧ Cur H' o v us (N + 1) ∧ OnlyO o H H' := by
  refine in68 rfl ?_
  intro Q hQ
  simp (maxSteps := 1000000) (disch := omega) only [cd68, S, S1, S2, S3, S4, S5, ST, eq_self, reduceIte, reduceCtorEq, Nat.reduceEqDiff, Nat.reduceAdd]
  refine CallH.by (pick_c h hN n hn) ?_
  rintro _ K ⟨⟨x, rfl, _⟩, hK, oK⟩
  simp (maxSteps := 1000000) (disch := omega) only [S, S1, S2, S3, S4, S5, ST, eq_self, reduceIte, reduceCtorEq, Nat.reduceEqDiff, Nat.reduceAdd]
  refine hQ _ _ _ ?_
  simp (maxSteps := 1000000) (disch := omega) only [S, S1, S2, S3, S4, S5, ST, eq_self, reduceIte, reduceCtorEq, Nat.reduceEqDiff, Nat.reduceAdd]
  exact ⟨⟨_, rfl⟩, hK, oK⟩
set_option maxHeartbeats 1000000 in
theorem among_c {H : AH} {o : Nat} {v w : Value} {us : List Value} {xs : List Int} {N : Nat} (h : Cur H o v us N) (hN : N ≤ 1000000000) (hw : Row 3 H w xs) (hwo : rowO w ≠ o) (hl : 0 < xs.length ∧ xs.length ≤ 200) :
    ACalls Tryz.prog 57 [.pointer (some ⟨o, 0, none⟩), w] H fun r H' => (∃ x : Int, r = .int .i64 x ∧ x ∈ xs) ∧ Cur H' o v us (N + 1) ∧ OnlyO o H H' := by
  refine in57 rfl ?_
  intro Q hQ
  simp (maxSteps := 1000000) (disch := omega) only [cd57, hw.len Tryz.underlying34, S, S1, S2, S3, S4, S5, ST, eq_self, reduceIte, reduceCtorEq, Nat.reduceEqDiff, Nat.reduceAdd]
  refine CallH.by (pick_c h hN (xs.length : Int) (by omega)) ?_
  rintro _ K ⟨⟨x, rfl, hx⟩, hK, oK⟩
  have hxl : x < xs.length := by omega
  have hwK : Row 3 K w xs := hw.mono fun y hy => oK.2 _ _ hwo hy
  have hc := hwK.cell hxl
  simp (maxSteps := 1000000) (disch := omega) only [hw.ix Tryz.underlying34 cs3, Int.toNat_natCast, hc, S, S1, S2, S3, S4, S5, ST, eq_self, reduceIte, reduceCtorEq, Nat.reduceEqDiff, Nat.reduceAdd]
  refine hQ _ _ _ ?_
  simp (maxSteps := 1000000) (disch := omega) only [S, S1, S2, S3, S4, S5, ST, eq_self, reduceIte, reduceCtorEq, Nat.reduceEqDiff, Nat.reduceAdd]
  exact ⟨⟨xs.getD x 0, rfl, by simp [hxl]⟩, hK, oK⟩
end Go.Proofs.YtdgapefbbdfpbaaGreat.Ai
namespace Go.Proofs.YtdgapefbbdfpbaaGreat.Ai
open Go
end Go.Proofs.YtdgapefbbdfpbaaGreat.Ai
namespace Go.Proofs.YtdgapefbbdfpbaaGreat.Ai
open Go Go.RowKit
set_option linter.unusedVariables false
set_option linter.unusedSimpArgs false
/-- all but one object stays -/
def Keeps (o : Nat) (H H' : AH) : Prop := H.length ≤ H'.length ∧ ∀ (j : Nat) (y : AObj), j ≠ o → H[j]? = some y → H'[j]? = some y
theorem Keeps.trans {o : Nat} {H H' H'' : AH} (h : Keeps o H H') (k : Keeps o H' H'') : Keeps o H H'' := ⟨Nat.le_trans h.1 k.1, fun j y hj hy => k.2 j y hj (h.2 j y hj hy)⟩
theorem OnlyO.keeps {o : Nat} {H H' : AH} (h : OnlyO o H H') : Keeps o H H' := ⟨Nat.le_of_eq h.1.symm, h.2⟩
theorem Keeps.of_pre {o : Nat} {H H' : AH} (h : H <+: H') : Keeps o H H' := ⟨h.length_le, fun j y _ hy => pre_at h hy⟩
theorem Own.keeps {e : TypeId} {H0 H H' : AH} {o : Nat} {v : Value} {xs : List Int} (h : Own e H0 H v xs) (hk : Keeps o H H') (ho : o < H0.length) : Own e H0 H' v xs := by
  rcases h with q | ⟨oo, q1, q2, q3⟩
  · exact .inl q
  · exact .inr ⟨oo, q1, q2, hk.2 _ _ (by omega) q3⟩
theorem Cur.keeps {H H' : AH} {o : Nat} {v : Value} {us : List Value} {N : Nat} (h : Cur H o v us N) (hp : H <+: H') : Cur H' o v us N := h.pre hp
theorem ownB {e : TypeId} {H0 H1 H : AH} {v : Value} {xs : List Int} (h : Own e H0 H v xs) (hl : H1.length ≤ H0.length) : Own e H1 H v xs := by
  rcases h with h | ⟨o, h1, h2, h3⟩
  · exact .inl h
  · exact .inr ⟨o, h1, by omega, h3⟩
theorem bld_cur (p : Option Addr) (n c : Nat) : buildA Tryz.prog 74 [(0, .slice p n c)] = some (.agg (List.toArray [.slice p n c, .int .i64 0, .int .u64 0])) := by kernel_rfl
theorem box_cur (p : Option Addr) (n c : Nat) (H : AH) : boxA Tryz.prog 74 (.agg (List.toArray [.slice p n c, .int .i64 0, .int .u64 0])) H = some (.pointer (some ⟨H.length, 0, none⟩), H ++ [.cells [.slice p n c, .int .i64 0, .int .u64 0] 74 false]) := by kernel_rfl
/-- bytes in memory -/
structure Byt (H : AH) (v : Value) (us : List Value) : Prop where
  row : RowV 5 H v us
  byt : ∀ i, i < us.length → ∃ b : Nat, us.getD i undef = .int .u8 (b : Int) ∧ b < 256
  le : us.length ≤ 1048576
theorem Byt.pre {H H' : AH} {v : Value} {us : List Value} (h : Byt H v us) (hp : H <+: H') : Byt H' v us := ⟨h.row.pre hp, h.byt, h.le⟩
/-- a new cursor -/
theorem Byt.cur {H : AH} {v : Value} {us : List Value} (h : Byt H v us) : Cur (H ++ [.cells [v, .int .i64 0, .int .u64 0] 74 false]) H.length v us 0 := by
  refine ⟨⟨0, 0, at_new .., Nat.le_refl _, by decide⟩, h.row.pre (List.prefix_append _ _), h.byt, ?_, h.le⟩
  rcases h.row with q | ⟨o', k', vs', ro', e1, g2', _⟩
  · exact .inl q.1
  · right
    rw [e1]
    have := at_lt g2'
    show o' ≠ _
    omega
theorem keeps_new {H A G : AH} {o : Nat} (h : Keeps o A G) (hp : H <+: A) (ho : o = H.length) : H <+: G := prefix_of fun j y hy => h.2 j y (by have := at_lt hy; omega) (pre_at hp hy)
end Go.Proofs.YtdgapefbbdfpbaaGreat.Ai
namespace Go.Proofs.YtdgapefbbdfpbaaGreat.Ai
open Go
def ords79 : List (Nat × List (Nat × Bool)) := []
def cd79 : Cd := (.seq (.reg [⟨⟨some 4, Op.assign (Operand.const (Value.bool false)), none⟩, []⟩]) (.seq (.seq (.reg [⟨⟨some 5, Op.assign (Operand.const (Value.int IntKind.i64 0)), none⟩, []⟩]) (.block 0 (.loop (.seq (.seq (.reg [⟨⟨some 6, Op.move (Operand.tmp 5), none⟩, []⟩,
  ⟨⟨some 7, Op.move (Operand.tmp 0), none⟩, []⟩,
  ⟨⟨some 8, Op.call { callee := (Callee.builtin Builtin.len), args := #[(Operand.tmp 7)], argTypes := #[34] }, none⟩, []⟩,
  ⟨⟨some 9, Op.binOp BinOp.lss 3 (Operand.tmp 6) (Operand.tmp 8) 3, none⟩, []⟩]) (.cond (Operand.tmp 9) .skip (.exit 0))) (.seq (.block 1 (.seq (.reg [⟨⟨some 12, Op.move (Operand.tmp 0), none⟩, []⟩,
  ⟨⟨some 13, Op.move (Operand.tmp 5), none⟩, []⟩,
  ⟨⟨some 14, Op.indexAddr 34 (Operand.tmp 12) (Operand.tmp 13), none⟩, []⟩,
  ⟨⟨some 15, Op.load 3 (Operand.tmp 14), none⟩, []⟩,
  ⟨⟨some 16, Op.move (Operand.tmp 1), none⟩, []⟩,
  ⟨⟨some 17, Op.binOp BinOp.eql 3 (Operand.tmp 15) (Operand.tmp 16) 3, none⟩, []⟩]) (.cond (Operand.tmp 17) (.seq (.reg [⟨⟨some 4, Op.assign (Operand.const (Value.bool true)), none⟩, []⟩]) .ret) .skip))) (.reg [⟨⟨some 10, Op.move (Operand.tmp 5), none⟩, []⟩,
  ⟨⟨some 11, Op.binOp BinOp.add 3 (Operand.tmp 10) (Operand.const (Value.int IntKind.i64 1)) 3, none⟩, []⟩,
  ⟨⟨some 5, Op.assign (Operand.tmp 11), none⟩, []⟩])))))) (.seq (.reg [⟨⟨some 4, Op.assign (Operand.const (Value.bool false)), none⟩, []⟩]) .ret)))
theorem sl79 : slim Tryz.f79.ntmps ords79 (Tryz.f79.body.getD .skip) = some cd79 := by kernel_rfl
theorem in79 {args : List Value} {H : AH} {R : Value → AH → Prop} (hl : args.length = 2) (h : ∀ (Q : Exit → Sl → AH → Prop), (∀ e s H, endA Tryz.prog [ResultVar.tmp 4] R e s H → Q e s H) → wpC Tryz.prog cd79 Q (enterA args) H) : ACalls Tryz.prog 79 args H R :=
  ACalls.intro (by kernel_rfl) Tryz.func79 rfl (by kernel_rfl) sl79 hl (of_decide_eq_true (by kernel_rfl)) (by kernel_rfl) h
end Go.Proofs.YtdgapefbbdfpbaaGreat.Ai
namespace Go.Proofs.YtdgapefbbdfpbaaGreat.Ai
open Go Go.RowKit
set_option linter.unusedVariables false
set_option linter.unusedSimpArgs false
theorem l1Has_c (v : Value) (xs : List Int) (x : Int) (H : AH) (hr : Row 3 H v xs) (hlen : xs.length ≤ 1099511627776) : ACalls Tryz.prog 79 [v, .int .i64 x] H fun r H' => r = .bool (decide (x ∈ xs)) ∧ H = H' := by
  refine in79 rfl ?_
  intro Q hQ
  simp (maxSteps := 1000000) (disch := omega) only [cd79, S, S1, S2, S3, S4, S5, ST, eq_self, reduceIte, reduceCtorEq, Nat.reduceEqDiff, Nat.reduceAdd]
  refine LoopH.by (fun m s H' => ∃ i, m + i = xs.length ∧ s 0 = v ∧ s 1 = .int .i64 x ∧ s 5 = .int .i64 ((i : Nat) : Int) ∧ H = H' ∧ x ∉ xs.take i) xs.length ?_ ?_
  · exact ⟨0, by simp, rfl, rfl, rfl, rfl, by simp⟩
  · rintro m s H' ⟨i, hm, h0, h1, h5, rfl, hn⟩
    simp (maxSteps := 1000000) (disch := omega) only [h0, h1, h5, hr.len Tryz.underlying34, S, S1, S2, S3, S4, S5, ST, eq_self, reduceIte, reduceCtorEq, Nat.reduceEqDiff, Nat.reduceAdd]
    refine brD.intro (fun g => ?_) (fun g => ?_) <;> simp (maxSteps := 1000000) (disch := omega) only [h0, h1, h5, hr.ix Tryz.underlying34 cs3, hr.cell, Int.toNat_natCast, S, S1, S2, S3, S4, S5, ST, eq_self, reduceIte, reduceCtorEq, Nat.reduceEqDiff, Nat.reduceAdd]
    · have hi : i < xs.length := by omega
      have hg : xs.getD i 0 = xs[i] := by simp [hi]
      refine brD.intro (fun e => ?_) (fun e => ?_) <;> simp (maxSteps := 1000000) (disch := omega) only [h0, h1, h5, wrap64, S, S1, S2, S3, S4, S5, ST, eq_self, reduceIte, reduceCtorEq, Nat.reduceEqDiff, Nat.reduceAdd]
      · refine hQ _ _ _ ?_
        simp (maxSteps := 1000000) (disch := omega) only [S, S1, S2, S3, S4, S5, ST, eq_self, reduceIte, reduceCtorEq, Nat.reduceEqDiff, Nat.reduceAdd]
        rw [hg] at e
        have : x ∈ xs := e ▸ List.getElem_mem hi
        simp [this]
      · refine ⟨m - 1, by omega, i + 1, by omega, by simp, ?_⟩
        rw [List.take_add_one, List.getElem?_eq_getElem hi]
        rw [hg] at e
        simp only [Option.toList_some, List.mem_append, List.mem_singleton, not_or]
        exact ⟨hn, fun e' => e e'.symm⟩
    · refine hQ _ _ _ ?_
      simp (maxSteps := 1000000) (disch := omega) only [S, S1, S2, S3, S4, S5, ST, eq_self, reduceIte, reduceCtorEq, Nat.reduceEqDiff, Nat.reduceAdd]
      rw [List.take_of_length_le (by omega)] at hn
      simp [hn]
end Go.Proofs.YtdgapefbbdfpbaaGreat.Ai
namespace Go.Proofs.YtdgapefbbdfpbaaGreat.Ai
open Go
def Asc (ys : List Int) : Prop := ∀ i j, i < j → j < ys.length → ys.getD i 0 ≤ ys.getD j 0
def Prm (p : List Int) : Prop := p.length ≤ 8 ∧ ∀ x, x < p.length → (x : Int) ∈ p
instance (p : List Int) : Decidable (Prm p) := inferInstanceAs (Decidable (_ ∧ _))
theorem pos_ex {ys : List Int} {x : Int} (h : x ∈ ys) : ∃ i, i < ys.length ∧ ys.getD i 0 = x := by
  obtain ⟨i, hi, e⟩ := List.getElem_of_mem h
  exact ⟨i, hi, by simp [hi, e]⟩
theorem asc_at {ys : List Int} (ha : Asc ys) (h : ∀ x, x < ys.length → (x : Int) ∈ ys) : ∀ i, i < ys.length → ys.getD i 0 = i := by
  -- a place of each number
  have ex : ∀ x, ∃ i, x < ys.length → (i < ys.length ∧ ys.getD i 0 = x) := by
    intro x
    by_cases hx : x < ys.length
    · obtain ⟨i, hi⟩ := pos_ex (h x hx); exact ⟨i, fun _ => hi⟩
    · exact ⟨0, fun e => absurd e hx⟩
  let pos : Nat → Nat := fun x => Classical.choose (ex x)
  have hp : ∀ x, x < ys.length → pos x < ys.length ∧ ys.getD (pos x) 0 = x := fun x hx => Classical.choose_spec (ex x) hx
  have mono : ∀ x, x + 1 < ys.length → pos x < pos (x + 1) := by
    intro x hx
    have h1 := hp x (by omega)
    have h2 := hp (x + 1) hx
    rcases Nat.lt_trichotomy (pos x) (pos (x + 1)) with h3 | h3 | h3
    · exact h3
    · rw [h3] at h1; rw [h1.2] at h2; omega
    · have := ha _ _ h3 h1.1
      rw [h1.2, h2.2] at this; omega
  have lo : ∀ x, x < ys.length → x ≤ pos x := by
    intro x
    induction x with
    | zero => intro _; omega
    | succ x ih =>
      intro hx
      have := ih (by omega)
      have := mono x hx
      omega
  have hi' : ∀ d x, x + d + 1 = ys.length → pos x ≤ x := by
    intro d
    induction d with
    | zero => intro x hx; have := (hp x (by omega)).1; omega
    | succ d ih =>
      intro x hx
      have := ih (x + 1) (by omega)
      have := mono x (by omega)
      omega
  intro i hi
  have h1 := lo i hi
  have h2 := hi' (ys.length - i - 1) i (by omega)
  have h3 := hp i hi
  have : pos i = i := by omega
  rw [this] at h3
  exact h3.2
theorem prm_at {p : List Int} (h : Prm p) {ys : List Int} (hp : ys.Perm p) (ha : Asc ys) : ∀ i, i < ys.length → ys.getD i 0 = i :=
  asc_at ha (fun x hx => hp.mem_iff.2 (h.2 x (by have := hp.length_eq; omega)))
end Go.Proofs.YtdgapefbbdfpbaaGreat.Ai
namespace Go.Proofs.YtdgapefbbdfpbaaGreat.Ai
open Go
/-- a number put into an ascending list -/
def put : List Int → Int → List Int
  | [], x => [x]
  | y :: ys, x => if y < x then y :: put ys x else if y = x then y :: ys else x :: y :: ys
theorem putAt_eq0 (l : List Int) (x : Int) : ∀ k, k ≤ l.length → (∀ j, j < k → l.getD j 0 < x) → (k < l.length → x ≤ l.getD k 0) → put l x = if k < l.length ∧ l.getD k 0 = x then l else l.take k ++ x :: l.drop k := by
  induction l with
  | nil => intro k hk _ _; simp at hk; subst hk; simp [put]
  | cons y ys ih =>
    intro k hk h1 h2
    cases k with
    | zero =>
      have := h2 (by simp)
      simp only [List.getD_cons_zero] at this
      simp only [put]
      rw [if_neg (by omega)]
      by_cases e : y = x
      · rw [if_pos e, if_pos ⟨by simp, by simpa using e⟩]
      · rw [if_neg e, if_neg (by rintro ⟨_, h⟩; exact e (by simpa using h))]; simp
    | succ k =>
      have := h1 0 (by omega)
      simp only [List.getD_cons_zero] at this
      simp only [put]
      rw [if_pos this, ih k (by simpa using hk) (fun j hj => by have := h1 (j + 1) (by omega); simpa using this) (fun hkk => by have := h2 (by simp; omega); simpa using this)]
      by_cases c : k < ys.length ∧ ys.getD k 0 = x
      · rw [if_pos c, if_pos (by simpa using c)]
      · rw [if_neg c, if_neg (by simpa using c)]; simp
theorem put_perm (l : List Int) (x : Int) (h : x ∉ l) : (put l x).Perm (x :: l) := by
  induction l with
  | nil => exact List.Perm.refl _
  | cons y ys ih =>
    simp only [List.mem_cons, not_or] at h
    simp only [put]
    split
    · exact ((ih h.2).cons y).trans (List.Perm.swap x y ys)
    · rw [if_neg (fun e => h.1 e.symm)]
theorem put_mem (l : List Int) (x y : Int) : y ∈ put l x ↔ y = x ∨ y ∈ l := by
  induction l with
  | nil => simp [put]
  | cons z zs ih =>
    simp only [put]
    split
    · simp only [List.mem_cons, ih]
      constructor
      · rintro (h | h | h)
        · exact .inr (.inl h)
        · exact .inl h
        · exact .inr (.inr h)
      · rintro (h | h | h)
        · exact .inr (.inl h)
        · exact .inl h
        · exact .inr (.inr h)
    · split
      · rename_i h1 h2
        subst h2
        simp
      · simp
theorem put_sorted (l : List Int) (x : Int) (h : l.Pairwise (· < ·)) : (put l x).Pairwise (· < ·) := by
  induction l with
  | nil => simp [put]
  | cons y ys ih =>
    simp only [List.pairwise_cons] at h
    simp only [put]
    split
    · rename_i h1
      rw [List.pairwise_cons]
      refine ⟨fun z hz => ?_, ih h.2⟩
      rcases (put_mem ys x z).1 hz with e | e
      · rw [e]; exact h1
      · exact h.1 z e
    · split
      · rw [List.pairwise_cons]; exact h
      · rename_i h1 h2
        rw [List.pairwise_cons]
        refine ⟨fun z hz => ?_, by rw [List.pairwise_cons]; exact h⟩
        rcases List.mem_cons.1 hz with e | e
        · rw [e]; omega
        · have := h.1 z e; omega
theorem put_len (l : List Int) (x : Int) : (put l x).length ≤ l.length + 1 := by
  induction l with
  | nil => simp [put]
  | cons y ys ih => simp only [put]; split <;> (try split) <;> simp <;> omega
/-- numbers put, one after the other -/
def puts (xs : List Int) : List Int := xs.foldl put []
theorem puts_step (xs : List Int) (x : Int) : puts (xs ++ [x]) = put (puts xs) x := by simp [puts]
theorem puts_perm : ∀ (n : Nat) (xs : List Int), xs.length = n → xs.Nodup → (puts xs).Perm xs ∧ (puts xs).Pairwise (· < ·) := by
  intro n
  induction n with
  | zero => intro xs h _; have : xs = [] := List.eq_nil_of_length_eq_zero h; subst this; exact ⟨List.Perm.refl _, List.Pairwise.nil⟩
  | succ n ih =>
    intro xs h hn
    rcases List.eq_nil_or_concat xs with e | ⟨ys, x, e⟩
    · subst e; simp at h
    · subst e
      rw [List.concat_eq_append] at h hn ⊢
      have hn' := List.nodup_append.1 hn
      obtain ⟨i1, i2⟩ := ih ys (by simpa using h) hn'.1
      have hx : x ∉ ys := fun hm => hn'.2.2 x hm x (by simp) rfl
      have hx2 : x ∉ puts ys := fun hm => hx (i1.mem_iff.1 hm)
      rw [puts_step]
      refine ⟨?_, put_sorted _ _ i2⟩
      exact (put_perm _ _ hx2).trans ((i1.cons x).trans (List.perm_append_singleton x ys).symm)
theorem asc_of {ys : List Int} (h : Asc ys) : ys.Pairwise (· ≤ ·) := by
  rw [List.pairwise_iff_getElem]
  intro i j hi hj hij
  have := h i j hij hj
  simpa [hi, hj] using this
/-- THE SORTED LIST is the one that comes of putting. -/
theorem puts_sorted {xs ys : List Int} (hn : xs.Nodup) (hp : ys.Perm xs) (ha : Asc ys) : ys = puts xs := by
  obtain ⟨h1, h2⟩ := puts_perm _ xs rfl hn
  refine List.Perm.eq_of_pairwise (le := (· ≤ ·)) (fun a b _ _ h h' => by omega) (asc_of ha) (h2.imp (fun h => by omega)) (hp.trans h1.symm)
end Go.Proofs.YtdgapefbbdfpbaaGreat.Ai
namespace Go.Proofs.YtdgapefbbdfpbaaGreat.Ai
open Go
def ords83 : List (Nat × List (Nat × Bool)) := [(6, [(0, false), (1, false), (2, false), (3, false), (5, false), (6, false), (8, false), (9, false), (10, false), (4, true), (7, true), (11, true), (12, false)])]
def cd83 : Cd := (.seq (.reg [⟨⟨some 4, Op.assign (Operand.const (Value.slice none 0 0)), none⟩, []⟩]) (.seq (.reg [⟨⟨some 5, Op.assign (Operand.const (Value.int IntKind.i64 0)), none⟩, []⟩]) (.seq (.block 0 (.loop (.seq (.seq (.reg [⟨⟨some 6, Op.move (Operand.tmp 5), none⟩, []⟩,
  ⟨⟨some 7, Op.move (Operand.tmp 0), none⟩, []⟩,
  ⟨⟨some 8, Op.call { callee := (Callee.builtin Builtin.len), args := #[(Operand.tmp 7)], argTypes := #[34] }, none⟩, []⟩,
  ⟨⟨some 9, Op.binOp BinOp.lss 3 (Operand.tmp 6) (Operand.tmp 8) 3, none⟩, []⟩,
  ⟨⟨some 10, Op.move (Operand.tmp 9), none⟩, []⟩,
  ⟨⟨some 11, Op.move (Operand.tmp 0), some (10, true)⟩, []⟩,
  ⟨⟨some 12, Op.move (Operand.tmp 5), some (10, true)⟩, []⟩,
  ⟨⟨some 13, Op.indexAddr 34 (Operand.tmp 11) (Operand.tmp 12), some (10, true)⟩, []⟩,
  ⟨⟨some 14, Op.load 3 (Operand.tmp 13), some (10, true)⟩, []⟩,
  ⟨⟨some 15, Op.move (Operand.tmp 1), some (10, true)⟩, []⟩,
  ⟨⟨some 16, Op.binOp BinOp.lss 3 (Operand.tmp 14) (Operand.tmp 15) 3, some (10, true)⟩, []⟩,
  ⟨⟨some 17, Op.pick (Operand.tmp 10) (Operand.tmp 16) (Operand.const (Value.bool false)), none⟩, []⟩]) (.cond (Operand.tmp 17) .skip (.exit 0))) (.block 1 (.reg [⟨⟨some 18, Op.move (Operand.tmp 5), none⟩, []⟩,
  ⟨⟨some 19, Op.binOp BinOp.add 3 (Operand.tmp 18) (Operand.const (Value.int IntKind.i64 1)) 3, none⟩, []⟩,
  ⟨⟨some 5, Op.assign (Operand.tmp 19), none⟩, []⟩]))))) (.seq (.seq (.reg [⟨⟨some 20, Op.move (Operand.tmp 5), none⟩, []⟩,
  ⟨⟨some 21, Op.move (Operand.tmp 0), none⟩, []⟩,
  ⟨⟨some 22, Op.call { callee := (Callee.builtin Builtin.len), args := #[(Operand.tmp 21)], argTypes := #[34] }, none⟩, []⟩,
  ⟨⟨some 23, Op.binOp BinOp.lss 3 (Operand.tmp 20) (Operand.tmp 22) 3, none⟩, []⟩,
  ⟨⟨some 24, Op.move (Operand.tmp 23), none⟩, []⟩,
  ⟨⟨some 25, Op.move (Operand.tmp 0), some (24, true)⟩, []⟩,
  ⟨⟨some 26, Op.move (Operand.tmp 5), some (24, true)⟩, []⟩,
  ⟨⟨some 27, Op.indexAddr 34 (Operand.tmp 25) (Operand.tmp 26), some (24, true)⟩, []⟩,
  ⟨⟨some 28, Op.load 3 (Operand.tmp 27), some (24, true)⟩, []⟩,
  ⟨⟨some 29, Op.move (Operand.tmp 1), some (24, true)⟩, []⟩,
  ⟨⟨some 30, Op.binOp BinOp.eql 3 (Operand.tmp 28) (Operand.tmp 29) 3, some (24, true)⟩, []⟩,
  ⟨⟨some 31, Op.pick (Operand.tmp 24) (Operand.tmp 30) (Operand.const (Value.bool false)), none⟩, []⟩]) (.cond (Operand.tmp 31) (.seq (.reg [⟨⟨some 32, Op.move (Operand.tmp 0), none⟩, []⟩,
  ⟨⟨some 4, Op.assign (Operand.tmp 32), none⟩, []⟩]) .ret) .skip)) (.seq (.reg [⟨⟨some 33, Op.buildSlice 34 0 #[], none⟩, []⟩,
  ⟨⟨some 34, Op.move (Operand.tmp 0), none⟩, []⟩,
  ⟨⟨some 35, Op.move (Operand.tmp 5), none⟩, []⟩,
  ⟨⟨some 36, Op.slice 34 (Operand.tmp 34) none (some (Operand.tmp 35)) none, none⟩, []⟩,
  ⟨⟨some 38, Op.move (Operand.tmp 1), none⟩, []⟩,
  ⟨⟨some 39, Op.buildSlice 34 1 #[(0, (Operand.tmp 38))], none⟩, []⟩,
  ⟨⟨some 41, Op.move (Operand.tmp 0), none⟩, []⟩,
  ⟨⟨some 42, Op.move (Operand.tmp 5), none⟩, []⟩,
  ⟨⟨some 43, Op.slice 34 (Operand.tmp 41) (some (Operand.tmp 42)) none none, none⟩, []⟩,
  ⟨⟨some 37, Op.call { callee := (Callee.builtin Builtin.append), args := #[(Operand.tmp 33), (Operand.tmp 36)], argTypes := #[34, 34] }, none⟩, [⟨some 43, Op.slice 34 (Operand.tmp 41) (some (Operand.tmp 42)) none none, none⟩, ⟨some 39, Op.buildSlice 34 1 #[(0, (Operand.tmp 38))], none⟩]⟩,
  ⟨⟨some 40, Op.call { callee := (Callee.builtin Builtin.append), args := #[(Operand.tmp 37), (Operand.tmp 39)], argTypes := #[34, 34] }, none⟩, [⟨some 43, Op.slice 34 (Operand.tmp 41) (some (Operand.tmp 42)) none none, none⟩]⟩,
  ⟨⟨some 44, Op.call { callee := (Callee.builtin Builtin.append), args := #[(Operand.tmp 40), (Operand.tmp 43)], argTypes := #[34, 34] }, none⟩, []⟩,
  ⟨⟨some 4, Op.assign (Operand.tmp 44), none⟩, []⟩]) .ret)))))
theorem sl83 : slim Tryz.f83.ntmps ords83 (Tryz.f83.body.getD .skip) = some cd83 := by kernel_rfl
theorem in83 {args : List Value} {H : AH} {R : Value → AH → Prop} (hl : args.length = 2) (h : ∀ (Q : Exit → Sl → AH → Prop), (∀ e s H, endA Tryz.prog [ResultVar.tmp 4] R e s H → Q e s H) → wpC Tryz.prog cd83 Q (enterA args) H) : ACalls Tryz.prog 83 args H R :=
  ACalls.intro (by kernel_rfl) Tryz.func83 rfl (by kernel_rfl) sl83 hl (of_decide_eq_true (by kernel_rfl)) (by kernel_rfl) h
end Go.Proofs.YtdgapefbbdfpbaaGreat.Ai
namespace Go.Proofs.YtdgapefbbdfpbaaGreat.Ai
open Go Go.RowKit
set_option linter.unusedVariables false
set_option linter.unusedSimpArgs false
set_option maxHeartbeats 2000000 in
theorem l1Put_c (v : Value) (l : List Int) (x : Int) (H : AH) (hr : Row 3 H v l) (hlen : l.length ≤ 1000000) (hx : x ∉ l) :
    ACalls Tryz.prog 83 [v, .int .i64 x] H fun r H' => Own 3 H H' r (put l x) ∧ H <+: H' := by
  refine in83 rfl ?_
  intro Q hQ
  simp (maxSteps := 1000000) (disch := omega) only [cd83, S, S1, S2, S3, S4, S5, ST, eq_self, reduceIte, reduceCtorEq, Nat.reduceEqDiff, Nat.reduceAdd]
  refine LoopH.by (fun m s H' => ∃ i, m + i = l.length ∧ s 0 = v ∧ s 1 = .int .i64 x ∧ s 5 = .int .i64 ((i : Nat) : Int) ∧ H = H' ∧ ∀ j, j < i → l.getD j 0 < x) l.length ?_ ?_
  · exact ⟨0, by simp, rfl, rfl, rfl, rfl, by omega⟩
  · rintro m s H' ⟨i, hm, h0, h1, h5, rfl, hlt⟩
    have fin : (i < l.length → x ≤ l.getD i 0) → put l x = l.take i ++ x :: l.drop i := by
      intro h
      rw [putAt_eq0 l x i (by omega) hlt h, if_neg]
      rintro ⟨hi, e⟩
      apply hx
      have : l.getD i 0 = l[i] := by simp [hi]
      rw [← e, this]; exact List.getElem_mem hi
    have last : (i < l.length → x ≤ l.getD i 0) → ∀ s' : Sl, s' 0 = v → s' 1 = .int .i64 x → s' 5 = .int .i64 ((i : Nat) : Int) → True := fun _ _ _ _ _ => trivial
    -- the list made anew
    have hp1 := List.prefix_append H [AObj.cells [] 3 false]
    have hp2 : H <+: H ++ [AObj.cells [] 3 false] ++ [AObj.cells [.int .i64 x] 3 false] := pre_app hp1 _
    have sl1 : ∀ H1, H <+: H1 → sliceA Tryz.prog 34 v none (some (.int .i64 ((i : Nat) : Int))) none H1 = some (subV v 0 i) ∧ Row 3 H1 (subV v 0 i) (l.take i) := by
      intro H1 hp
      have h := (hr.pre hp).slice Tryz.underlying34 cs3 (lo := none) (hi := some (.int .i64 ((i : Nat) : Int))) lo_none (bound_some (by omega) _) (by omega) (by simp; omega)
      simp only [Int.toNat_natCast, List.drop_zero, Nat.sub_zero] at h
      exact ⟨h.1, h.2.1⟩
    have sl2 : ∀ H1, H <+: H1 → sliceA Tryz.prog 34 v (some (.int .i64 ((i : Nat) : Int))) none none H1 = some (subV v i l.length) ∧ Row 3 H1 (subV v i l.length) (l.drop i) := by
      intro H1 hp
      have h := (hr.pre hp).slice Tryz.underlying34 cs3 (lo := some (.int .i64 ((i : Nat) : Int))) (hi := none) (bound_some (by omega) _) (hi_none _) (by simp; omega) (Nat.le_refl _)
      simp only [Int.toNat_natCast] at h
      refine ⟨h.1, ?_⟩
      have e : (l.drop i).take (l.length - i) = l.drop i := List.take_of_length_le (by simp)
      rw [← e]; exact h.2.1
    have ho0 : Own 3 H (H ++ [AObj.cells [] 3 false] ++ [AObj.cells [.int .i64 x] 3 false]) (.slice (some ⟨H.length, 0, none⟩) 0 0) [] := .inr ⟨H.length, rfl, Nat.le_refl _, at_app (at_new ..) _⟩
    obtain ⟨w1, H3, k1, o1, p1, e1, _⟩ := ho0.app (P := Tryz.prog) (t := 34) Tryz.underlying34 cs3 (by rw [by3]; decide) zk3 (sl1 _ hp2).2 hp2 (by simp; omega)
    simp only [List.nil_append] at o1
    have c3 : H3[(H ++ [AObj.cells [] 3 false]).length]? = some (.cells [.int .i64 x] 3 false) := e1 _ _ (.inr (by simp [rowO])) (at_new ..)
    have c2 : (H ++ [AObj.cells [] 3 false] ++ [AObj.cells [.int .i64 x] 3 false])[(H ++ [AObj.cells [] 3 false]).length]? = some (.cells [.int .i64 x] 3 false) := at_new ..
    have r39 : Row 3 H3 (.slice (some ⟨(H ++ [AObj.cells [] 3 false]).length, 0, none⟩) 1 1) [x] := .inr ⟨_, 0, [.int .i64 x], false, rfl, c3, by simp, rfl⟩
    obtain ⟨w2, H4, k2, o2, p2, e2, _⟩ := o1.app (P := Tryz.prog) (t := 34) Tryz.underlying34 cs3 (by rw [by3]; decide) zk3 r39 p1 (by simp; omega)
    obtain ⟨w3, H5, k3, o3, p3, e3, _⟩ := o2.app (P := Tryz.prog) (t := 34) Tryz.underlying34 cs3 (by rw [by3]; decide) zk3 (sl2 _ p2).2 p2 (by simp; omega)
    have hcat : l.take i ++ [x] ++ l.drop i = l.take i ++ x :: l.drop i := by simp
    simp (maxSteps := 1000000) (disch := omega) only [h0, h1, h5, hr.len Tryz.underlying34, S, S1, S2, S3, S4, S5, ST, eq_self, reduceIte, reduceCtorEq, Nat.reduceEqDiff, Nat.reduceAdd]
    refine brD.intro (fun g => ?_) (fun g => ?_)
    · have hi : i < l.length := by omega
      simp (maxSteps := 1000000) (disch := omega) only [g, h0, h1, h5, hr.ix Tryz.underlying34 cs3, hr.cell, Int.toNat_natCast, S, S1, S2, S3, S4, S5, ST, eq_self, reduceIte, reduceCtorEq, Nat.reduceEqDiff, Nat.reduceAdd]
      refine brD.intro (fun e => ?_) (fun e => ?_)
      · simp (maxSteps := 1000000) (disch := omega) only [h0, h1, h5, wrap64, S, S1, S2, S3, S4, S5, ST, eq_self, reduceIte, reduceCtorEq, Nat.reduceEqDiff, Nat.reduceAdd]
        have fx : ∀ j, j < i + 1 → l.getD j 0 < x := by
          intro j hj
          by_cases ej : j = i
          · subst ej; exact e
          · exact hlt j (by omega)
        refine ⟨m - 1, by omega, i + 1, ?_⟩
        (repeat' apply And.intro) <;> first | exact fx | (simp only [Value.int.injEq, true_and]; omega) | omega | rfl | assumption | (simp; done) | (simp; omega)
      · have hne : ¬ l.getD i 0 = x := fun h => hx (by
          have : l.getD i 0 = l[i] := by simp [hi]
          rw [← h, this]; exact List.getElem_mem hi)
        simp (maxSteps := 1000000) (disch := omega) only [g, h0, h1, h5, hr.len Tryz.underlying34, hr.ix Tryz.underlying34 cs3, hr.cell, Int.toNat_natCast, S, S1, S2, S3, S4, S5, ST, eq_self, reduceIte, reduceCtorEq, Nat.reduceEqDiff, Nat.reduceAdd]
        refine brD.intro (fun h => absurd h hne) (fun hne => ?_)
        simp (maxSteps := 1000000) (disch := omega) only [hne, g, h0, h1, h5, (sl1 _ hp1).1, (sl2 _ hp2).1, k1, k2, k3, (sl2 _ p1).1, (sl2 _ p2).1, c2, c3, S, S1, S2, S3, S4, S5, ST, eq_self, reduceIte, reduceCtorEq, Nat.reduceEqDiff, Nat.reduceAdd]
        refine hQ _ _ _ ?_
        simp (maxSteps := 1000000) (disch := omega) only [o3.row.tup, S, S1, S2, S3, S4, S5, ST, eq_self, reduceIte, reduceCtorEq, Nat.reduceEqDiff, Nat.reduceAdd]
        rw [fin (fun _ => by omega), ← hcat]
        exact ⟨o3, p3⟩
    · simp (maxSteps := 1000000) (disch := omega) only [g, h0, h1, h5, hr.len Tryz.underlying34, S, S1, S2, S3, S4, S5, ST, eq_self, reduceIte, reduceCtorEq, Nat.reduceEqDiff, Nat.reduceAdd]
      simp (maxSteps := 1000000) (disch := omega) only [h0, h1, h5, (sl1 _ hp1).1, (sl2 _ hp2).1, k1, k2, k3, (sl2 _ p1).1, (sl2 _ p2).1, c2, c3, g, S, S1, S2, S3, S4, S5, ST, eq_self, reduceIte, reduceCtorEq, Nat.reduceEqDiff, Nat.reduceAdd]
      refine hQ _ _ _ ?_
      simp (maxSteps := 1000000) (disch := omega) only [o3.row.tup, S, S1, S2, S3, S4, S5, ST, eq_self, reduceIte, reduceCtorEq, Nat.reduceEqDiff, Nat.reduceAdd]
      rw [fin (fun _ => by omega), ← hcat]
      exact ⟨o3, p3⟩
end Go.Proofs.YtdgapefbbdfpbaaGreat.Ai
namespace Go.Proofs.YtdgapefbbdfpbaaGreat.Ai
open Go
def ords91 : List (Nat × List (Nat × Bool)) := []
def cd91 : Cd := (.seq (.reg [⟨⟨some 6, Op.assign (Operand.const (Value.bool false)), none⟩, []⟩]) (.seq (.reg [⟨⟨some 7, Op.move (Operand.tmp 0), none⟩, []⟩,
  ⟨⟨some 8, Op.move (Operand.tmp 1), none⟩, []⟩,
  ⟨⟨some 9, Op.binOp BinOp.geq 3 (Operand.tmp 7) (Operand.tmp 8) 3, none⟩, []⟩,
  ⟨⟨some 10, Op.move (Operand.tmp 9), none⟩, []⟩,
  ⟨⟨some 11, Op.move (Operand.tmp 0), some (10, true)⟩, []⟩,
  ⟨⟨some 12, Op.move (Operand.tmp 2), some (10, true)⟩, []⟩,
  ⟨⟨some 13, Op.binOp BinOp.leq 3 (Operand.tmp 11) (Operand.tmp 12) 3, some (10, true)⟩, []⟩,
  ⟨⟨some 14, Op.pick (Operand.tmp 10) (Operand.tmp 13) (Operand.const (Value.bool false)), none⟩, []⟩,
  ⟨⟨some 6, Op.assign (Operand.tmp 14), none⟩, []⟩]) .ret))
theorem sl91 : slim Tryz.f91.ntmps ords91 (Tryz.f91.body.getD .skip) = some cd91 := by kernel_rfl
theorem in91 {args : List Value} {H : AH} {R : Value → AH → Prop} (hl : args.length = 3) (h : ∀ (Q : Exit → Sl → AH → Prop), (∀ e s H, endA Tryz.prog [ResultVar.tmp 6] R e s H → Q e s H) → wpC Tryz.prog cd91 Q (enterA args) H) : ACalls Tryz.prog 91 args H R :=
  ACalls.intro (by kernel_rfl) Tryz.func91 rfl (by kernel_rfl) sl91 hl (of_decide_eq_true (by kernel_rfl)) (by kernel_rfl) h
def ords87 : List (Nat × List (Nat × Bool)) := []
def cd87 : Cd := (.seq (.reg [⟨⟨some 6, Op.assign (Operand.const (Value.bool false)), none⟩, []⟩]) (.seq (.reg [⟨⟨some 7, Op.move (Operand.tmp 0), none⟩, []⟩,
  ⟨⟨some 8, Op.move (Operand.tmp 1), none⟩, []⟩,
  ⟨⟨some 9, Op.binOp BinOp.geq 3 (Operand.tmp 7) (Operand.tmp 8) 3, none⟩, []⟩,
  ⟨⟨some 10, Op.move (Operand.tmp 9), none⟩, []⟩,
  ⟨⟨some 11, Op.move (Operand.tmp 0), some (10, true)⟩, []⟩,
  ⟨⟨some 12, Op.move (Operand.tmp 2), some (10, true)⟩, []⟩,
  ⟨⟨some 13, Op.binOp BinOp.leq 3 (Operand.tmp 11) (Operand.tmp 12) 3, some (10, true)⟩, []⟩,
  ⟨⟨some 14, Op.pick (Operand.tmp 10) (Operand.tmp 13) (Operand.const (Value.bool false)), none⟩, []⟩,
  ⟨⟨some 6, Op.assign (Operand.tmp 14), none⟩, []⟩]) .ret))
theorem sl87 : slim Tryz.f87.ntmps ords87 (Tryz.f87.body.getD .skip) = some cd87 := by kernel_rfl
theorem in87 {args : List Value} {H : AH} {R : Value → AH → Prop} (hl : args.length = 3) (h : ∀ (Q : Exit → Sl → AH → Prop), (∀ e s H, endA Tryz.prog [ResultVar.tmp 6] R e s H → Q e s H) → wpC Tryz.prog cd87 Q (enterA args) H) : ACalls Tryz.prog 87 args H R :=
  ACalls.intro (by kernel_rfl) Tryz.func87 rfl (by kernel_rfl) sl87 hl (of_decide_eq_true (by kernel_rfl)) (by kernel_rfl) h
end Go.Proofs.YtdgapefbbdfpbaaGreat.Ai
namespace Go.Proofs.YtdgapefbbdfpbaaGreat.Ai
open Go Go.RowKit
set_option linter.unusedVariables false
set_option linter.unusedSimpArgs false
theorem l1In_c (a b c : Int) (H : AH) : ACalls Tryz.prog 91 [.int .i64 a, .int .i64 b, .int .i64 c] H fun r H' => r = .bool (decide (b ≤ a ∧ a ≤ c)) ∧ H = H' := by
  refine in91 rfl ?_
  intro Q hQ
  simp (maxSteps := 1000000) (disch := omega) only [cd91, S, S1, S2, S3, S4, S5, ST, eq_self, reduceIte, reduceCtorEq, Nat.reduceEqDiff, Nat.reduceAdd]
  refine brD.intro (fun h => ?_) (fun h => ?_) <;> simp (maxSteps := 1000000) (disch := omega) only [h, S, S1, S2, S3, S4, S5, ST, eq_self, reduceIte, reduceCtorEq, Nat.reduceEqDiff, Nat.reduceAdd] <;> refine hQ _ _ _ ?_ <;> simp (maxSteps := 1000000) (disch := omega) only [h, S, S1, S2, S3, S4, S5, ST, eq_self, reduceIte, reduceCtorEq, Nat.reduceEqDiff, Nat.reduceAdd] <;> simp [h]
theorem between_c (a b c : Int) (H : AH) : ACalls Tryz.prog 87 [.int .i64 a, .int .i64 b, .int .i64 c] H fun r H' => r = .bool (decide (b ≤ a ∧ a ≤ c)) ∧ H = H' := by
  refine in87 rfl ?_
  intro Q hQ
  simp (maxSteps := 1000000) (disch := omega) only [cd87, S, S1, S2, S3, S4, S5, ST, eq_self, reduceIte, reduceCtorEq, Nat.reduceEqDiff, Nat.reduceAdd]
  refine brD.intro (fun h => ?_) (fun h => ?_) <;> simp (maxSteps := 1000000) (disch := omega) only [h, S, S1, S2, S3, S4, S5, ST, eq_self, reduceIte, reduceCtorEq, Nat.reduceEqDiff, Nat.reduceAdd] <;> refine hQ _ _ _ ?_ <;> simp (maxSteps := 1000000) (disch := omega) only [h, S, S1, S2, S3, S4, S5, ST, eq_self, reduceIte, reduceCtorEq, Nat.reduceEqDiff, Nat.reduceAdd] <;> simp [h]
end Go.Proofs.YtdgapefbbdfpbaaGreat.Ai
namespace Go.Proofs.YtdgapefbbdfpbaaGreat.Ai
open Go
def ords62 : List (Nat × List (Nat × Bool)) := []
def cd62 : Cd := (.seq (.reg [⟨⟨some 2, Op.assign (Operand.const (Value.bool false)), none⟩, []⟩]) (.seq (.reg [⟨⟨some 3, Op.move (Operand.tmp 0), none⟩, []⟩,
  ⟨⟨some 4, Op.call { callee := (Callee.value (Operand.func 91)), args := #[(Operand.tmp 3), (Operand.const (Value.int IntKind.i64 3)), (Operand.const (Value.int IntKind.i64 8))], argTypes := #[3, 3, 3] }, none⟩, []⟩,
  ⟨⟨some 2, Op.assign (Operand.tmp 4), none⟩, []⟩]) .ret))
theorem sl62 : slim Tryz.f62.ntmps ords62 (Tryz.f62.body.getD .skip) = some cd62 := by kernel_rfl
theorem in62 {args : List Value} {H : AH} {R : Value → AH → Prop} (hl : args.length = 1) (h : ∀ (Q : Exit → Sl → AH → Prop), (∀ e s H, endA Tryz.prog [ResultVar.tmp 2] R e s H → Q e s H) → wpC Tryz.prog cd62 Q (enterA args) H) : ACalls Tryz.prog 62 args H R :=
  ACalls.intro (by kernel_rfl) Tryz.func62 rfl (by kernel_rfl) sl62 hl (of_decide_eq_true (by kernel_rfl)) (by kernel_rfl) h
def ords58 : List (Nat × List (Nat × Bool)) := []
def cd58 : Cd := (.seq (.reg [⟨⟨some 2, Op.assign (Operand.const (Value.bool false)), none⟩, []⟩]) (.seq (.reg [⟨⟨some 3, Op.move (Operand.tmp 0), none⟩, []⟩,
  ⟨⟨some 4, Op.call { callee := (Callee.value (Operand.func 87)), args := #[(Operand.tmp 3), (Operand.const (Value.int IntKind.i64 3)), (Operand.const (Value.int IntKind.i64 8))], argTypes := #[3, 3, 3] }, none⟩, []⟩,
  ⟨⟨some 2, Op.assign (Operand.tmp 4), none⟩, []⟩]) .ret))
theorem sl58 : slim Tryz.f58.ntmps ords58 (Tryz.f58.body.getD .skip) = some cd58 := by kernel_rfl
theorem in58 {args : List Value} {H : AH} {R : Value → AH → Prop} (hl : args.length = 1) (h : ∀ (Q : Exit → Sl → AH → Prop), (∀ e s H, endA Tryz.prog [ResultVar.tmp 2] R e s H → Q e s H) → wpC Tryz.prog cd58 Q (enterA args) H) : ACalls Tryz.prog 58 args H R :=
  ACalls.intro (by kernel_rfl) Tryz.func58 rfl (by kernel_rfl) sl58 hl (of_decide_eq_true (by kernel_rfl)) (by kernel_rfl) h
end Go.Proofs.YtdgapefbbdfpbaaGreat.Ai
namespace Go.Proofs.YtdgapefbbdfpbaaGreat.Ai
open Go Go.RowKit
set_option linter.unusedVariables false
set_option linter.unusedSimpArgs false
theorem l8Corners_c (n : Int) (H : AH) : ACalls Tryz.prog 62 [.int .i64 n] H fun r H' => r = .bool (decide (3 ≤ n ∧ n ≤ 8)) ∧ H = H' := by
  refine in62 rfl ?_
  intro Q hQ
  simp (maxSteps := 1000000) (disch := omega) only [cd62, S, S1, S2, S3, S4, S5, ST, eq_self, reduceIte, reduceCtorEq, Nat.reduceEqDiff, Nat.reduceAdd]
  refine CallH.by (l1In_c ..) ?_
  rintro _ _ ⟨rfl, rfl⟩
  simp (maxSteps := 1000000) (disch := omega) only [S, S1, S2, S3, S4, S5, ST, eq_self, reduceIte, reduceCtorEq, Nat.reduceEqDiff, Nat.reduceAdd]
  refine hQ _ _ _ ?_
  simp (maxSteps := 1000000) (disch := omega) only [S, S1, S2, S3, S4, S5, ST, eq_self, reduceIte, reduceCtorEq, Nat.reduceEqDiff, Nat.reduceAdd]
theorem isPolygon_c (n : Int) (H : AH) : ACalls Tryz.prog 58 [.int .i64 n] H fun r H' => r = .bool (decide (3 ≤ n ∧ n ≤ 8)) ∧ H = H' := by
  refine in58 rfl ?_
  intro Q hQ
  simp (maxSteps := 1000000) (disch := omega) only [cd58, S, S1, S2, S3, S4, S5, ST, eq_self, reduceIte, reduceCtorEq, Nat.reduceEqDiff, Nat.reduceAdd]
  refine CallH.by (between_c ..) ?_
  rintro _ _ ⟨rfl, rfl⟩
  simp (maxSteps := 1000000) (disch := omega) only [S, S1, S2, S3, S4, S5, ST, eq_self, reduceIte, reduceCtorEq, Nat.reduceEqDiff, Nat.reduceAdd]
  refine hQ _ _ _ ?_
  simp (maxSteps := 1000000) (disch := omega) only [S, S1, S2, S3, S4, S5, ST, eq_self, reduceIte, reduceCtorEq, Nat.reduceEqDiff, Nat.reduceAdd]
end Go.Proofs.YtdgapefbbdfpbaaGreat.Ai
namespace Go.Proofs.YtdgapefbbdfpbaaGreat.Ai
open Go
set_option linter.unusedVariables false
/-- the place of the first that p takes, or -1 -/
def idxP (p : Int → Bool) : List Int → Nat → Int
  | [], _ => -1
  | x :: xs, k => if p x = true then (k : Int) else idxP p xs (k + 1)
theorem idxP_step (p : Int → Bool) (xs : List Int) (i : Nat) (hi : i < xs.length) : idxP p (xs.drop i) i = if p (xs.getD i 0) = true then (i : Int) else idxP p (xs.drop (i + 1)) (i + 1) := by
  rw [List.drop_eq_getElem_cons hi]
  simp [idxP, hi]
theorem idxP_any (p : Int → Bool) : ∀ (xs : List Int) (k : Nat), (0 ≤ idxP p xs k) ↔ xs.any p = true
  | [], k => by simp [idxP]
  | x :: xs, k => by
    simp only [idxP, List.any_cons]
    cases h : p x with
    | true => simp
    | false => simp [idxP_any p xs (k + 1)]
end Go.Proofs.YtdgapefbbdfpbaaGreat.Ai
namespace Go.Proofs.YtdgapefbbdfpbaaGreat.Ai
open Go
def ords98 : List (Nat × List (Nat × Bool)) := []
def cd98 : Cd := (.seq (.reg [⟨⟨some 4, Op.assign (Operand.const (Value.bool false)), none⟩, []⟩]) (.seq (.reg [⟨⟨some 9, Op.move (Operand.tmp 0), none⟩, []⟩,
  ⟨⟨some 10, Op.binOp BinOp.quo 3 (Operand.tmp 9) (Operand.const (Value.int IntKind.i64 10)) 3, none⟩, []⟩,
  ⟨⟨some 11, Op.move (Operand.tmp 0), none⟩, []⟩,
  ⟨⟨some 12, Op.binOp BinOp.rem 3 (Operand.tmp 11) (Operand.const (Value.int IntKind.i64 10)) 3, none⟩, []⟩,
  ⟨⟨some 13, Op.move (Operand.tmp 1), none⟩, []⟩,
  ⟨⟨some 14, Op.binOp BinOp.quo 3 (Operand.tmp 13) (Operand.const (Value.int IntKind.i64 10)) 3, none⟩, []⟩,
  ⟨⟨some 15, Op.move (Operand.tmp 1), none⟩, []⟩,
  ⟨⟨some 16, Op.binOp BinOp.rem 3 (Operand.tmp 15) (Operand.const (Value.int IntKind.i64 10)) 3, none⟩, []⟩,
  ⟨⟨some 5, Op.assign (Operand.tmp 10), none⟩, []⟩,
  ⟨⟨some 6, Op.assign (Operand.tmp 12), none⟩, []⟩,
  ⟨⟨some 7, Op.assign (Operand.tmp 14), none⟩, []⟩,
  ⟨⟨some 8, Op.assign (Operand.tmp 16), none⟩, []⟩]) (.seq (.reg [⟨⟨some 17, Op.move (Operand.tmp 5), none⟩, []⟩,
  ⟨⟨some 18, Op.move (Operand.tmp 7), none⟩, []⟩,
  ⟨⟨some 19, Op.binOp BinOp.lss 3 (Operand.tmp 17) (Operand.tmp 18) 3, none⟩, []⟩,
  ⟨⟨some 20, Op.move (Operand.tmp 19), none⟩, []⟩,
  ⟨⟨some 21, Op.move (Operand.tmp 7), some (20, true)⟩, []⟩,
  ⟨⟨some 22, Op.move (Operand.tmp 6), some (20, true)⟩, []⟩,
  ⟨⟨some 23, Op.binOp BinOp.lss 3 (Operand.tmp 21) (Operand.tmp 22) 3, some (20, true)⟩, []⟩,
  ⟨⟨some 24, Op.pick (Operand.tmp 20) (Operand.tmp 23) (Operand.const (Value.bool false)), none⟩, []⟩,
  ⟨⟨some 25, Op.move (Operand.tmp 24), none⟩, []⟩,
  ⟨⟨some 26, Op.move (Operand.tmp 6), some (25, true)⟩, []⟩,
  ⟨⟨some 27, Op.move (Operand.tmp 8), some (25, true)⟩, []⟩,
  ⟨⟨some 28, Op.binOp BinOp.lss 3 (Operand.tmp 26) (Operand.tmp 27) 3, some (25, true)⟩, []⟩,
  ⟨⟨some 29, Op.pick (Operand.tmp 25) (Operand.tmp 28) (Operand.const (Value.bool false)), none⟩, []⟩,
  ⟨⟨some 30, Op.move (Operand.tmp 29), none⟩, []⟩,
  ⟨⟨some 31, Op.move (Operand.tmp 7), some (30, false)⟩, []⟩,
  ⟨⟨some 32, Op.move (Operand.tmp 5), some (30, false)⟩, []⟩,
  ⟨⟨some 33, Op.binOp BinOp.lss 3 (Operand.tmp 31) (Operand.tmp 32) 3, some (30, false)⟩, []⟩,
  ⟨⟨some 34, Op.move (Operand.tmp 33), some (30, false)⟩, []⟩,
  ⟨⟨some 35, Op.move (Operand.tmp 5), some (34, true)⟩, []⟩,
  ⟨⟨some 36, Op.move (Operand.tmp 8), some (34, true)⟩, []⟩,
  ⟨⟨some 37, Op.binOp BinOp.lss 3 (Operand.tmp 35) (Operand.tmp 36) 3, some (34, true)⟩, []⟩,
  ⟨⟨some 38, Op.pick (Operand.tmp 34) (Operand.tmp 37) (Operand.const (Value.bool false)), some (30, false)⟩, []⟩,
  ⟨⟨some 39, Op.move (Operand.tmp 38), some (30, false)⟩, []⟩,
  ⟨⟨some 40, Op.move (Operand.tmp 8), some (39, true)⟩, []⟩,
  ⟨⟨some 41, Op.move (Operand.tmp 6), some (39, true)⟩, []⟩,
  ⟨⟨some 42, Op.binOp BinOp.lss 3 (Operand.tmp 40) (Operand.tmp 41) 3, some (39, true)⟩, []⟩,
  ⟨⟨some 43, Op.pick (Operand.tmp 39) (Operand.tmp 42) (Operand.const (Value.bool false)), some (30, false)⟩, []⟩,
  ⟨⟨some 44, Op.pick (Operand.tmp 30) (Operand.const (Value.bool true)) (Operand.tmp 43), none⟩, []⟩,
  ⟨⟨some 4, Op.assign (Operand.tmp 44), none⟩, []⟩]) .ret)))
theorem sl98 : slim Tryz.f98.ntmps ords98 (Tryz.f98.body.getD .skip) = some cd98 := by kernel_rfl
theorem in98 {args : List Value} {H : AH} {R : Value → AH → Prop} (hl : args.length = 2) (h : ∀ (Q : Exit → Sl → AH → Prop), (∀ e s H, endA Tryz.prog [ResultVar.tmp 4] R e s H → Q e s H) → wpC Tryz.prog cd98 Q (enterA args) H) : ACalls Tryz.prog 98 args H R :=
  ACalls.intro (by kernel_rfl) Tryz.func98 rfl (by kernel_rfl) sl98 hl (of_decide_eq_true (by kernel_rfl)) (by kernel_rfl) h
def ords97 : List (Nat × List (Nat × Bool)) := []
def cd97 : Cd := (.seq (.reg [⟨⟨some 4, Op.assign (Operand.const (Value.bool false)), none⟩, []⟩]) (.seq (.reg [⟨⟨some 9, Op.move (Operand.tmp 0), none⟩, []⟩,
  ⟨⟨some 10, Op.binOp BinOp.quo 3 (Operand.tmp 9) (Operand.const (Value.int IntKind.i64 10)) 3, none⟩, []⟩,
  ⟨⟨some 11, Op.move (Operand.tmp 0), none⟩, []⟩,
  ⟨⟨some 12, Op.binOp BinOp.rem 3 (Operand.tmp 11) (Operand.const (Value.int IntKind.i64 10)) 3, none⟩, []⟩,
  ⟨⟨some 13, Op.move (Operand.tmp 1), none⟩, []⟩,
  ⟨⟨some 14, Op.binOp BinOp.quo 3 (Operand.tmp 13) (Operand.const (Value.int IntKind.i64 10)) 3, none⟩, []⟩,
  ⟨⟨some 15, Op.move (Operand.tmp 1), none⟩, []⟩,
  ⟨⟨some 16, Op.binOp BinOp.rem 3 (Operand.tmp 15) (Operand.const (Value.int IntKind.i64 10)) 3, none⟩, []⟩,
  ⟨⟨some 5, Op.assign (Operand.tmp 10), none⟩, []⟩,
  ⟨⟨some 6, Op.assign (Operand.tmp 12), none⟩, []⟩,
  ⟨⟨some 7, Op.assign (Operand.tmp 14), none⟩, []⟩,
  ⟨⟨some 8, Op.assign (Operand.tmp 16), none⟩, []⟩]) (.seq (.reg [⟨⟨some 17, Op.move (Operand.tmp 5), none⟩, []⟩,
  ⟨⟨some 18, Op.move (Operand.tmp 7), none⟩, []⟩,
  ⟨⟨some 19, Op.binOp BinOp.lss 3 (Operand.tmp 17) (Operand.tmp 18) 3, none⟩, []⟩,
  ⟨⟨some 20, Op.move (Operand.tmp 19), none⟩, []⟩,
  ⟨⟨some 21, Op.move (Operand.tmp 7), some (20, true)⟩, []⟩,
  ⟨⟨some 22, Op.move (Operand.tmp 6), some (20, true)⟩, []⟩,
  ⟨⟨some 23, Op.binOp BinOp.lss 3 (Operand.tmp 21) (Operand.tmp 22) 3, some (20, true)⟩, []⟩,
  ⟨⟨some 24, Op.pick (Operand.tmp 20) (Operand.tmp 23) (Operand.const (Value.bool false)), none⟩, []⟩,
  ⟨⟨some 25, Op.move (Operand.tmp 24), none⟩, []⟩,
  ⟨⟨some 26, Op.move (Operand.tmp 6), some (25, true)⟩, []⟩,
  ⟨⟨some 27, Op.move (Operand.tmp 8), some (25, true)⟩, []⟩,
  ⟨⟨some 28, Op.binOp BinOp.lss 3 (Operand.tmp 26) (Operand.tmp 27) 3, some (25, true)⟩, []⟩,
  ⟨⟨some 29, Op.pick (Operand.tmp 25) (Operand.tmp 28) (Operand.const (Value.bool false)), none⟩, []⟩,
  ⟨⟨some 30, Op.move (Operand.tmp 29), none⟩, []⟩,
  ⟨⟨some 31, Op.move (Operand.tmp 7), some (30, false)⟩, []⟩,
  ⟨⟨some 32, Op.move (Operand.tmp 5), some (30, false)⟩, []⟩,
  ⟨⟨some 33, Op.binOp BinOp.lss 3 (Operand.tmp 31) (Operand.tmp 32) 3, some (30, false)⟩, []⟩,
  ⟨⟨some 34, Op.move (Operand.tmp 33), some (30, false)⟩, []⟩,
  ⟨⟨some 35, Op.move (Operand.tmp 5), some (34, true)⟩, []⟩,
  ⟨⟨some 36, Op.move (Operand.tmp 8), some (34, true)⟩, []⟩,
  ⟨⟨some 37, Op.binOp BinOp.lss 3 (Operand.tmp 35) (Operand.tmp 36) 3, some (34, true)⟩, []⟩,
  ⟨⟨some 38, Op.pick (Operand.tmp 34) (Operand.tmp 37) (Operand.const (Value.bool false)), some (30, false)⟩, []⟩,
  ⟨⟨some 39, Op.move (Operand.tmp 38), some (30, false)⟩, []⟩,
  ⟨⟨some 40, Op.move (Operand.tmp 8), some (39, true)⟩, []⟩,
  ⟨⟨some 41, Op.move (Operand.tmp 6), some (39, true)⟩, []⟩,
  ⟨⟨some 42, Op.binOp BinOp.lss 3 (Operand.tmp 40) (Operand.tmp 41) 3, some (39, true)⟩, []⟩,
  ⟨⟨some 43, Op.pick (Operand.tmp 39) (Operand.tmp 42) (Operand.const (Value.bool false)), some (30, false)⟩, []⟩,
  ⟨⟨some 44, Op.pick (Operand.tmp 30) (Operand.const (Value.bool true)) (Operand.tmp 43), none⟩, []⟩,
  ⟨⟨some 4, Op.assign (Operand.tmp 44), none⟩, []⟩]) .ret)))
theorem sl97 : slim Tryz.f97.ntmps ords97 (Tryz.f97.body.getD .skip) = some cd97 := by kernel_rfl
theorem in97 {args : List Value} {H : AH} {R : Value → AH → Prop} (hl : args.length = 2) (h : ∀ (Q : Exit → Sl → AH → Prop), (∀ e s H, endA Tryz.prog [ResultVar.tmp 4] R e s H → Q e s H) → wpC Tryz.prog cd97 Q (enterA args) H) : ACalls Tryz.prog 97 args H R :=
  ACalls.intro (by kernel_rfl) Tryz.func97 rfl (by kernel_rfl) sl97 hl (of_decide_eq_true (by kernel_rfl)) (by kernel_rfl) h
def ords147 : List (Nat × List (Nat × Bool)) := []
def cd147 : Cd := (.seq (.reg [⟨⟨some 4, Op.assign (Operand.const (Value.int IntKind.i64 0)), none⟩, []⟩]) (.seq (.seq (.reg [⟨⟨some 6, Op.move (Operand.tmp 0), none⟩, []⟩,
  ⟨⟨some 7, Op.call { callee := (Callee.builtin Builtin.len), args := #[(Operand.tmp 6)], argTypes := #[34] }, none⟩, []⟩,
  ⟨⟨some 8, Op.move (Operand.const (Value.int IntKind.i64 0)), none⟩, []⟩]) (.block 0 (.loop (.seq (.reg [⟨⟨some 9, Op.binOp BinOp.lss 3 (Operand.tmp 8) (Operand.tmp 7) 3, none⟩, []⟩]) (.seq (.cond (Operand.tmp 9) .skip (.exit 0)) (.seq (.block 1 (.seq (.reg [⟨⟨some 10, Op.move (Operand.tmp 8), none⟩, []⟩,
  ⟨⟨some 5, Op.assign (Operand.tmp 10), none⟩, []⟩]) (.seq (.reg [⟨⟨some 11, Op.move (Operand.tmp 1), none⟩, []⟩,
  ⟨⟨some 12, Op.move (Operand.tmp 0), none⟩, []⟩,
  ⟨⟨some 13, Op.move (Operand.tmp 5), none⟩, []⟩,
  ⟨⟨some 14, Op.indexAddr 34 (Operand.tmp 12) (Operand.tmp 13), none⟩, []⟩,
  ⟨⟨some 15, Op.load 3 (Operand.tmp 14), none⟩, []⟩,
  ⟨⟨some 16, Op.call { callee := (Callee.value (Operand.tmp 11)), args := #[(Operand.tmp 15)], argTypes := #[3] }, none⟩, []⟩]) (.cond (Operand.tmp 16) (.seq (.reg [⟨⟨some 17, Op.move (Operand.tmp 5), none⟩, []⟩,
  ⟨⟨some 4, Op.assign (Operand.tmp 17), none⟩, []⟩]) .ret) .skip)))) (.reg [⟨⟨some 18, Op.binOp BinOp.add 3 (Operand.tmp 8) (Operand.const (Value.int IntKind.i64 1)) 3, none⟩, []⟩,
  ⟨⟨some 8, Op.move (Operand.tmp 18), none⟩, []⟩]))))))) (.seq (.reg [⟨⟨some 4, Op.assign (Operand.const (Value.int IntKind.i64 (-1))), none⟩, []⟩]) .ret)))
theorem sl147 : slim Tryz.f147.ntmps ords147 (Tryz.f147.body.getD .skip) = some cd147 := by kernel_rfl
theorem in147 {args : List Value} {H : AH} {R : Value → AH → Prop} (hl : args.length = 2) (h : ∀ (Q : Exit → Sl → AH → Prop), (∀ e s H, endA Tryz.prog [ResultVar.tmp 4] R e s H → Q e s H) → wpC Tryz.prog cd147 Q (enterA args) H) : ACalls Tryz.prog 147 args H R :=
  ACalls.intro (by kernel_rfl) Tryz.func147 rfl (by kernel_rfl) sl147 hl (of_decide_eq_true (by kernel_rfl)) (by kernel_rfl) h
def ords129 : List (Nat × List (Nat × Bool)) := []
def cd129 : Cd := (.seq (.reg [⟨⟨some 4, Op.assign (Operand.const (Value.bool false)), none⟩, []⟩]) (.seq (.reg [⟨⟨some 5, Op.move (Operand.tmp 0), none⟩, []⟩,
  ⟨⟨some 6, Op.move (Operand.tmp 1), none⟩, []⟩,
  ⟨⟨some 7, Op.call { callee := (Callee.value (Operand.func 147)), args := #[(Operand.tmp 5), (Operand.tmp 6)], argTypes := #[34, 76] }, none⟩, []⟩,
  ⟨⟨some 8, Op.binOp BinOp.geq 3 (Operand.tmp 7) (Operand.const (Value.int IntKind.i64 0)) 3, none⟩, []⟩,
  ⟨⟨some 4, Op.assign (Operand.tmp 8), none⟩, []⟩]) .ret))
theorem sl129 : slim Tryz.f129.ntmps ords129 (Tryz.f129.body.getD .skip) = some cd129 := by kernel_rfl
theorem in129 {args : List Value} {H : AH} {R : Value → AH → Prop} (hl : args.length = 2) (h : ∀ (Q : Exit → Sl → AH → Prop), (∀ e s H, endA Tryz.prog [ResultVar.tmp 4] R e s H → Q e s H) → wpC Tryz.prog cd129 Q (enterA args) H) : ACalls Tryz.prog 129 args H R :=
  ACalls.intro (by kernel_rfl) Tryz.func129 rfl (by kernel_rfl) sl129 hl (of_decide_eq_true (by kernel_rfl)) (by kernel_rfl) h
def ords82 : List (Nat × List (Nat × Bool)) := []
def cd82 : Cd := (.seq (.reg [⟨⟨some 4, Op.assign (Operand.const (Value.bool false)), none⟩, []⟩]) (.seq (.seq (.reg [⟨⟨some 5, Op.assign (Operand.const (Value.int IntKind.i64 0)), none⟩, []⟩]) (.block 0 (.loop (.seq (.seq (.reg [⟨⟨some 6, Op.move (Operand.tmp 5), none⟩, []⟩,
  ⟨⟨some 7, Op.move (Operand.tmp 0), none⟩, []⟩,
  ⟨⟨some 8, Op.call { callee := (Callee.builtin Builtin.len), args := #[(Operand.tmp 7)], argTypes := #[34] }, none⟩, []⟩,
  ⟨⟨some 9, Op.binOp BinOp.lss 3 (Operand.tmp 6) (Operand.tmp 8) 3, none⟩, []⟩]) (.cond (Operand.tmp 9) .skip (.exit 0))) (.seq (.block 1 (.seq (.reg [⟨⟨some 12, Op.move (Operand.tmp 0), none⟩, []⟩,
  ⟨⟨some 13, Op.move (Operand.tmp 5), none⟩, []⟩,
  ⟨⟨some 14, Op.indexAddr 34 (Operand.tmp 12) (Operand.tmp 13), none⟩, []⟩,
  ⟨⟨some 15, Op.load 3 (Operand.tmp 14), none⟩, []⟩,
  ⟨⟨some 16, Op.move (Operand.tmp 1), none⟩, []⟩,
  ⟨⟨some 17, Op.call { callee := (Callee.value (Operand.func 98)), args := #[(Operand.tmp 15), (Operand.tmp 16)], argTypes := #[3, 3] }, none⟩, []⟩]) (.cond (Operand.tmp 17) (.seq (.reg [⟨⟨some 4, Op.assign (Operand.const (Value.bool false)), none⟩, []⟩]) .ret) .skip))) (.reg [⟨⟨some 10, Op.move (Operand.tmp 5), none⟩, []⟩,
  ⟨⟨some 11, Op.binOp BinOp.add 3 (Operand.tmp 10) (Operand.const (Value.int IntKind.i64 1)) 3, none⟩, []⟩,
  ⟨⟨some 5, Op.assign (Operand.tmp 11), none⟩, []⟩])))))) (.seq (.reg [⟨⟨some 4, Op.assign (Operand.const (Value.bool true)), none⟩, []⟩]) .ret)))
theorem sl82 : slim Tryz.f82.ntmps ords82 (Tryz.f82.body.getD .skip) = some cd82 := by kernel_rfl
theorem in82 {args : List Value} {H : AH} {R : Value → AH → Prop} (hl : args.length = 2) (h : ∀ (Q : Exit → Sl → AH → Prop), (∀ e s H, endA Tryz.prog [ResultVar.tmp 4] R e s H → Q e s H) → wpC Tryz.prog cd82 Q (enterA args) H) : ACalls Tryz.prog 82 args H R :=
  ACalls.intro (by kernel_rfl) Tryz.func82 rfl (by kernel_rfl) sl82 hl (of_decide_eq_true (by kernel_rfl)) (by kernel_rfl) h
def ords137 : List (Nat × List (Nat × Bool)) := []
def cd137 : Cd := (.seq (.reg [⟨⟨some 4, Op.assign (Operand.const (Value.bool false)), none⟩, []⟩]) (.seq (.reg [⟨⟨some 7, Op.move (Operand.tmp 1), none⟩, []⟩,
  ⟨⟨some 8, Op.binOp BinOp.quo 3 (Operand.tmp 7) (Operand.const (Value.int IntKind.i64 10)) 3, none⟩, []⟩,
  ⟨⟨some 9, Op.move (Operand.tmp 1), none⟩, []⟩,
  ⟨⟨some 10, Op.binOp BinOp.rem 3 (Operand.tmp 9) (Operand.const (Value.int IntKind.i64 10)) 3, none⟩, []⟩,
  ⟨⟨some 5, Op.assign (Operand.tmp 8), none⟩, []⟩,
  ⟨⟨some 6, Op.assign (Operand.tmp 10), none⟩, []⟩]) (.seq (.reg [⟨⟨some 11, Op.move (Operand.tmp 1), none⟩, []⟩,
  ⟨⟨some 12, Op.binOp BinOp.geq 3 (Operand.tmp 11) (Operand.const (Value.int IntKind.i64 0)) 3, none⟩, []⟩,
  ⟨⟨some 13, Op.move (Operand.tmp 12), none⟩, []⟩,
  ⟨⟨some 14, Op.move (Operand.tmp 6), some (13, true)⟩, []⟩,
  ⟨⟨some 15, Op.move (Operand.tmp 0), some (13, true)⟩, []⟩,
  ⟨⟨some 16, Op.binOp BinOp.lss 3 (Operand.tmp 14) (Operand.tmp 15) 3, some (13, true)⟩, []⟩,
  ⟨⟨some 17, Op.pick (Operand.tmp 13) (Operand.tmp 16) (Operand.const (Value.bool false)), none⟩, []⟩,
  ⟨⟨some 18, Op.move (Operand.tmp 17), none⟩, []⟩,
  ⟨⟨some 19, Op.move (Operand.tmp 6), some (18, true)⟩, []⟩,
  ⟨⟨some 20, Op.move (Operand.tmp 5), some (18, true)⟩, []⟩,
  ⟨⟨some 21, Op.binOp BinOp.sub 3 (Operand.tmp 19) (Operand.tmp 20) 3, some (18, true)⟩, []⟩,
  ⟨⟨some 22, Op.binOp BinOp.gtr 3 (Operand.tmp 21) (Operand.const (Value.int IntKind.i64 1)) 3, some (18, true)⟩, []⟩,
  ⟨⟨some 23, Op.pick (Operand.tmp 18) (Operand.tmp 22) (Operand.const (Value.bool false)), none⟩, []⟩,
  ⟨⟨some 24, Op.move (Operand.tmp 23), none⟩, []⟩,
  ⟨⟨some 25, Op.move (Operand.tmp 5), some (24, true)⟩, []⟩,
  ⟨⟨some 26, Op.binOp BinOp.eql 3 (Operand.tmp 25) (Operand.const (Value.int IntKind.i64 0)) 3, some (24, true)⟩, []⟩,
  ⟨⟨some 27, Op.move (Operand.tmp 26), some (24, true)⟩, []⟩,
  ⟨⟨some 28, Op.move (Operand.tmp 6), some (27, true)⟩, []⟩,
  ⟨⟨some 29, Op.move (Operand.tmp 0), some (27, true)⟩, []⟩,
  ⟨⟨some 30, Op.binOp BinOp.sub 3 (Operand.tmp 29) (Operand.const (Value.int IntKind.i64 1)) 3, some (27, true)⟩, []⟩,
  ⟨⟨some 31, Op.binOp BinOp.eql 3 (Operand.tmp 28) (Operand.tmp 30) 3, some (27, true)⟩, []⟩,
  ⟨⟨some 32, Op.pick (Operand.tmp 27) (Operand.tmp 31) (Operand.const (Value.bool false)), some (24, true)⟩, []⟩,
  ⟨⟨some 33, Op.unOp UnOp.not 4 (Operand.tmp 32), some (24, true)⟩, []⟩,
  ⟨⟨some 34, Op.pick (Operand.tmp 24) (Operand.tmp 33) (Operand.const (Value.bool false)), none⟩, []⟩,
  ⟨⟨some 4, Op.assign (Operand.tmp 34), none⟩, []⟩]) .ret)))
theorem sl137 : slim Tryz.f137.ntmps ords137 (Tryz.f137.body.getD .skip) = some cd137 := by kernel_rfl
theorem in137 {args : List Value} {H : AH} {R : Value → AH → Prop} (hl : args.length = 2) (h : ∀ (Q : Exit → Sl → AH → Prop), (∀ e s H, endA Tryz.prog [ResultVar.tmp 4] R e s H → Q e s H) → wpC Tryz.prog cd137 Q (enterA args) H) : ACalls Tryz.prog 137 args H R :=
  ACalls.intro (by kernel_rfl) Tryz.func137 rfl (by kernel_rfl) sl137 hl (of_decide_eq_true (by kernel_rfl)) (by kernel_rfl) h
end Go.Proofs.YtdgapefbbdfpbaaGreat.Ai
namespace Go.Proofs.YtdgapefbbdfpbaaGreat.Ai
open Go Go.RowKit
set_option linter.unusedVariables false
set_option linter.unusedSimpArgs false
theorem I64.tdiv {x : Int} (h : I64 x) : IntKind.i64.wrap (x.tdiv 10) = x.tdiv 10 := by
  obtain ⟨h1, h2⟩ := h
  have hle : (x.tdiv 10).natAbs ≤ x.natAbs := by rw [Int.natAbs_tdiv]; exact Nat.div_le_self _ _
  by_cases h0 : 0 ≤ x
  · have := Int.tdiv_nonneg h0 (by decide : (0 : Int) ≤ 10)
    exact wrap64 (by omega) (by omega)
  · rw [IntKind.wrap_i64]
    have : (x.tdiv 10).natAbs ≤ 922337203685477580 := by
      rw [Int.natAbs_tdiv]
      show x.natAbs / 10 ≤ _
      omega
    omega
/-- two diagonals cross -/
def Crs (x y : Int) : Prop := x.tdiv 10 < y.tdiv 10 ∧ y.tdiv 10 < x.tmod 10 ∧ x.tmod 10 < y.tmod 10 ∨ y.tdiv 10 < x.tdiv 10 ∧ x.tdiv 10 < y.tmod 10 ∧ y.tmod 10 < x.tmod 10
instance (x y : Int) : Decidable (Crs x y) := inferInstanceAs (Decidable (_ ∨ _))
set_option maxHeartbeats 2000000 in
theorem l8Cross_c (x y : Int) (H : AH) (hx : I64 x) (hy : I64 y) : ACalls Tryz.prog 98 [.int .i64 x, .int .i64 y] H fun r H' => r = .bool (decide (Crs x y)) ∧ H = H' := by
  refine in98 rfl ?_
  intro Q hQ
  simp (maxSteps := 1000000) (disch := omega) only [cd98, hx.tdiv, hy.tdiv, S, S1, S2, S3, S4, S5, ST, eq_self, reduceIte, reduceCtorEq, Nat.reduceEqDiff, Nat.reduceAdd]
  repeat' (first | (refine brD.intro (fun h => ?_) (fun h => ?_) <;> simp (maxSteps := 1000000) (disch := omega) only [h, S, S1, S2, S3, S4, S5, ST, eq_self, reduceIte, reduceCtorEq, Nat.reduceEqDiff, Nat.reduceAdd]) | (refine hQ _ _ _ ?_; simp (maxSteps := 1000000) (disch := omega) only [S, S1, S2, S3, S4, S5, ST, eq_self, reduceIte, reduceCtorEq, Nat.reduceEqDiff, Nat.reduceAdd]))
  all_goals (by_cases hC : Crs x y <;> simp [hC] <;> unfold Crs at hC <;> omega)
set_option maxHeartbeats 2000000 in
theorem cross_c (x y : Int) (H : AH) (hx : I64 x) (hy : I64 y) : ACalls Tryz.prog 97 [.int .i64 x, .int .i64 y] H fun r H' => r = .bool (decide (Crs x y)) ∧ H = H' := by
  refine in97 rfl ?_
  intro Q hQ
  simp (maxSteps := 1000000) (disch := omega) only [cd97, hx.tdiv, hy.tdiv, S, S1, S2, S3, S4, S5, ST, eq_self, reduceIte, reduceCtorEq, Nat.reduceEqDiff, Nat.reduceAdd]
  repeat' (first | (refine brD.intro (fun h => ?_) (fun h => ?_) <;> simp (maxSteps := 1000000) (disch := omega) only [h, S, S1, S2, S3, S4, S5, ST, eq_self, reduceIte, reduceCtorEq, Nat.reduceEqDiff, Nat.reduceAdd]) | (refine hQ _ _ _ ?_; simp (maxSteps := 1000000) (disch := omega) only [S, S1, S2, S3, S4, S5, ST, eq_self, reduceIte, reduceCtorEq, Nat.reduceEqDiff, Nat.reduceAdd]))
  all_goals (by_cases hC : Crs x y <;> simp [hC] <;> unfold Crs at hC <;> omega)
theorem IndexFunc_c (v : Value) (xs : List Int) (p : Int → Bool) (g : FuncId) (caps : List Value) (H : AH) (hr : Row 3 H v xs) (hlen : xs.length ≤ 1099511627776)
    (hp : ∀ x ∈ xs, ACalls Tryz.prog g (.int .i64 x :: caps) H fun r H' => r = .bool (p x) ∧ H = H') :
    ACalls Tryz.prog 147 [v, .func (.func g) #[] (List.toArray caps)] H fun r H' => r = .int .i64 (idxP p xs 0) ∧ H = H' := by
  refine in147 rfl ?_
  intro Q hQ
  simp (maxSteps := 1000000) (disch := omega) only [cd147, hr.len Tryz.underlying34, S, S1, S2, S3, S4, S5, ST, eq_self, reduceIte, reduceCtorEq, Nat.reduceEqDiff, Nat.reduceAdd]
  refine LoopH.by (fun m s H' => ∃ i, m + i = xs.length ∧ s 0 = v ∧ s 1 = .func (.func g) #[] (List.toArray caps) ∧ s 8 = .int .i64 ((i : Nat) : Int) ∧ s 7 = .int .i64 (xs.length : Int) ∧ H = H' ∧ idxP p xs 0 = idxP p (xs.drop i) i) xs.length ?_ ?_
  · exact ⟨0, by simp, rfl, rfl, rfl, rfl, rfl, by simp⟩
  · rintro m s H' ⟨i, hm, h0, h1, h8, h7, rfl, hn⟩
    simp (maxSteps := 1000000) (disch := omega) only [h0, h1, h8, h7, S, S1, S2, S3, S4, S5, ST, eq_self, reduceIte, reduceCtorEq, Nat.reduceEqDiff, Nat.reduceAdd]
    refine brD.intro (fun g => ?_) (fun g => ?_) <;> simp (maxSteps := 1000000) (disch := omega) only [h0, h1, h8, h7, hr.ix Tryz.underlying34 cs3, hr.cell, Int.toNat_natCast, S, S1, S2, S3, S4, S5, ST, eq_self, reduceIte, reduceCtorEq, Nat.reduceEqDiff, Nat.reduceAdd]
    · have hi : i < xs.length := by omega
      have hg : xs.getD i 0 = xs[i] := by simp [hi]
      rw [idxP_step p xs i hi] at hn
      refine CallH.by (hp (xs.getD i 0) (by rw [hg]; exact List.getElem_mem hi)) ?_
      rintro _ _ ⟨rfl, rfl⟩
      simp (maxSteps := 1000000) (disch := omega) only [S, S1, S2, S3, S4, S5, ST, eq_self, reduceIte, reduceCtorEq, Nat.reduceEqDiff, Nat.reduceAdd]
      refine brH.intro (fun e => ?_) (fun e => ?_) <;> simp (maxSteps := 1000000) (disch := omega) only [h0, h1, h8, h7, wrap64, S, S1, S2, S3, S4, S5, ST, eq_self, reduceIte, reduceCtorEq, Nat.reduceEqDiff, Nat.reduceAdd]
      · refine hQ _ _ _ ?_
        simp (maxSteps := 1000000) (disch := omega) only [S, S1, S2, S3, S4, S5, ST, eq_self, reduceIte, reduceCtorEq, Nat.reduceEqDiff, Nat.reduceAdd]
        rw [hn, if_pos e]
      · rw [if_neg (by rw [e]; decide)] at hn
        exact ⟨m - 1, by omega, i + 1, by omega, by simp, hn⟩
    · refine hQ _ _ _ ?_
      simp (maxSteps := 1000000) (disch := omega) only [S, S1, S2, S3, S4, S5, ST, eq_self, reduceIte, reduceCtorEq, Nat.reduceEqDiff, Nat.reduceAdd]
      rw [hn, List.drop_of_length_le (by omega)]; rfl
theorem ContainsFunc_c (v : Value) (xs : List Int) (p : Int → Bool) (g : FuncId) (caps : List Value) (H : AH) (hr : Row 3 H v xs) (hlen : xs.length ≤ 1099511627776)
    (hp : ∀ x ∈ xs, ACalls Tryz.prog g (.int .i64 x :: caps) H fun r H' => r = .bool (p x) ∧ H = H') :
    ACalls Tryz.prog 129 [v, .func (.func g) #[] (List.toArray caps)] H fun r H' => r = .bool (xs.any p) ∧ H = H' := by
  refine in129 rfl ?_
  intro Q hQ
  simp (maxSteps := 1000000) (disch := omega) only [cd129, S, S1, S2, S3, S4, S5, ST, eq_self, reduceIte, reduceCtorEq, Nat.reduceEqDiff, Nat.reduceAdd]
  refine CallH.by (IndexFunc_c v xs p g caps H hr hlen hp) ?_
  rintro _ _ ⟨rfl, rfl⟩
  simp (maxSteps := 1000000) (disch := omega) only [S, S1, S2, S3, S4, S5, ST, eq_self, reduceIte, reduceCtorEq, Nat.reduceEqDiff, Nat.reduceAdd]
  refine hQ _ _ _ ?_
  simp (maxSteps := 1000000) (disch := omega) only [S, S1, S2, S3, S4, S5, ST, eq_self, reduceIte, reduceCtorEq, Nat.reduceEqDiff, Nat.reduceAdd]
  have := idxP_any p xs 0
  by_cases h : 0 ≤ idxP p xs 0
  · simp [h, this.1 h]
  · have h2 : xs.any p = false := by cases e : xs.any p <;> first | rfl | exact absurd (this.2 e) h
    simp [h, h2]
theorem l8Apart_c (v : Value) (xs : List Int) (x : Int) (H : AH) (hr : Row 3 H v xs) (hlen : xs.length ≤ 1099511627776) (hxs : ∀ y ∈ xs, I64 y) (hx : I64 x) :
    ACalls Tryz.prog 82 [v, .int .i64 x] H fun r H' => r = .bool (!xs.any fun y => decide (Crs y x)) ∧ H = H' := by
  refine in82 rfl ?_
  intro Q hQ
  simp (maxSteps := 1000000) (disch := omega) only [cd82, S, S1, S2, S3, S4, S5, ST, eq_self, reduceIte, reduceCtorEq, Nat.reduceEqDiff, Nat.reduceAdd]
  refine LoopH.by (fun m s H' => ∃ i, m + i = xs.length ∧ s 0 = v ∧ s 1 = .int .i64 x ∧ s 5 = .int .i64 ((i : Nat) : Int) ∧ H = H' ∧ (xs.any fun y => decide (Crs y x)) = ((xs.drop i).any fun y => decide (Crs y x))) xs.length ?_ ?_
  · exact ⟨0, by simp, rfl, rfl, rfl, rfl, by simp⟩
  · rintro m s H' ⟨i, hm, h0, h1, h5, rfl, hn⟩
    simp (maxSteps := 1000000) (disch := omega) only [h0, h1, h5, hr.len Tryz.underlying34, S, S1, S2, S3, S4, S5, ST, eq_self, reduceIte, reduceCtorEq, Nat.reduceEqDiff, Nat.reduceAdd]
    refine brD.intro (fun g => ?_) (fun g => ?_) <;> simp (maxSteps := 1000000) (disch := omega) only [h0, h1, h5, hr.ix Tryz.underlying34 cs3, hr.cell, Int.toNat_natCast, S, S1, S2, S3, S4, S5, ST, eq_self, reduceIte, reduceCtorEq, Nat.reduceEqDiff, Nat.reduceAdd]
    · have hi : i < xs.length := by omega
      have hg : xs.getD i 0 = xs[i] := by simp [hi]
      rw [List.drop_eq_getElem_cons hi, List.any_cons, ← hg] at hn
      refine CallH.by (l8Cross_c _ _ _ (by rw [hg]; exact hxs _ (List.getElem_mem hi)) hx) ?_
      rintro _ _ ⟨rfl, rfl⟩
      simp (maxSteps := 1000000) (disch := omega) only [S, S1, S2, S3, S4, S5, ST, eq_self, reduceIte, reduceCtorEq, Nat.reduceEqDiff, Nat.reduceAdd]
      refine brD.intro (fun e => ?_) (fun e => ?_) <;> simp (maxSteps := 1000000) (disch := omega) only [h0, h1, h5, wrap64, S, S1, S2, S3, S4, S5, ST, eq_self, reduceIte, reduceCtorEq, Nat.reduceEqDiff, Nat.reduceAdd]
      · refine hQ _ _ _ ?_
        simp (maxSteps := 1000000) (disch := omega) only [S, S1, S2, S3, S4, S5, ST, eq_self, reduceIte, reduceCtorEq, Nat.reduceEqDiff, Nat.reduceAdd]
        rw [hn, decide_eq_true e, Bool.true_or]; rfl
      · refine ⟨m - 1, by omega, i + 1, by omega, by simp, ?_⟩
        rw [hn, decide_eq_false e, Bool.false_or]
    · refine hQ _ _ _ ?_
      simp (maxSteps := 1000000) (disch := omega) only [S, S1, S2, S3, S4, S5, ST, eq_self, reduceIte, reduceCtorEq, Nat.reduceEqDiff, Nat.reduceAdd]
      rw [hn, List.drop_of_length_le (by omega)]; rfl
/-- a diagonal of a polygon -/
def Diag (n d : Int) : Prop := 0 ≤ d ∧ d.tmod 10 < n ∧ 1 < d.tmod 10 - d.tdiv 10 ∧ ¬ (d.tdiv 10 = 0 ∧ d.tmod 10 = n - 1)
instance (n d : Int) : Decidable (Diag n d) := inferInstanceAs (Decidable (_ ∧ _))
theorem tmod_small (d : Int) : -10 < d.tmod 10 ∧ d.tmod 10 < 10 := by
  have h1 := Int.tmod_lt_of_pos d (by decide : (0 : Int) < 10)
  have h2 : -10 < d.tmod 10 := by
    have := Int.lt_tmod_of_pos d (by decide : (0 : Int) < 10)
    omega
  exact ⟨h2, h1⟩
theorem I64.tdiv_small {x : Int} (h : I64 x) : -922337203685477580 ≤ x.tdiv 10 ∧ x.tdiv 10 ≤ 922337203685477580 := by
  obtain ⟨h1, h2⟩ := h
  have : (x.tdiv 10).natAbs ≤ 922337203685477580 := by
    rw [Int.natAbs_tdiv]
    show x.natAbs / 10 ≤ _
    omega
  omega
set_option maxHeartbeats 2000000 in
theorem isDiagonal_c (n d : Int) (H : AH) (hn : 0 ≤ n ∧ n ≤ 100) (hd : I64 d) : ACalls Tryz.prog 137 [.int .i64 n, .int .i64 d] H fun r H' => r = .bool (decide (Diag n d)) ∧ H = H' := by
  refine in137 rfl ?_
  intro Q hQ
  have b1 := tmod_small d
  have b2 := hd.tdiv_small
  simp (maxSteps := 1000000) (disch := omega) only [cd137, hd.tdiv, wrap64, S, S1, S2, S3, S4, S5, ST, eq_self, reduceIte, reduceCtorEq, Nat.reduceEqDiff, Nat.reduceAdd]
  repeat' (first | (refine brD.intro (fun h => ?_) (fun h => ?_) <;> simp (maxSteps := 1000000) (disch := omega) only [h, wrap64, S, S1, S2, S3, S4, S5, ST, eq_self, reduceIte, reduceCtorEq, Nat.reduceEqDiff, Nat.reduceAdd]) | (refine hQ _ _ _ ?_; simp (maxSteps := 1000000) (disch := omega) only [S, S1, S2, S3, S4, S5, ST, eq_self, reduceIte, reduceCtorEq, Nat.reduceEqDiff, Nat.reduceAdd]))
  all_goals (by_cases hC : Diag n d <;> simp [hC] <;> unfold Diag at hC <;> omega)
end Go.Proofs.YtdgapefbbdfpbaaGreat.Ai
namespace Go.Proofs.YtdgapefbbdfpbaaGreat.Ai
open Go
def ords140 : List (Nat × List (Nat × Bool)) := []
def cd140 : Cd := (.seq (.reg [⟨⟨some 3, Op.assign (Operand.const (Value.bool false)), none⟩, []⟩]) (.seq (.reg [⟨⟨some 4, Op.load 3 (Operand.tmp 1), none⟩, []⟩,
  ⟨⟨some 5, Op.move (Operand.tmp 0), none⟩, []⟩,
  ⟨⟨some 6, Op.call { callee := (Callee.value (Operand.func 97)), args := #[(Operand.tmp 4), (Operand.tmp 5)], argTypes := #[3, 3] }, none⟩, []⟩,
  ⟨⟨some 3, Op.assign (Operand.tmp 6), none⟩, []⟩]) .ret))
theorem sl140 : slim Tryz.f140.ntmps ords140 (Tryz.f140.body.getD .skip) = some cd140 := by kernel_rfl
theorem in140 {args : List Value} {H : AH} {R : Value → AH → Prop} (hl : args.length = 2) (h : ∀ (Q : Exit → Sl → AH → Prop), (∀ e s H, endA Tryz.prog [ResultVar.tmp 3] R e s H → Q e s H) → wpC Tryz.prog cd140 Q (enterA args) H) : ACalls Tryz.prog 140 args H R :=
  ACalls.intro (by kernel_rfl) Tryz.func140 rfl (by kernel_rfl) sl140 hl (of_decide_eq_true (by kernel_rfl)) (by kernel_rfl) h
def ords77 : List (Nat × List (Nat × Bool)) := [(6, [(0, false), (1, false), (2, true), (3, false), (4, false), (5, false), (6, false), (7, false), (8, false), (9, false), (10, false), (11, false), (12, false), (13, false), (14, false), (15, false), (16, false), (17, false), (18, false), (19, false), (20, false), (21, false), (22, true), (23, false)])]
def cd77 : Cd := (.seq (.reg [⟨⟨some 4, Op.assign (Operand.const (Value.bool false)), none⟩, []⟩]) (.seq (.seq (.reg [⟨⟨some 7, Op.move (Operand.tmp 1), none⟩, []⟩,
  ⟨⟨some 8, Op.call { callee := (Callee.builtin Builtin.len), args := #[(Operand.tmp 7)], argTypes := #[34] }, none⟩, []⟩,
  ⟨⟨some 9, Op.move (Operand.tmp 0), none⟩, []⟩,
  ⟨⟨some 10, Op.binOp BinOp.sub 3 (Operand.tmp 9) (Operand.const (Value.int IntKind.i64 3)) 3, none⟩, []⟩,
  ⟨⟨some 11, Op.binOp BinOp.neq 3 (Operand.tmp 8) (Operand.tmp 10) 3, none⟩, []⟩]) (.cond (Operand.tmp 11) (.seq (.reg [⟨⟨some 4, Op.assign (Operand.const (Value.bool false)), none⟩, []⟩]) .ret) .skip)) (.seq (.seq (.reg [⟨⟨some 12, Op.move (Operand.tmp 1), none⟩, []⟩,
  ⟨⟨some 13, Op.call { callee := (Callee.builtin Builtin.len), args := #[(Operand.tmp 12)], argTypes := #[34] }, none⟩, []⟩,
  ⟨⟨some 14, Op.move (Operand.const (Value.int IntKind.i64 0)), none⟩, []⟩]) (.block 0 (.loop (.seq (.reg [⟨⟨some 15, Op.binOp BinOp.lss 3 (Operand.tmp 14) (Operand.tmp 13) 3, none⟩, []⟩]) (.seq (.cond (Operand.tmp 15) .skip (.exit 0)) (.seq (.block 1 (.seq (.reg [⟨⟨some 16, Op.move (Operand.tmp 14), none⟩, []⟩,
  ⟨⟨some 17, Op.indexAddr 34 (Operand.tmp 12) (Operand.tmp 14), none⟩, []⟩,
  ⟨⟨some 18, Op.load 3 (Operand.tmp 17), none⟩, []⟩,
  ⟨⟨some 6, Op.alloc 3, none⟩, []⟩,
  ⟨⟨some 5, Op.assign (Operand.tmp 16), none⟩, []⟩,
  ⟨⟨none, Op.store 3 (Operand.tmp 6) (Operand.tmp 18), none⟩, []⟩]) (.seq (.reg [⟨⟨some 19, Op.move (Operand.tmp 0), none⟩, []⟩,
  ⟨⟨some 20, Op.load 3 (Operand.tmp 6), none⟩, []⟩,
  ⟨⟨some 21, Op.call { callee := (Callee.value (Operand.func 137)), args := #[(Operand.tmp 19), (Operand.tmp 20)], argTypes := #[3, 3] }, none⟩, []⟩,
  ⟨⟨some 22, Op.unOp UnOp.not 4 (Operand.tmp 21), none⟩, []⟩,
  ⟨⟨some 23, Op.move (Operand.tmp 22), none⟩, []⟩,
  ⟨⟨some 24, Op.move (Operand.tmp 5), some (23, false)⟩, []⟩,
  ⟨⟨some 25, Op.binOp BinOp.gtr 3 (Operand.tmp 24) (Operand.const (Value.int IntKind.i64 0)) 3, some (23, false)⟩, []⟩,
  ⟨⟨some 26, Op.move (Operand.tmp 25), some (23, false)⟩, []⟩,
  ⟨⟨some 27, Op.load 3 (Operand.tmp 6), some (26, true)⟩, []⟩,
  ⟨⟨some 28, Op.move (Operand.tmp 1), some (26, true)⟩, []⟩,
  ⟨⟨some 29, Op.move (Operand.tmp 5), some (26, true)⟩, []⟩,
  ⟨⟨some 30, Op.binOp BinOp.sub 3 (Operand.tmp 29) (Operand.const (Value.int IntKind.i64 1)) 3, some (26, true)⟩, []⟩,
  ⟨⟨some 31, Op.indexAddr 34 (Operand.tmp 28) (Operand.tmp 30), some (26, true)⟩, []⟩,
  ⟨⟨some 32, Op.load 3 (Operand.tmp 31), some (26, true)⟩, []⟩,
  ⟨⟨some 33, Op.binOp BinOp.leq 3 (Operand.tmp 27) (Operand.tmp 32) 3, some (26, true)⟩, []⟩,
  ⟨⟨some 34, Op.pick (Operand.tmp 26) (Operand.tmp 33) (Operand.const (Value.bool false)), some (23, false)⟩, []⟩,
  ⟨⟨some 35, Op.pick (Operand.tmp 23) (Operand.const (Value.bool true)) (Operand.tmp 34), none⟩, []⟩,
  ⟨⟨some 36, Op.move (Operand.tmp 35), none⟩, []⟩,
  ⟨⟨some 37, Op.move (Operand.tmp 1), some (36, false)⟩, []⟩,
  ⟨⟨some 38, Op.move (Operand.tmp 5), some (36, false)⟩, []⟩,
  ⟨⟨some 39, Op.slice 34 (Operand.tmp 37) none (some (Operand.tmp 38)) none, some (36, false)⟩, []⟩,
  ⟨⟨some 40, Op.makeFunc (Fn.func 140) #[] #[(Operand.tmp 6)], some (36, false)⟩, []⟩,
  ⟨⟨some 41, Op.call { callee := (Callee.value (Operand.func 129)), args := #[(Operand.tmp 39), (Operand.tmp 40)], argTypes := #[34, 76] }, some (36, false)⟩, []⟩,
  ⟨⟨some 42, Op.pick (Operand.tmp 36) (Operand.const (Value.bool true)) (Operand.tmp 41), none⟩, []⟩]) (.cond (Operand.tmp 42) (.seq (.reg [⟨⟨some 4, Op.assign (Operand.const (Value.bool false)), none⟩, []⟩]) .ret) .skip)))) (.reg [⟨⟨some 43, Op.binOp BinOp.add 3 (Operand.tmp 14) (Operand.const (Value.int IntKind.i64 1)) 3, none⟩, []⟩,
  ⟨⟨some 14, Op.move (Operand.tmp 43), none⟩, []⟩]))))))) (.seq (.reg [⟨⟨some 4, Op.assign (Operand.const (Value.bool true)), none⟩, []⟩]) .ret))))
theorem sl77 : slim Tryz.f77.ntmps ords77 (Tryz.f77.body.getD .skip) = some cd77 := by kernel_rfl
theorem in77 {args : List Value} {H : AH} {R : Value → AH → Prop} (hl : args.length = 2) (h : ∀ (Q : Exit → Sl → AH → Prop), (∀ e s H, endA Tryz.prog [ResultVar.tmp 4] R e s H → Q e s H) → wpC Tryz.prog cd77 Q (enterA args) H) : ACalls Tryz.prog 77 args H R :=
  ACalls.intro (by kernel_rfl) Tryz.func77 rfl (by kernel_rfl) sl77 hl (of_decide_eq_true (by kernel_rfl)) (by kernel_rfl) h
end Go.Proofs.YtdgapefbbdfpbaaGreat.Ai
namespace Go.Proofs.YtdgapefbbdfpbaaGreat.Ai
open Go Go.RowKit
set_option linter.unusedVariables false
set_option linter.unusedSimpArgs false
theorem alloc_int (H : AH) : allocA Tryz.prog 3 H = some (.pointer (some ⟨H.length, 0, none⟩), H ++ [.cells [.int .i64 0] 3 false]) := by kernel_rfl
theorem store_int (H : AH) (x y : Int) : storeA Tryz.prog 3 (.pointer (some ⟨H.length, 0, none⟩)) (.int .i64 x) (H ++ [.cells [.int .i64 y] 3 false]) = some (H ++ [.cells [.int .i64 x] 3 false]) :=
  st_new rfl (by rw [cs3]; rfl) (by rw [cs3]; decide) (by rw [cs3]; rfl)
theorem mkf_p (f : Fn) (p : Option Addr) : makeFuncA f [] [.pointer p] = some (.func f #[] (List.toArray [.pointer p])) := rfl
theorem triClos_c (d e : Int) (o : Nat) (H : AH) (hd : I64 d) (he : I64 e) (ho : cellA H o 0 = some (.int .i64 d)) : ACalls Tryz.prog 140 [.int .i64 e, .pointer (some ⟨o, 0, none⟩)] H fun r H' => r = .bool (decide (Crs d e)) ∧ H = H' := by
  refine in140 rfl ?_
  intro Q hQ
  simp (maxSteps := 1000000) (disch := omega) only [cd140, ho, S, S1, S2, S3, S4, S5, ST, eq_self, reduceIte, reduceCtorEq, Nat.reduceEqDiff, Nat.reduceAdd]
  refine CallH.by (cross_c d e H hd he) ?_
  rintro _ _ ⟨rfl, rfl⟩
  simp (maxSteps := 1000000) (disch := omega) only [S, S1, S2, S3, S4, S5, ST, eq_self, reduceIte, reduceCtorEq, Nat.reduceEqDiff, Nat.reduceAdd]
  refine hQ _ _ _ ?_
  simp (maxSteps := 1000000) (disch := omega) only [S, S1, S2, S3, S4, S5, ST, eq_self, reduceIte, reduceCtorEq, Nat.reduceEqDiff, Nat.reduceAdd]
/-- the i-th of a list goes well with those before it -/
def triOk (n : Int) (xs : List Int) (i : Nat) : Bool := decide (Diag n (xs.getD i 0)) && (decide (i = 0) || decide (xs.getD (i - 1) 0 < xs.getD i 0)) && !(xs.take i).any fun e => decide (Crs (xs.getD i 0) e)
def triI (n : Int) (xs : List Int) : Bool := decide ((xs.length : Int) = n - 3) && (List.range xs.length).all (triOk n xs)
set_option maxHeartbeats 2000000 in
theorem isTriangulation_c (n : Int) (v : Value) (xs : List Int) (H : AH) (hn : 0 ≤ n ∧ n ≤ 100) (hr : Row 3 H v xs) (hlen : xs.length ≤ 1099511627776) (hxs : ∀ y ∈ xs, I64 y) :
    ACalls Tryz.prog 77 [.int .i64 n, v] H fun r H' => r = .bool (triI n xs) ∧ H <+: H' := by
  refine in77 rfl ?_
  intro Q hQ
  simp (maxSteps := 1000000) (disch := omega) only [cd77, hr.len Tryz.underlying34, wrap64, S, S1, S2, S3, S4, S5, ST, eq_self, reduceIte, reduceCtorEq, Nat.reduceEqDiff, Nat.reduceAdd]
  refine brD.intro (fun g => ?_) (fun g => ?_) <;> simp (maxSteps := 1000000) (disch := omega) only [hr.len Tryz.underlying34, S, S1, S2, S3, S4, S5, ST, eq_self, reduceIte, reduceCtorEq, Nat.reduceEqDiff, Nat.reduceAdd]
  · refine hQ _ _ _ ?_
    simp (maxSteps := 1000000) (disch := omega) only [triI, g, decide_false, Bool.false_and, S, S1, S2, S3, S4, S5, ST, eq_self, reduceIte, reduceCtorEq, Nat.reduceEqDiff, Nat.reduceAdd]
    exact List.prefix_refl _
  · have g' : (xs.length : Int) = n - 3 := by omega
    refine LoopH.by (fun m s H' => ∃ i, m + i = xs.length ∧ s 0 = .int .i64 n ∧ s 1 = v ∧ s 12 = v ∧ s 13 = .int .i64 (xs.length : Int) ∧ s 14 = .int .i64 ((i : Nat) : Int) ∧ H <+: H' ∧ ∀ j, j < i → triOk n xs j = true) xs.length ?_ ?_
    · exact ⟨0, by simp, rfl, rfl, rfl, rfl, rfl, List.prefix_refl _, by omega⟩
    · rintro m s H' ⟨i, hm, h0, h1, h12, h13, h14, hp, hj⟩
      have hr' := hr.pre hp
      simp (maxSteps := 1000000) (disch := omega) only [h0, h1, h12, h13, h14, S, S1, S2, S3, S4, S5, ST, eq_self, reduceIte, reduceCtorEq, Nat.reduceEqDiff, Nat.reduceAdd]
      refine brD.intro (fun g => ?_) (fun g => ?_) <;> simp (maxSteps := 1000000) (disch := omega) only [h0, h1, h12, h13, h14, hr'.ix Tryz.underlying34 cs3, hr'.cell, Int.toNat_natCast, alloc_int, store_int, cell_new, S, S1, S2, S3, S4, S5, ST, eq_self, reduceIte, reduceCtorEq, Nat.reduceEqDiff, Nat.reduceAdd]
      · have hi : i < xs.length := by omega
        have hx : xs.getD i 0 = xs[i] := by simp [hi]
        have hI : I64 (xs.getD i 0) := by rw [hx]; exact hxs _ (List.getElem_mem hi)
        have bad : triOk n xs i = false → triI n xs = false := by
          intro hb
          have : (List.range xs.length).all (triOk n xs) = false := by
            rw [List.all_eq_false]
            exact ⟨i, List.mem_range.2 hi, by simp [hb]⟩
          simp [triI, this]
        generalize hH2 : H' ++ [AObj.cells [.int .i64 (xs.getD i 0)] 3 false] = H2
        have hr2 : Row 3 H2 v xs := hH2 ▸ hr'.pre (List.prefix_append _ _)
        have hp2 : H <+: H2 := hH2 ▸ pre_app hp _
        have hc2 : cellA H2 H'.length 0 = some (.int .i64 (xs.getD i 0)) := by rw [← hH2, cell_new]; rfl
        have hs2 := hr2.slice Tryz.underlying34 cs3 (lo := none) (hi := some (.int .i64 (i : Int))) lo_none (bound_some (by omega) _) (by omega) (by omega)
        have hlast : ∀ j, j < xs.length → i - 1 = j → xs.getD (i - 1) 0 = xs.getD j 0 := fun j _ e => by rw [e]
        have hpred : ((i : Int) - 1).toNat = i - 1 := by omega
        refine CallH.by (isDiagonal_c n _ _ hn hI) ?_
        rintro _ _ ⟨rfl, rfl⟩
        simp (maxSteps := 1000000) (disch := omega) only [h0, h1, h12, h13, h14, S, S1, S2, S3, S4, S5, ST, eq_self, reduceIte, reduceCtorEq, Nat.reduceEqDiff, Nat.reduceAdd]
        refine brD.intro (fun gd => ?_) (fun gd => ?_) <;> simp (maxSteps := 1000000) (disch := omega) only [gd, h0, h1, h12, h13, h14, wrap64, hc2, hr2.ix Tryz.underlying34 cs3, hr2.cell, hpred, hs2.1, mkf_p, S, S1, S2, S3, S4, S5, ST, eq_self, reduceIte, reduceCtorEq, Nat.reduceEqDiff, Nat.reduceAdd]
        · refine brD.intro (fun gi => ?_) (fun gi => ?_) <;> simp (maxSteps := 1000000) (disch := omega) only [gd, gi, h0, h1, h12, h13, h14, wrap64, hc2, hr2.ix Tryz.underlying34 cs3, hr2.cell, hpred, hs2.1, mkf_p, S, S1, S2, S3, S4, S5, ST, eq_self, reduceIte, reduceCtorEq, Nat.reduceEqDiff, Nat.reduceAdd]
          · refine brD.intro (fun gl => ?_) (fun gl => ?_) <;> simp (maxSteps := 1000000) (disch := omega) only [gd, gi, gl, h0, h1, h12, h13, h14, wrap64, hc2, hr2.ix Tryz.underlying34 cs3, hr2.cell, hpred, hs2.1, mkf_p, S, S1, S2, S3, S4, S5, ST, eq_self, reduceIte, reduceCtorEq, Nat.reduceEqDiff, Nat.reduceAdd]
            · refine hQ _ _ _ ?_
              simp (maxSteps := 1000000) (disch := omega) only [S, S1, S2, S3, S4, S5, ST, eq_self, reduceIte, reduceCtorEq, Nat.reduceEqDiff, Nat.reduceAdd]
              refine ⟨?_, hp2⟩
              rw [bad]
              have : ¬ xs.getD (i - 1) 0 < xs.getD i 0 := by omega
              simp only [triOk, gd, this, show ¬ i = 0 from by omega, decide_true, decide_false, Bool.or_false, Bool.and_false, Bool.false_and]
            · refine CallH.by (ContainsFunc_c _ _ (fun e => decide (Crs (xs.getD i 0) e)) _ _ H2 hs2.2.1 (by simp; omega) ?_) ?_
              · intro e he
                exact triClos_c _ _ _ _ hI (hxs e (List.mem_of_mem_drop (List.mem_of_mem_take he))) hc2
              rintro _ _ ⟨rfl, rfl⟩
              simp (maxSteps := 1000000) (disch := omega) only [gd, gi, gl, h0, h1, h12, h13, h14, wrap64, hc2, hr2.ix Tryz.underlying34 cs3, hr2.cell, hpred, hs2.1, mkf_p, S, S1, S2, S3, S4, S5, ST, eq_self, reduceIte, reduceCtorEq, Nat.reduceEqDiff, Nat.reduceAdd]
              refine brH.intro (fun ga => ?_) (fun ga => ?_) <;> simp (maxSteps := 1000000) (disch := omega) only [gd, gi, gl, h0, h1, h12, h13, h14, wrap64, hc2, hr2.ix Tryz.underlying34 cs3, hr2.cell, hpred, hs2.1, mkf_p, S, S1, S2, S3, S4, S5, ST, eq_self, reduceIte, reduceCtorEq, Nat.reduceEqDiff, Nat.reduceAdd]
              · refine hQ _ _ _ ?_
                simp (maxSteps := 1000000) (disch := omega) only [S, S1, S2, S3, S4, S5, ST, eq_self, reduceIte, reduceCtorEq, Nat.reduceEqDiff, Nat.reduceAdd]
                refine ⟨?_, hp2⟩
                rw [bad]
                simp only [Int.toNat_natCast, List.drop_zero, Nat.sub_zero] at ga
                simp only [triOk, ga, Bool.not_true, Bool.and_false]
              · refine ⟨m - 1, by omega, i + 1, by omega, by simp, hp2, ?_⟩
                intro j hjj
                by_cases e : j = i
                · subst e
                  simp only [Int.toNat_natCast, List.drop_zero, Nat.sub_zero] at ga
                  simp only [triOk, ga, gd, decide_true, Bool.true_and, Bool.not_false, Bool.and_true]
                  have : xs.getD (j - 1) 0 < xs.getD j 0 := by omega
                  simp only [this, decide_true, Bool.or_true]
                · exact hj j (by omega)
          · refine CallH.by (ContainsFunc_c _ _ (fun e => decide (Crs (xs.getD i 0) e)) _ _ H2 hs2.2.1 (by simp; omega) ?_) ?_
            · intro e he
              exact triClos_c _ _ _ _ hI (hxs e (List.mem_of_mem_drop (List.mem_of_mem_take he))) hc2
            rintro _ _ ⟨rfl, rfl⟩
            simp (maxSteps := 1000000) (disch := omega) only [gd, gi, h0, h1, h12, h13, h14, wrap64, hc2, hr2.ix Tryz.underlying34 cs3, hr2.cell, hpred, hs2.1, mkf_p, S, S1, S2, S3, S4, S5, ST, eq_self, reduceIte, reduceCtorEq, Nat.reduceEqDiff, Nat.reduceAdd]
            refine brH.intro (fun ga => ?_) (fun ga => ?_) <;> simp (maxSteps := 1000000) (disch := omega) only [gd, gi, h0, h1, h12, h13, h14, wrap64, hc2, hr2.ix Tryz.underlying34 cs3, hr2.cell, hpred, hs2.1, mkf_p, S, S1, S2, S3, S4, S5, ST, eq_self, reduceIte, reduceCtorEq, Nat.reduceEqDiff, Nat.reduceAdd]
            · refine hQ _ _ _ ?_
              simp (maxSteps := 1000000) (disch := omega) only [S, S1, S2, S3, S4, S5, ST, eq_self, reduceIte, reduceCtorEq, Nat.reduceEqDiff, Nat.reduceAdd]
              refine ⟨?_, hp2⟩
              rw [bad]
              simp only [Int.toNat_natCast, List.drop_zero, Nat.sub_zero] at ga
              simp only [triOk, ga, Bool.not_true, Bool.and_false]
            · refine ⟨m - 1, by omega, i + 1, by omega, by simp, hp2, ?_⟩
              intro j hjj
              by_cases e : j = i
              · subst e
                simp only [Int.toNat_natCast, List.drop_zero, Nat.sub_zero] at ga
                simp only [triOk, ga, gd, decide_true, Bool.true_and, Bool.not_false, Bool.and_true]
                simp only [show j = 0 from by omega, decide_true, Bool.true_or]
              · exact hj j (by omega)
        · refine hQ _ _ _ ?_
          simp (maxSteps := 1000000) (disch := omega) only [S, S1, S2, S3, S4, S5, ST, eq_self, reduceIte, reduceCtorEq, Nat.reduceEqDiff, Nat.reduceAdd]
          refine ⟨?_, hp2⟩
          rw [bad]
          simp only [triOk, gd, decide_false, Bool.false_and]
      · refine hQ _ _ _ ?_
        simp (maxSteps := 1000000) (disch := omega) only [S, S1, S2, S3, S4, S5, ST, eq_self, reduceIte, reduceCtorEq, Nat.reduceEqDiff, Nat.reduceAdd]
        refine ⟨?_, hp⟩
        have : (List.range xs.length).all (triOk n xs) = true := List.all_eq_true.2 fun j hj' => hj j (by have := List.mem_range.1 hj'; omega)
        simp [triI, this, g']
end Go.Proofs.YtdgapefbbdfpbaaGreat.Ai
namespace Go.Proofs.YtdgapefbbdfpbaaGreat.Ai
open Go
def ords81 : List (Nat × List (Nat × Bool)) := []
def cd81 : Cd := (.seq (.reg [⟨⟨some 2, Op.assign (Operand.const (Value.slice none 0 0)), none⟩, []⟩]) (.seq (.reg [⟨⟨some 6, Op.buildSlice 34 0 #[], none⟩, []⟩,
  ⟨⟨some 3, Op.assign (Operand.tmp 6), none⟩, []⟩]) (.seq (.seq (.reg [⟨⟨some 4, Op.assign (Operand.const (Value.int IntKind.i64 0)), none⟩, []⟩]) (.block 0 (.loop (.seq (.seq (.reg [⟨⟨some 7, Op.move (Operand.tmp 4), none⟩, []⟩,
  ⟨⟨some 8, Op.move (Operand.tmp 0), none⟩, []⟩,
  ⟨⟨some 9, Op.binOp BinOp.lss 3 (Operand.tmp 7) (Operand.tmp 8) 3, none⟩, []⟩]) (.cond (Operand.tmp 9) .skip (.exit 0))) (.seq (.block 1 (.seq (.reg [⟨⟨some 12, Op.move (Operand.tmp 4), none⟩, []⟩,
  ⟨⟨some 13, Op.binOp BinOp.add 3 (Operand.tmp 12) (Operand.const (Value.int IntKind.i64 2)) 3, none⟩, []⟩,
  ⟨⟨some 5, Op.assign (Operand.tmp 13), none⟩, []⟩]) (.block 2 (.loop (.seq (.seq (.reg [⟨⟨some 14, Op.move (Operand.tmp 5), none⟩, []⟩,
  ⟨⟨some 15, Op.move (Operand.tmp 0), none⟩, []⟩,
  ⟨⟨some 16, Op.binOp BinOp.lss 3 (Operand.tmp 14) (Operand.tmp 15) 3, none⟩, []⟩]) (.cond (Operand.tmp 16) .skip (.exit 2))) (.seq (.block 3 (.seq (.reg [⟨⟨some 19, Op.move (Operand.tmp 4), none⟩, []⟩,
  ⟨⟨some 20, Op.binOp BinOp.gtr 3 (Operand.tmp 19) (Operand.const (Value.int IntKind.i64 0)) 3, none⟩, []⟩,
  ⟨⟨some 21, Op.move (Operand.tmp 20), none⟩, []⟩,
  ⟨⟨some 22, Op.move (Operand.tmp 5), some (21, false)⟩, []⟩,
  ⟨⟨some 23, Op.move (Operand.tmp 0), some (21, false)⟩, []⟩,
  ⟨⟨some 24, Op.binOp BinOp.sub 3 (Operand.tmp 23) (Operand.const (Value.int IntKind.i64 1)) 3, some (21, false)⟩, []⟩,
  ⟨⟨some 25, Op.binOp BinOp.lss 3 (Operand.tmp 22) (Operand.tmp 24) 3, some (21, false)⟩, []⟩,
  ⟨⟨some 26, Op.pick (Operand.tmp 21) (Operand.const (Value.bool true)) (Operand.tmp 25), none⟩, []⟩]) (.cond (Operand.tmp 26) (.reg [⟨⟨some 27, Op.move (Operand.tmp 3), none⟩, []⟩,
  ⟨⟨some 28, Op.move (Operand.tmp 4), none⟩, []⟩,
  ⟨⟨some 29, Op.binOp BinOp.mul 3 (Operand.const (Value.int IntKind.i64 10)) (Operand.tmp 28) 3, none⟩, []⟩,
  ⟨⟨some 30, Op.move (Operand.tmp 5), none⟩, []⟩,
  ⟨⟨some 31, Op.binOp BinOp.add 3 (Operand.tmp 29) (Operand.tmp 30) 3, none⟩, []⟩,
  ⟨⟨some 32, Op.buildSlice 34 1 #[(0, (Operand.tmp 31))], none⟩, []⟩,
  ⟨⟨some 33, Op.call { callee := (Callee.builtin Builtin.append), args := #[(Operand.tmp 27), (Operand.tmp 32)], argTypes := #[34, 34] }, none⟩, []⟩,
  ⟨⟨some 3, Op.assign (Operand.tmp 33), none⟩, []⟩]) .skip))) (.reg [⟨⟨some 17, Op.move (Operand.tmp 5), none⟩, []⟩,
  ⟨⟨some 18, Op.binOp BinOp.add 3 (Operand.tmp 17) (Operand.const (Value.int IntKind.i64 1)) 3, none⟩, []⟩,
  ⟨⟨some 5, Op.assign (Operand.tmp 18), none⟩, []⟩]))))))) (.reg [⟨⟨some 10, Op.move (Operand.tmp 4), none⟩, []⟩,
  ⟨⟨some 11, Op.binOp BinOp.add 3 (Operand.tmp 10) (Operand.const (Value.int IntKind.i64 1)) 3, none⟩, []⟩,
  ⟨⟨some 4, Op.assign (Operand.tmp 11), none⟩, []⟩])))))) (.seq (.reg [⟨⟨some 34, Op.move (Operand.tmp 3), none⟩, []⟩,
  ⟨⟨some 2, Op.assign (Operand.tmp 34), none⟩, []⟩]) .ret))))
theorem sl81 : slim Tryz.f81.ntmps ords81 (Tryz.f81.body.getD .skip) = some cd81 := by kernel_rfl
theorem in81 {args : List Value} {H : AH} {R : Value → AH → Prop} (hl : args.length = 1) (h : ∀ (Q : Exit → Sl → AH → Prop), (∀ e s H, endA Tryz.prog [ResultVar.tmp 2] R e s H → Q e s H) → wpC Tryz.prog cd81 Q (enterA args) H) : ACalls Tryz.prog 81 args H R :=
  ACalls.intro (by kernel_rfl) Tryz.func81 rfl (by kernel_rfl) sl81 hl (of_decide_eq_true (by kernel_rfl)) (by kernel_rfl) h
def ords84 : List (Nat × List (Nat × Bool)) := [(5, [(0, false), (1, false), (2, false), (3, false), (4, false), (5, true), (6, false), (7, false), (8, false), (9, false), (10, false), (11, false), (12, false), (13, false), (14, false), (15, false), (16, false), (17, false), (18, false), (19, false), (20, false), (21, false), (22, false), (23, false), (24, false), (25, false), (26, false), (27, false), (28, false), (29, false), (30, false), (31, true), (32, false), (33, false)])]
def cd84 : Cd := (.seq (.reg [⟨⟨some 4, Op.assign (Operand.const (Value.bool false)), none⟩, []⟩]) (.seq (.reg [⟨⟨some 7, Op.move (Operand.tmp 0), none⟩, []⟩,
  ⟨⟨some 8, Op.call { callee := (Callee.value (Operand.func 81)), args := #[(Operand.tmp 7)], argTypes := #[3] }, none⟩, []⟩,
  ⟨⟨some 5, Op.assign (Operand.tmp 8), none⟩, []⟩]) (.seq (.seq (.reg [⟨⟨some 6, Op.assign (Operand.const (Value.int IntKind.i64 0)), none⟩, []⟩]) (.block 0 (.loop (.seq (.seq (.reg [⟨⟨some 9, Op.move (Operand.tmp 6), none⟩, []⟩,
  ⟨⟨some 10, Op.move (Operand.tmp 1), none⟩, []⟩,
  ⟨⟨some 11, Op.call { callee := (Callee.builtin Builtin.len), args := #[(Operand.tmp 10)], argTypes := #[34] }, none⟩, []⟩,
  ⟨⟨some 12, Op.binOp BinOp.lss 3 (Operand.tmp 9) (Operand.tmp 11) 3, none⟩, []⟩]) (.cond (Operand.tmp 12) .skip (.exit 0))) (.seq (.block 1 (.seq (.reg [⟨⟨some 15, Op.move (Operand.tmp 5), none⟩, []⟩,
  ⟨⟨some 16, Op.move (Operand.tmp 1), none⟩, []⟩,
  ⟨⟨some 17, Op.move (Operand.tmp 6), none⟩, []⟩,
  ⟨⟨some 18, Op.indexAddr 34 (Operand.tmp 16) (Operand.tmp 17), none⟩, []⟩,
  ⟨⟨some 19, Op.load 3 (Operand.tmp 18), none⟩, []⟩,
  ⟨⟨some 20, Op.call { callee := (Callee.value (Operand.func 79)), args := #[(Operand.tmp 15), (Operand.tmp 19)], argTypes := #[34, 3] }, none⟩, []⟩,
  ⟨⟨some 21, Op.unOp UnOp.not 4 (Operand.tmp 20), none⟩, []⟩,
  ⟨⟨some 22, Op.move (Operand.tmp 21), none⟩, []⟩,
  ⟨⟨some 23, Op.move (Operand.tmp 6), some (22, false)⟩, []⟩,
  ⟨⟨some 24, Op.binOp BinOp.gtr 3 (Operand.tmp 23) (Operand.const (Value.int IntKind.i64 0)) 3, some (22, false)⟩, []⟩,
  ⟨⟨some 25, Op.move (Operand.tmp 24), some (22, false)⟩, []⟩,
  ⟨⟨some 26, Op.move (Operand.tmp 1), some (25, true)⟩, []⟩,
  ⟨⟨some 27, Op.move (Operand.tmp 6), some (25, true)⟩, []⟩,
  ⟨⟨some 28, Op.binOp BinOp.sub 3 (Operand.tmp 27) (Operand.const (Value.int IntKind.i64 1)) 3, some (25, true)⟩, []⟩,
  ⟨⟨some 29, Op.indexAddr 34 (Operand.tmp 26) (Operand.tmp 28), some (25, true)⟩, []⟩,
  ⟨⟨some 30, Op.load 3 (Operand.tmp 29), some (25, true)⟩, []⟩,
  ⟨⟨some 31, Op.move (Operand.tmp 1), some (25, true)⟩, []⟩,
  ⟨⟨some 32, Op.move (Operand.tmp 6), some (25, true)⟩, []⟩,
  ⟨⟨some 33, Op.indexAddr 34 (Operand.tmp 31) (Operand.tmp 32), some (25, true)⟩, []⟩,
  ⟨⟨some 34, Op.load 3 (Operand.tmp 33), some (25, true)⟩, []⟩,
  ⟨⟨some 35, Op.binOp BinOp.geq 3 (Operand.tmp 30) (Operand.tmp 34) 3, some (25, true)⟩, []⟩,
  ⟨⟨some 36, Op.pick (Operand.tmp 25) (Operand.tmp 35) (Operand.const (Value.bool false)), some (22, false)⟩, []⟩,
  ⟨⟨some 37, Op.pick (Operand.tmp 22) (Operand.const (Value.bool true)) (Operand.tmp 36), none⟩, []⟩,
  ⟨⟨some 38, Op.move (Operand.tmp 37), none⟩, []⟩,
  ⟨⟨some 39, Op.move (Operand.tmp 1), some (38, false)⟩, []⟩,
  ⟨⟨some 40, Op.move (Operand.tmp 6), some (38, false)⟩, []⟩,
  ⟨⟨some 41, Op.slice 34 (Operand.tmp 39) none (some (Operand.tmp 40)) none, some (38, false)⟩, []⟩,
  ⟨⟨some 42, Op.move (Operand.tmp 1), some (38, false)⟩, []⟩,
  ⟨⟨some 43, Op.move (Operand.tmp 6), some (38, false)⟩, []⟩,
  ⟨⟨some 44, Op.indexAddr 34 (Operand.tmp 42) (Operand.tmp 43), some (38, false)⟩, []⟩,
  ⟨⟨some 45, Op.load 3 (Operand.tmp 44), some (38, false)⟩, []⟩,
  ⟨⟨some 46, Op.call { callee := (Callee.value (Operand.func 82)), args := #[(Operand.tmp 41), (Operand.tmp 45)], argTypes := #[34, 3] }, some (38, false)⟩, []⟩,
  ⟨⟨some 47, Op.unOp UnOp.not 4 (Operand.tmp 46), some (38, false)⟩, []⟩,
  ⟨⟨some 48, Op.pick (Operand.tmp 38) (Operand.const (Value.bool true)) (Operand.tmp 47), none⟩, []⟩]) (.cond (Operand.tmp 48) (.seq (.reg [⟨⟨some 4, Op.assign (Operand.const (Value.bool false)), none⟩, []⟩]) .ret) .skip))) (.reg [⟨⟨some 13, Op.move (Operand.tmp 6), none⟩, []⟩,
  ⟨⟨some 14, Op.binOp BinOp.add 3 (Operand.tmp 13) (Operand.const (Value.int IntKind.i64 1)) 3, none⟩, []⟩,
  ⟨⟨some 6, Op.assign (Operand.tmp 14), none⟩, []⟩])))))) (.seq (.reg [⟨⟨some 49, Op.move (Operand.tmp 1), none⟩, []⟩,
  ⟨⟨some 50, Op.call { callee := (Callee.builtin Builtin.len), args := #[(Operand.tmp 49)], argTypes := #[34] }, none⟩, []⟩,
  ⟨⟨some 51, Op.move (Operand.tmp 0), none⟩, []⟩,
  ⟨⟨some 52, Op.binOp BinOp.sub 3 (Operand.tmp 51) (Operand.const (Value.int IntKind.i64 3)) 3, none⟩, []⟩,
  ⟨⟨some 53, Op.binOp BinOp.eql 3 (Operand.tmp 50) (Operand.tmp 52) 3, none⟩, []⟩,
  ⟨⟨some 4, Op.assign (Operand.tmp 53), none⟩, []⟩]) .ret))))
theorem sl84 : slim Tryz.f84.ntmps ords84 (Tryz.f84.body.getD .skip) = some cd84 := by kernel_rfl
theorem in84 {args : List Value} {H : AH} {R : Value → AH → Prop} (hl : args.length = 2) (h : ∀ (Q : Exit → Sl → AH → Prop), (∀ e s H, endA Tryz.prog [ResultVar.tmp 4] R e s H → Q e s H) → wpC Tryz.prog cd84 Q (enterA args) H) : ACalls Tryz.prog 84 args H R :=
  ACalls.intro (by kernel_rfl) Tryz.func84 rfl (by kernel_rfl) sl84 hl (of_decide_eq_true (by kernel_rfl)) (by kernel_rfl) h
end Go.Proofs.YtdgapefbbdfpbaaGreat.Ai
namespace Go.Proofs.YtdgapefbbdfpbaaGreat.Ai
open Go Go.RowKit
set_option linter.unusedVariables false
set_option linter.unusedSimpArgs false
/-- the diagonals at a corner, as far as b -/
def dgRow (n a : Int) : Nat → List Int
  | 0 => []
  | k + 1 => dgRow n a k ++ (if 0 < a ∨ a + 2 + (k : Int) < n - 1 then [10 * a + (a + 2 + (k : Int))] else [])
def dgs (n : Int) : Nat → List Int
  | 0 => []
  | a + 1 => dgs n a ++ dgRow n a (n - a - 2).toNat
theorem dgRow_len (n a : Int) (k : Nat) : (dgRow n a k).length ≤ k := by
  induction k with
  | zero => exact Nat.le_refl _
  | succ k ih => simp only [dgRow, List.length_append]; split <;> simp <;> omega
theorem dgs_len (n : Int) (a : Nat) (h : n ≤ 10) (h0 : 0 ≤ n) : (dgs n a).length ≤ 20 * a := by
  induction a with
  | zero => exact Nat.le_refl _
  | succ a ih =>
    have := dgRow_len n a (n - a - 2).toNat
    simp only [dgs, List.length_append]; omega
set_option maxHeartbeats 1000000 in
theorem l8Diagonals_c (n : Int) (H : AH) (hn : 0 ≤ n ∧ n ≤ 9) : ACalls Tryz.prog 81 [.int .i64 n] H fun r H' => Own 3 H H' r (dgs n n.toNat) ∧ H <+: H' := by
  refine in81 rfl ?_
  intro Q hQ
  simp (maxSteps := 1000000) (disch := omega) only [cd81, S, S1, S2, S3, S4, S5, ST, eq_self, reduceIte, reduceCtorEq, Nat.reduceEqDiff, Nat.reduceAdd]
  refine LoopH.by (fun m s H' => ∃ a : Nat, (m : Int) + a = n ∧ s 0 = .int .i64 n ∧ s 4 = .int .i64 (a : Int) ∧ (∃ o, s 3 = .slice (some ⟨o, 0, none⟩) (dgs n a).length (dgs n a).length ∧ H.length ≤ o ∧ H'[o]? = some (.cells (ints (dgs n a)) 3 false)) ∧ H <+: H') n.toNat ?_ ?_
  · refine ⟨0, by omega, rfl, by simp [S, S1, S2, S3, S4, S5, ST, eq_self, reduceIte, reduceCtorEq, Nat.reduceEqDiff, Nat.reduceAdd], ⟨H.length, by simp [S, S1, S2, S3, S4, S5, ST, eq_self, reduceIte, reduceCtorEq, Nat.reduceEqDiff, Nat.reduceAdd, dgs], Nat.le_refl _, by simp [dgs, ints]⟩, List.prefix_append _ _⟩
  · rintro m s H' ⟨a, hm, h0, h4, ⟨o, h3, ho, hc⟩, hp⟩
    have hdl := dgs_len n a (by omega) hn.1
    simp (maxSteps := 1000000) (disch := omega) only [h0, h4, S, S1, S2, S3, S4, S5, ST, eq_self, reduceIte, reduceCtorEq, Nat.reduceEqDiff, Nat.reduceAdd]
    refine brD.intro (fun g => ?_) (fun g => ?_) <;> simp (maxSteps := 1000000) (disch := omega) only [h0, h4, wrap64, S, S1, S2, S3, S4, S5, ST, eq_self, reduceIte, reduceCtorEq, Nat.reduceEqDiff, Nat.reduceAdd]
    · refine LoopH.by (fun m' s' H'' => ∃ k : Nat, (m' : Int) + k = (n - a - 2).toNat ∧ s' 0 = .int .i64 n ∧ s' 4 = .int .i64 (a : Int) ∧ s' 5 = .int .i64 ((a : Int) + 2 + k) ∧ (∃ o, s' 3 = .slice (some ⟨o, 0, none⟩) (dgs n a ++ dgRow n a k).length (dgs n a ++ dgRow n a k).length ∧ H.length ≤ o ∧ H''[o]? = some (.cells (ints (dgs n a ++ dgRow n a k)) 3 false)) ∧ H <+: H'') (n - a - 2).toNat ?_ ?_
      · exact ⟨0, by omega, by simp [S, S1, S2, S3, S4, S5, ST, eq_self, reduceIte, reduceCtorEq, Nat.reduceEqDiff, Nat.reduceAdd, h0], by simp [S, S1, S2, S3, S4, S5, ST, eq_self, reduceIte, reduceCtorEq, Nat.reduceEqDiff, Nat.reduceAdd, h4], by simp [S, S1, S2, S3, S4, S5, ST, eq_self, reduceIte, reduceCtorEq, Nat.reduceEqDiff, Nat.reduceAdd], ⟨o, by simp [S, S1, S2, S3, S4, S5, ST, eq_self, reduceIte, reduceCtorEq, Nat.reduceEqDiff, Nat.reduceAdd, h3, dgRow], ho, by simpa [dgRow] using hc⟩, hp⟩
      · rintro m' s' H'' ⟨k, hm', g0, g4, g5, ⟨o', g3, ho', hc'⟩, hp'⟩
        have hrl := dgRow_len n a k
        have hll : (dgs n a ++ dgRow n a k).length = (dgs n a).length + (dgRow n a k).length := List.length_append
        generalize hL : dgs n a ++ dgRow n a k = L at *
        simp (maxSteps := 1000000) (disch := omega) only [g0, g5, S, S1, S2, S3, S4, S5, ST, eq_self, reduceIte, reduceCtorEq, Nat.reduceEqDiff, Nat.reduceAdd]
        refine brD.intro (fun q => ?_) (fun q => ?_) <;> simp (maxSteps := 1000000) (disch := omega) only [g0, g4, g5, wrap64, S, S1, S2, S3, S4, S5, ST, eq_self, reduceIte, reduceCtorEq, Nat.reduceEqDiff, Nat.reduceAdd]
        · have app : (0 < (a : Int) ∨ (a : Int) + 2 + k < n - 1) → dgs n a ++ dgRow n a (k + 1) = L ++ [10 * (a : Int) + ((a : Int) + 2 + k)] := by
            intro hh; rw [dgRow, if_pos hh, ← List.append_assoc, hL]
          have noapp : ¬ (0 < (a : Int) ∨ (a : Int) + 2 + k < n - 1) → dgs n a ++ dgRow n a (k + 1) = L := by
            intro hh; rw [dgRow, if_neg hh, List.append_nil, hL]
          have fin : ∀ x, dgs n a ++ dgRow n a (k + 1) = L ++ [x] → ∃ o, (Value.slice (some ⟨H''.length + 1, 0, none⟩) (L.length + 1) (L.length + 1) = .slice (some ⟨o, 0, none⟩) (dgs n a ++ dgRow n a (k + 1)).length (dgs n a ++ dgRow n a (k + 1)).length) ∧ H.length ≤ o ∧ (H''.set o' .dead ++ [.cells [.int .i64 x] 3 false, .cells (ints (L ++ [x])) 3 false])[o]? = some (.cells (ints (dgs n a ++ dgRow n a (k + 1))) 3 false) := by
            intro x hx
            have hlt := at_lt hc'
            exact ⟨H''.length + 1, by rw [hx]; simp, by omega, by rw [hx]; exact at_new1 ..⟩
          refine brD.intro (fun q1 => ?_) (fun q1 => ?_) <;> simp (maxSteps := 1000000) (disch := omega) only [q1, g0, g3, g4, g5, wrap64, appi34 hc', S, S1, S2, S3, S4, S5, ST, eq_self, reduceIte, reduceCtorEq, Nat.reduceEqDiff, Nat.reduceAdd]
          · refine ⟨m' - 1, by omega, k + 1, by omega, ?_⟩
            have fx := fin _ (app (.inl q1))
            have hpp := pre_app (pre_set hp' ho' .dead) [.cells [.int .i64 (10 * (a : Int) + ((a : Int) + 2 + k))] 3 false, .cells (ints (L ++ [10 * (a : Int) + ((a : Int) + 2 + k)])) 3 false]
            (repeat' apply And.intro) <;> first | rfl | trivial | assumption | omega | (simp only [Value.int.injEq, true_and]; omega) | (simp; done) | (simp; omega) | exact fx | exact hpp
          · refine brD.intro (fun q2 => ?_) (fun q2 => ?_) <;> simp (maxSteps := 1000000) (disch := omega) only [q1, q2, g0, g3, g4, g5, wrap64, appi34 hc', S, S1, S2, S3, S4, S5, ST, eq_self, reduceIte, reduceCtorEq, Nat.reduceEqDiff, Nat.reduceAdd]
            · refine ⟨m' - 1, by omega, k + 1, by omega, ?_⟩
              have fx := fin _ (app (.inr q2))
              have hpp := pre_app (pre_set hp' ho' .dead) [.cells [.int .i64 (10 * (a : Int) + ((a : Int) + 2 + k))] 3 false, .cells (ints (L ++ [10 * (a : Int) + ((a : Int) + 2 + k)])) 3 false]
              (repeat' apply And.intro) <;> first | rfl | trivial | assumption | omega | (simp only [Value.int.injEq, true_and]; omega) | (simp; done) | (simp; omega) | exact fx | exact hpp
            · refine ⟨m' - 1, by omega, k + 1, by omega, ?_⟩
              have fx : ∃ o, Value.slice (some ⟨o', 0, none⟩) L.length L.length = .slice (some ⟨o, 0, none⟩) (dgs n a ++ dgRow n a (k + 1)).length (dgs n a ++ dgRow n a (k + 1)).length ∧ H.length ≤ o ∧ H''[o]? = some (.cells (ints (dgs n a ++ dgRow n a (k + 1))) 3 false) := by
                rw [noapp (by omega)]; exact ⟨o', rfl, ho', hc'⟩
              (repeat' apply And.intro) <;> first | rfl | trivial | assumption | omega | (simp only [Value.int.injEq, true_and]; omega) | (simp; done) | (simp; omega) | exact fx
        · refine ⟨m - 1, by omega, a + 1, by omega, ?_⟩
          have hk : k = (n - a - 2).toNat := by omega
          have fx : ∃ o, s' 3 = .slice (some ⟨o, 0, none⟩) (dgs n (a + 1)).length (dgs n (a + 1)).length ∧ H.length ≤ o ∧ H''[o]? = some (.cells (ints (dgs n (a + 1))) 3 false) := by
            rw [dgs, ← hk, hL, g3]; exact ⟨o', rfl, ho', hc'⟩
          (repeat' apply And.intro) <;> first | rfl | trivial | assumption | omega | (simp only [Value.int.injEq, true_and]; omega) | (simp; done) | (simp; omega) | exact fx
    · refine hQ _ _ _ ?_
      simp (maxSteps := 1000000) (disch := omega) only [h3, S, S1, S2, S3, S4, S5, ST, eq_self, reduceIte, reduceCtorEq, Nat.reduceEqDiff, Nat.reduceAdd]
      have : n.toNat = a := by omega
      rw [this]
      exact ⟨.inr ⟨o, rfl, ho, hc⟩, hp⟩
def triOkS (n : Int) (xs : List Int) (i : Nat) : Bool := decide (xs.getD i 0 ∈ dgs n n.toNat) && (decide (i = 0) || decide (xs.getD (i - 1) 0 < xs.getD i 0)) && !(xs.take i).any fun y => decide (Crs y (xs.getD i 0))
def triS (n : Int) (xs : List Int) : Bool := (List.range xs.length).all (triOkS n xs) && decide ((xs.length : Int) = n - 3)
set_option maxHeartbeats 2000000 in
theorem l8Triangulates_c (n : Int) (v : Value) (xs : List Int) (H : AH) (hn : 0 ≤ n ∧ n ≤ 9) (hr : Row 3 H v xs) (hlen : xs.length ≤ 1099511627776) (hxs : ∀ y ∈ xs, I64 y) :
    ACalls Tryz.prog 84 [.int .i64 n, v] H fun r H' => r = .bool (triS n xs) ∧ H <+: H' := by
  refine in84 rfl ?_
  intro Q hQ
  simp (maxSteps := 1000000) (disch := omega) only [cd84, S, S1, S2, S3, S4, S5, ST, eq_self, reduceIte, reduceCtorEq, Nat.reduceEqDiff, Nat.reduceAdd]
  refine CallH.by (l8Diagonals_c n H hn) ?_
  rintro all H1 ⟨hall, hp⟩
  have hra := hall.row
  have hr1 := hr.pre hp
  have hal := dgs_len n n.toNat (by omega) hn.1
  simp (maxSteps := 1000000) (disch := omega) only [S, S1, S2, S3, S4, S5, ST, eq_self, reduceIte, reduceCtorEq, Nat.reduceEqDiff, Nat.reduceAdd]
  refine LoopH.by (fun m s H' => ∃ i, m + i = xs.length ∧ s 0 = .int .i64 n ∧ s 1 = v ∧ s 5 = all ∧ s 6 = .int .i64 ((i : Nat) : Int) ∧ H1 = H' ∧ ∀ j, j < i → triOkS n xs j = true) xs.length ?_ ?_
  · exact ⟨0, by simp, rfl, rfl, rfl, rfl, rfl, by omega⟩
  · rintro m s H' ⟨i, hm, h0, h1, h5, h6, rfl, hj⟩
    simp (maxSteps := 1000000) (disch := omega) only [h0, h1, h5, h6, hr1.len Tryz.underlying34, S, S1, S2, S3, S4, S5, ST, eq_self, reduceIte, reduceCtorEq, Nat.reduceEqDiff, Nat.reduceAdd]
    refine brD.intro (fun g => ?_) (fun g => ?_) <;> simp (maxSteps := 1000000) (disch := omega) only [h0, h1, h5, h6, wrap64, hr1.len Tryz.underlying34, hr1.ix Tryz.underlying34 cs3, hr1.cell, Int.toNat_natCast, S, S1, S2, S3, S4, S5, ST, eq_self, reduceIte, reduceCtorEq, Nat.reduceEqDiff, Nat.reduceAdd]
    · have hi : i < xs.length := by omega
      have hx : xs.getD i 0 = xs[i] := by simp [hi]
      have hI : I64 (xs.getD i 0) := by rw [hx]; exact hxs _ (List.getElem_mem hi)
      have bad : triOkS n xs i = false → triS n xs = false := by
        intro hb
        have : (List.range xs.length).all (triOkS n xs) = false := by
          rw [List.all_eq_false]
          exact ⟨i, List.mem_range.2 hi, by simp [hb]⟩
        simp [triS, this]
      have hs2 := hr1.slice Tryz.underlying34 cs3 (lo := none) (hi := some (.int .i64 (i : Int))) lo_none (bound_some (by omega) _) (by omega) (by omega)
      have hpred : ((i : Int) - 1).toNat = i - 1 := by omega
      refine CallH.by (l1Has_c all _ _ _ hra (by omega)) ?_
      rintro _ _ ⟨rfl, rfl⟩
      simp (maxSteps := 1000000) (disch := omega) only [h0, h1, h5, h6, wrap64, hr1.len Tryz.underlying34, hr1.ix Tryz.underlying34 cs3, hr1.cell, hpred, hs2.1, Int.toNat_natCast, S, S1, S2, S3, S4, S5, ST, eq_self, reduceIte, reduceCtorEq, Nat.reduceEqDiff, Nat.reduceAdd]
      refine brD.intro (fun gd => ?_) (fun gd => ?_) <;> simp (maxSteps := 1000000) (disch := omega) only [gd, h0, h1, h5, h6, wrap64, hr1.len Tryz.underlying34, hr1.ix Tryz.underlying34 cs3, hr1.cell, hpred, hs2.1, Int.toNat_natCast, S, S1, S2, S3, S4, S5, ST, eq_self, reduceIte, reduceCtorEq, Nat.reduceEqDiff, Nat.reduceAdd]
      · refine brD.intro (fun gi => ?_) (fun gi => ?_) <;> simp (maxSteps := 1000000) (disch := omega) only [gd, gi, h0, h1, h5, h6, wrap64, hr1.len Tryz.underlying34, hr1.ix Tryz.underlying34 cs3, hr1.cell, hpred, hs2.1, Int.toNat_natCast, S, S1, S2, S3, S4, S5, ST, eq_self, reduceIte, reduceCtorEq, Nat.reduceEqDiff, Nat.reduceAdd]
        · refine brD.intro (fun gl => ?_) (fun gl => ?_) <;> simp (maxSteps := 1000000) (disch := omega) only [gd, gi, gl, h0, h1, h5, h6, wrap64, hr1.len Tryz.underlying34, hr1.ix Tryz.underlying34 cs3, hr1.cell, hpred, hs2.1, Int.toNat_natCast, S, S1, S2, S3, S4, S5, ST, eq_self, reduceIte, reduceCtorEq, Nat.reduceEqDiff, Nat.reduceAdd]
          · refine hQ _ _ _ ?_
            simp (maxSteps := 1000000) (disch := omega) only [S, S1, S2, S3, S4, S5, ST, eq_self, reduceIte, reduceCtorEq, Nat.reduceEqDiff, Nat.reduceAdd]
            refine ⟨?_, hp⟩
            rw [bad]
            have : ¬ xs.getD (i - 1) 0 < xs.getD i 0 := by omega
            simp only [triOkS, gd, this, show ¬ i = 0 from by omega, decide_true, decide_false, Bool.or_false, Bool.and_false, Bool.false_and]
          · refine CallH.by (l8Apart_c _ _ _ _ hs2.2.1 (by simp; omega) (fun e he => hxs e (List.mem_of_mem_drop (List.mem_of_mem_take he))) hI) ?_
            rintro _ _ ⟨rfl, rfl⟩
            simp (maxSteps := 1000000) (disch := omega) only [gd, gi, gl, h0, h1, h5, h6, wrap64, hr1.len Tryz.underlying34, hr1.ix Tryz.underlying34 cs3, hr1.cell, hpred, hs2.1, Int.toNat_natCast, S, S1, S2, S3, S4, S5, ST, eq_self, reduceIte, reduceCtorEq, Nat.reduceEqDiff, Nat.reduceAdd]
            simp only [List.drop_zero, Nat.sub_zero]
            refine brH.intro (fun ga => ?_) (fun ga => ?_) <;> simp (maxSteps := 1000000) (disch := omega) only [gd, gi, gl, h0, h1, h5, h6, wrap64, hr1.len Tryz.underlying34, hr1.ix Tryz.underlying34 cs3, hr1.cell, hpred, hs2.1, Int.toNat_natCast, ga, List.drop_zero, Nat.sub_zero, S, S1, S2, S3, S4, S5, ST, eq_self, reduceIte, reduceCtorEq, Nat.reduceEqDiff, Nat.reduceAdd]
            · refine hQ _ _ _ ?_
              simp (maxSteps := 1000000) (disch := omega) only [S, S1, S2, S3, S4, S5, ST, eq_self, reduceIte, reduceCtorEq, Nat.reduceEqDiff, Nat.reduceAdd]
              refine ⟨?_, hp⟩
              rw [bad]
              simp only [triOkS, ga, Bool.not_true, Bool.and_false]
            · refine ⟨m - 1, by omega, i + 1, by omega, by simp, ?_⟩
              intro j hjj
              by_cases e : j = i
              · subst e
                have : xs.getD (j - 1) 0 < xs.getD j 0 := by omega
                simp only [triOkS, ga, gd, this, decide_true, Bool.true_and, Bool.not_false, Bool.and_true, Bool.or_true]
              · exact hj j (by omega)
        · refine CallH.by (l8Apart_c _ _ _ _ hs2.2.1 (by simp; omega) (fun e he => hxs e (List.mem_of_mem_drop (List.mem_of_mem_take he))) hI) ?_
          rintro _ _ ⟨rfl, rfl⟩
          simp (maxSteps := 1000000) (disch := omega) only [gd, gi, h0, h1, h5, h6, wrap64, hr1.len Tryz.underlying34, hr1.ix Tryz.underlying34 cs3, hr1.cell, hpred, hs2.1, Int.toNat_natCast, S, S1, S2, S3, S4, S5, ST, eq_self, reduceIte, reduceCtorEq, Nat.reduceEqDiff, Nat.reduceAdd]
          simp only [List.drop_zero, Nat.sub_zero]
          refine brH.intro (fun ga => ?_) (fun ga => ?_) <;> simp (maxSteps := 1000000) (disch := omega) only [gd, gi, h0, h1, h5, h6, wrap64, hr1.len Tryz.underlying34, hr1.ix Tryz.underlying34 cs3, hr1.cell, hpred, hs2.1, Int.toNat_natCast, ga, List.drop_zero, Nat.sub_zero, S, S1, S2, S3, S4, S5, ST, eq_self, reduceIte, reduceCtorEq, Nat.reduceEqDiff, Nat.reduceAdd]
          · refine hQ _ _ _ ?_
            simp (maxSteps := 1000000) (disch := omega) only [S, S1, S2, S3, S4, S5, ST, eq_self, reduceIte, reduceCtorEq, Nat.reduceEqDiff, Nat.reduceAdd]
            refine ⟨?_, hp⟩
            rw [bad]
            simp only [triOkS, ga, Bool.not_true, Bool.and_false]
          · refine ⟨m - 1, by omega, i + 1, by omega, by simp, ?_⟩
            intro j hjj
            by_cases e : j = i
            · subst e
              have e0 : decide (j = 0) = true := decide_eq_true (by omega)
              simp only [triOkS, ga, gd, e0, decide_true, Bool.true_and, Bool.true_or, Bool.not_false, Bool.and_true]
            · exact hj j (by omega)
      · refine hQ _ _ _ ?_
        simp (maxSteps := 1000000) (disch := omega) only [S, S1, S2, S3, S4, S5, ST, eq_self, reduceIte, reduceCtorEq, Nat.reduceEqDiff, Nat.reduceAdd]
        refine ⟨?_, hp⟩
        rw [bad]
        simp only [triOkS, gd, decide_false, Bool.false_and]
    · refine hQ _ _ _ ?_
      simp (maxSteps := 1000000) (disch := omega) only [S, S1, S2, S3, S4, S5, ST, eq_self, reduceIte, reduceCtorEq, Nat.reduceEqDiff, Nat.reduceAdd]
      refine ⟨?_, hp⟩
      have : (List.range xs.length).all (triOkS n xs) = true := List.all_eq_true.2 fun j hj' => hj j (by have := List.mem_range.1 hj'; omega)
      simp [triS, this]
end Go.Proofs.YtdgapefbbdfpbaaGreat.Ai
namespace Go.Proofs.YtdgapefbbdfpbaaGreat.Ai
open Go Go.RowKit
set_option linter.unusedVariables false
set_option linter.unusedSimpArgs false
theorem crs_symm (x y : Int) : Crs x y ↔ Crs y x := by unfold Crs; omega
theorem diag_mem : ∀ n : Fin 9, 3 ≤ n.val → ∀ d : Fin 100, (decide (Diag (n.val : Int) (d.val : Int)) = decide ((d.val : Int) ∈ dgs (n.val : Int) n.val)) := by decide
theorem dgs_range : ∀ n : Fin 9, ∀ d ∈ dgs (n.val : Int) n.val, 0 ≤ d ∧ d < 100 := by decide
theorem diag_range {n d : Int} (h : Diag n d) : 0 ≤ d ∧ d < 100 := by
  obtain ⟨h1, h2, h3, h4⟩ := h
  have := tmod_small d
  refine ⟨h1, ?_⟩
  have e := Int.mul_tdiv_add_tmod d 10
  omega
theorem diag_iff (n d : Int) (hn : 3 ≤ n ∧ n ≤ 8) : Diag n d ↔ d ∈ dgs n n.toNat := by
  obtain ⟨N, rfl⟩ : ∃ N : Nat, n = N := ⟨n.toNat, by omega⟩
  by_cases hd : 0 ≤ d ∧ d < 100
  · obtain ⟨D, rfl⟩ : ∃ D : Nat, d = D := ⟨d.toNat, by omega⟩
    have := diag_mem ⟨N, by omega⟩ (by show 3 ≤ N; omega) ⟨D, by omega⟩
    simpa using this
  · constructor
    · intro h; exact absurd (diag_range h) hd
    · intro h; exact absurd (dgs_range ⟨N, by omega⟩ d h) hd
theorem tri_same (n : Int) (xs : List Int) (hn : 3 ≤ n ∧ n ≤ 8) : triI n xs = triS n xs := by
  unfold triI triS
  rw [Bool.and_comm]
  congr 1
  congr 1
  funext i
  unfold triOk triOkS
  have e1 : decide (Diag n (xs.getD i 0)) = decide (xs.getD i 0 ∈ dgs n n.toNat) := by simp only [diag_iff n _ hn]
  have e2 : (fun e => decide (Crs (xs.getD i 0) e)) = fun y => decide (Crs y (xs.getD i 0)) := by funext e; simp only [crs_symm]
  rw [e1, e2]
end Go.Proofs.YtdgapefbbdfpbaaGreat.Ai
namespace Go.Proofs.YtdgapefbbdfpbaaGreat.Ai
open Go
def ords73 : List (Nat × List (Nat × Bool)) := []
def cd73 : Cd := (.seq (.reg [⟨⟨some 2, Op.assign (Operand.const (Value.slice none 0 0)), none⟩, []⟩]) (.seq (.reg [⟨⟨some 5, Op.buildSlice 34 0 #[], none⟩, []⟩,
  ⟨⟨some 3, Op.assign (Operand.tmp 5), none⟩, []⟩]) (.seq (.seq (.reg [⟨⟨some 6, Op.move (Operand.const (Value.int IntKind.i64 0)), none⟩, []⟩]) (.block 0 (.loop (.seq (.reg [⟨⟨some 7, Op.binOp BinOp.lss 3 (Operand.tmp 6) (Operand.const (Value.int IntKind.i64 100)) 3, none⟩, []⟩]) (.seq (.cond (Operand.tmp 7) .skip (.exit 0)) (.seq (.block 1 (.seq (.reg [⟨⟨some 8, Op.move (Operand.tmp 6), none⟩, []⟩,
  ⟨⟨some 4, Op.assign (Operand.tmp 8), none⟩, []⟩]) (.seq (.reg [⟨⟨some 9, Op.move (Operand.tmp 0), none⟩, []⟩,
  ⟨⟨some 10, Op.move (Operand.tmp 4), none⟩, []⟩,
  ⟨⟨some 11, Op.call { callee := (Callee.value (Operand.func 137)), args := #[(Operand.tmp 9), (Operand.tmp 10)], argTypes := #[3, 3] }, none⟩, []⟩]) (.cond (Operand.tmp 11) (.reg [⟨⟨some 12, Op.move (Operand.tmp 3), none⟩, []⟩,
  ⟨⟨some 13, Op.move (Operand.tmp 4), none⟩, []⟩,
  ⟨⟨some 14, Op.buildSlice 34 1 #[(0, (Operand.tmp 13))], none⟩, []⟩,
  ⟨⟨some 15, Op.call { callee := (Callee.builtin Builtin.append), args := #[(Operand.tmp 12), (Operand.tmp 14)], argTypes := #[34, 34] }, none⟩, []⟩,
  ⟨⟨some 3, Op.assign (Operand.tmp 15), none⟩, []⟩]) .skip)))) (.reg [⟨⟨some 16, Op.binOp BinOp.add 3 (Operand.tmp 6) (Operand.const (Value.int IntKind.i64 1)) 3, none⟩, []⟩,
  ⟨⟨some 6, Op.move (Operand.tmp 16), none⟩, []⟩]))))))) (.seq (.reg [⟨⟨some 17, Op.move (Operand.tmp 3), none⟩, []⟩,
  ⟨⟨some 2, Op.assign (Operand.tmp 17), none⟩, []⟩]) .ret))))
theorem sl73 : slim Tryz.f73.ntmps ords73 (Tryz.f73.body.getD .skip) = some cd73 := by kernel_rfl
theorem in73 {args : List Value} {H : AH} {R : Value → AH → Prop} (hl : args.length = 1) (h : ∀ (Q : Exit → Sl → AH → Prop), (∀ e s H, endA Tryz.prog [ResultVar.tmp 2] R e s H → Q e s H) → wpC Tryz.prog cd73 Q (enterA args) H) : ACalls Tryz.prog 73 args H R :=
  ACalls.intro (by kernel_rfl) Tryz.func73 rfl (by kernel_rfl) sl73 hl (of_decide_eq_true (by kernel_rfl)) (by kernel_rfl) h
end Go.Proofs.YtdgapefbbdfpbaaGreat.Ai
namespace Go.Proofs.YtdgapefbbdfpbaaGreat.Ai
open Go Go.RowKit
set_option linter.unusedVariables false
set_option linter.unusedSimpArgs false
/-- the diagonals below a number, in order -/
def dgI (n : Int) (k : Nat) : List Int := ((List.range k).map fun (i : Nat) => (i : Int)).filter fun d => decide (Diag n d)
theorem dgI_step (n : Int) (k : Nat) : dgI n (k + 1) = dgI n k ++ if Diag n k then [(k : Int)] else [] := by
  unfold dgI
  rw [List.range_succ, List.map_append, List.filter_append]
  by_cases h : Diag n k <;> simp [h]
theorem dgI_len (n : Int) (k : Nat) : (dgI n k).length ≤ k := by
  unfold dgI
  refine Nat.le_trans (List.length_filter_le _ _) ?_
  simp
theorem dgI_eq : ∀ n : Fin 9, 3 ≤ n.val → dgI (n.val : Int) 100 = dgs (n.val : Int) n.val := by decide
set_option maxHeartbeats 1000000 in
theorem diagonals_c (n : Int) (H : AH) (hn : 0 ≤ n ∧ n ≤ 100) : ACalls Tryz.prog 73 [.int .i64 n] H fun r H' => (∃ o, r = .slice (some ⟨o, 0, none⟩) (dgI n 100).length (dgI n 100).length ∧ H.length ≤ o ∧ H'[o]? = some (.cells (ints (dgI n 100)) 3 false)) ∧ H <+: H' := by
  refine in73 rfl ?_
  intro Q hQ
  simp (maxSteps := 1000000) (disch := omega) only [cd73, S, S1, S2, S3, S4, S5, ST, eq_self, reduceIte, reduceCtorEq, Nat.reduceEqDiff, Nat.reduceAdd]
  refine LoopH.by (fun m s H' => ∃ i, m + i = 100 ∧ s 0 = .int .i64 n ∧ s 6 = .int .i64 ((i : Nat) : Int) ∧ (∃ o, s 3 = .slice (some ⟨o, 0, none⟩) (dgI n i).length (dgI n i).length ∧ H.length ≤ o ∧ H'[o]? = some (.cells (ints (dgI n i)) 3 false)) ∧ H <+: H') 100 ?_ ?_
  · exact ⟨0, by simp, rfl, rfl, ⟨H.length, rfl, Nat.le_refl _, at_new ..⟩, List.prefix_append _ _⟩
  · rintro m s H' ⟨i, hm, h0, h6, ⟨o, h3, ho, hc⟩, hp⟩
    have hl := dgI_len n i
    have hs := dgI_step n i
    generalize hL : dgI n i = L at *
    simp (maxSteps := 1000000) (disch := omega) only [h0, h6, S, S1, S2, S3, S4, S5, ST, eq_self, reduceIte, reduceCtorEq, Nat.reduceEqDiff, Nat.reduceAdd]
    refine brD.intro (fun g => ?_) (fun g => ?_) <;> simp (maxSteps := 1000000) (disch := omega) only [h0, h6, S, S1, S2, S3, S4, S5, ST, eq_self, reduceIte, reduceCtorEq, Nat.reduceEqDiff, Nat.reduceAdd]
    · refine CallH.by (isDiagonal_c n i H' hn ⟨by omega, by omega⟩) ?_
      rintro _ _ ⟨rfl, rfl⟩
      simp (maxSteps := 1000000) (disch := omega) only [S, S1, S2, S3, S4, S5, ST, eq_self, reduceIte, reduceCtorEq, Nat.reduceEqDiff, Nat.reduceAdd]
      refine brD.intro (fun e => ?_) (fun e => ?_) <;> simp (maxSteps := 1000000) (disch := omega) only [h0, h6, h3, wrap64, appi34 hc, S, S1, S2, S3, S4, S5, ST, eq_self, reduceIte, reduceCtorEq, Nat.reduceEqDiff, Nat.reduceAdd]
      · rw [if_pos e] at hs
        have hlt := at_lt hc
        refine ⟨m - 1, by omega, i + 1, by omega, ?_⟩
        rw [hs]
        have fx : ∃ o2, (Value.slice (some ⟨H'.length + 1, 0, none⟩) (L.length + 1) (L.length + 1) = .slice (some ⟨o2, 0, none⟩) (L ++ [(i : Int)]).length (L ++ [(i : Int)]).length) ∧ H.length ≤ o2 ∧ (H'.set o .dead ++ [.cells [.int .i64 i] 3 false, .cells (ints (L ++ [(i : Int)])) 3 false])[o2]? = some (.cells (ints (L ++ [(i : Int)])) 3 false) := ⟨H'.length + 1, by simp, by omega, at_new1 ..⟩
        have hpp := pre_app (pre_set hp ho .dead) [.cells [.int .i64 (i : Int)] 3 false, .cells (ints (L ++ [(i : Int)])) 3 false]
        (repeat' apply And.intro) <;> first | rfl | trivial | assumption | omega | (simp only [Value.int.injEq, true_and]; omega) | (simp; done) | (simp; omega) | exact fx | exact hpp
      · rw [if_neg e] at hs
        refine ⟨m - 1, by omega, i + 1, by omega, ?_⟩
        rw [hs, List.append_nil]
        have fx : ∃ o2, (Value.slice (some ⟨o, 0, none⟩) L.length L.length = .slice (some ⟨o2, 0, none⟩) L.length L.length) ∧ H.length ≤ o2 ∧ H'[o2]? = some (.cells (ints L) 3 false) := ⟨o, rfl, ho, hc⟩
        (repeat' apply And.intro) <;> first | rfl | trivial | assumption | omega | (simp only [Value.int.injEq, true_and]; omega) | (simp; done) | (simp; omega) | exact fx
    · refine hQ _ _ _ ?_
      simp (maxSteps := 1000000) (disch := omega) only [h3, S, S1, S2, S3, S4, S5, ST, eq_self, reduceIte, reduceCtorEq, Nat.reduceEqDiff, Nat.reduceAdd]
      have : i = 100 := by omega
      subst this
      rw [hL]
      exact ⟨⟨o, rfl, ho, hc⟩, hp⟩
end Go.Proofs.YtdgapefbbdfpbaaGreat.Ai
namespace Go.Proofs.YtdgapefbbdfpbaaGreat.Ai
open Go
def ords185 : List (Nat × List (Nat × Bool)) := []
def cd185 : Cd := (.seq (.reg [⟨⟨some 2, Op.assign (Operand.const (Value.bool false)), none⟩, []⟩]) (.seq (.reg [⟨⟨some 3, Op.move (Operand.tmp 0), none⟩, []⟩,
  ⟨⟨some 4, Op.move (Operand.tmp 0), none⟩, []⟩,
  ⟨⟨some 5, Op.binOp BinOp.neq 3 (Operand.tmp 3) (Operand.tmp 4) 3, none⟩, []⟩,
  ⟨⟨some 2, Op.assign (Operand.tmp 5), none⟩, []⟩]) .ret))
theorem sl185 : slim Tryz.f185.ntmps ords185 (Tryz.f185.body.getD .skip) = some cd185 := by kernel_rfl
theorem in185 {args : List Value} {H : AH} {R : Value → AH → Prop} (hl : args.length = 1) (h : ∀ (Q : Exit → Sl → AH → Prop), (∀ e s H, endA Tryz.prog [ResultVar.tmp 2] R e s H → Q e s H) → wpC Tryz.prog cd185 Q (enterA args) H) : ACalls Tryz.prog 185 args H R :=
  ACalls.intro (by kernel_rfl) Tryz.func185 rfl (by kernel_rfl) sl185 hl (of_decide_eq_true (by kernel_rfl)) (by kernel_rfl) h
def ords150 : List (Nat × List (Nat × Bool)) := []
def cd150 : Cd := (.seq (.reg [⟨⟨some 4, Op.assign (Operand.const (Value.bool false)), none⟩, []⟩]) (.seq (.reg [⟨⟨some 5, Op.move (Operand.tmp 0), none⟩, []⟩,
  ⟨⟨some 6, Op.call { callee := (Callee.value (Operand.func 185)), args := #[(Operand.tmp 5)], argTypes := #[3] }, none⟩, []⟩,
  ⟨⟨some 7, Op.move (Operand.tmp 6), none⟩, []⟩,
  ⟨⟨some 8, Op.move (Operand.tmp 1), some (7, true)⟩, []⟩,
  ⟨⟨some 9, Op.call { callee := (Callee.value (Operand.func 185)), args := #[(Operand.tmp 8)], argTypes := #[3] }, some (7, true)⟩, []⟩,
  ⟨⟨some 10, Op.unOp UnOp.not 4 (Operand.tmp 9), some (7, true)⟩, []⟩,
  ⟨⟨some 11, Op.pick (Operand.tmp 7) (Operand.tmp 10) (Operand.const (Value.bool false)), none⟩, []⟩,
  ⟨⟨some 12, Op.move (Operand.tmp 11), none⟩, []⟩,
  ⟨⟨some 13, Op.move (Operand.tmp 0), some (12, false)⟩, []⟩,
  ⟨⟨some 14, Op.move (Operand.tmp 1), some (12, false)⟩, []⟩,
  ⟨⟨some 15, Op.binOp BinOp.lss 3 (Operand.tmp 13) (Operand.tmp 14) 3, some (12, false)⟩, []⟩,
  ⟨⟨some 16, Op.pick (Operand.tmp 12) (Operand.const (Value.bool true)) (Operand.tmp 15), none⟩, []⟩,
  ⟨⟨some 4, Op.assign (Operand.tmp 16), none⟩, []⟩]) .ret))
theorem sl150 : slim Tryz.f150.ntmps ords150 (Tryz.f150.body.getD .skip) = some cd150 := by kernel_rfl
theorem in150 {args : List Value} {H : AH} {R : Value → AH → Prop} (hl : args.length = 2) (h : ∀ (Q : Exit → Sl → AH → Prop), (∀ e s H, endA Tryz.prog [ResultVar.tmp 4] R e s H → Q e s H) → wpC Tryz.prog cd150 Q (enterA args) H) : ACalls Tryz.prog 150 args H R :=
  ACalls.intro (by kernel_rfl) Tryz.func150 rfl (by kernel_rfl) sl150 hl (of_decide_eq_true (by kernel_rfl)) (by kernel_rfl) h
def ords173 : List (Nat × List (Nat × Bool)) := [(4, [(0, false), (1, false), (2, false), (3, false), (4, false), (5, false), (6, false), (7, false), (8, false), (9, false), (10, false), (11, false), (12, false), (13, true), (14, false)]), (6, [(0, false), (1, false), (2, false), (3, false), (4, false), (5, false), (6, false), (7, false), (8, false), (9, false), (10, false), (11, false), (12, false), (13, false), (14, false), (15, true), (16, false), (17, true)])]
def cd173 : Cd := (.seq (.reg [⟨⟨some 8, Op.move (Operand.tmp 1), none⟩, []⟩,
  ⟨⟨some 9, Op.binOp BinOp.add 3 (Operand.tmp 8) (Operand.const (Value.int IntKind.i64 1)) 3, none⟩, []⟩,
  ⟨⟨some 6, Op.assign (Operand.tmp 9), none⟩, []⟩]) (.block 0 (.loop (.seq (.seq (.reg [⟨⟨some 10, Op.move (Operand.tmp 6), none⟩, []⟩,
  ⟨⟨some 11, Op.move (Operand.tmp 2), none⟩, []⟩,
  ⟨⟨some 12, Op.binOp BinOp.lss 3 (Operand.tmp 10) (Operand.tmp 11) 3, none⟩, []⟩]) (.cond (Operand.tmp 12) .skip (.exit 0))) (.seq (.block 1 (.seq (.reg [⟨⟨some 15, Op.move (Operand.tmp 6), none⟩, []⟩,
  ⟨⟨some 7, Op.assign (Operand.tmp 15), none⟩, []⟩]) (.block 2 (.loop (.seq (.seq (.reg [⟨⟨some 16, Op.move (Operand.tmp 7), none⟩, []⟩,
  ⟨⟨some 17, Op.move (Operand.tmp 1), none⟩, []⟩,
  ⟨⟨some 18, Op.binOp BinOp.gtr 3 (Operand.tmp 16) (Operand.tmp 17) 3, none⟩, []⟩,
  ⟨⟨some 19, Op.move (Operand.tmp 18), none⟩, []⟩,
  ⟨⟨some 20, Op.move (Operand.tmp 0), some (19, true)⟩, []⟩,
  ⟨⟨some 21, Op.move (Operand.tmp 7), some (19, true)⟩, []⟩,
  ⟨⟨some 22, Op.indexAddr 34 (Operand.tmp 20) (Operand.tmp 21), some (19, true)⟩, []⟩,
  ⟨⟨some 23, Op.load 3 (Operand.tmp 22), some (19, true)⟩, []⟩,
  ⟨⟨some 24, Op.move (Operand.tmp 0), some (19, true)⟩, []⟩,
  ⟨⟨some 25, Op.move (Operand.tmp 7), some (19, true)⟩, []⟩,
  ⟨⟨some 26, Op.binOp BinOp.sub 3 (Operand.tmp 25) (Operand.const (Value.int IntKind.i64 1)) 3, some (19, true)⟩, []⟩,
  ⟨⟨some 27, Op.indexAddr 34 (Operand.tmp 24) (Operand.tmp 26), some (19, true)⟩, []⟩,
  ⟨⟨some 28, Op.load 3 (Operand.tmp 27), some (19, true)⟩, []⟩,
  ⟨⟨some 29, Op.call { callee := (Callee.value (Operand.func 150)), args := #[(Operand.tmp 23), (Operand.tmp 28)], argTypes := #[3, 3] }, some (19, true)⟩, []⟩,
  ⟨⟨some 30, Op.pick (Operand.tmp 19) (Operand.tmp 29) (Operand.const (Value.bool false)), none⟩, []⟩]) (.cond (Operand.tmp 30) .skip (.exit 2))) (.seq (.block 3 (.reg [⟨⟨some 33, Op.move (Operand.tmp 0), none⟩, []⟩,
  ⟨⟨some 34, Op.move (Operand.tmp 7), none⟩, []⟩,
  ⟨⟨some 35, Op.move (Operand.tmp 0), none⟩, []⟩,
  ⟨⟨some 36, Op.move (Operand.tmp 7), none⟩, []⟩,
  ⟨⟨some 37, Op.binOp BinOp.sub 3 (Operand.tmp 36) (Operand.const (Value.int IntKind.i64 1)) 3, none⟩, []⟩,
  ⟨⟨some 38, Op.move (Operand.tmp 0), none⟩, []⟩,
  ⟨⟨some 39, Op.move (Operand.tmp 7), none⟩, []⟩,
  ⟨⟨some 40, Op.binOp BinOp.sub 3 (Operand.tmp 39) (Operand.const (Value.int IntKind.i64 1)) 3, none⟩, []⟩,
  ⟨⟨some 41, Op.indexAddr 34 (Operand.tmp 38) (Operand.tmp 40), none⟩, []⟩,
  ⟨⟨some 42, Op.load 3 (Operand.tmp 41), none⟩, []⟩,
  ⟨⟨some 43, Op.move (Operand.tmp 0), none⟩, []⟩,
  ⟨⟨some 44, Op.move (Operand.tmp 7), none⟩, []⟩,
  ⟨⟨some 45, Op.indexAddr 34 (Operand.tmp 43) (Operand.tmp 44), none⟩, []⟩,
  ⟨⟨some 46, Op.load 3 (Operand.tmp 45), none⟩, []⟩,
  ⟨⟨some 47, Op.indexAddr 34 (Operand.tmp 33) (Operand.tmp 34), none⟩, []⟩,
  ⟨⟨none, Op.store 3 (Operand.tmp 47) (Operand.tmp 42), none⟩, []⟩,
  ⟨⟨some 48, Op.indexAddr 34 (Operand.tmp 35) (Operand.tmp 37), none⟩, []⟩,
  ⟨⟨none, Op.store 3 (Operand.tmp 48) (Operand.tmp 46), none⟩, []⟩])) (.reg [⟨⟨some 31, Op.move (Operand.tmp 7), none⟩, []⟩,
  ⟨⟨some 32, Op.binOp BinOp.sub 3 (Operand.tmp 31) (Operand.const (Value.int IntKind.i64 1)) 3, none⟩, []⟩,
  ⟨⟨some 7, Op.assign (Operand.tmp 32), none⟩, []⟩]))))))) (.reg [⟨⟨some 13, Op.move (Operand.tmp 6), none⟩, []⟩,
  ⟨⟨some 14, Op.binOp BinOp.add 3 (Operand.tmp 13) (Operand.const (Value.int IntKind.i64 1)) 3, none⟩, []⟩,
  ⟨⟨some 6, Op.assign (Operand.tmp 14), none⟩, []⟩]))))))
theorem sl173 : slim Tryz.f173.ntmps ords173 (Tryz.f173.body.getD .skip) = some cd173 := by kernel_rfl
theorem in173 {args : List Value} {H : AH} {R : Value → AH → Prop} (hl : args.length = 3) (h : ∀ (Q : Exit → Sl → AH → Prop), (∀ e s H, endA Tryz.prog [] R e s H → Q e s H) → wpC Tryz.prog cd173 Q (enterA args) H) : ACalls Tryz.prog 173 args H R :=
  ACalls.intro (by kernel_rfl) Tryz.func173 rfl (by kernel_rfl) sl173 hl (of_decide_eq_true (by kernel_rfl)) (by kernel_rfl) h
def ords182 : List (Nat × List (Nat × Bool)) := []
def cd182 : Cd := (.seq (.reg [⟨⟨some 2, Op.assign (Operand.const (Value.int IntKind.i64 0)), none⟩, []⟩]) (.seq (.seq (.reg [⟨⟨some 3, Op.move (Operand.tmp 0), none⟩, []⟩,
  ⟨⟨some 4, Op.binOp BinOp.geq 72 (Operand.tmp 3) (Operand.const (Value.int IntKind.u64 4294967296)) 72, none⟩, []⟩]) (.cond (Operand.tmp 4) (.seq (.reg [⟨⟨some 5, Op.move (Operand.tmp 0), none⟩, []⟩,
  ⟨⟨some 6, Op.binOp BinOp.shr 72 (Operand.tmp 5) (Operand.const (Value.int IntKind.u64 32)) 117, none⟩, []⟩,
  ⟨⟨some 0, Op.assign (Operand.tmp 6), none⟩, []⟩]) (.reg [⟨⟨some 2, Op.assign (Operand.const (Value.int IntKind.i64 32)), none⟩, []⟩])) .skip)) (.seq (.seq (.reg [⟨⟨some 7, Op.move (Operand.tmp 0), none⟩, []⟩,
  ⟨⟨some 8, Op.binOp BinOp.geq 72 (Operand.tmp 7) (Operand.const (Value.int IntKind.u64 65536)) 72, none⟩, []⟩]) (.cond (Operand.tmp 8) (.seq (.reg [⟨⟨some 9, Op.move (Operand.tmp 0), none⟩, []⟩,
  ⟨⟨some 10, Op.binOp BinOp.shr 72 (Operand.tmp 9) (Operand.const (Value.int IntKind.u64 16)) 117, none⟩, []⟩,
  ⟨⟨some 0, Op.assign (Operand.tmp 10), none⟩, []⟩]) (.reg [⟨⟨some 11, Op.move (Operand.tmp 2), none⟩, []⟩,
  ⟨⟨some 12, Op.binOp BinOp.add 3 (Operand.tmp 11) (Operand.const (Value.int IntKind.i64 16)) 3, none⟩, []⟩,
  ⟨⟨some 2, Op.assign (Operand.tmp 12), none⟩, []⟩])) .skip)) (.seq (.seq (.reg [⟨⟨some 13, Op.move (Operand.tmp 0), none⟩, []⟩,
  ⟨⟨some 14, Op.binOp BinOp.geq 72 (Operand.tmp 13) (Operand.const (Value.int IntKind.u64 256)) 72, none⟩, []⟩]) (.cond (Operand.tmp 14) (.seq (.reg [⟨⟨some 15, Op.move (Operand.tmp 0), none⟩, []⟩,
  ⟨⟨some 16, Op.binOp BinOp.shr 72 (Operand.tmp 15) (Operand.const (Value.int IntKind.u64 8)) 117, none⟩, []⟩,
  ⟨⟨some 0, Op.assign (Operand.tmp 16), none⟩, []⟩]) (.reg [⟨⟨some 17, Op.move (Operand.tmp 2), none⟩, []⟩,
  ⟨⟨some 18, Op.binOp BinOp.add 3 (Operand.tmp 17) (Operand.const (Value.int IntKind.i64 8)) 3, none⟩, []⟩,
  ⟨⟨some 2, Op.assign (Operand.tmp 18), none⟩, []⟩])) .skip)) (.seq (.reg [⟨⟨some 19, Op.move (Operand.tmp 2), none⟩, []⟩,
  ⟨⟨some 20, Op.move (Operand.tmp 0), none⟩, []⟩,
  ⟨⟨some 21, Op.convert 72 5 (Operand.tmp 20), none⟩, []⟩,
  ⟨⟨some 22, Op.index 9 (Operand.const (Value.string { data := #[0, 1, 2, 2, 3, 3, 3, 3, 4, 4, 4, 4, 4, 4, 4, 4, 5, 5, 5, 5, 5, 5, 5, 5, 5, 5, 5, 5, 5, 5, 5, 5, 6, 6, 6, 6, 6, 6, 6, 6, 6, 6, 6, 6, 6, 6, 6, 6, 6, 6, 6, 6, 6, 6, 6, 6, 6, 6, 6, 6, 6, 6, 6, 6, 7, 7, 7, 7, 7, 7, 7, 7, 7, 7, 7, 7, 7, 7, 7, 7, 7, 7, 7, 7, 7, 7, 7, 7, 7, 7, 7, 7, 7, 7, 7, 7, 7, 7, 7, 7, 7, 7, 7, 7, 7, 7, 7, 7, 7, 7, 7, 7, 7, 7, 7, 7, 7, 7, 7, 7, 7, 7, 7, 7, 7, 7, 7, 7, 8, 8, 8, 8, 8, 8, 8, 8, 8, 8, 8, 8, 8, 8, 8, 8, 8, 8, 8, 8, 8, 8, 8, 8, 8, 8, 8, 8, 8, 8, 8, 8, 8, 8, 8, 8, 8, 8, 8, 8, 8, 8, 8, 8, 8, 8, 8, 8, 8, 8, 8, 8, 8, 8, 8, 8, 8, 8, 8, 8, 8, 8, 8, 8, 8, 8, 8, 8, 8, 8, 8, 8, 8, 8, 8, 8, 8, 8, 8, 8, 8, 8, 8, 8, 8, 8, 8, 8, 8, 8, 8, 8, 8, 8, 8, 8, 8, 8, 8, 8, 8, 8, 8, 8, 8, 8, 8, 8, 8, 8, 8, 8, 8, 8, 8, 8, 8, 8, 8, 8, 8, 8, 8, 8, 8, 8, 8, 8] })) (Operand.tmp 21), none⟩, []⟩,
  ⟨⟨some 23, Op.convert 5 3 (Operand.tmp 22), none⟩, []⟩,
  ⟨⟨some 24, Op.binOp BinOp.add 3 (Operand.tmp 19) (Operand.tmp 23) 3, none⟩, []⟩,
  ⟨⟨some 2, Op.assign (Operand.tmp 24), none⟩, []⟩]) .ret)))))
theorem sl182 : slim Tryz.f182.ntmps ords182 (Tryz.f182.body.getD .skip) = some cd182 := by kernel_rfl
theorem in182 {args : List Value} {H : AH} {R : Value → AH → Prop} (hl : args.length = 1) (h : ∀ (Q : Exit → Sl → AH → Prop), (∀ e s H, endA Tryz.prog [ResultVar.tmp 2] R e s H → Q e s H) → wpC Tryz.prog cd182 Q (enterA args) H) : ACalls Tryz.prog 182 args H R :=
  ACalls.intro (by kernel_rfl) Tryz.func182 rfl (by kernel_rfl) sl182 hl (of_decide_eq_true (by kernel_rfl)) (by kernel_rfl) h
def ords142 : List (Nat × List (Nat × Bool)) := []
def cd142 : Cd := (.seq (.reg [⟨⟨some 2, Op.assign (Operand.const (Value.int IntKind.i64 0)), none⟩, []⟩]) (.seq (.cond (Operand.const (Value.bool false)) (.seq (.reg [⟨⟨some 3, Op.move (Operand.tmp 0), none⟩, []⟩,
  ⟨⟨some 4, Op.convert 117 156 (Operand.tmp 3), none⟩, []⟩,
  ⟨⟨some 5, Op.call { callee := (Callee.value (Operand.func 181)), args := #[(Operand.tmp 4)], argTypes := #[156] }, none⟩, []⟩,
  ⟨⟨some 2, Op.assign (Operand.tmp 5), none⟩, []⟩]) .ret) .skip) (.seq (.reg [⟨⟨some 6, Op.move (Operand.tmp 0), none⟩, []⟩,
  ⟨⟨some 7, Op.call { callee := (Callee.value (Operand.func 182)), args := #[(Operand.tmp 6)], argTypes := #[72] }, none⟩, []⟩,
  ⟨⟨some 2, Op.assign (Operand.tmp 7), none⟩, []⟩]) .ret)))
theorem sl142 : slim Tryz.f142.ntmps ords142 (Tryz.f142.body.getD .skip) = some cd142 := by kernel_rfl
theorem in142 {args : List Value} {H : AH} {R : Value → AH → Prop} (hl : args.length = 1) (h : ∀ (Q : Exit → Sl → AH → Prop), (∀ e s H, endA Tryz.prog [ResultVar.tmp 2] R e s H → Q e s H) → wpC Tryz.prog cd142 Q (enterA args) H) : ACalls Tryz.prog 142 args H R :=
  ACalls.intro (by kernel_rfl) Tryz.func142 rfl (by kernel_rfl) sl142 hl (of_decide_eq_true (by kernel_rfl)) (by kernel_rfl) h
def ords141 : List (Nat × List (Nat × Bool)) := [(17, [(0, false), (1, false), (2, false), (3, false), (4, false), (5, false), (6, false), (7, false), (8, false), (9, false), (10, false), (11, false), (12, true), (13, false), (14, false)])]
def cd141 : Cd := (.seq (.reg [⟨⟨some 8, Op.assign (Operand.const (Value.bool true)), none⟩, []⟩]) (.seq (.reg [⟨⟨some 9, Op.assign (Operand.const (Value.bool true)), none⟩, []⟩]) (.block 0 (.loop (.block 1 (.seq (.reg [⟨⟨some 19, Op.move (Operand.tmp 2), none⟩, []⟩,
  ⟨⟨some 20, Op.move (Operand.tmp 1), none⟩, []⟩,
  ⟨⟨some 21, Op.binOp BinOp.sub 3 (Operand.tmp 19) (Operand.tmp 20) 3, none⟩, []⟩,
  ⟨⟨some 10, Op.assign (Operand.tmp 21), none⟩, []⟩]) (.seq (.seq (.reg [⟨⟨some 22, Op.move (Operand.tmp 10), none⟩, []⟩,
  ⟨⟨some 23, Op.binOp BinOp.leq 3 (Operand.tmp 22) (Operand.const (Value.int IntKind.i64 12)) 3, none⟩, []⟩]) (.cond (Operand.tmp 23) (.seq (.reg [⟨⟨some 24, Op.move (Operand.tmp 0), none⟩, []⟩,
  ⟨⟨some 25, Op.move (Operand.tmp 1), none⟩, []⟩,
  ⟨⟨some 26, Op.move (Operand.tmp 2), none⟩, []⟩,
  ⟨⟨some 27, Op.call { callee := (Callee.value (Operand.func 173)), args := #[(Operand.tmp 24), (Operand.tmp 25), (Operand.tmp 26)], argTypes := #[34, 3, 3] }, none⟩, []⟩]) .ret) .skip)) (.seq (.seq (.reg [⟨⟨some 28, Op.move (Operand.tmp 3), none⟩, []⟩,
  ⟨⟨some 29, Op.binOp BinOp.eql 3 (Operand.tmp 28) (Operand.const (Value.int IntKind.i64 0)) 3, none⟩, []⟩]) (.cond (Operand.tmp 29) (.seq (.reg [⟨⟨some 30, Op.move (Operand.tmp 0), none⟩, []⟩,
  ⟨⟨some 31, Op.move (Operand.tmp 1), none⟩, []⟩,
  ⟨⟨some 32, Op.move (Operand.tmp 2), none⟩, []⟩,
  ⟨⟨some 33, Op.call { callee := (Callee.value (Operand.func 174)), args := #[(Operand.tmp 30), (Operand.tmp 31), (Operand.tmp 32)], argTypes := #[34, 3, 3] }, none⟩, []⟩]) .ret) .skip)) (.seq (.seq (.reg [⟨⟨some 34, Op.move (Operand.tmp 8), none⟩, []⟩,
  ⟨⟨some 35, Op.unOp UnOp.not 4 (Operand.tmp 34), none⟩, []⟩]) (.cond (Operand.tmp 35) (.seq (.reg [⟨⟨some 36, Op.move (Operand.tmp 0), none⟩, []⟩,
  ⟨⟨some 37, Op.move (Operand.tmp 1), none⟩, []⟩,
  ⟨⟨some 38, Op.move (Operand.tmp 2), none⟩, []⟩,
  ⟨⟨some 39, Op.call { callee := (Callee.value (Operand.func 175)), args := #[(Operand.tmp 36), (Operand.tmp 37), (Operand.tmp 38)], argTypes := #[34, 3, 3] }, none⟩, []⟩]) (.reg [⟨⟨some 40, Op.move (Operand.tmp 3), none⟩, []⟩,
  ⟨⟨some 41, Op.binOp BinOp.sub 3 (Operand.tmp 40) (Operand.const (Value.int IntKind.i64 1)) 3, none⟩, []⟩,
  ⟨⟨some 3, Op.assign (Operand.tmp 41), none⟩, []⟩])) .skip)) (.seq (.reg [⟨⟨some 43, Op.move (Operand.tmp 0), none⟩, []⟩,
  ⟨⟨some 44, Op.move (Operand.tmp 1), none⟩, []⟩,
  ⟨⟨some 45, Op.move (Operand.tmp 2), none⟩, []⟩,
  ⟨⟨some 46, Op.call { callee := (Callee.value (Operand.func 176)), args := #[(Operand.tmp 43), (Operand.tmp 44), (Operand.tmp 45)], argTypes := #[34, 3, 3] }, none⟩, []⟩,
  ⟨⟨some 42, Op.move (Operand.tmp 46), none⟩, []⟩,
  ⟨⟨some 47, Op.extract (Operand.tmp 42) 0, none⟩, []⟩,
  ⟨⟨some 48, Op.extract (Operand.tmp 42) 1, none⟩, []⟩,
  ⟨⟨some 11, Op.assign (Operand.tmp 47), none⟩, []⟩,
  ⟨⟨some 12, Op.assign (Operand.tmp 48), none⟩, []⟩]) (.seq (.seq (.reg [⟨⟨some 49, Op.move (Operand.tmp 12), none⟩, []⟩,
  ⟨⟨some 50, Op.binOp BinOp.eql 149 (Operand.tmp 49) (Operand.const (Value.int IntKind.i64 2)) 149, none⟩, []⟩]) (.cond (Operand.tmp 50) (.seq (.reg [⟨⟨some 51, Op.move (Operand.tmp 0), none⟩, []⟩,
  ⟨⟨some 52, Op.move (Operand.tmp 1), none⟩, []⟩,
  ⟨⟨some 53, Op.move (Operand.tmp 2), none⟩, []⟩,
  ⟨⟨some 54, Op.call { callee := (Callee.value (Operand.func 177)), args := #[(Operand.tmp 51), (Operand.tmp 52), (Operand.tmp 53)], argTypes := #[34, 3, 3] }, none⟩, []⟩]) (.seq (.reg [⟨⟨some 55, Op.move (Operand.tmp 2), none⟩, []⟩,
  ⟨⟨some 56, Op.binOp BinOp.sub 3 (Operand.tmp 55) (Operand.const (Value.int IntKind.i64 1)) 3, none⟩, []⟩,
  ⟨⟨some 57, Op.move (Operand.tmp 11), none⟩, []⟩,
  ⟨⟨some 58, Op.move (Operand.tmp 1), none⟩, []⟩,
  ⟨⟨some 59, Op.binOp BinOp.sub 3 (Operand.tmp 57) (Operand.tmp 58) 3, none⟩, []⟩,
  ⟨⟨some 60, Op.binOp BinOp.sub 3 (Operand.tmp 56) (Operand.tmp 59) 3, none⟩, []⟩,
  ⟨⟨some 11, Op.assign (Operand.tmp 60), none⟩, []⟩]) (.reg [⟨⟨some 12, Op.assign (Operand.const (Value.int IntKind.i64 1)), none⟩, []⟩]))) .skip)) (.seq (.seq (.reg [⟨⟨some 61, Op.move (Operand.tmp 8), none⟩, []⟩,
  ⟨⟨some 62, Op.move (Operand.tmp 61), none⟩, []⟩,
  ⟨⟨some 63, Op.move (Operand.tmp 9), some (62, true)⟩, []⟩,
  ⟨⟨some 64, Op.pick (Operand.tmp 62) (Operand.tmp 63) (Operand.const (Value.bool false)), none⟩, []⟩,
  ⟨⟨some 65, Op.move (Operand.tmp 64), none⟩, []⟩,
  ⟨⟨some 66, Op.move (Operand.tmp 12), some (65, true)⟩, []⟩,
  ⟨⟨some 67, Op.binOp BinOp.eql 149 (Operand.tmp 66) (Operand.const (Value.int IntKind.i64 1)) 149, some (65, true)⟩, []⟩,
  ⟨⟨some 68, Op.pick (Operand.tmp 65) (Operand.tmp 67) (Operand.const (Value.bool false)), none⟩, []⟩]) (.cond (Operand.tmp 68) (.seq (.reg [⟨⟨some 69, Op.move (Operand.tmp 0), none⟩, []⟩,
  ⟨⟨some 70, Op.move (Operand.tmp 1), none⟩, []⟩,
  ⟨⟨some 71, Op.move (Operand.tmp 2), none⟩, []⟩,
  ⟨⟨some 72, Op.call { callee := (Callee.value (Operand.func 178)), args := #[(Operand.tmp 69), (Operand.tmp 70), (Operand.tmp 71)], argTypes := #[34, 3, 3] }, none⟩, []⟩]) (.cond (Operand.tmp 72) .ret .skip)) .skip)) (.seq (.seq (.reg [⟨⟨some 73, Op.move (Operand.tmp 1), none⟩, []⟩,
  ⟨⟨some 74, Op.binOp BinOp.gtr 3 (Operand.tmp 73) (Operand.const (Value.int IntKind.i64 0)) 3, none⟩, []⟩,
  ⟨⟨some 75, Op.move (Operand.tmp 74), none⟩, []⟩,
  ⟨⟨some 76, Op.move (Operand.tmp 0), some (75, true)⟩, []⟩,
  ⟨⟨some 77, Op.move (Operand.tmp 1), some (75, true)⟩, []⟩,
  ⟨⟨some 78, Op.binOp BinOp.sub 3 (Operand.tmp 77) (Operand.const (Value.int IntKind.i64 1)) 3, some (75, true)⟩, []⟩,
  ⟨⟨some 79, Op.indexAddr 34 (Operand.tmp 76) (Operand.tmp 78), some (75, true)⟩, []⟩,
  ⟨⟨some 80, Op.load 3 (Operand.tmp 79), some (75, true)⟩, []⟩,
  ⟨⟨some 81, Op.move (Operand.tmp 0), some (75, true)⟩, []⟩,
  ⟨⟨some 82, Op.move (Operand.tmp 11), some (75, true)⟩, []⟩,
  ⟨⟨some 83, Op.indexAddr 34 (Operand.tmp 81) (Operand.tmp 82), some (75, true)⟩, []⟩,
  ⟨⟨some 84, Op.load 3 (Operand.tmp 83), some (75, true)⟩, []⟩,
  ⟨⟨some 85, Op.call { callee := (Callee.value (Operand.func 150)), args := #[(Operand.tmp 80), (Operand.tmp 84)], argTypes := #[3, 3] }, some (75, true)⟩, []⟩,
  ⟨⟨some 86, Op.unOp UnOp.not 4 (Operand.tmp 85), some (75, true)⟩, []⟩,
  ⟨⟨some 87, Op.pick (Operand.tmp 75) (Operand.tmp 86) (Operand.const (Value.bool false)), none⟩, []⟩]) (.cond (Operand.tmp 87) (.seq (.reg [⟨⟨some 88, Op.move (Operand.tmp 0), none⟩, []⟩,
  ⟨⟨some 89, Op.move (Operand.tmp 1), none⟩, []⟩,
  ⟨⟨some 90, Op.move (Operand.tmp 2), none⟩, []⟩,
  ⟨⟨some 91, Op.move (Operand.tmp 11), none⟩, []⟩,
  ⟨⟨some 92, Op.call { callee := (Callee.value (Operand.func 179)), args := #[(Operand.tmp 88), (Operand.tmp 89), (Operand.tmp 90), (Operand.tmp 91)], argTypes := #[34, 3, 3, 3] }, none⟩, []⟩,
  ⟨⟨some 13, Op.assign (Operand.tmp 92), none⟩, []⟩]) (.seq (.reg [⟨⟨some 93, Op.move (Operand.tmp 13), none⟩, []⟩,
  ⟨⟨some 1, Op.assign (Operand.tmp 93), none⟩, []⟩]) (.exit 1))) .skip)) (.seq (.reg [⟨⟨some 95, Op.move (Operand.tmp 0), none⟩, []⟩,
  ⟨⟨some 96, Op.move (Operand.tmp 1), none⟩, []⟩,
  ⟨⟨some 97, Op.move (Operand.tmp 2), none⟩, []⟩,
  ⟨⟨some 98, Op.move (Operand.tmp 11), none⟩, []⟩,
  ⟨⟨some 99, Op.call { callee := (Callee.value (Operand.func 180)), args := #[(Operand.tmp 95), (Operand.tmp 96), (Operand.tmp 97), (Operand.tmp 98)], argTypes := #[34, 3, 3, 3] }, none⟩, []⟩,
  ⟨⟨some 94, Op.move (Operand.tmp 99), none⟩, []⟩,
  ⟨⟨some 100, Op.extract (Operand.tmp 94) 0, none⟩, []⟩,
  ⟨⟨some 101, Op.extract (Operand.tmp 94) 1, none⟩, []⟩,
  ⟨⟨some 14, Op.assign (Operand.tmp 100), none⟩, []⟩,
  ⟨⟨some 15, Op.assign (Operand.tmp 101), none⟩, []⟩]) (.seq (.reg [⟨⟨some 102, Op.move (Operand.tmp 15), none⟩, []⟩,
  ⟨⟨some 9, Op.assign (Operand.tmp 102), none⟩, []⟩]) (.seq (.reg [⟨⟨some 103, Op.move (Operand.tmp 14), none⟩, []⟩,
  ⟨⟨some 104, Op.move (Operand.tmp 1), none⟩, []⟩,
  ⟨⟨some 105, Op.binOp BinOp.sub 3 (Operand.tmp 103) (Operand.tmp 104) 3, none⟩, []⟩,
  ⟨⟨some 106, Op.move (Operand.tmp 2), none⟩, []⟩,
  ⟨⟨some 107, Op.move (Operand.tmp 14), none⟩, []⟩,
  ⟨⟨some 108, Op.binOp BinOp.sub 3 (Operand.tmp 106) (Operand.tmp 107) 3, none⟩, []⟩,
  ⟨⟨some 16, Op.assign (Operand.tmp 105), none⟩, []⟩,
  ⟨⟨some 17, Op.assign (Operand.tmp 108), none⟩, []⟩]) (.seq (.reg [⟨⟨some 109, Op.move (Operand.tmp 10), none⟩, []⟩,
  ⟨⟨some 110, Op.binOp BinOp.quo 3 (Operand.tmp 109) (Operand.const (Value.int IntKind.i64 8)) 3, none⟩, []⟩,
  ⟨⟨some 18, Op.assign (Operand.tmp 110), none⟩, []⟩]) (.seq (.reg [⟨⟨some 111, Op.move (Operand.tmp 16), none⟩, []⟩,
  ⟨⟨some 112, Op.move (Operand.tmp 17), none⟩, []⟩,
  ⟨⟨some 113, Op.binOp BinOp.lss 3 (Operand.tmp 111) (Operand.tmp 112) 3, none⟩, []⟩]) (.cond (Operand.tmp 113) (.seq (.reg [⟨⟨some 114, Op.move (Operand.tmp 16), none⟩, []⟩,
  ⟨⟨some 115, Op.move (Operand.tmp 18), none⟩, []⟩,
  ⟨⟨some 116, Op.binOp BinOp.geq 3 (Operand.tmp 114) (Operand.tmp 115) 3, none⟩, []⟩,
  ⟨⟨some 8, Op.assign (Operand.tmp 116), none⟩, []⟩]) (.seq (.reg [⟨⟨some 117, Op.move (Operand.tmp 0), none⟩, []⟩,
  ⟨⟨some 118, Op.move (Operand.tmp 1), none⟩, []⟩,
  ⟨⟨some 119, Op.move (Operand.tmp 14), none⟩, []⟩,
  ⟨⟨some 120, Op.move (Operand.tmp 3), none⟩, []⟩,
  ⟨⟨some 121, Op.call { callee := (Callee.value (Operand.func 141)), args := #[(Operand.tmp 117), (Operand.tmp 118), (Operand.tmp 119), (Operand.tmp 120)], argTypes := #[34, 3, 3, 3] }, none⟩, []⟩]) (.reg [⟨⟨some 122, Op.move (Operand.tmp 14), none⟩, []⟩,
  ⟨⟨some 123, Op.binOp BinOp.add 3 (Operand.tmp 122) (Operand.const (Value.int IntKind.i64 1)) 3, none⟩, []⟩,
  ⟨⟨some 1, Op.assign (Operand.tmp 123), none⟩, []⟩]))) (.seq (.reg [⟨⟨some 124, Op.move (Operand.tmp 17), none⟩, []⟩,
  ⟨⟨some 125, Op.move (Operand.tmp 18), none⟩, []⟩,
  ⟨⟨some 126, Op.binOp BinOp.geq 3 (Operand.tmp 124) (Operand.tmp 125) 3, none⟩, []⟩,
  ⟨⟨some 8, Op.assign (Operand.tmp 126), none⟩, []⟩]) (.seq (.reg [⟨⟨some 127, Op.move (Operand.tmp 0), none⟩, []⟩,
  ⟨⟨some 128, Op.move (Operand.tmp 14), none⟩, []⟩,
  ⟨⟨some 129, Op.binOp BinOp.add 3 (Operand.tmp 128) (Operand.const (Value.int IntKind.i64 1)) 3, none⟩, []⟩,
  ⟨⟨some 130, Op.move (Operand.tmp 2), none⟩, []⟩,
  ⟨⟨some 131, Op.move (Operand.tmp 3), none⟩, []⟩,
  ⟨⟨some 132, Op.call { callee := (Callee.value (Operand.func 141)), args := #[(Operand.tmp 127), (Operand.tmp 129), (Operand.tmp 130), (Operand.tmp 131)], argTypes := #[34, 3, 3, 3] }, none⟩, []⟩]) (.reg [⟨⟨some 133, Op.move (Operand.tmp 14), none⟩, []⟩,
  ⟨⟨some 2, Op.assign (Operand.tmp 133), none⟩, []⟩]))))))))))))))))))))))
theorem sl141 : slim Tryz.f141.ntmps ords141 (Tryz.f141.body.getD .skip) = some cd141 := by kernel_rfl
theorem in141 {args : List Value} {H : AH} {R : Value → AH → Prop} (hl : args.length = 4) (h : ∀ (Q : Exit → Sl → AH → Prop), (∀ e s H, endA Tryz.prog [] R e s H → Q e s H) → wpC Tryz.prog cd141 Q (enterA args) H) : ACalls Tryz.prog 141 args H R :=
  ACalls.intro (by kernel_rfl) Tryz.func141 rfl (by kernel_rfl) sl141 hl (of_decide_eq_true (by kernel_rfl)) (by kernel_rfl) h
def ords90 : List (Nat × List (Nat × Bool)) := []
def cd90 : Cd := (.seq (.reg [⟨⟨some 3, Op.move (Operand.tmp 0), none⟩, []⟩,
  ⟨⟨some 4, Op.call { callee := (Callee.builtin Builtin.len), args := #[(Operand.tmp 3)], argTypes := #[34] }, none⟩, []⟩,
  ⟨⟨some 2, Op.assign (Operand.tmp 4), none⟩, []⟩]) (.reg [⟨⟨some 5, Op.move (Operand.tmp 0), none⟩, []⟩,
  ⟨⟨some 6, Op.move (Operand.tmp 2), none⟩, []⟩,
  ⟨⟨some 7, Op.move (Operand.tmp 2), none⟩, []⟩,
  ⟨⟨some 8, Op.convert 3 117 (Operand.tmp 7), none⟩, []⟩,
  ⟨⟨some 9, Op.call { callee := (Callee.value (Operand.func 142)), args := #[(Operand.tmp 8)], argTypes := #[117] }, none⟩, []⟩,
  ⟨⟨some 10, Op.call { callee := (Callee.value (Operand.func 141)), args := #[(Operand.tmp 5), (Operand.const (Value.int IntKind.i64 0)), (Operand.tmp 6), (Operand.tmp 9)], argTypes := #[34, 3, 3, 3] }, none⟩, []⟩]))
theorem sl90 : slim Tryz.f90.ntmps ords90 (Tryz.f90.body.getD .skip) = some cd90 := by kernel_rfl
theorem in90 {args : List Value} {H : AH} {R : Value → AH → Prop} (hl : args.length = 1) (h : ∀ (Q : Exit → Sl → AH → Prop), (∀ e s H, endA Tryz.prog [] R e s H → Q e s H) → wpC Tryz.prog cd90 Q (enterA args) H) : ACalls Tryz.prog 90 args H R :=
  ACalls.intro (by kernel_rfl) Tryz.func90 rfl (by kernel_rfl) sl90 hl (of_decide_eq_true (by kernel_rfl)) (by kernel_rfl) h
end Go.Proofs.YtdgapefbbdfpbaaGreat.Ai
namespace Go.Proofs.YtdgapefbbdfpbaaGreat.Ai
open Go Go.RowKit
set_option linter.unusedVariables false
set_option linter.unusedSimpArgs false
theorem Own.else_pre {e : TypeId} {H0 H H' : AH} {v : Value} {xs : List Int} (h : Own e H0 H v xs) (hp : H0 <+: H) (he : Else v H H') : H0 <+: H' := by
  rcases h with h | ⟨o, h1, h2, h3⟩
  · exact hp.trans (else_pre_nil h.1 he)
  · exact Ai.else_pre hp (by rw [h1]; exact h2) he
theorem isNaN_c (x : Int) (H : AH) : ACalls Tryz.prog 185 [.int .i64 x] H fun r H' => r = .bool false ∧ H = H' := by
  refine in185 rfl ?_
  intro Q hQ
  simp (maxSteps := 1000000) (disch := omega) only [cd185, S, S1, S2, S3, S4, S5, ST, eq_self, reduceIte, reduceCtorEq, Nat.reduceEqDiff, Nat.reduceAdd]
  refine hQ _ _ _ ?_
  simp (maxSteps := 1000000) (disch := omega) only [S, S1, S2, S3, S4, S5, ST, eq_self, reduceIte, reduceCtorEq, Nat.reduceEqDiff, Nat.reduceAdd]
theorem Less_c (x y : Int) (H : AH) : ACalls Tryz.prog 150 [.int .i64 x, .int .i64 y] H fun r H' => r = .bool (decide (x < y)) ∧ H = H' := by
  refine in150 rfl ?_
  intro Q hQ
  simp (maxSteps := 1000000) (disch := omega) only [cd150, S, S1, S2, S3, S4, S5, ST, eq_self, reduceIte, reduceCtorEq, Nat.reduceEqDiff, Nat.reduceAdd]
  refine CallH.by (isNaN_c ..) ?_
  rintro _ _ ⟨rfl, rfl⟩
  simp (maxSteps := 1000000) (disch := omega) only [S, S1, S2, S3, S4, S5, ST, eq_self, reduceIte, reduceCtorEq, Nat.reduceEqDiff, Nat.reduceAdd]
  refine hQ _ _ _ ?_
  simp (maxSteps := 1000000) (disch := omega) only [S, S1, S2, S3, S4, S5, ST, eq_self, reduceIte, reduceCtorEq, Nat.reduceEqDiff, Nat.reduceAdd]
theorem getD_set (xs : List Int) (i k : Nat) (x : Int) (hi : i < xs.length) : (xs.set i x).getD k 0 = if k = i then x else xs.getD k 0 := by
  rw [List.getD_eq_getElem?_getD, List.getElem?_set]
  by_cases h : i = k
  · subst h; rw [if_pos rfl, if_pos rfl, if_pos hi]; rfl
  · rw [if_neg h, if_neg (fun e => h e.symm), ← List.getD_eq_getElem?_getD]
/-- two places exchanged -/
theorem swap_perm (xs : List Int) (i j : Nat) (hi : i < xs.length) (hj : j < xs.length) : ((xs.set i (xs.getD j 0)).set j (xs.getD i 0)).Perm xs := by
  have h := @List.set_set_perm _ xs i j hi hj
  have e1 : xs.getD j 0 = xs[j] := by simp [hj]
  have e2 : xs.getD i 0 = xs[i] := by simp [hi]
  rw [e1, e2]; exact h
theorem swap_at (zs : List Int) (j k p : Nat) (a b : Int) (hj : j < zs.length) (hk : k < zs.length) : ((zs.set j a).set k b).getD p 0 = if p = k then b else if p = j then a else zs.getD p 0 := by
  rw [getD_set (zs.set j a) k p b (by simpa using hk), getD_set zs j p a hj]
set_option maxHeartbeats 2000000 in
theorem insSort_c (o : Nat) (xs : List Int) (H : AH) (ho : H[o]? = some (.cells (ints xs) 3 false)) (hlen : xs.length ≤ 1099511627776) :
    ACalls Tryz.prog 173 [.slice (some ⟨o, 0, none⟩) xs.length xs.length, .int .i64 0, .int .i64 (xs.length : Int)] H fun r H' => ∃ ys, H' = H.set o (.cells (ints ys) 3 false) ∧ ys.Perm xs ∧ Asc ys := by
  refine in173 rfl ?_
  intro Q hQ
  generalize hn : xs.length = n at *
  simp (maxSteps := 1000000) (disch := omega) only [cd173, wrap64, S, S1, S2, S3, S4, S5, ST, eq_self, reduceIte, reduceCtorEq, Nat.reduceEqDiff, Nat.reduceAdd]
  refine LoopH.by (fun m s H' => ∃ i ys, m + i = n + 1 ∧ 1 ≤ i ∧ s 0 = .slice (some ⟨o, 0, none⟩) n n ∧ s 1 = .int .i64 0 ∧ s 2 = .int .i64 (n : Int) ∧ s 6 = .int .i64 ((i : Nat) : Int) ∧ H' = H.set o (.cells (ints ys) 3 false) ∧ ys.Perm xs ∧ ∀ p q, p < q → q < i → q < n → ys.getD p 0 ≤ ys.getD q 0) n ?_ ?_
  · refine ⟨1, xs, by omega, by omega, rfl, rfl, rfl, rfl, ?_, List.Perm.refl _, by omega⟩
    apply List.ext_getElem?
    intro j
    rw [List.getElem?_set]
    by_cases hj : o = j
    · subst hj; rw [if_pos rfl, if_pos (at_lt ho), ho]
    · rw [if_neg hj]
  · rintro m s H' ⟨i, ys, hm, hi1, h0, h1, h2, h6, rfl, hp, hs⟩
    have hyl : ys.length = n := by rw [hp.length_eq, hn]
    simp (maxSteps := 1000000) (disch := omega) only [h0, h1, h2, h6, S, S1, S2, S3, S4, S5, ST, eq_self, reduceIte, reduceCtorEq, Nat.reduceEqDiff, Nat.reduceAdd]
    refine brD.intro (fun g => ?_) (fun g => ?_) <;> simp (maxSteps := 1000000) (disch := omega) only [h0, h1, h2, h6, S, S1, S2, S3, S4, S5, ST, eq_self, reduceIte, reduceCtorEq, Nat.reduceEqDiff, Nat.reduceAdd]
    · have hi : i < n := by omega
      refine LoopH.by (fun m' s' H'' => ∃ zs, m' ≤ i ∧ s' 0 = .slice (some ⟨o, 0, none⟩) n n ∧ s' 1 = .int .i64 0 ∧ s' 2 = .int .i64 (n : Int) ∧ s' 6 = .int .i64 ((i : Nat) : Int) ∧ s' 7 = .int .i64 ((m' : Nat) : Int) ∧ H'' = H.set o (.cells (ints zs) 3 false) ∧ zs.Perm xs ∧ ∀ p q, p < q → q ≤ i → q ≠ m' → zs.getD p 0 ≤ zs.getD q 0) i ?_ ?_
      · refine ⟨ys, Nat.le_refl _, ?_⟩
        have f1 : ∀ p q, p < q → q ≤ i → q ≠ i → ys.getD p 0 ≤ ys.getD q 0 := fun p q h1 h2 h3 => hs p q h1 (by omega) (by omega)
        simp only [S, S1, S2, S3, S4, S5, ST, eq_self, reduceIte, reduceCtorEq, Nat.reduceEqDiff, Nat.reduceAdd, h0, h1, h2, h6]
        exact ⟨hp, f1⟩
      · rintro j s' H'' ⟨zs, hj, g0, g1, g2, g6, g7, rfl, hq, hz⟩
        have hzl : zs.length = n := by rw [hq.length_eq, hn]
        have hc : (H.set o (.cells (ints zs) 3 false))[o]? = some (.cells (ints zs) 3 false) := at_set ho
        have out : (j = 0 ∨ zs.getD (j - 1) 0 ≤ zs.getD j 0) → ∀ p q, p < q → q < i + 1 → q < n → zs.getD p 0 ≤ zs.getD q 0 := by
          intro h p q h1 h2 h3
          by_cases e : q = j
          · subst e
            rcases h with h | h
            · omega
            · by_cases e2 : p = q - 1
              · subst e2; exact h
              · have := hz p (q - 1) (by omega) (by omega) (by omega)
                omega
          · exact hz p q h1 (by omega) e
        simp (maxSteps := 1000000) (disch := omega) only [g0, g1, g2, g6, g7, S, S1, S2, S3, S4, S5, ST, eq_self, reduceIte, reduceCtorEq, Nat.reduceEqDiff, Nat.reduceAdd]
        refine brD.intro (fun q => ?_) (fun q => ?_)
        · have hj0 : 0 < j := by omega
          have e1 : ((j : Int) - 1).toNat = j - 1 := by omega
          have e3 : ((j : Int) - 1) = ((j - 1 : Nat) : Int) := by omega
          have c1 : cellA (H.set o (.cells (ints zs) 3 false)) o j = some (.int .i64 (zs.getD j 0)) := cell_ints hc (by omega)
          have c2 : cellA (H.set o (.cells (ints zs) 3 false)) o (j - 1) = some (.int .i64 (zs.getD (j - 1) 0)) := cell_ints hc (by omega)
          simp (maxSteps := 1000000) (disch := omega) only [q, g0, g1, g2, g6, g7, Int.toNat_natCast, Nat.zero_add, e1, c1, c2, wrap64, S, S1, S2, S3, S4, S5, ST, eq_self, reduceIte, reduceCtorEq, Nat.reduceEqDiff, Nat.reduceAdd]
          refine CallH.by (Less_c ..) ?_
          rintro _ _ ⟨rfl, rfl⟩
          simp (maxSteps := 1000000) (disch := omega) only [q, S, S1, S2, S3, S4, S5, ST, eq_self, reduceIte, reduceCtorEq, Nat.reduceEqDiff, Nat.reduceAdd]
          refine brD.intro (fun lt => ?_) (fun lt => ?_)
          · have st1 : ∀ x, storeA Tryz.prog 3 (.pointer (some ⟨o, j, none⟩)) (.int .i64 x) (H.set o (.cells (ints zs) 3 false)) = some (H.set o (.cells (ints (zs.set j x)) 3 false)) := by
              intro x; rw [st_ints cs3 hc (by omega), List.set_set]
            have st2 : ∀ x y, storeA Tryz.prog 3 (.pointer (some ⟨o, j - 1, none⟩)) (.int .i64 x) (H.set o (.cells (ints (zs.set j y)) 3 false)) = some (H.set o (.cells (ints ((zs.set j y).set (j - 1) x)) 3 false)) := by
              intro x y
              have : (H.set o (.cells (ints (zs.set j y)) 3 false))[o]? = some (.cells (ints (zs.set j y)) 3 false) := at_set ho
              rw [st_ints cs3 this (by simp; omega), List.set_set]
            simp (maxSteps := 1000000) (disch := omega) only [g0, g1, g2, g6, g7, Int.toNat_natCast, Nat.zero_add, e1, c1, c2, st1, st2, wrap64, S, S1, S2, S3, S4, S5, ST, eq_self, reduceIte, reduceCtorEq, Nat.reduceEqDiff, Nat.reduceAdd]
            have f1 := swap_perm zs j (j - 1) (by omega) (by omega)
            have f2 : ∀ p q, p < q → q ≤ i → q ≠ j - 1 → ((zs.set j (zs.getD (j - 1) 0)).set (j - 1) (zs.getD j 0)).getD p 0 ≤ ((zs.set j (zs.getD (j - 1) 0)).set (j - 1) (zs.getD j 0)).getD q 0 := by
              intro p q h1 h2 h3
              rw [swap_at zs j (j - 1) p _ _ (by omega) (by omega), swap_at zs j (j - 1) q _ _ (by omega) (by omega), if_neg h3]
              by_cases ep : p = j - 1
              · rw [if_pos ep]
                by_cases eq : q = j
                · rw [if_pos eq]; omega
                · rw [if_neg eq]; exact hz j q (by omega) h2 eq
              · rw [if_neg ep]
                by_cases ep2 : p = j
                · rw [if_pos ep2, if_neg (by omega)]; exact hz (j - 1) q (by omega) h2 (by omega)
                · rw [if_neg ep2]
                  by_cases eq : q = j
                  · rw [if_pos eq]; exact hz p (j - 1) (by omega) (by omega) (by omega)
                  · rw [if_neg eq]; exact hz p q h1 h2 eq
            refine ⟨j - 1, by omega, (zs.set j (zs.getD (j - 1) 0)).set (j - 1) (zs.getD j 0), ?_⟩
            (repeat' apply And.intro) <;> first | exact f1.trans hq | exact f2 | (simp only [Value.int.injEq, true_and]; omega) | omega | rfl | assumption | (simp; done) | (simp; omega)
          · simp (maxSteps := 1000000) (disch := omega) only [g0, g1, g2, g6, g7, wrap64, S, S1, S2, S3, S4, S5, ST, eq_self, reduceIte, reduceCtorEq, Nat.reduceEqDiff, Nat.reduceAdd]
            have f1 := out (.inr (by omega))
            refine ⟨m - 1, by omega, i + 1, zs, ?_⟩
            (repeat' apply And.intro) <;> first | exact hq | exact f1 | (simp only [Value.int.injEq, true_and]; omega) | omega | rfl | assumption | (simp; done) | (simp; omega)
        · simp (maxSteps := 1000000) (disch := omega) only [q, g0, g1, g2, g6, g7, wrap64, S, S1, S2, S3, S4, S5, ST, eq_self, reduceIte, reduceCtorEq, Nat.reduceEqDiff, Nat.reduceAdd]
          have f1 := out (.inl (by omega))
          refine ⟨m - 1, by omega, i + 1, zs, ?_⟩
          (repeat' apply And.intro) <;> first | exact hq | exact f1 | (simp only [Value.int.injEq, true_and]; omega) | omega | rfl | assumption | (simp; done) | (simp; omega)
    · refine hQ _ _ _ ?_
      simp (maxSteps := 1000000) (disch := omega) only [S, S1, S2, S3, S4, S5, ST, eq_self, reduceIte, reduceCtorEq, Nat.reduceEqDiff, Nat.reduceAdd]
      refine ⟨ys, rfl, hp, ?_⟩
      intro p q h1 h2
      exact hs p q h1 (by omega) (by omega)
theorem insNil_c (H : AH) : ACalls Tryz.prog 173 [.slice none 0 0, .int .i64 0, .int .i64 0] H fun r H' => H = H' := by
  refine in173 rfl ?_
  intro Q hQ
  simp (maxSteps := 1000000) (disch := omega) only [cd173, wrap64, S, S1, S2, S3, S4, S5, ST, eq_self, reduceIte, reduceCtorEq, Nat.reduceEqDiff, Nat.reduceAdd]
  refine LoopH.by (fun m s H' => s 2 = .int .i64 0 ∧ s 6 = .int .i64 1 ∧ H = H') 0 ?_ ?_
  · exact ⟨rfl, rfl, rfl⟩
  · rintro m s H' ⟨h2, h6, rfl⟩
    simp (maxSteps := 1000000) (disch := omega) only [h2, h6, S, S1, S2, S3, S4, S5, ST, eq_self, reduceIte, reduceCtorEq, Nat.reduceEqDiff, Nat.reduceAdd]
    refine brD.intro (fun h => absurd h (by decide)) (fun _ => ?_)
    simp (maxSteps := 1000000) (disch := omega) only [S, S1, S2, S3, S4, S5, ST, eq_self, reduceIte, reduceCtorEq, Nat.reduceEqDiff, Nat.reduceAdd]
    refine hQ _ _ _ ?_
    simp (maxSteps := 1000000) (disch := omega) only [S, S1, S2, S3, S4, S5, ST, eq_self, reduceIte, reduceCtorEq, Nat.reduceEqDiff, Nat.reduceAdd]
theorem wrapU64 {n : Int} (h1 : 0 ≤ n) (h2 : n < 18446744073709551616) : IntKind.u64.wrap n = n := by rw [IntKind.wrap_u64]; omega
theorem wrapU8 {n : Int} (h1 : 0 ≤ n) (h2 : n < 256) : IntKind.u8.wrap n = n := by rw [IntKind.wrap_u8]; omega
theorem str_ix {P : Program} {t : TypeId} (hu : P.underlying t = some .string) (s : ByteArray) (k : IntKind) (i : Int) (h0 : 0 ≤ i) (h1 : i.toNat < s.size) : ∃ b : UInt8, indexA P t (.string s) (.int k i) = some (.int .u8 b.toNat) := by
  have : s[i.toNat]? = some s[i.toNat] := by simp [h1]
  exact ⟨s[i.toNat], by simp only [indexA, hu, if_pos h0, this]⟩
set_option maxRecDepth 20000 in
theorem Len64_c (n : Int) (H : AH) (hn : 0 ≤ n ∧ n < 256) : ACalls Tryz.prog 182 [.int .u64 n] H fun r H' => (∃ k : Int, r = .int .i64 k) ∧ H = H' := by
  refine in182 rfl ?_
  intro Q hQ
  simp (maxSteps := 1000000) (disch := omega) only [cd182, S, S1, S2, S3, S4, S5, ST, eq_self, reduceIte, reduceCtorEq, Nat.reduceEqDiff, Nat.reduceAdd]
  refine brD.intro (fun h => absurd h (by omega)) (fun _ => ?_)
  simp (maxSteps := 1000000) (disch := omega) only [S, S1, S2, S3, S4, S5, ST, eq_self, reduceIte, reduceCtorEq, Nat.reduceEqDiff, Nat.reduceAdd]
  refine brD.intro (fun h => absurd h (by omega)) (fun _ => ?_)
  simp (maxSteps := 1000000) (disch := omega) only [S, S1, S2, S3, S4, S5, ST, eq_self, reduceIte, reduceCtorEq, Nat.reduceEqDiff, Nat.reduceAdd]
  refine brD.intro (fun h => absurd h (by omega)) (fun _ => ?_)
  simp (maxSteps := 1000000) (disch := omega) only [wrapU8, S, S1, S2, S3, S4, S5, ST, eq_self, reduceIte, reduceCtorEq, Nat.reduceEqDiff, Nat.reduceAdd]
  generalize hs : (ByteArray.mk _) = s
  have hz : s.size = 256 := by rw [← hs]; rfl
  obtain ⟨b, hb⟩ := str_ix (P := Tryz.prog) Tryz.underlying9 s .u8 n hn.1 (by omega)
  simp (maxSteps := 1000000) (disch := omega) only [hb, S, S1, S2, S3, S4, S5, ST, eq_self, reduceIte, reduceCtorEq, Nat.reduceEqDiff, Nat.reduceAdd]
  refine hQ _ _ _ ?_
  simp (maxSteps := 1000000) (disch := omega) only [S, S1, S2, S3, S4, S5, ST, eq_self, reduceIte, reduceCtorEq, Nat.reduceEqDiff, Nat.reduceAdd]
  exact ⟨_, rfl⟩
theorem Len_c (n : Int) (H : AH) (hn : 0 ≤ n ∧ n < 256) : ACalls Tryz.prog 142 [.int .u64 n] H fun r H' => (∃ k : Int, r = .int .i64 k) ∧ H = H' := by
  refine in142 rfl ?_
  intro Q hQ
  simp (maxSteps := 1000000) (disch := omega) only [cd142, S, S1, S2, S3, S4, S5, ST, eq_self, reduceIte, reduceCtorEq, Nat.reduceEqDiff, Nat.reduceAdd]
  refine CallH.by (Len64_c n H hn) ?_
  rintro _ _ ⟨⟨k, rfl⟩, rfl⟩
  simp (maxSteps := 1000000) (disch := omega) only [S, S1, S2, S3, S4, S5, ST, eq_self, reduceIte, reduceCtorEq, Nat.reduceEqDiff, Nat.reduceAdd]
  refine hQ _ _ _ ?_
  simp (maxSteps := 1000000) (disch := omega) only [S, S1, S2, S3, S4, S5, ST, eq_self, reduceIte, reduceCtorEq, Nat.reduceEqDiff, Nat.reduceAdd]
  exact ⟨_, rfl⟩
theorem pdq_c (o : Nat) (xs : List Int) (l : Int) (H : AH) (ho : H[o]? = some (.cells (ints xs) 3 false)) (hlen : xs.length ≤ 12) :
    ACalls Tryz.prog 141 [.slice (some ⟨o, 0, none⟩) xs.length xs.length, .int .i64 0, .int .i64 (xs.length : Int), .int .i64 l] H fun r H' => ∃ ys, H' = H.set o (.cells (ints ys) 3 false) ∧ ys.Perm xs ∧ Asc ys := by
  refine in141 rfl ?_
  intro Q hQ
  simp (maxSteps := 1000000) (disch := omega) only [cd141, S, S1, S2, S3, S4, S5, ST, eq_self, reduceIte, reduceCtorEq, Nat.reduceEqDiff, Nat.reduceAdd]
  refine LoopH.by (fun m s H' => s 0 = .slice (some ⟨o, 0, none⟩) xs.length xs.length ∧ s 1 = .int .i64 0 ∧ s 2 = .int .i64 (xs.length : Int) ∧ H = H') 0 ?_ ?_
  · exact ⟨rfl, rfl, rfl, rfl⟩
  · rintro m s H' ⟨h0, h1, h2, rfl⟩
    simp (maxSteps := 1000000) (disch := omega) only [h0, h1, h2, wrap64, S, S1, S2, S3, S4, S5, ST, eq_self, reduceIte, reduceCtorEq, Nat.reduceEqDiff, Nat.reduceAdd]
    refine brD.intro (fun _ => ?_) (fun h => absurd h (by omega))
    simp (maxSteps := 1000000) (disch := omega) only [h0, h1, h2, S, S1, S2, S3, S4, S5, ST, eq_self, reduceIte, reduceCtorEq, Nat.reduceEqDiff, Nat.reduceAdd]
    refine CallH.by (insSort_c o xs H ho (by omega)) ?_
    rintro r H1 hr
    simp (maxSteps := 1000000) (disch := omega) only [S, S1, S2, S3, S4, S5, ST, eq_self, reduceIte, reduceCtorEq, Nat.reduceEqDiff, Nat.reduceAdd]
    refine hQ _ _ _ ?_
    simp (maxSteps := 1000000) (disch := omega) only [S, S1, S2, S3, S4, S5, ST, eq_self, reduceIte, reduceCtorEq, Nat.reduceEqDiff, Nat.reduceAdd]
    exact hr
theorem pdqNil_c (l : Int) (H : AH) : ACalls Tryz.prog 141 [.slice none 0 0, .int .i64 0, .int .i64 0, .int .i64 l] H fun r H' => H = H' := by
  refine in141 rfl ?_
  intro Q hQ
  simp (maxSteps := 1000000) (disch := omega) only [cd141, S, S1, S2, S3, S4, S5, ST, eq_self, reduceIte, reduceCtorEq, Nat.reduceEqDiff, Nat.reduceAdd]
  refine LoopH.by (fun m s H' => s 0 = .slice none 0 0 ∧ s 1 = .int .i64 0 ∧ s 2 = .int .i64 0 ∧ H = H') 0 ?_ ?_
  · exact ⟨rfl, rfl, rfl, rfl⟩
  · rintro m s H' ⟨h0, h1, h2, rfl⟩
    simp (maxSteps := 1000000) (disch := omega) only [h0, h1, h2, wrap64, S, S1, S2, S3, S4, S5, ST, eq_self, reduceIte, reduceCtorEq, Nat.reduceEqDiff, Nat.reduceAdd]
    refine brD.intro (fun _ => ?_) (fun h => absurd h (by decide))
    simp (maxSteps := 1000000) (disch := omega) only [h0, h1, h2, S, S1, S2, S3, S4, S5, ST, eq_self, reduceIte, reduceCtorEq, Nat.reduceEqDiff, Nat.reduceAdd]
    refine CallH.by (insNil_c ..) ?_
    rintro _ _ rfl
    simp (maxSteps := 1000000) (disch := omega) only [S, S1, S2, S3, S4, S5, ST, eq_self, reduceIte, reduceCtorEq, Nat.reduceEqDiff, Nat.reduceAdd]
    refine hQ _ _ _ ?_
    simp (maxSteps := 1000000) (disch := omega) only [S, S1, S2, S3, S4, S5, ST, eq_self, reduceIte, reduceCtorEq, Nat.reduceEqDiff, Nat.reduceAdd]
theorem Sort_c (v : Value) (xs : List Int) (H0 H : AH) (ho : Own 3 H0 H v xs) (hlen : xs.length ≤ 12) :
    ACalls Tryz.prog 90 [v] H fun r H' => ∃ ys, Own 3 H0 H' v ys ∧ ys.Perm xs ∧ Asc ys ∧ Else v H H' := by
  refine in90 rfl ?_
  intro Q hQ
  obtain ⟨p, e⟩ := ho.row.shape
  rcases ho with ⟨rfl, rfl⟩ | ⟨o, rfl, hoo, hc⟩
  · simp (maxSteps := 1000000) (disch := omega) only [cd90, wrapU64, List.length_nil, Int.natCast_zero, S, S1, S2, S3, S4, S5, ST, eq_self, reduceIte, reduceCtorEq, Nat.reduceEqDiff, Nat.reduceAdd]
    refine CallH.by (Len_c _ _ (by decide)) ?_
    rintro _ _ ⟨⟨k, rfl⟩, rfl⟩
    simp (maxSteps := 1000000) (disch := omega) only [List.length_nil, Int.natCast_zero, S, S1, S2, S3, S4, S5, ST, eq_self, reduceIte, reduceCtorEq, Nat.reduceEqDiff, Nat.reduceAdd]
    refine CallH.by (pdqNil_c k H) ?_
    rintro _ _ rfl
    simp (maxSteps := 1000000) (disch := omega) only [S, S1, S2, S3, S4, S5, ST, eq_self, reduceIte, reduceCtorEq, Nat.reduceEqDiff, Nat.reduceAdd]
    refine hQ _ _ _ ?_
    simp (maxSteps := 1000000) (disch := omega) only [S, S1, S2, S3, S4, S5, ST, eq_self, reduceIte, reduceCtorEq, Nat.reduceEqDiff, Nat.reduceAdd]
    exact ⟨[], .inl ⟨rfl, rfl⟩, List.Perm.refl _, fun i j _ h => by simp at h, Else.refl _ _⟩
  · simp (maxSteps := 1000000) (disch := omega) only [cd90, wrapU64, S, S1, S2, S3, S4, S5, ST, eq_self, reduceIte, reduceCtorEq, Nat.reduceEqDiff, Nat.reduceAdd]
    refine CallH.by (Len_c _ _ (by omega)) ?_
    rintro _ _ ⟨⟨k, rfl⟩, rfl⟩
    simp (maxSteps := 1000000) (disch := omega) only [S, S1, S2, S3, S4, S5, ST, eq_self, reduceIte, reduceCtorEq, Nat.reduceEqDiff, Nat.reduceAdd]
    refine CallH.by (pdq_c o xs k H hc hlen) ?_
    rintro _ H1 ⟨ys, rfl, hp, ha⟩
    simp (maxSteps := 1000000) (disch := omega) only [S, S1, S2, S3, S4, S5, ST, eq_self, reduceIte, reduceCtorEq, Nat.reduceEqDiff, Nat.reduceAdd]
    refine hQ _ _ _ ?_
    simp (maxSteps := 1000000) (disch := omega) only [S, S1, S2, S3, S4, S5, ST, eq_self, reduceIte, reduceCtorEq, Nat.reduceEqDiff, Nat.reduceAdd]
    exact ⟨ys, .inr ⟨o, by rw [hp.length_eq], hoo, at_set hc⟩, hp, ha, Else.set _ _⟩
end Go.Proofs.YtdgapefbbdfpbaaGreat.Ai
namespace Go.Proofs.YtdgapefbbdfpbaaGreat.Ai
open Go
def ords170 : List (Nat × List (Nat × Bool)) := []
def cd170 : Cd := (.seq (.reg [⟨⟨some 4, Op.assign (Operand.const (Value.int IntKind.i64 0)), none⟩, []⟩]) (.seq (.reg [⟨⟨some 7, Op.move (Operand.tmp 0), none⟩, []⟩,
  ⟨⟨some 8, Op.call { callee := (Callee.value (Operand.func 185)), args := #[(Operand.tmp 7)], argTypes := #[3] }, none⟩, []⟩,
  ⟨⟨some 5, Op.assign (Operand.tmp 8), none⟩, []⟩]) (.seq (.reg [⟨⟨some 9, Op.move (Operand.tmp 1), none⟩, []⟩,
  ⟨⟨some 10, Op.call { callee := (Callee.value (Operand.func 185)), args := #[(Operand.tmp 9)], argTypes := #[3] }, none⟩, []⟩,
  ⟨⟨some 6, Op.assign (Operand.tmp 10), none⟩, []⟩]) (.seq (.seq (.reg [⟨⟨some 11, Op.move (Operand.tmp 5), none⟩, []⟩]) (.cond (Operand.tmp 11) (.seq (.seq (.reg [⟨⟨some 12, Op.move (Operand.tmp 6), none⟩, []⟩]) (.cond (Operand.tmp 12) (.seq (.reg [⟨⟨some 4, Op.assign (Operand.const (Value.int IntKind.i64 0)), none⟩, []⟩]) .ret) .skip)) (.seq (.reg [⟨⟨some 4, Op.assign (Operand.const (Value.int IntKind.i64 (-1))), none⟩, []⟩]) .ret)) .skip)) (.seq (.seq (.reg [⟨⟨some 13, Op.move (Operand.tmp 6), none⟩, []⟩]) (.cond (Operand.tmp 13) (.seq (.reg [⟨⟨some 4, Op.assign (Operand.const (Value.int IntKind.i64 1)), none⟩, []⟩]) .ret) .skip)) (.seq (.seq (.reg [⟨⟨some 14, Op.move (Operand.tmp 0), none⟩, []⟩,
  ⟨⟨some 15, Op.move (Operand.tmp 1), none⟩, []⟩,
  ⟨⟨some 16, Op.binOp BinOp.lss 3 (Operand.tmp 14) (Operand.tmp 15) 3, none⟩, []⟩]) (.cond (Operand.tmp 16) (.seq (.reg [⟨⟨some 4, Op.assign (Operand.const (Value.int IntKind.i64 (-1))), none⟩, []⟩]) .ret) .skip)) (.seq (.seq (.reg [⟨⟨some 17, Op.move (Operand.tmp 0), none⟩, []⟩,
  ⟨⟨some 18, Op.move (Operand.tmp 1), none⟩, []⟩,
  ⟨⟨some 19, Op.binOp BinOp.gtr 3 (Operand.tmp 17) (Operand.tmp 18) 3, none⟩, []⟩]) (.cond (Operand.tmp 19) (.seq (.reg [⟨⟨some 4, Op.assign (Operand.const (Value.int IntKind.i64 1)), none⟩, []⟩]) .ret) .skip)) (.seq (.reg [⟨⟨some 4, Op.assign (Operand.const (Value.int IntKind.i64 0)), none⟩, []⟩]) .ret))))))))
theorem sl170 : slim Tryz.f170.ntmps ords170 (Tryz.f170.body.getD .skip) = some cd170 := by kernel_rfl
theorem in170 {args : List Value} {H : AH} {R : Value → AH → Prop} (hl : args.length = 2) (h : ∀ (Q : Exit → Sl → AH → Prop), (∀ e s H, endA Tryz.prog [ResultVar.tmp 4] R e s H → Q e s H) → wpC Tryz.prog cd170 Q (enterA args) H) : ACalls Tryz.prog 170 args H R :=
  ACalls.intro (by kernel_rfl) Tryz.func170 rfl (by kernel_rfl) sl170 hl (of_decide_eq_true (by kernel_rfl)) (by kernel_rfl) h
end Go.Proofs.YtdgapefbbdfpbaaGreat.Ai
namespace Go.Proofs.YtdgapefbbdfpbaaGreat.Ai
open Go Go.RowKit
set_option linter.unusedVariables false
set_option linter.unusedSimpArgs false
/-- pairs in order -/
def pairLt (p q : Int × Int) : Prop := p.1 < q.1 ∨ p.1 = q.1 ∧ p.2 < q.2
instance (p q : Int × Int) : Decidable (pairLt p q) := by unfold pairLt; infer_instance
def prOk (n : Int) (ps : List (Int × Int)) (i : Nat) : Prop :=
  0 ≤ (ps.getD i (0, 0)).1 ∧ (ps.getD i (0, 0)).1 < (ps.getD i (0, 0)).2 ∧ (ps.getD i (0, 0)).2 < n ∧ (0 < i → pairLt (ps.getD (i - 1) (0, 0)) (ps.getD i (0, 0)))
instance (n : Int) (ps : List (Int × Int)) (i : Nat) : Decidable (prOk n ps i) := by unfold prOk; infer_instance
def PrU (n : Int) (ps : List (Int × Int)) (k : Nat) : Prop := ∀ i, i < k → prOk n ps i
instance (n : Int) (ps : List (Int × Int)) (k : Nat) : Decidable (PrU n ps k) := by unfold PrU; infer_instance
def Grd (n : Int) (ps : List (Int × Int)) : Prop := (0 ≤ n ∧ n ≤ 8) ∧ PrU n ps ps.length
instance (n : Int) (ps : List (Int × Int)) : Decidable (Grd n ps) := by unfold Grd; infer_instance
theorem PrU.zero (n : Int) (ps : List (Int × Int)) : PrU n ps 0 := fun i h => absurd h (Nat.not_lt_zero i)
theorem PrU.succ {n : Int} {ps : List (Int × Int)} {k : Nat} (h : PrU n ps k) (h2 : prOk n ps k) : PrU n ps (k + 1) := by
  intro i hi
  rcases Nat.lt_succ_iff_lt_or_eq.1 hi with g | g
  · exact h i g
  · rw [g]; exact h2
theorem PrU.no {n : Int} {ps : List (Int × Int)} {k i : Nat} (hi : i < k) (h : ¬ prOk n ps i) : ¬ PrU n ps k := fun g => h (g i hi)
def cmpI (a b : Int) : Int := if a < b then -1 else if b < a then 1 else 0
theorem Compare_c (a b : Int) (H : AH) : ACalls Tryz.prog 170 [.int .i64 a, .int .i64 b] H fun r H' => r = .int .i64 (cmpI a b) ∧ H = H' := by
  refine in170 rfl ?_
  intro Q hQ
  simp (maxSteps := 1000000) (disch := omega) only [cd170, S, S1, S2, S3, S4, S5, ST, eq_self, reduceIte, reduceCtorEq, Nat.reduceEqDiff, Nat.reduceAdd]
  refine CallH.by (isNaN_c a H) ?_
  rintro _ _ ⟨rfl, rfl⟩
  simp (maxSteps := 1000000) (disch := omega) only [S, S1, S2, S3, S4, S5, ST, eq_self, reduceIte, reduceCtorEq, Nat.reduceEqDiff, Nat.reduceAdd]
  refine CallH.by (isNaN_c b H) ?_
  rintro _ _ ⟨rfl, rfl⟩
  simp (maxSteps := 1000000) (disch := omega) only [S, S1, S2, S3, S4, S5, ST, eq_self, reduceIte, reduceCtorEq, Nat.reduceEqDiff, Nat.reduceAdd]
  refine brD.intro (fun e => ?_) (fun e => ?_) <;> simp (maxSteps := 1000000) (disch := omega) only [e, S, S1, S2, S3, S4, S5, ST, eq_self, reduceIte, reduceCtorEq, Nat.reduceEqDiff, Nat.reduceAdd]
  · refine hQ _ _ _ ?_
    simp (maxSteps := 1000000) (disch := omega) only [cmpI, e, S, S1, S2, S3, S4, S5, ST, eq_self, reduceIte, reduceCtorEq, Nat.reduceEqDiff, Nat.reduceAdd]
  · refine brD.intro (fun e2 => ?_) (fun e2 => ?_) <;> simp (maxSteps := 1000000) (disch := omega) only [e, e2, S, S1, S2, S3, S4, S5, ST, eq_self, reduceIte, reduceCtorEq, Nat.reduceEqDiff, Nat.reduceAdd]
    · refine hQ _ _ _ ?_
      simp (maxSteps := 1000000) (disch := omega) only [cmpI, e, e2, S, S1, S2, S3, S4, S5, ST, eq_self, reduceIte, reduceCtorEq, Nat.reduceEqDiff, Nat.reduceAdd]
    · refine hQ _ _ _ ?_
      simp (maxSteps := 1000000) (disch := omega) only [cmpI, e, e2, S, S1, S2, S3, S4, S5, ST, eq_self, reduceIte, reduceCtorEq, Nat.reduceEqDiff, Nat.reduceAdd]
end Go.Proofs.YtdgapefbbdfpbaaGreat.Ai
