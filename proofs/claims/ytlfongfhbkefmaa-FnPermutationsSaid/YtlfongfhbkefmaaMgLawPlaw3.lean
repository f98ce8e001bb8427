/- Texts of this claim, joined: Ty, Arr, Grf, Bag, Ones, Drw, PermP, CycP, IdxP, SrtP, Clone, Swp, Drp, Vee, PrmC, Seq, PutP. -/
import Derived.Test.YtlfongfhbkefmaaProg
import Derived.KernelRfl
import Derived.Laws.Bits64
import Derived.RangeFuncBox
import Derived.RangeFuncLeaves
import Derived.Shelf.Abstract
import Derived.WalkKit
import Derived.OwnWalkIn
import Derived.TacticsInMore
import Derived.LoopNIn
import Derived.LoopIn
import Derived.Maps.AppendAt
import Derived.Test.YtlfongfhbkefmaaMgLawPlaw2
namespace Go.Proofs.Ytlfongfhbkefmaa.Ai
open Go
theorem cs3 : Try.prog.cellsOf 3 = 1 := by kernel_rfl
theorem by3 : Try.prog.bytesOf 3 = 8 := by kernel_rfl
theorem ag3 : isAggA Try.prog 3 = some false := by kernel_rfl
theorem ze3 : zeroA Try.prog 3 = some (.int .i64 0) := by kernel_rfl
theorem zk3 : zeroOk Try.prog 3 = true := by kernel_rfl
theorem ag4 : isAggA Try.prog 4 = some false := by kernel_rfl
theorem ag5 : isAggA Try.prog 5 = some false := by kernel_rfl
theorem ag9 : isAggA Try.prog 9 = some false := by kernel_rfl
theorem ag22 : isAggA Try.prog 22 = some false := by kernel_rfl
theorem ag26 : isAggA Try.prog 26 = some false := by kernel_rfl
theorem ag32 : isAggA Try.prog 32 = some false := by kernel_rfl
theorem cs38 : Try.prog.cellsOf 38 = 1 := by kernel_rfl
theorem by38 : Try.prog.bytesOf 38 = 24 := by kernel_rfl
theorem ag38 : isAggA Try.prog 38 = some false := by kernel_rfl
theorem ze38 : zeroA Try.prog 38 = some (.slice none 0 0) := by kernel_rfl
theorem zk38 : zeroOk Try.prog 38 = true := by kernel_rfl
theorem cs81 : Try.prog.cellsOf 81 = 2 := by kernel_rfl
theorem by81 : Try.prog.bytesOf 81 = 16 := by kernel_rfl
theorem ag81 : isAggA Try.prog 81 = some true := by kernel_rfl
theorem ze81 : zeroA Try.prog 81 = some (.agg #[(.int .i64 0), (.int .i64 0)]) := by kernel_rfl
theorem zk81 : zeroOk Try.prog 81 = true := by kernel_rfl
theorem ag85 : isAggA Try.prog 85 = some false := by kernel_rfl
theorem ag93 : isAggA Try.prog 93 = some false := by kernel_rfl
theorem ag95 : isAggA Try.prog 95 = some false := by kernel_rfl
theorem ag97 : isAggA Try.prog 97 = some false := by kernel_rfl
theorem ag98 : isAggA Try.prog 98 = some false := by kernel_rfl
theorem ag99 : isAggA Try.prog 99 = some false := by kernel_rfl
theorem ag103 : isAggA Try.prog 103 = some false := by kernel_rfl
theorem ag111 : isAggA Try.prog 111 = some false := by kernel_rfl
theorem ag122 : isAggA Try.prog 122 = some false := by kernel_rfl
theorem ag129 : isAggA Try.prog 129 = some false := by kernel_rfl
theorem ag133 : isAggA Try.prog 133 = some false := by kernel_rfl
theorem ag134 : isAggA Try.prog 134 = some false := by kernel_rfl
theorem ag145 : isAggA Try.prog 145 = some false := by kernel_rfl
theorem ag151 : isAggA Try.prog 151 = some false := by kernel_rfl
theorem ag159 : isAggA Try.prog 159 = some false := by kernel_rfl
theorem ag182 : isAggA Try.prog 182 = some false := by kernel_rfl
theorem ag185 : isAggA Try.prog 185 = some false := by kernel_rfl
theorem ag188 : isAggA Try.prog 188 = some false := by kernel_rfl
theorem own1_22 {H0 H : AH} {v : Value} {ps : List (Int × Int)} (h : MineP 81 H0 H v ps) (hp : H0 <+: H) (hb : ps.length ≤ 1099511627775) (a b : Int) : ∃ v' H', appendA Try.prog 22 22 v (.slice (some ⟨H.length, 0, none⟩) 1 1) (H ++ [.cells [.int .i64 a, .int .i64 b] 81 false]) = some (v', H') ∧ MineP 81 H0 H' v' (ps ++ [(a, b)]) ∧ H0 <+: H' ∧ Kept v H H' ∧ H.length ≤ rowO v' ∧ isTup v' = false := MineP.app1 Try.underlying22 cs81 (by rw [by81]; decide) zk81 h hp hb a b
theorem own1_38 {H0 H : AH} {v : Value} {ys : List Int} (h : Own 3 H0 H v ys) (hp : H0 <+: H) (hb : ys.length ≤ 1099511627775) (x : Int) : ∃ v' H', appendA Try.prog 38 38 v (.slice (some ⟨H.length, 0, none⟩) 1 1) (H ++ [.cells [.int .i64 x] 3 false]) = some (v', H') ∧ Own 3 H0 H' v' (ys ++ [x]) ∧ H0 <+: H' ∧ Kept v H H' ∧ H.length ≤ rowO v' ∧ isTup v' = false := Own.app1 Try.underlying38 cs3 (by rw [by3]; decide) zk3 h hp hb x
theorem ST : (∀ p H, loadA Try.prog 3 (.pointer (some p)) H = cellA H p.block p.off) ∧
    (∀ p H, loadA Try.prog 4 (.pointer (some p)) H = cellA H p.block p.off) ∧
    (∀ a b, binA Try.prog .eql 4 (.bool a) (.bool b) = some (.bool (decide (a = b)))) ∧
    (∀ a b, binA Try.prog .neq 4 (.bool a) (.bool b) = some (.bool (decide (a ≠ b)))) ∧
    (∀ p H, loadA Try.prog 5 (.pointer (some p)) H = cellA H p.block p.off) ∧
    (∀ p H, loadA Try.prog 9 (.pointer (some p)) H = cellA H p.block p.off) ∧
    (∀ p H, loadA Try.prog 22 (.pointer (some p)) H = cellA H p.block p.off) ∧
    (∀ H, buildSliceA Try.prog 22 0 [] H = some (.slice (some ⟨H.length, 0, none⟩) 0 0, H ++ [.cells [] 81 false])) ∧
    (∀ H a b, buildSliceA Try.prog 22 1 [(0, .agg (List.toArray [a, b]))] H = some (.slice (some ⟨H.length, 0, none⟩) 1 1, H ++ [.cells [a, b] 81 false])) ∧
    (∀ (p : Addr) (n c : Nat) (k : IntKind) {i : Int}, 0 ≤ i → i < (n : Int) → indexAddrA Try.prog 22 (.slice (some p) n c) (.int k i) = some (.pointer (some ⟨p.block, p.off + 2 * i.toNat, none⟩))) ∧
    (∀ a n c m d, binA Try.prog .eql 22 (.slice a n c) (.slice none m d) = some (.bool (a.isNone))) ∧
    (∀ a n c m d, binA Try.prog .neq 22 (.slice a n c) (.slice none m d) = some (.bool (!a.isNone))) ∧
    (∀ x H, lenS Try.prog 22 x H = lenA Try.prog 22 x) ∧
    (∀ p n c, lenA Try.prog 22 (.slice p n c) = some (.int .i64 n)) ∧
    (∀ (p : Addr), fieldAddrA Try.prog 24 (.pointer (some p)) 0 = some (.pointer (some ⟨p.block, p.off, none⟩))) ∧
    (∀ (p : Addr), fieldAddrA Try.prog 24 (.pointer (some p)) 1 = some (.pointer (some ⟨p.block, p.off + 1, none⟩))) ∧
    (∀ p H, loadA Try.prog 26 (.pointer (some p)) H = cellA H p.block p.off) ∧
    (∀ (p : Addr) (n c : Nat) (k : IntKind) {i : Int}, 0 ≤ i → i < (n : Int) → indexAddrA Try.prog 26 (.slice (some p) n c) (.int k i) = some (.pointer (some ⟨p.block, p.off + i.toNat, none⟩))) ∧
    (∀ H, buildSliceA Try.prog 26 0 [] H = some (.slice (some ⟨H.length, 0, none⟩) 0 0, H ++ [.cells [] 38 false])) ∧
    (∀ H p0 n0 c0, buildSliceA Try.prog 26 1 [(0, (.slice p0 n0 c0))] H = some (.slice (some ⟨H.length, 0, none⟩) 1 1, H ++ [.cells [(.slice p0 n0 c0)] 38 false])) ∧
    (∀ H p0 n0 c0 p1 n1 c1, buildSliceA Try.prog 26 2 [(0, (.slice p0 n0 c0)), (1, (.slice p1 n1 c1))] H = some (.slice (some ⟨H.length, 0, none⟩) 2 2, H ++ [.cells [(.slice p0 n0 c0), (.slice p1 n1 c1)] 38 false])) ∧
    (∀ H p0 n0 c0 p1 n1 c1 p2 n2 c2, buildSliceA Try.prog 26 3 [(0, (.slice p0 n0 c0)), (1, (.slice p1 n1 c1)), (2, (.slice p2 n2 c2))] H = some (.slice (some ⟨H.length, 0, none⟩) 3 3, H ++ [.cells [(.slice p0 n0 c0), (.slice p1 n1 c1), (.slice p2 n2 c2)] 38 false])) ∧
    (∀ a n c m d, binA Try.prog .eql 26 (.slice a n c) (.slice none m d) = some (.bool (a.isNone))) ∧
    (∀ a n c m d, binA Try.prog .neq 26 (.slice a n c) (.slice none m d) = some (.bool (!a.isNone))) ∧
    (∀ x H, lenS Try.prog 26 x H = lenA Try.prog 26 x) ∧
    (∀ p n c, lenA Try.prog 26 (.slice p n c) = some (.int .i64 n)) ∧
    (∀ (p : Addr), fieldAddrA Try.prog 28 (.pointer (some p)) 0 = some (.pointer (some ⟨p.block, p.off, none⟩))) ∧
    (∀ (p : Addr), fieldAddrA Try.prog 28 (.pointer (some p)) 1 = some (.pointer (some ⟨p.block, p.off + 1, none⟩))) ∧
    (∀ (p : Addr), fieldAddrA Try.prog 31 (.pointer (some p)) 0 = some (.pointer (some ⟨p.block, p.off, none⟩))) ∧
    (∀ (p : Addr), fieldAddrA Try.prog 31 (.pointer (some p)) 1 = some (.pointer (some ⟨p.block, p.off + 1, none⟩))) ∧
    (∀ p H, loadA Try.prog 32 (.pointer (some p)) H = cellA H p.block p.off) ∧
    (∀ p H, loadA Try.prog 38 (.pointer (some p)) H = cellA H p.block p.off) ∧
    (∀ (p : Addr) (n c : Nat) (k : IntKind) {i : Int}, 0 ≤ i → i < (n : Int) → indexAddrA Try.prog 38 (.slice (some p) n c) (.int k i) = some (.pointer (some ⟨p.block, p.off + i.toNat, none⟩))) ∧
    (∀ H, buildSliceA Try.prog 38 0 [] H = some (.slice (some ⟨H.length, 0, none⟩) 0 0, H ++ [.cells [] 3 false])) ∧
    (∀ H k0 x0, buildSliceA Try.prog 38 1 [(0, (.int k0 x0))] H = some (.slice (some ⟨H.length, 0, none⟩) 1 1, H ++ [.cells [(.int k0 x0)] 3 false])) ∧
    (∀ H k0 x0 k1 x1, buildSliceA Try.prog 38 2 [(0, (.int k0 x0)), (1, (.int k1 x1))] H = some (.slice (some ⟨H.length, 0, none⟩) 2 2, H ++ [.cells [(.int k0 x0), (.int k1 x1)] 3 false])) ∧
    (∀ H k0 x0 k1 x1 k2 x2, buildSliceA Try.prog 38 3 [(0, (.int k0 x0)), (1, (.int k1 x1)), (2, (.int k2 x2))] H = some (.slice (some ⟨H.length, 0, none⟩) 3 3, H ++ [.cells [(.int k0 x0), (.int k1 x1), (.int k2 x2)] 3 false])) ∧
    (∀ a n c m d, binA Try.prog .eql 38 (.slice a n c) (.slice none m d) = some (.bool (a.isNone))) ∧
    (∀ a n c m d, binA Try.prog .neq 38 (.slice a n c) (.slice none m d) = some (.bool (!a.isNone))) ∧
    (∀ x H, lenS Try.prog 38 x H = lenA Try.prog 38 x) ∧
    (∀ p n c, lenA Try.prog 38 (.slice p n c) = some (.int .i64 n)) ∧
    (∀ (p : Addr) (k : IntKind), indexAddrA Try.prog 81 (.pointer (some p)) (.int k 0) = some (.pointer (some ⟨p.block, p.off, none⟩))) ∧
    (∀ (p : Addr) (k : IntKind), indexAddrA Try.prog 81 (.pointer (some p)) (.int k 1) = some (.pointer (some ⟨p.block, p.off + 1, none⟩))) ∧
    (∀ p H, loadA Try.prog 85 (.pointer (some p)) H = cellA H p.block p.off) ∧
    (∀ p H, loadA Try.prog 93 (.pointer (some p)) H = cellA H p.block p.off) ∧
    (∀ p H, loadA Try.prog 95 (.pointer (some p)) H = cellA H p.block p.off) ∧
    (∀ p H, loadA Try.prog 97 (.pointer (some p)) H = cellA H p.block p.off) ∧
    (∀ p H, loadA Try.prog 98 (.pointer (some p)) H = cellA H p.block p.off) ∧
    (∀ p H, loadA Try.prog 99 (.pointer (some p)) H = cellA H p.block p.off) ∧
    (∀ p H, loadA Try.prog 103 (.pointer (some p)) H = cellA H p.block p.off) ∧
    (∀ p H, loadA Try.prog 111 (.pointer (some p)) H = cellA H p.block p.off) ∧
    (∀ p H, loadA Try.prog 122 (.pointer (some p)) H = cellA H p.block p.off) ∧
    (∀ p H, loadA Try.prog 129 (.pointer (some p)) H = cellA H p.block p.off) ∧
    (∀ p H, loadA Try.prog 133 (.pointer (some p)) H = cellA H p.block p.off) ∧
    (∀ (p : Addr) (n c : Nat) (k : IntKind) {i : Int}, 0 ≤ i → i < (n : Int) → indexAddrA Try.prog 133 (.slice (some p) n c) (.int k i) = some (.pointer (some ⟨p.block, p.off + i.toNat, none⟩))) ∧
    (∀ H, buildSliceA Try.prog 133 0 [] H = some (.slice (some ⟨H.length, 0, none⟩) 0 0, H ++ [.cells [] 3 false])) ∧
    (∀ H k0 x0, buildSliceA Try.prog 133 1 [(0, (.int k0 x0))] H = some (.slice (some ⟨H.length, 0, none⟩) 1 1, H ++ [.cells [(.int k0 x0)] 3 false])) ∧
    (∀ H k0 x0 k1 x1, buildSliceA Try.prog 133 2 [(0, (.int k0 x0)), (1, (.int k1 x1))] H = some (.slice (some ⟨H.length, 0, none⟩) 2 2, H ++ [.cells [(.int k0 x0), (.int k1 x1)] 3 false])) ∧
    (∀ H k0 x0 k1 x1 k2 x2, buildSliceA Try.prog 133 3 [(0, (.int k0 x0)), (1, (.int k1 x1)), (2, (.int k2 x2))] H = some (.slice (some ⟨H.length, 0, none⟩) 3 3, H ++ [.cells [(.int k0 x0), (.int k1 x1), (.int k2 x2)] 3 false])) ∧
    (∀ a n c m d, binA Try.prog .eql 133 (.slice a n c) (.slice none m d) = some (.bool (a.isNone))) ∧
    (∀ a n c m d, binA Try.prog .neq 133 (.slice a n c) (.slice none m d) = some (.bool (!a.isNone))) ∧
    (∀ x H, lenS Try.prog 133 x H = lenA Try.prog 133 x) ∧
    (∀ p n c, lenA Try.prog 133 (.slice p n c) = some (.int .i64 n)) ∧
    (∀ p H, loadA Try.prog 134 (.pointer (some p)) H = cellA H p.block p.off) ∧
    (∀ p H, loadA Try.prog 145 (.pointer (some p)) H = cellA H p.block p.off) ∧
    (∀ p H, loadA Try.prog 151 (.pointer (some p)) H = cellA H p.block p.off) ∧
    (∀ p H, loadA Try.prog 159 (.pointer (some p)) H = cellA H p.block p.off) ∧
    (∀ p H, loadA Try.prog 182 (.pointer (some p)) H = cellA H p.block p.off) ∧
    (∀ p H, loadA Try.prog 185 (.pointer (some p)) H = cellA H p.block p.off) ∧
    (∀ p H, loadA Try.prog 188 (.pointer (some p)) H = cellA H p.block p.off) ∧
    (∀ k n, convA Try.prog 3 5 (.int k n) = some (.int .u8 (IntKind.u8.wrap n))) ∧
    (∀ k n, convA Try.prog 3 97 (.int k n) = some (.int .u64 (IntKind.u64.wrap n))) ∧
    (∀ k n, convA Try.prog 3 98 (.int k n) = some (.int .u64 (IntKind.u64.wrap n))) ∧
    (∀ k n, convA Try.prog 3 122 (.int k n) = some (.int .u64 (IntKind.u64.wrap n))) ∧
    (∀ k n, convA Try.prog 3 182 (.int k n) = some (.int .u32 (IntKind.u32.wrap n))) ∧
    (∀ k n, convA Try.prog 5 3 (.int k n) = some (.int .i64 (IntKind.i64.wrap n))) ∧
    (∀ k n, convA Try.prog 5 97 (.int k n) = some (.int .u64 (IntKind.u64.wrap n))) ∧
    (∀ k n, convA Try.prog 5 98 (.int k n) = some (.int .u64 (IntKind.u64.wrap n))) ∧
    (∀ k n, convA Try.prog 5 122 (.int k n) = some (.int .u64 (IntKind.u64.wrap n))) ∧
    (∀ k n, convA Try.prog 5 182 (.int k n) = some (.int .u32 (IntKind.u32.wrap n))) ∧
    (∀ k n, convA Try.prog 97 3 (.int k n) = some (.int .i64 (IntKind.i64.wrap n))) ∧
    (∀ k n, convA Try.prog 97 5 (.int k n) = some (.int .u8 (IntKind.u8.wrap n))) ∧
    (∀ k n, convA Try.prog 97 98 (.int k n) = some (.int .u64 (IntKind.u64.wrap n))) ∧
    (∀ k n, convA Try.prog 97 122 (.int k n) = some (.int .u64 (IntKind.u64.wrap n))) ∧
    (∀ k n, convA Try.prog 97 182 (.int k n) = some (.int .u32 (IntKind.u32.wrap n))) ∧
    (∀ k n, convA Try.prog 98 3 (.int k n) = some (.int .i64 (IntKind.i64.wrap n))) ∧
    (∀ k n, convA Try.prog 98 5 (.int k n) = some (.int .u8 (IntKind.u8.wrap n))) ∧
    (∀ k n, convA Try.prog 98 97 (.int k n) = some (.int .u64 (IntKind.u64.wrap n))) ∧
    (∀ k n, convA Try.prog 98 122 (.int k n) = some (.int .u64 (IntKind.u64.wrap n))) ∧
    (∀ k n, convA Try.prog 98 182 (.int k n) = some (.int .u32 (IntKind.u32.wrap n))) ∧
    (∀ k n, convA Try.prog 122 3 (.int k n) = some (.int .i64 (IntKind.i64.wrap n))) ∧
    (∀ k n, convA Try.prog 122 5 (.int k n) = some (.int .u8 (IntKind.u8.wrap n))) ∧
    (∀ k n, convA Try.prog 122 97 (.int k n) = some (.int .u64 (IntKind.u64.wrap n))) ∧
    (∀ k n, convA Try.prog 122 98 (.int k n) = some (.int .u64 (IntKind.u64.wrap n))) ∧
    (∀ k n, convA Try.prog 122 182 (.int k n) = some (.int .u32 (IntKind.u32.wrap n))) ∧
    (∀ k n, convA Try.prog 182 3 (.int k n) = some (.int .i64 (IntKind.i64.wrap n))) ∧
    (∀ k n, convA Try.prog 182 5 (.int k n) = some (.int .u8 (IntKind.u8.wrap n))) ∧
    (∀ k n, convA Try.prog 182 97 (.int k n) = some (.int .u64 (IntKind.u64.wrap n))) ∧
    (∀ k n, convA Try.prog 182 98 (.int k n) = some (.int .u64 (IntKind.u64.wrap n))) ∧
    (∀ k n, convA Try.prog 182 122 (.int k n) = some (.int .u64 (IntKind.u64.wrap n))) :=
  ⟨ld_one ag3,
   ld_one ag4,
   eq_bool_eql Try.underlying4,
   eq_bool_neq Try.underlying4,
   ld_one ag5,
   ld_one ag9,
   ld_one ag22,
   bsP0 Try.underlying22 cs81 ze81 ⟨by kernel_rfl, by kernel_rfl⟩,
   bsP1 Try.underlying22 cs81 ze81,
   ix_two Try.underlying22 cs81,
   eq_nil_eql Try.underlying22,
   eq_nil_neq Try.underlying22,
   lenS_sl (by decide),
   ln_sl Try.underlying22,
   fun p => by kernel_rfl,
   fun p => by kernel_rfl,
   ld_one ag26,
   ix_one Try.underlying26 cs38,
   bs0 Try.underlying26 cs38 ze38 ⟨by kernel_rfl, by kernel_rfl⟩,
   fun H _ _ _ => bs1 Try.underlying26 cs38 ze38 ⟨by kernel_rfl, by kernel_rfl⟩ H rfl,
   fun H _ _ _ _ _ _ => bs2 Try.underlying26 cs38 ze38 ⟨by kernel_rfl, by kernel_rfl⟩ H rfl rfl,
   fun H _ _ _ _ _ _ _ _ _ => bs3 Try.underlying26 cs38 ze38 ⟨by kernel_rfl, by kernel_rfl⟩ H rfl rfl rfl,
   eq_nil_eql Try.underlying26,
   eq_nil_neq Try.underlying26,
   lenS_sl (by decide),
   ln_sl Try.underlying26,
   fun p => by kernel_rfl,
   fun p => by kernel_rfl,
   fun p => by kernel_rfl,
   fun p => by kernel_rfl,
   ld_one ag32,
   ld_one ag38,
   ix_one Try.underlying38 cs3,
   bs0 Try.underlying38 cs3 ze3 ⟨by kernel_rfl, by kernel_rfl⟩,
   fun H _ _ => bs1 Try.underlying38 cs3 ze3 ⟨by kernel_rfl, by kernel_rfl⟩ H rfl,
   fun H _ _ _ _ => bs2 Try.underlying38 cs3 ze3 ⟨by kernel_rfl, by kernel_rfl⟩ H rfl rfl,
   fun H _ _ _ _ _ _ => bs3 Try.underlying38 cs3 ze3 ⟨by kernel_rfl, by kernel_rfl⟩ H rfl rfl rfl,
   eq_nil_eql Try.underlying38,
   eq_nil_neq Try.underlying38,
   lenS_sl (by decide),
   ln_sl Try.underlying38,
   fun p k => ix_arr Try.underlying81 cs3 p k (by decide) (by decide),
   fun p k => ix_arr Try.underlying81 cs3 p k (by decide) (by decide),
   ld_one ag85,
   ld_one ag93,
   ld_one ag95,
   ld_one ag97,
   ld_one ag98,
   ld_one ag99,
   ld_one ag103,
   ld_one ag111,
   ld_one ag122,
   ld_one ag129,
   ld_one ag133,
   ix_one Try.underlying133 cs3,
   bs0 Try.underlying133 cs3 ze3 ⟨by kernel_rfl, by kernel_rfl⟩,
   fun H _ _ => bs1 Try.underlying133 cs3 ze3 ⟨by kernel_rfl, by kernel_rfl⟩ H rfl,
   fun H _ _ _ _ => bs2 Try.underlying133 cs3 ze3 ⟨by kernel_rfl, by kernel_rfl⟩ H rfl rfl,
   fun H _ _ _ _ _ _ => bs3 Try.underlying133 cs3 ze3 ⟨by kernel_rfl, by kernel_rfl⟩ H rfl rfl rfl,
   eq_nil_eql Try.underlying133,
   eq_nil_neq Try.underlying133,
   lenS_sl (by decide),
   ln_sl Try.underlying133,
   ld_one ag134,
   ld_one ag145,
   ld_one ag151,
   ld_one ag159,
   ld_one ag182,
   ld_one ag185,
   ld_one ag188,
   fun _ _ => by simp only [convA, Try.underlying3, Try.underlying5],
   fun _ _ => by simp only [convA, Try.underlying3, Try.underlying97],
   fun _ _ => by simp only [convA, Try.underlying3, Try.underlying98],
   fun _ _ => by simp only [convA, Try.underlying3, Try.underlying122],
   fun _ _ => by simp only [convA, Try.underlying3, Try.underlying182],
   fun _ _ => by simp only [convA, Try.underlying5, Try.underlying3],
   fun _ _ => by simp only [convA, Try.underlying5, Try.underlying97],
   fun _ _ => by simp only [convA, Try.underlying5, Try.underlying98],
   fun _ _ => by simp only [convA, Try.underlying5, Try.underlying122],
   fun _ _ => by simp only [convA, Try.underlying5, Try.underlying182],
   fun _ _ => by simp only [convA, Try.underlying97, Try.underlying3],
   fun _ _ => by simp only [convA, Try.underlying97, Try.underlying5],
   fun _ _ => by simp only [convA, Try.underlying97, Try.underlying98],
   fun _ _ => by simp only [convA, Try.underlying97, Try.underlying122],
   fun _ _ => by simp only [convA, Try.underlying97, Try.underlying182],
   fun _ _ => by simp only [convA, Try.underlying98, Try.underlying3],
   fun _ _ => by simp only [convA, Try.underlying98, Try.underlying5],
   fun _ _ => by simp only [convA, Try.underlying98, Try.underlying97],
   fun _ _ => by simp only [convA, Try.underlying98, Try.underlying122],
   fun _ _ => by simp only [convA, Try.underlying98, Try.underlying182],
   fun _ _ => by simp only [convA, Try.underlying122, Try.underlying3],
   fun _ _ => by simp only [convA, Try.underlying122, Try.underlying5],
   fun _ _ => by simp only [convA, Try.underlying122, Try.underlying97],
   fun _ _ => by simp only [convA, Try.underlying122, Try.underlying98],
   fun _ _ => by simp only [convA, Try.underlying122, Try.underlying182],
   fun _ _ => by simp only [convA, Try.underlying182, Try.underlying3],
   fun _ _ => by simp only [convA, Try.underlying182, Try.underlying5],
   fun _ _ => by simp only [convA, Try.underlying182, Try.underlying97],
   fun _ _ => by simp only [convA, Try.underlying182, Try.underlying98],
   fun _ _ => by simp only [convA, Try.underlying182, Try.underlying122]⟩
end Go.Proofs.Ytlfongfhbkefmaa.Ai
namespace Go.Proofs.Ytlfongfhbkefmaa.Ai
open Go Go.RowKit
set_option linter.unusedVariables false
set_option linter.unusedSimpArgs false
theorem alloc_a2 (H : AH) : allocA Try.prog 81 H = some (.pointer (some ⟨H.length, 0, none⟩), H ++ [.cells [.int .i64 0, .int .i64 0] 81 false]) := by kernel_rfl
theorem build_a2 (a b : Int) : buildA Try.prog 81 [(0, .int .i64 a), (1, .int .i64 b)] = some (.agg (List.toArray [.int .i64 a, .int .i64 b])) := by kernel_rfl
theorem store_a2 (H : AH) (vs : List Value) (hv : vs.length = 2) (a b : Value) : storeA Try.prog 81 (.pointer (some ⟨H.length, 0, none⟩)) (.agg (List.toArray [a, b])) (H ++ [.cells vs 81 false]) = some (H ++ [.cells [a, b] 81 false]) :=
  st_new rfl (by rw [cs81]; rfl) (by rw [cs81]; decide) (by rw [cs81]; exact hv)
theorem load_a2 (H : AH) (a b : Value) : loadA Try.prog 81 (.pointer (some ⟨H.length, 0, none⟩)) (H ++ [.cells [a, b] 81 false]) = some (.agg (List.toArray [a, b])) := by
  simp only [loadA, at_new, ag81, cs81]
  rfl
theorem end_cell (P : Program) (a : Nat) (t : TypeId) (R : Value → AH → Prop) (s : Sl) (H : AH) (v : Value) (h : loadA P t (s a) H = some v) (ht : isTup v = false) (hr : R v H) : endA P [.cell a t] R .ret s H := by
  simp only [endA, resA, h, ht]
  simp [outA]
  exact hr
theorem box_a2 (H : AH) (x y : Value) : boxA Try.prog 81 (.agg (List.toArray [x, y])) H = some (.pointer (some ⟨H.length, 0, none⟩), H ++ [.cells [x, y] 81 false]) := by kernel_rfl
theorem ld_a2 {H : AH} {o : Nat} {a b : Value} {e : TypeId} {ro : Bool} (ho : H[o]? = some (.cells [a, b] e ro)) : loadA Try.prog 81 (.pointer (some ⟨o, 0, none⟩)) H = some (.agg (List.toArray [a, b])) :=
  ld_two ag81 cs81 (by rw [cell_of ho]; rfl) (by rw [cell_of ho]; rfl)
end Go.Proofs.Ytlfongfhbkefmaa.Ai
namespace Go.Proofs.Ytlfongfhbkefmaa.Ai
open Go
end Go.Proofs.Ytlfongfhbkefmaa.Ai
namespace Go.Proofs.Ytlfongfhbkefmaa.Ai
open Go Go.RowKit
set_option linter.unusedVariables false
set_option linter.unusedSimpArgs false
theorem st_at {P : Program} {t e : TypeId} (hc : P.cellsOf t = 1) {H : AH} {o i : Nat} {vs : List Value} {y : Value} (ho : H[o]? = some (.cells vs e false)) (hi : i < vs.length) (h1 : isTup y = false) (h2 : y.cells.toList = [y]) :
    storeA P t (.pointer (some ⟨o, i, none⟩)) y H = some (H.set o (.cells (vs.set i y) e false)) := by
  simp only [storeA, ho]
  rw [h2, if_pos ⟨h1, by rw [hc]; rfl, by omega, by simp; omega⟩]
  have : putAt vs i [y] = vs.set i y := by
    unfold putAt
    rw [List.set_eq_take_append_cons_drop, if_pos hi]
    simp
  rw [this]
section
variable {e : TypeId} {G H : AH} {v : Value} {ps : List (Int × Int)}
end
end Go.Proofs.Ytlfongfhbkefmaa.Ai
namespace Go.Proofs.Ytlfongfhbkefmaa.Ai
open Go
def ords171 : List (Nat × List (Nat × Bool)) := []
def cd171 : Cd := (.seq (.reg [⟨⟨some 4, Op.assign (Operand.const (Value.bool false)), none⟩, []⟩]) (.seq (.reg [⟨⟨some 5, Op.move (Operand.tmp 0), none⟩, []⟩,
  ⟨⟨some 6, Op.move (Operand.tmp 1), none⟩, []⟩,
  ⟨⟨some 7, Op.binOp BinOp.shr 98 (Operand.tmp 5) (Operand.tmp 6) 3, none⟩, []⟩,
  ⟨⟨some 8, Op.binOp BinOp.and 98 (Operand.tmp 7) (Operand.const (Value.int IntKind.u64 1)) 98, none⟩, []⟩,
  ⟨⟨some 9, Op.binOp BinOp.eql 98 (Operand.tmp 8) (Operand.const (Value.int IntKind.u64 1)) 98, none⟩, []⟩,
  ⟨⟨some 4, Op.assign (Operand.tmp 9), none⟩, []⟩]) .ret))
theorem sl171 : slim Try.f171.ntmps ords171 (Try.f171.body.getD .skip) = some cd171 := by kernel_rfl
theorem in171 {args : List Value} {H : AH} {R : Value → AH → Prop} (hl : args.length = 2) (h : ∀ (Q : Exit → Sl → AH → Prop), (∀ e s H, endA Try.prog [ResultVar.tmp 4] R e s H → Q e s H) → wpC Try.prog cd171 Q (enterA args) H) : ACalls Try.prog 171 args H R :=
  ACalls.intro (by kernel_rfl) Try.func171 rfl (by kernel_rfl) sl171 hl (of_decide_eq_true (by kernel_rfl)) (by kernel_rfl) h
end Go.Proofs.Ytlfongfhbkefmaa.Ai
namespace Go.Proofs.Ytlfongfhbkefmaa.Ai
open Go Go.RowKit
set_option linter.unusedVariables false
set_option linter.unusedSimpArgs false
theorem ofInt_nat (n : Nat) (h : n < 2 ^ 64) : (BitVec.ofInt 64 (n : Int)).toNat = n := by
  rw [BitVec.ofInt_natCast, BitVec.toNat_ofNat, Nat.mod_eq_of_lt h]
theorem and_nat (a b : Nat) (ha : a < 2 ^ 64) (hb : b < 2 ^ 64) : bitsA .and .u64 (a : Int) (b : Int) = ((a &&& b : Nat) : Int) := by
  have h : a &&& b < 2 ^ 64 := Nat.lt_of_le_of_lt Nat.and_le_left ha
  have e : (BitVec.ofInt 64 (a : Int) &&& BitVec.ofInt 64 (b : Int)).toNat = a &&& b := by rw [BitVec.toNat_and, ofInt_nat a ha, ofInt_nat b hb]
  show IntKind.u64.wrap (((BitVec.ofInt 64 (a : Int) &&& BitVec.ofInt 64 (b : Int)).toNat : Nat) : Int) = _
  rw [e, IntKind.wrap_u64]; omega
theorem or_nat (a b : Nat) (ha : a < 2 ^ 64) (hb : b < 2 ^ 64) : bitsA .or .u64 (a : Int) (b : Int) = ((a ||| b : Nat) : Int) := by
  have h : a ||| b < 2 ^ 64 := Nat.or_lt_two_pow ha hb
  have e : (BitVec.ofInt 64 (a : Int) ||| BitVec.ofInt 64 (b : Int)).toNat = a ||| b := by rw [BitVec.toNat_or, ofInt_nat a ha, ofInt_nat b hb]
  show IntKind.u64.wrap (((BitVec.ofInt 64 (a : Int) ||| BitVec.ofInt 64 (b : Int)).toNat : Nat) : Int) = _
  rw [e, IntKind.wrap_u64]; omega
theorem shr_nat (a y : Nat) (hy : y ≤ 64) : (a : Int).fdiv (2 ^ (min (y : Int).toNat 64)) = ((a / 2 ^ y : Nat) : Int) := by
  rw [Int.toNat_natCast, Nat.min_eq_left hy]
  rw [Int.fdiv_eq_ediv_of_nonneg _ (Int.le_of_lt (Int.pow_pos (by decide)))]
  norm_cast
theorem bit_and (b y : Nat) : ((b / 2 ^ y) &&& 1 = 1) ↔ b.testBit y = true := by
  rw [Nat.testBit_eq_decide_div_mod_eq, Nat.and_one_is_mod]
  simp
theorem bin_shr (P : Program) (t : TypeId) (b y : Nat) (hy : y < 64) : binA P .shr t (.int .u64 (b : Int)) (.int .i64 (y : Int)) = some (.int .u64 ((b / 2 ^ y : Nat) : Int)) := by
  have : ¬ ((y : Int) < 0) := by omega
  simp only [binA, shiftA, this, if_false, IntKind.bits]
  rw [if_pos (.inr trivial)]
  have := shr_nat b y (by omega)
  simp only [this]
theorem bin_and (P : Program) (t : TypeId) (a b : Nat) (ha : a < 2 ^ 64) (hb : b < 2 ^ 64) : binA P .and t (.int .u64 (a : Int)) (.int .u64 (b : Int)) = some (.int .u64 ((a &&& b : Nat) : Int)) := by
  simp only [binA, intA, and_nat a b ha hb]
  simp
theorem bin_or (P : Program) (t : TypeId) (a b : Nat) (ha : a < 2 ^ 64) (hb : b < 2 ^ 64) : binA P .or t (.int .u64 (a : Int)) (.int .u64 (b : Int)) = some (.int .u64 ((a ||| b : Nat) : Int)) := by
  simp only [binA, intA, or_nat a b ha hb]
  simp
theorem bin_shl (P : Program) (t : TypeId) (y : Nat) (hy : y < 64) : binA P .shl t (.int .u64 1) (.int .i64 (y : Int)) = some (.int .u64 ((2 ^ y : Nat) : Int)) := by
  have h0 : ¬ ((y : Int) < 0) := by omega
  have h1 : 2 ^ y < 2 ^ 64 := Nat.pow_lt_pow_right (by decide) hy
  have h2 : (1 : Int) * 2 ^ (min (y : Int).toNat 64) = ((2 ^ y : Nat) : Int) := by
    rw [Int.toNat_natCast, Nat.min_eq_left (by omega), Int.one_mul]; norm_cast
  have h3 : binA P .shl t (.int .u64 1) (.int .i64 (y : Int)) = some (.int .u64 (IntKind.u64.wrap ((1 : Int) * 2 ^ (min (y : Int).toNat 64)))) := by
    simp only [binA, shiftA]
    rw [if_pos (.inl trivial), if_neg h0]; rfl
  have h4 : ((2 ^ y : Nat) : Int) % 18446744073709551616 = ((2 ^ y : Nat) : Int) := by
    generalize 2 ^ y = z at h1
    omega
  rw [h3, h2, IntKind.wrap_u64, h4]
theorem div_lt (b y : Nat) (hb : b < 2 ^ 64) : b / 2 ^ y < 2 ^ 64 := Nat.lt_of_le_of_lt (Nat.div_le_self _ _) hb
theorem has_c (b y : Nat) (H : AH) (hb : b < 2 ^ 64) (hy : y < 64) : ACalls Try.prog 171 [.int .u64 (b : Int), .int .i64 (y : Int)] H fun r H' => r = .bool (b.testBit y) ∧ H = H' := by
  refine in171 rfl ?_
  intro Q hQ
  have e1 := bin_shr Try.prog 98 b y hy
  have e2 : binA Try.prog .and 98 (.int .u64 ((b / 2 ^ y : Nat) : Int)) (.int .u64 1) = some (.int .u64 (((b / 2 ^ y) &&& 1 : Nat) : Int)) := bin_and Try.prog 98 (b / 2 ^ y) 1 (div_lt b y hb) (by decide)
  simp (maxSteps := 1000000) (disch := omega) only [cd171, e1, e2, S, S1, S2, S3, S4, S5, ST, eq_self, reduceIte, reduceCtorEq, Nat.reduceEqDiff, Nat.reduceAdd]
  refine hQ _ _ _ ?_
  simp (maxSteps := 1000000) (disch := omega) only [S, S1, S2, S3, S4, S5, ST, eq_self, reduceIte, reduceCtorEq, Nat.reduceEqDiff, Nat.reduceAdd]
  have : ((((b / 2 ^ y) &&& 1 : Nat) : Int) = 1) ↔ b.testBit y = true := by
    rw [← bit_and]; omega
  simp only [this]
  simp
/-- a word that is a set of numbers below L -/
def Bits (b : Nat) (L : Nat) (s : List Int) : Prop := b < 256 ∧ ∀ z, z < L → b.testBit z = decide ((z : Int) ∈ s)
theorem Bits.or {b L y : Nat} {s : List Int} (h : Bits b L s) (hy : y < 8) : Bits (b ||| 2 ^ y) L (s ++ [(y : Int)]) := by
  refine ⟨?_, fun z hz => ?_⟩
  · have h1 : 2 ^ y < 2 ^ 8 := Nat.pow_lt_pow_right (by decide) hy
    exact Nat.or_lt_two_pow (n := 8) h.1 h1
  · rw [Nat.testBit_or, h.2 z hz, Nat.testBit_two_pow]
    have e : (y = z) ↔ ((z : Int) = y) := by omega
    by_cases hm : (z : Int) ∈ s <;> by_cases hz2 : y = z <;> simp [hm, hz2, e]
    · intro hh; exact hz2 (by omega)
end Go.Proofs.Ytlfongfhbkefmaa.Ai
namespace Go.Proofs.Ytlfongfhbkefmaa.Ai
open Go
end Go.Proofs.Ytlfongfhbkefmaa.Ai
namespace Go.Proofs.Ytlfongfhbkefmaa.Ai
open Go Go.RowKit
set_option linter.unusedVariables false
set_option linter.unusedSimpArgs false
theorem bin_shrU (P : Program) (t : TypeId) (b y : Nat) (hy : y < 64) : binA P .shr t (.int .u64 (b : Int)) (.int .u64 (y : Int)) = some (.int .u64 ((b / 2 ^ y : Nat) : Int)) := by
  have : ¬ ((y : Int) < 0) := by omega
  simp only [binA, shiftA, this, if_false, IntKind.bits]
  rw [if_pos (.inr trivial)]
  have := shr_nat b y (by omega)
  simp only [this]
end Go.Proofs.Ytlfongfhbkefmaa.Ai
namespace Go.Proofs.Ytlfongfhbkefmaa.Ai
open Go
def ords200 : List (Nat × List (Nat × Bool)) := [(2, [(0, false), (1, false), (2, false), (3, false), (4, false), (5, false), (6, false), (7, false), (8, false), (9, false)]), (3, [(0, false), (1, false), (2, false), (3, false), (4, false), (5, false), (6, false), (7, false), (8, false), (9, false), (10, false), (11, false)]), (6, [(0, false), (1, false), (2, false), (3, false), (4, false), (5, false), (6, false), (7, false), (8, false), (9, false)])]
def cd200 : Cd := (.seq (.reg [⟨⟨some 2, Op.assign (Operand.const (Value.int IntKind.i64 0)), none⟩, []⟩]) (.seq (.reg [⟨⟨some 3, Op.assign (Operand.const (Value.int IntKind.i64 0)), none⟩, []⟩]) (.seq (.seq (.reg [⟨⟨some 4, Op.move (Operand.tmp 0), none⟩, []⟩,
  ⟨⟨some 5, Op.nilCheck (Operand.tmp 4), none⟩, []⟩,
  ⟨⟨some 6, Op.fieldAddr 124 (Operand.tmp 5) 1, none⟩, []⟩,
  ⟨⟨some 7, Op.load 3 (Operand.tmp 6), none⟩, []⟩,
  ⟨⟨some 8, Op.move (Operand.tmp 0), none⟩, []⟩,
  ⟨⟨some 9, Op.nilCheck (Operand.tmp 8), none⟩, []⟩,
  ⟨⟨some 10, Op.fieldAddr 124 (Operand.tmp 9) 0, none⟩, []⟩,
  ⟨⟨some 11, Op.load 56 (Operand.tmp 10), none⟩, []⟩,
  ⟨⟨some 12, Op.call { callee := (Callee.builtin Builtin.len), args := #[(Operand.tmp 11)], argTypes := #[56] }, none⟩, []⟩,
  ⟨⟨some 13, Op.binOp BinOp.lss 3 (Operand.tmp 7) (Operand.tmp 12) 3, none⟩, []⟩]) (.cond (Operand.tmp 13) (.reg [⟨⟨some 14, Op.move (Operand.tmp 0), none⟩, []⟩,
  ⟨⟨some 15, Op.nilCheck (Operand.tmp 14), none⟩, []⟩,
  ⟨⟨some 16, Op.fieldAddr 124 (Operand.tmp 15) 0, none⟩, []⟩,
  ⟨⟨some 17, Op.load 56 (Operand.tmp 16), none⟩, []⟩,
  ⟨⟨some 18, Op.move (Operand.tmp 0), none⟩, []⟩,
  ⟨⟨some 19, Op.nilCheck (Operand.tmp 18), none⟩, []⟩,
  ⟨⟨some 20, Op.fieldAddr 124 (Operand.tmp 19) 1, none⟩, []⟩,
  ⟨⟨some 21, Op.load 3 (Operand.tmp 20), none⟩, []⟩,
  ⟨⟨some 22, Op.indexAddr 56 (Operand.tmp 17) (Operand.tmp 21), none⟩, []⟩,
  ⟨⟨some 23, Op.load 5 (Operand.tmp 22), none⟩, []⟩,
  ⟨⟨some 24, Op.convert 5 3 (Operand.tmp 23), none⟩, []⟩,
  ⟨⟨some 3, Op.assign (Operand.tmp 24), none⟩, []⟩]) .skip)) (.seq (.reg [⟨⟨some 25, Op.move (Operand.tmp 0), none⟩, []⟩,
  ⟨⟨some 26, Op.nilCheck (Operand.tmp 25), none⟩, []⟩,
  ⟨⟨some 27, Op.fieldAddr 124 (Operand.tmp 26) 1, none⟩, []⟩,
  ⟨⟨some 28, Op.load 3 (Operand.tmp 27), none⟩, []⟩,
  ⟨⟨some 29, Op.binOp BinOp.add 3 (Operand.tmp 28) (Operand.const (Value.int IntKind.i64 1)) 3, none⟩, []⟩,
  ⟨⟨some 30, Op.nilCheck (Operand.tmp 25), none⟩, []⟩,
  ⟨⟨some 31, Op.fieldAddr 124 (Operand.tmp 30) 1, none⟩, []⟩,
  ⟨⟨none, Op.store 3 (Operand.tmp 31) (Operand.tmp 29), none⟩, []⟩]) (.seq (.reg [⟨⟨some 32, Op.move (Operand.tmp 0), none⟩, []⟩,
  ⟨⟨some 33, Op.move (Operand.tmp 0), none⟩, []⟩,
  ⟨⟨some 34, Op.nilCheck (Operand.tmp 33), none⟩, []⟩,
  ⟨⟨some 35, Op.fieldAddr 124 (Operand.tmp 34) 2, none⟩, []⟩,
  ⟨⟨some 36, Op.load 122 (Operand.tmp 35), none⟩, []⟩,
  ⟨⟨some 37, Op.binOp BinOp.mul 122 (Operand.tmp 36) (Operand.const (Value.int IntKind.u64 6364136223846793005)) 122, none⟩, []⟩,
  ⟨⟨some 38, Op.move (Operand.tmp 3), none⟩, []⟩,
  ⟨⟨some 39, Op.convert 3 122 (Operand.tmp 38), none⟩, []⟩,
  ⟨⟨some 40, Op.binOp BinOp.add 122 (Operand.tmp 37) (Operand.tmp 39) 122, none⟩, []⟩,
  ⟨⟨some 41, Op.binOp BinOp.add 122 (Operand.tmp 40) (Operand.const (Value.int IntKind.u64 462197)) 122, none⟩, []⟩,
  ⟨⟨some 42, Op.nilCheck (Operand.tmp 32), none⟩, []⟩,
  ⟨⟨some 43, Op.fieldAddr 124 (Operand.tmp 42) 2, none⟩, []⟩,
  ⟨⟨none, Op.store 122 (Operand.tmp 43) (Operand.tmp 41), none⟩, []⟩]) (.seq (.seq (.reg [⟨⟨some 44, Op.move (Operand.tmp 0), none⟩, []⟩,
  ⟨⟨some 45, Op.nilCheck (Operand.tmp 44), none⟩, []⟩,
  ⟨⟨some 46, Op.fieldAddr 124 (Operand.tmp 45) 1, none⟩, []⟩,
  ⟨⟨some 47, Op.load 3 (Operand.tmp 46), none⟩, []⟩,
  ⟨⟨some 48, Op.move (Operand.tmp 0), none⟩, []⟩,
  ⟨⟨some 49, Op.nilCheck (Operand.tmp 48), none⟩, []⟩,
  ⟨⟨some 50, Op.fieldAddr 124 (Operand.tmp 49) 0, none⟩, []⟩,
  ⟨⟨some 51, Op.load 56 (Operand.tmp 50), none⟩, []⟩,
  ⟨⟨some 52, Op.call { callee := (Callee.builtin Builtin.len), args := #[(Operand.tmp 51)], argTypes := #[56] }, none⟩, []⟩,
  ⟨⟨some 53, Op.binOp BinOp.leq 3 (Operand.tmp 47) (Operand.tmp 52) 3, none⟩, []⟩]) (.cond (Operand.tmp 53) (.seq (.reg [⟨⟨some 54, Op.move (Operand.tmp 3), none⟩, []⟩,
  ⟨⟨some 2, Op.assign (Operand.tmp 54), none⟩, []⟩]) .ret) .skip)) (.seq (.reg [⟨⟨some 55, Op.move (Operand.tmp 0), none⟩, []⟩,
  ⟨⟨some 56, Op.nilCheck (Operand.tmp 55), none⟩, []⟩,
  ⟨⟨some 57, Op.fieldAddr 124 (Operand.tmp 56) 2, none⟩, []⟩,
  ⟨⟨some 58, Op.load 122 (Operand.tmp 57), none⟩, []⟩,
  ⟨⟨some 59, Op.binOp BinOp.shr 122 (Operand.tmp 58) (Operand.const (Value.int IntKind.u64 40)) 97, none⟩, []⟩,
  ⟨⟨some 60, Op.binOp BinOp.and 122 (Operand.tmp 59) (Operand.const (Value.int IntKind.u64 255)) 122, none⟩, []⟩,
  ⟨⟨some 61, Op.convert 122 3 (Operand.tmp 60), none⟩, []⟩,
  ⟨⟨some 2, Op.assign (Operand.tmp 61), none⟩, []⟩]) .ret)))))))
theorem sl200 : slim Try.f200.ntmps ords200 (Try.f200.body.getD .skip) = some cd200 := by kernel_rfl
theorem in200 {args : List Value} {H : AH} {R : Value → AH → Prop} (hl : args.length = 1) (h : ∀ (Q : Exit → Sl → AH → Prop), (∀ e s H, endA Try.prog [ResultVar.tmp 2] R e s H → Q e s H) → wpC Try.prog cd200 Q (enterA args) H) : ACalls Try.prog 200 args H R :=
  ACalls.intro (by kernel_rfl) Try.func200 rfl (by kernel_rfl) sl200 hl (of_decide_eq_true (by kernel_rfl)) (by kernel_rfl) h
def ords133 : List (Nat × List (Nat × Bool)) := []
def cd133 : Cd := (.seq (.reg [⟨⟨some 4, Op.assign (Operand.const (Value.int IntKind.i64 0)), none⟩, []⟩]) (.seq (.seq (.reg [⟨⟨some 6, Op.move (Operand.tmp 1), none⟩, []⟩,
  ⟨⟨some 7, Op.binOp BinOp.leq 3 (Operand.tmp 6) (Operand.const (Value.int IntKind.i64 1)) 3, none⟩, []⟩]) (.cond (Operand.tmp 7) (.seq (.reg [⟨⟨some 4, Op.assign (Operand.const (Value.int IntKind.i64 0)), none⟩, []⟩]) .ret) .skip)) (.seq (.reg [⟨⟨some 8, Op.move (Operand.tmp 0), none⟩, []⟩,
  ⟨⟨some 9, Op.call { callee := (Callee.value (Operand.func 200)), args := #[(Operand.tmp 8)], argTypes := #[121] }, none⟩, []⟩,
  ⟨⟨some 5, Op.assign (Operand.tmp 9), none⟩, []⟩]) (.seq (.seq (.reg [⟨⟨some 10, Op.move (Operand.tmp 1), none⟩, []⟩,
  ⟨⟨some 11, Op.binOp BinOp.gtr 3 (Operand.tmp 10) (Operand.const (Value.int IntKind.i64 200)) 3, none⟩, []⟩]) (.cond (Operand.tmp 11) (.reg [⟨⟨some 12, Op.move (Operand.tmp 5), none⟩, []⟩,
  ⟨⟨some 13, Op.binOp BinOp.mul 3 (Operand.tmp 12) (Operand.const (Value.int IntKind.i64 256)) 3, none⟩, []⟩,
  ⟨⟨some 14, Op.move (Operand.tmp 0), none⟩, []⟩,
  ⟨⟨some 15, Op.call { callee := (Callee.value (Operand.func 200)), args := #[(Operand.tmp 14)], argTypes := #[121] }, none⟩, []⟩,
  ⟨⟨some 16, Op.binOp BinOp.add 3 (Operand.tmp 13) (Operand.tmp 15) 3, none⟩, []⟩,
  ⟨⟨some 5, Op.assign (Operand.tmp 16), none⟩, []⟩]) .skip)) (.seq (.reg [⟨⟨some 17, Op.move (Operand.tmp 5), none⟩, []⟩,
  ⟨⟨some 18, Op.move (Operand.tmp 1), none⟩, []⟩,
  ⟨⟨some 19, Op.binOp BinOp.rem 3 (Operand.tmp 17) (Operand.tmp 18) 3, none⟩, []⟩,
  ⟨⟨some 4, Op.assign (Operand.tmp 19), none⟩, []⟩]) .ret)))))
theorem sl133 : slim Try.f133.ntmps ords133 (Try.f133.body.getD .skip) = some cd133 := by kernel_rfl
theorem in133 {args : List Value} {H : AH} {R : Value → AH → Prop} (hl : args.length = 2) (h : ∀ (Q : Exit → Sl → AH → Prop), (∀ e s H, endA Try.prog [ResultVar.tmp 4] R e s H → Q e s H) → wpC Try.prog cd133 Q (enterA args) H) : ACalls Try.prog 133 args H R :=
  ACalls.intro (by kernel_rfl) Try.func133 rfl (by kernel_rfl) sl133 hl (of_decide_eq_true (by kernel_rfl)) (by kernel_rfl) h
def ords134 : List (Nat × List (Nat × Bool)) := []
def cd134 : Cd := (.seq (.reg [⟨⟨some 4, Op.assign (Operand.const (Value.bool false)), none⟩, []⟩]) (.seq (.reg [⟨⟨some 5, Op.move (Operand.tmp 0), none⟩, []⟩,
  ⟨⟨some 6, Op.move (Operand.tmp 1), none⟩, []⟩,
  ⟨⟨some 7, Op.call { callee := (Callee.value (Operand.func 133)), args := #[(Operand.tmp 5), (Operand.tmp 6)], argTypes := #[121, 3] }, none⟩, []⟩,
  ⟨⟨some 8, Op.binOp BinOp.eql 3 (Operand.tmp 7) (Operand.const (Value.int IntKind.i64 0)) 3, none⟩, []⟩,
  ⟨⟨some 4, Op.assign (Operand.tmp 8), none⟩, []⟩]) .ret))
theorem sl134 : slim Try.f134.ntmps ords134 (Try.f134.body.getD .skip) = some cd134 := by kernel_rfl
theorem in134 {args : List Value} {H : AH} {R : Value → AH → Prop} (hl : args.length = 2) (h : ∀ (Q : Exit → Sl → AH → Prop), (∀ e s H, endA Try.prog [ResultVar.tmp 4] R e s H → Q e s H) → wpC Try.prog cd134 Q (enterA args) H) : ACalls Try.prog 134 args H R :=
  ACalls.intro (by kernel_rfl) Try.func134 rfl (by kernel_rfl) sl134 hl (of_decide_eq_true (by kernel_rfl)) (by kernel_rfl) h
def ords137 : List (Nat × List (Nat × Bool)) := []
def cd137 : Cd := (.seq (.reg [⟨⟨some 4, Op.assign (Operand.const (Value.int IntKind.i64 0)), none⟩, []⟩]) (.seq (.reg [⟨⟨some 5, Op.move (Operand.tmp 1), none⟩, []⟩,
  ⟨⟨some 6, Op.move (Operand.tmp 0), none⟩, []⟩,
  ⟨⟨some 7, Op.move (Operand.tmp 1), none⟩, []⟩,
  ⟨⟨some 8, Op.call { callee := (Callee.builtin Builtin.len), args := #[(Operand.tmp 7)], argTypes := #[38] }, none⟩, []⟩,
  ⟨⟨some 9, Op.call { callee := (Callee.value (Operand.func 133)), args := #[(Operand.tmp 6), (Operand.tmp 8)], argTypes := #[121, 3] }, none⟩, []⟩,
  ⟨⟨some 10, Op.indexAddr 38 (Operand.tmp 5) (Operand.tmp 9), none⟩, []⟩,
  ⟨⟨some 11, Op.load 3 (Operand.tmp 10), none⟩, []⟩,
  ⟨⟨some 4, Op.assign (Operand.tmp 11), none⟩, []⟩]) .ret))
theorem sl137 : slim Try.f137.ntmps ords137 (Try.f137.body.getD .skip) = some cd137 := by kernel_rfl
theorem in137 {args : List Value} {H : AH} {R : Value → AH → Prop} (hl : args.length = 2) (h : ∀ (Q : Exit → Sl → AH → Prop), (∀ e s H, endA Try.prog [ResultVar.tmp 4] R e s H → Q e s H) → wpC Try.prog cd137 Q (enterA args) H) : ACalls Try.prog 137 args H R :=
  ACalls.intro (by kernel_rfl) Try.func137 rfl (by kernel_rfl) sl137 hl (of_decide_eq_true (by kernel_rfl)) (by kernel_rfl) h
end Go.Proofs.Ytlfongfhbkefmaa.Ai
namespace Go.Proofs.Ytlfongfhbkefmaa.Ai
open Go Go.RowKit
set_option linter.unusedVariables false
set_option linter.unusedSimpArgs false
theorem fa_cur (p : Addr) : fieldAddrA Try.prog 124 (.pointer (some p)) 0 = some (.pointer (some ⟨p.block, p.off, none⟩)) ∧ fieldAddrA Try.prog 124 (.pointer (some p)) 1 = some (.pointer (some ⟨p.block, p.off + 1, none⟩)) ∧ fieldAddrA Try.prog 124 (.pointer (some p)) 2 = some (.pointer (some ⟨p.block, p.off + 2, none⟩)) := ⟨by kernel_rfl, by kernel_rfl, by kernel_rfl⟩
theorem cs_u8 : Try.prog.cellsOf 5 = 1 := by kernel_rfl
theorem cs_u64 : Try.prog.cellsOf 122 = 1 := by kernel_rfl
theorem ag_u8 : isAggA Try.prog 5 = some false := by kernel_rfl
theorem ag_u64 : isAggA Try.prog 122 = some false := by kernel_rfl
theorem ag_by : isAggA Try.prog 56 = some false := by kernel_rfl
theorem len_by : ∀ x H, lenS Try.prog 56 x H = lenA Try.prog 56 x := lenS_sl (by decide)
theorem nilP (p : Addr) : nilA (.pointer (some p)) = some (.pointer (some p)) := rfl
/-- a cursor in memory, over some bytes; it has gone N bytes at most -/
structure Cur (H : AH) (o : Nat) (v : Value) (us : List Value) (N : Nat) : Prop where
  cur : ∃ at_ seed : Nat, H[o]? = some (.cells [v, .int .i64 (at_ : Int), .int .u64 (seed : Int)] 124 false) ∧ at_ ≤ N ∧ seed < 2 ^ 64
  row : RowV 5 H v us
  byt : ∀ i, i < us.length → ∃ b : Nat, us.getD i undef = .int .u8 (b : Int) ∧ b < 256
  ap : v = .slice none 0 0 ∨ rowO v ≠ o
  le : us.length ≤ 1048576
/-- one object changes -/
def OnlyO (o : Nat) (H H' : AH) : Prop := H'.length = H.length ∧ ∀ (j : Nat) (y : AObj), j ≠ o → H[j]? = some y → H'[j]? = some y
theorem OnlyO.trans {o : Nat} {H H' H'' : AH} (h : OnlyO o H H') (k : OnlyO o H' H'') : OnlyO o H H'' := ⟨k.1.trans h.1, fun j y hj hy => k.2 j y hj (h.2 j y hj hy)⟩
theorem OnlyO.refl (o : Nat) (H : AH) : OnlyO o H H := ⟨rfl, fun _ _ _ h => h⟩
theorem Cur.more {H : AH} {o : Nat} {v : Value} {us : List Value} {N M : Nat} (h : Cur H o v us N) (hm : N ≤ M) : Cur H o v us M := by
  obtain ⟨a, s, h1, h2, h3⟩ := h.cur
  exact ⟨⟨a, s, h1, by omega, h3⟩, h.row, h.byt, h.ap, h.le⟩
theorem Cur.pre {H H' : AH} {o : Nat} {v : Value} {us : List Value} {N : Nat} (h : Cur H o v us N) (hp : H <+: H') : Cur H' o v us N := by
  obtain ⟨a, s, h1, h2, h3⟩ := h.cur
  exact ⟨⟨a, s, pre_at hp h1, h2, h3⟩, h.row.pre hp, h.byt, h.ap, h.le⟩
set_option maxRecDepth 20000 in
set_option maxHeartbeats 4000000 in
theorem next_c {H : AH} {o : Nat} {v : Value} {us : List Value} {N : Nat} (h : Cur H o v us N) (hN : N ≤ 1000000000) :
    ACalls Try.prog 200 [.pointer (some ⟨o, 0, none⟩)] H fun r H' => (∃ x : Nat, r = .int .i64 (x : Int) ∧ x < 256) ∧ Cur H' o v us (N + 1) ∧ OnlyO o H H' := by
  obtain ⟨at_, seed, ho, hat, hs⟩ := h.cur
  have hle := h.le
  have hol := at_lt ho
  refine in200 rfl ?_
  intro Q hQ
  -- the end, from a byte on
  have fin : ∀ (b : Nat), b < 256 → ∀ z : Int, 0 ≤ z → z < 18446744073709551616 → ∀ H2 : AH, H2 = (H.set o (.cells [v, .int .i64 ((at_ + 1 : Nat) : Int), .int .u64 (seed : Int)] 124 false)).set o (.cells [v, .int .i64 ((at_ + 1 : Nat) : Int), .int .u64 z] 124 false) → Cur H2 o v us (N + 1) ∧ OnlyO o H H2 := by
    intro b hb z z0 z1 H2 e
    have only : OnlyO o H H2 := by
      subst e
      refine ⟨by simp, fun j y hj hy => ?_⟩
      rw [List.getElem?_set_ne (fun e => hj e.symm), List.getElem?_set_ne (fun e => hj e.symm)]
      exact hy
    refine ⟨⟨⟨at_ + 1, z.toNat, ?_, by omega, by omega⟩, ?_, h.byt, h.ap, hle⟩, only⟩
    · subst e
      rw [List.getElem?_set_self (by simpa using hol), Int.toNat_of_nonneg z0]
    · rcases h.row with q | q
      · exact .inl q
      · refine RowV.mono (.inr q) fun y hy => ?_
        rcases h.ap with g | g
        · obtain ⟨o', k', _, _, g1, _⟩ := q
          rw [g] at g1; cases g1
        · exact only.2 _ _ g hy
  have s1 := st_at (P := Try.prog) (t := 3) (i := 1) (y := .int .i64 ((at_ + 1 : Nat) : Int)) cs3 ho (by show 1 < 3; decide) rfl rfl
  have hw1 : IntKind.i64.wrap ((at_ : Int) + 1) = ((at_ + 1 : Nat) : Int) := by rw [wrap64 (by omega) (by omega)]; omega
  have c1 : (H.set o (.cells ([v, .int .i64 (at_ : Int), .int .u64 (seed : Int)].set 1 (.int .i64 ((at_ + 1 : Nat) : Int))) 124 false))[o]? = some (.cells [v, .int .i64 ((at_ + 1 : Nat) : Int), .int .u64 (seed : Int)] 124 false) := by
    rw [List.getElem?_set_self hol]; rfl
  have fa := fun p => fa_cur p
  generalize hK : H.set o (.cells ([v, .int .i64 (at_ : Int), .int .u64 (seed : Int)].set 1 (.int .i64 ((at_ + 1 : Nat) : Int))) 124 false) = K at s1 c1
  have hK2 : K = H.set o (.cells [v, .int .i64 ((at_ + 1 : Nat) : Int), .int .u64 (seed : Int)] 124 false) := by rw [← hK]; rfl
  rw [← hK2] at fin
  have s2 : ∀ z : Int, storeA Try.prog 122 (.pointer (some ⟨o, 2, none⟩)) (.int .u64 z) K = some (K.set o (.cells [v, .int .i64 ((at_ + 1 : Nat) : Int), .int .u64 z] 124 false)) := fun z =>
    st_at (P := Try.prog) (t := 122) (i := 2) (y := .int .u64 z) cs_u64 c1 (by show 2 < 3; decide) rfl rfl
  have hKl : o < K.length := at_lt c1
  have c2 : ∀ z : Int, (K.set o (.cells [v, .int .i64 ((at_ + 1 : Nat) : Int), .int .u64 z] 124 false))[o]? = some (.cells [v, .int .i64 ((at_ + 1 : Nat) : Int), .int .u64 z] 124 false) := fun z => List.getElem?_set_self hKl
  have wz : ∀ y : Int, 0 ≤ IntKind.u64.wrap y ∧ IntKind.u64.wrap y < 18446744073709551616 := fun y => by rw [IntKind.wrap_u64]; omega
  simp (maxSteps := 1000000) (disch := omega) only [cd200, nilP, (fa_cur _).1, (fa_cur _).2.1, (fa_cur _).2.2, ld_one ag_by, ld_one ag_u8, ld_one ag_u64, cell_of ho, len_by, h.row.len Try.underlying56, S, S1, S2, S3, S4, S5, ST, eq_self, reduceIte, reduceCtorEq, Nat.reduceEqDiff, Nat.reduceAdd]
  refine brD.intro (fun g => ?_) (fun g => ?_)
  · have hi : at_ < us.length := by omega
    obtain ⟨b, hb1, hb2⟩ := h.byt at_ hi
    have hc := h.row.cell hi
    rw [hb1] at hc
    simp (maxSteps := 1000000) (disch := omega) only [nilP, (fa_cur _).1, (fa_cur _).2.1, (fa_cur _).2.2, ld_one ag_by, ld_one ag_u8, ld_one ag_u64, cell_of ho, h.row.ix Try.underlying56 cs_u8, Int.toNat_natCast, hc, hw1, s1, cell_of c1, s2, S, S1, S2, S3, S4, S5, ST, eq_self, reduceIte, reduceCtorEq, Nat.reduceEqDiff, Nat.reduceAdd]
    generalize hzz : IntKind.u64.wrap (IntKind.u64.wrap (IntKind.u64.wrap ((seed : Int) * 6364136223846793005) + IntKind.u64.wrap (IntKind.i64.wrap (b : Int))) + 462197) = z
    have hz : 0 ≤ z ∧ z < 18446744073709551616 := by rw [← hzz]; exact wz _
    obtain ⟨q1, q2⟩ := fin b hb2 z hz.1 hz.2 _ rfl
    have hw2 : IntKind.i64.wrap (b : Int) = (b : Int) := wrap64 (by omega) (by omega)
    simp (maxSteps := 1000000) (disch := omega) only [nilP, (fa_cur _).1, (fa_cur _).2.1, (fa_cur _).2.2, ld_one ag_by, ld_one ag_u64, cell_of (c2 z), len_by, h.row.len Try.underlying56, S, S1, S2, S3, S4, S5, ST, eq_self, reduceIte, reduceCtorEq, Nat.reduceEqDiff, Nat.reduceAdd]
    refine brD.intro (fun g2 => ?_) (fun g2 => absurd (show ((at_ + 1 : Nat) : Int) ≤ (us.length : Int) by omega) g2)
    simp (maxSteps := 1000000) (disch := omega) only [hw2, S, S1, S2, S3, S4, S5, ST, eq_self, reduceIte, reduceCtorEq, Nat.reduceEqDiff, Nat.reduceAdd]
    refine hQ _ _ _ ?_
    simp (maxSteps := 1000000) (disch := omega) only [S, S1, S2, S3, S4, S5, ST, eq_self, reduceIte, reduceCtorEq, Nat.reduceEqDiff, Nat.reduceAdd]
    exact ⟨⟨b, rfl, hb2⟩, q1, q2⟩
  · simp (maxSteps := 1000000) (disch := omega) only [nilP, (fa_cur _).1, (fa_cur _).2.1, (fa_cur _).2.2, ld_one ag_by, ld_one ag_u8, ld_one ag_u64, cell_of ho, hw1, s1, cell_of c1, s2, S, S1, S2, S3, S4, S5, ST, eq_self, reduceIte, reduceCtorEq, Nat.reduceEqDiff, Nat.reduceAdd]
    generalize hzz : IntKind.u64.wrap (IntKind.u64.wrap (IntKind.u64.wrap ((seed : Int) * 6364136223846793005) + IntKind.u64.wrap 0) + 462197) = z
    have hz : 0 ≤ z ∧ z < 18446744073709551616 := by rw [← hzz]; exact wz _
    obtain ⟨q1, q2⟩ := fin 0 (by omega) z hz.1 hz.2 _ rfl
    obtain ⟨zn, rfl⟩ : ∃ k : Nat, z = k := ⟨z.toNat, by omega⟩
    simp (maxSteps := 1000000) (disch := omega) only [nilP, (fa_cur _).1, (fa_cur _).2.1, (fa_cur _).2.2, ld_one ag_by, ld_one ag_u64, cell_of (c2 _), len_by, h.row.len Try.underlying56, S, S1, S2, S3, S4, S5, ST, eq_self, reduceIte, reduceCtorEq, Nat.reduceEqDiff, Nat.reduceAdd]
    refine brD.intro (fun g2 => absurd g2 (by omega)) (fun g2 => ?_)
    have k1 : binA Try.prog .shr 122 (.int .u64 (zn : Int)) (.int .u64 40) = some (.int .u64 ((zn / 2 ^ 40 : Nat) : Int)) := bin_shrU _ _ zn 40 (by decide)
    have hd : zn / 2 ^ 40 < 2 ^ 64 := Nat.lt_of_le_of_lt (Nat.div_le_self _ _) (by omega)
    have k2 : binA Try.prog .and 122 (.int .u64 ((zn / 2 ^ 40 : Nat) : Int)) (.int .u64 255) = some (.int .u64 ((zn / 2 ^ 40 &&& 255 : Nat) : Int)) := bin_and _ _ _ 255 hd (by decide)
    have hle2 : zn / 2 ^ 40 &&& 255 ≤ 255 := Nat.and_le_right
    generalize zn / 2 ^ 40 &&& 255 = r at *
    have c3 : convA Try.prog 122 3 (.int .u64 (r : Int)) = some (.int .i64 (r : Int)) := by
      simp only [convA, Try.underlying122, Try.underlying3]
      rw [wrap64 (by omega) (by omega)]
    simp (maxSteps := 1000000) (disch := omega) only [nilP, (fa_cur _).1, (fa_cur _).2.1, (fa_cur _).2.2, ld_one ag_u64, cell_of (c2 _), k1, k2, c3, S, S1, S2, S3, S4, S5, ST, eq_self, reduceIte, reduceCtorEq, Nat.reduceEqDiff, Nat.reduceAdd]
    refine hQ _ _ _ ?_
    simp (maxSteps := 1000000) (disch := omega) only [S, S1, S2, S3, S4, S5, ST, eq_self, reduceIte, reduceCtorEq, Nat.reduceEqDiff, Nat.reduceAdd]
    exact ⟨⟨r, rfl, by omega⟩, q1, q2⟩
set_option maxHeartbeats 1000000 in
theorem pick_c {H : AH} {o : Nat} {v : Value} {us : List Value} {N : Nat} (h : Cur H o v us N) (hN : N ≤ 1000000000) (n : Int) (hn : n ≤ 200) :
    ACalls Try.prog 133 [.pointer (some ⟨o, 0, none⟩), .int .i64 n] H fun r H' => (∃ x : Nat, r = .int .i64 (x : Int) ∧ ((x : Int) < n ∨ x = 0)) ∧ Cur H' o v us (N + 1) ∧ OnlyO o H H' := by
  refine in133 rfl ?_
  intro Q hQ
  simp (maxSteps := 1000000) (disch := omega) only [cd133, S, S1, S2, S3, S4, S5, ST, eq_self, reduceIte, reduceCtorEq, Nat.reduceEqDiff, Nat.reduceAdd]
  refine brD.intro (fun g => ?_) (fun g => ?_)
  · simp (maxSteps := 1000000) (disch := omega) only [S, S1, S2, S3, S4, S5, ST, eq_self, reduceIte, reduceCtorEq, Nat.reduceEqDiff, Nat.reduceAdd]
    refine hQ _ _ _ ?_
    simp (maxSteps := 1000000) (disch := omega) only [S, S1, S2, S3, S4, S5, ST, eq_self, reduceIte, reduceCtorEq, Nat.reduceEqDiff, Nat.reduceAdd]
    exact ⟨⟨0, rfl, .inr rfl⟩, h.more (by omega), OnlyO.refl o H⟩
  simp (maxSteps := 1000000) (disch := omega) only [S, S1, S2, S3, S4, S5, ST, eq_self, reduceIte, reduceCtorEq, Nat.reduceEqDiff, Nat.reduceAdd]
  refine CallH.by (next_c h hN) ?_
  rintro _ K ⟨⟨x, rfl, hx⟩, hK, oK⟩
  have hn0 : n ≠ 0 := by omega
  have hmod : (x : Int).tmod n = ((x % n.toNat : Nat) : Int) := by
    rw [Int.tmod_eq_emod_of_nonneg (by omega)]
    have : n = (n.toNat : Int) := by omega
    conv => lhs; rw [this]
    exact (Int.natCast_emod x n.toNat).symm
  simp (maxSteps := 1000000) (disch := omega) only [S, S1, S2, S3, S4, S5, ST, eq_self, reduceIte, reduceCtorEq, Nat.reduceEqDiff, Nat.reduceAdd]
  refine brD.intro (fun g2 => absurd g2 (by omega)) (fun g2 => ?_)
  simp (maxSteps := 1000000) (disch := omega) only [hn0, hmod, S, S1, S2, S3, S4, S5, ST, eq_self, reduceIte, reduceCtorEq, Nat.reduceEqDiff, Nat.reduceAdd]
  refine hQ _ _ _ ?_
  simp (maxSteps := 1000000) (disch := omega) only [S, S1, S2, S3, S4, S5, ST, eq_self, reduceIte, reduceCtorEq, Nat.reduceEqDiff, Nat.reduceAdd]
  have := Nat.mod_lt x (show 0 < n.toNat by omega)
  exact ⟨⟨x % n.toNat, rfl, .inl (by omega)⟩, hK, oK⟩
theorem one_c {H : AH} {o : Nat} {v : Value} {us : List Value} {N : Nat} (h : Cur H o v us N) (hN : N ≤ 1000000000) (n : Int) (hn : n ≤ 200) :
    ACalls Try.prog 134 [.pointer (some ⟨o, 0, none⟩), .int .i64 n] H fun r H' => (∃ b : Bool, r = .bool b) ∧ Cur H' o v us (N + 1) ∧ OnlyO o H H' := by
  refine in134 rfl ?_
  intro Q hQ
  simp (maxSteps := 1000000) (disch := omega) only [cd134, S, S1, S2, S3, S4, S5, ST, eq_self, reduceIte, reduceCtorEq, Nat.reduceEqDiff, Nat.reduceAdd]
  refine CallH.by (pick_c h hN n hn) ?_
  rintro _ K ⟨⟨x, rfl, _⟩, hK, oK⟩
  simp (maxSteps := 1000000) (disch := omega) only [S, S1, S2, S3, S4, S5, ST, eq_self, reduceIte, reduceCtorEq, Nat.reduceEqDiff, Nat.reduceAdd]
  refine hQ _ _ _ ?_
  simp (maxSteps := 1000000) (disch := omega) only [S, S1, S2, S3, S4, S5, ST, eq_self, reduceIte, reduceCtorEq, Nat.reduceEqDiff, Nat.reduceAdd]
  exact ⟨⟨_, rfl⟩, hK, oK⟩
set_option maxHeartbeats 1000000 in
theorem among_c {H : AH} {o : Nat} {v w : Value} {us : List Value} {xs : List Int} {N : Nat} (h : Cur H o v us N) (hN : N ≤ 1000000000) (hw : Row 3 H w xs) (hwo : rowO w ≠ o) (hl : 0 < xs.length ∧ xs.length ≤ 200) :
    ACalls Try.prog 137 [.pointer (some ⟨o, 0, none⟩), w] H fun r H' => (∃ x : Int, r = .int .i64 x ∧ x ∈ xs) ∧ Cur H' o v us (N + 1) ∧ OnlyO o H H' := by
  refine in137 rfl ?_
  intro Q hQ
  simp (maxSteps := 1000000) (disch := omega) only [cd137, hw.len Try.underlying38, S, S1, S2, S3, S4, S5, ST, eq_self, reduceIte, reduceCtorEq, Nat.reduceEqDiff, Nat.reduceAdd]
  refine CallH.by (pick_c h hN (xs.length : Int) (by omega)) ?_
  rintro _ K ⟨⟨x, rfl, hx⟩, hK, oK⟩
  have hxl : x < xs.length := by omega
  have hwK : Row 3 K w xs := hw.mono fun y hy => oK.2 _ _ hwo hy
  have hc := hwK.cell hxl
  simp (maxSteps := 1000000) (disch := omega) only [hw.ix Try.underlying38 cs3, Int.toNat_natCast, hc, S, S1, S2, S3, S4, S5, ST, eq_self, reduceIte, reduceCtorEq, Nat.reduceEqDiff, Nat.reduceAdd]
  refine hQ _ _ _ ?_
  simp (maxSteps := 1000000) (disch := omega) only [S, S1, S2, S3, S4, S5, ST, eq_self, reduceIte, reduceCtorEq, Nat.reduceEqDiff, Nat.reduceAdd]
  exact ⟨⟨xs.getD x 0, rfl, by simp [hxl]⟩, hK, oK⟩
end Go.Proofs.Ytlfongfhbkefmaa.Ai
namespace Go.Proofs.Ytlfongfhbkefmaa.Ai
open Go
def Asc (ys : List Int) : Prop := ∀ i j, i < j → j < ys.length → ys.getD i 0 ≤ ys.getD j 0
def Rsg (n : Int) (ys : List Int) : Prop := ∀ i, i < ys.length → (0 ≤ ys.getD i 0 ∧ ys.getD i 0 ≤ n - 1) ∧ (0 < i → ys.getD (i - 1) 0 < ys.getD i 0)
def Prm (p : List Int) : Prop := p.length ≤ 8 ∧ ∀ x, x < p.length → (x : Int) ∈ p
instance (p : List Int) : Decidable (Prm p) := inferInstanceAs (Decidable (_ ∧ _))
theorem rsg_at {ys : List Int} (h : Rsg ys.length ys) : ∀ i, i < ys.length → ys.getD i 0 = i := by
  have lo : ∀ i, i < ys.length → (i : Int) ≤ ys.getD i 0 := by
    intro i
    induction i with
    | zero => intro hi; exact (h 0 hi).1.1
    | succ i ih =>
      intro hi
      have h1 := ih (by omega)
      have h2 := (h (i + 1) hi).2 (by omega)
      rw [Nat.add_sub_cancel] at h2
      omega
  have hi' : ∀ d i, i + d + 1 = ys.length → ys.getD i 0 ≤ i := by
    intro d
    induction d with
    | zero => intro i hi; have := (h i (by omega)).1.2; omega
    | succ d ih =>
      intro i hi
      have h1 := ih (i + 1) (by omega)
      have h2 := (h (i + 1) (by omega)).2 (by omega)
      rw [Nat.add_sub_cancel] at h2
      omega
  intro i hi
  have := lo i hi
  have := hi' (ys.length - i - 1) i (by omega)
  omega
theorem pos_ex {ys : List Int} {x : Int} (h : x ∈ ys) : ∃ i, i < ys.length ∧ ys.getD i 0 = x := by
  obtain ⟨i, hi, e⟩ := List.getElem_of_mem h
  exact ⟨i, hi, by simp [hi, e]⟩
theorem asc_at {ys : List Int} (ha : Asc ys) (h : ∀ x, x < ys.length → (x : Int) ∈ ys) : ∀ i, i < ys.length → ys.getD i 0 = i := by
  -- a place of each number
  have ex : ∀ x, ∃ i, x < ys.length → (i < ys.length ∧ ys.getD i 0 = x) := by
    intro x
    by_cases hx : x < ys.length
    · obtain ⟨i, hi⟩ := pos_ex (h x hx); exact ⟨i, fun _ => hi⟩
    · exact ⟨0, fun e => absurd e hx⟩
  let pos : Nat → Nat := fun x => Classical.choose (ex x)
  have hp : ∀ x, x < ys.length → pos x < ys.length ∧ ys.getD (pos x) 0 = x := fun x hx => Classical.choose_spec (ex x) hx
  have mono : ∀ x, x + 1 < ys.length → pos x < pos (x + 1) := by
    intro x hx
    have h1 := hp x (by omega)
    have h2 := hp (x + 1) hx
    rcases Nat.lt_trichotomy (pos x) (pos (x + 1)) with h3 | h3 | h3
    · exact h3
    · rw [h3] at h1; rw [h1.2] at h2; omega
    · have := ha _ _ h3 h1.1
      rw [h1.2, h2.2] at this; omega
  have lo : ∀ x, x < ys.length → x ≤ pos x := by
    intro x
    induction x with
    | zero => intro _; omega
    | succ x ih =>
      intro hx
      have := ih (by omega)
      have := mono x hx
      omega
  have hi' : ∀ d x, x + d + 1 = ys.length → pos x ≤ x := by
    intro d
    induction d with
    | zero => intro x hx; have := (hp x (by omega)).1; omega
    | succ d ih =>
      intro x hx
      have := ih (x + 1) (by omega)
      have := mono x (by omega)
      omega
  intro i hi
  have h1 := lo i hi
  have h2 := hi' (ys.length - i - 1) i (by omega)
  have h3 := hp i hi
  have : pos i = i := by omega
  rw [this] at h3
  exact h3.2
/-- THE SORTED LIST RISES exactly if the list has each number. -/
theorem rsg_iff {p ys : List Int} (hp : ys.Perm p) (ha : Asc ys) : Rsg p.length ys ↔ ∀ x, x < p.length → (x : Int) ∈ p := by
  have hl := hp.length_eq
  constructor
  · intro h x hx
    rw [← hl] at h
    have := rsg_at h x (by omega)
    have hm : ys.getD x 0 ∈ ys := by
      have : x < ys.length := by omega
      simp [this]
    rw [this] at hm
    exact hp.mem_iff.1 hm
  · intro h
    have hat := asc_at ha (fun x hx => hp.mem_iff.2 (h x (by omega)))
    intro i hi
    rw [hat i hi]
    refine ⟨⟨by omega, by omega⟩, fun h0 => ?_⟩
    rw [hat (i - 1) (by omega)]
    omega
theorem prm_at {p : List Int} (h : Prm p) {ys : List Int} (hp : ys.Perm p) (ha : Asc ys) : ∀ i, i < ys.length → ys.getD i 0 = i :=
  asc_at ha (fun x hx => hp.mem_iff.2 (h.2 x (by have := hp.length_eq; omega)))
end Go.Proofs.Ytlfongfhbkefmaa.Ai
namespace Go.Proofs.Ytlfongfhbkefmaa.Ai
open Go
theorem prm_range {p : List Int} (h : Prm p) : (∀ i, i < p.length → 0 ≤ p.getD i 0 ∧ p.getD i 0 < p.length) ∧ ∀ i j, i < p.length → j < p.length → p.getD i 0 = p.getD j 0 → i = j := by
  have hm := List.mergeSort_perm p (fun x y => decide (x ≤ y))
  have hs : (p.mergeSort (fun x y => decide (x ≤ y))).Pairwise (fun x y => decide (x ≤ y) = true) := List.pairwise_mergeSort (fun a b c h1 h2 => by simp at *; omega) (fun a b => by simp; omega) p
  have ha : Asc (p.mergeSort (fun x y => decide (x ≤ y))) := by
    intro i j hij hj
    rw [List.pairwise_iff_getElem] at hs
    have := hs i j (by omega) hj hij
    simp only [decide_eq_true_eq] at this
    rw [List.getD_eq_getElem?_getD, List.getD_eq_getElem?_getD, List.getElem?_eq_getElem hj, List.getElem?_eq_getElem (show i < (p.mergeSort (fun x y => decide (x ≤ y))).length by omega)]
    exact this
  have hat := prm_at h hm ha
  have hl := hm.length_eq
  generalize p.mergeSort (fun x y => decide (x ≤ y)) = ys at *
  have mem : ∀ y ∈ p, 0 ≤ y ∧ y < p.length := by
    intro y hy
    obtain ⟨i, hi, e⟩ := pos_ex (hm.mem_iff.2 hy)
    rw [hat i hi] at e
    omega
  have nd : ys.Nodup := by
    rw [List.Nodup, List.pairwise_iff_getElem]
    intro i j hi hj hij e
    have h1 := hat i hi
    have h2 := hat j hj
    simp only [List.getD_eq_getElem?_getD, List.getElem?_eq_getElem hi, List.getElem?_eq_getElem hj, Option.getD_some] at h1 h2
    omega
  have pd : p.Nodup := hm.nodup_iff.1 nd
  refine ⟨fun i hi => mem _ (by simp [hi]), fun i j hi hj e => ?_⟩
  rw [List.Nodup, List.pairwise_iff_getElem] at pd
  simp only [List.getD_eq_getElem?_getD, List.getElem?_eq_getElem hi, List.getElem?_eq_getElem hj, Option.getD_some] at e
  rcases Nat.lt_trichotomy i j with g | g | g
  · exact absurd e (pd i j hi hj g)
  · exact g
  · exact absurd e.symm (pd j i hj hi g)
/-- the way from y till x -/
def orb (p : List Int) (x y : Int) : Nat → List Int
  | 0 => []
  | n + 1 => if y = x then [] else y :: orb p x (p.getD y.toNat 0) n
def cycC (p : List Int) (x : Int) : List Int := x :: orb p x (p.getD x.toNat 0) p.length
theorem orb_self (p : List Int) (x : Int) (n : Nat) : orb p x x n = [] := by cases n <;> simp [orb]
/-- a way begun at x: c, and y comes next -/
structure Way (p : List Int) (x : Int) (c : List Int) (y : Int) : Prop where
  rng : ∀ z ∈ c, 0 ≤ z ∧ z < p.length
  nd : c.Nodup
  ne : c ≠ []
  head : c.getD 0 0 = x
  step : ∀ i, i + 1 < c.length → c.getD (i + 1) 0 = p.getD (c.getD i 0).toNat 0
  last : y = p.getD (c.getD (c.length - 1) 0).toNat 0
  tail : cycC p x = c ++ orb p x y (p.length + 1 - c.length)
theorem nodup_len (n : Nat) : ∀ (c : List Int), c.Nodup → (∀ z ∈ c, 0 ≤ z ∧ z < (n : Int)) → c.length ≤ n := by
  induction n with
  | zero =>
    intro c _ h
    cases c with
    | nil => simp
    | cons z c => have := h z (by simp); omega
  | succ n ih =>
    intro c hn h
    have hn' := hn.erase (n : Int)
    have hl : c.length ≤ (c.erase (n : Int)).length + 1 := by
      rw [List.length_erase]; split <;> omega
    have := ih (c.erase (n : Int)) hn' (fun z hz => by
      have h1 := h z (List.mem_of_mem_erase hz)
      have h2 : z ≠ n := fun e => by
        subst e
        exact (hn.not_mem_erase) hz
      omega)
    omega
theorem Way.len {p : List Int} {x y : Int} {c : List Int} (h : Way p x c y) : 1 ≤ c.length ∧ c.length ≤ p.length := by
  refine ⟨?_, nodup_len _ c h.nd h.rng⟩
  have := h.ne
  cases c with
  | nil => exact absurd rfl this
  | cons _ _ => simp
theorem getD_mem {c : List Int} {i : Nat} (h : i < c.length) : c.getD i 0 ∈ c := by simp [h]
theorem Way.yrng {p : List Int} {x y : Int} {c : List Int} (hp : Prm p) (h : Way p x c y) : 0 ≤ y ∧ y < p.length := by
  have hl := h.len
  have := h.rng _ (getD_mem (show c.length - 1 < c.length by omega))
  rw [h.last]
  exact (prm_range hp).1 _ (by omega)
/-- what comes again is x -/
theorem Way.back {p : List Int} {x y : Int} {c : List Int} (hp : Prm p) (h : Way p x c y) (hy : y ∈ c) : y = x := by
  have hl := h.len
  obtain ⟨i, hi, e⟩ := pos_ex hy
  by_cases h0 : i = 0
  · subst h0; rw [← e, h.head]
  · have h1 := h.step (i - 1) (by omega)
    rw [show i - 1 + 1 = i from by omega, e, h.last] at h1
    have r1 := h.rng _ (getD_mem (show c.length - 1 < c.length by omega))
    have r2 := h.rng _ (getD_mem (show i - 1 < c.length by omega))
    have := (prm_range hp).2 _ _ (by omega) (by omega) h1
    have e2 : c.getD (c.length - 1) 0 = c.getD (i - 1) 0 := by omega
    have nd := h.nd
    rw [List.Nodup, List.pairwise_iff_getElem] at nd
    simp only [List.getD_eq_getElem?_getD, List.getElem?_eq_getElem (show c.length - 1 < c.length by omega), List.getElem?_eq_getElem (show i - 1 < c.length by omega), Option.getD_some] at e2
    exact absurd e2.symm (nd (i - 1) (c.length - 1) (by omega) (by omega) (by omega))
set_option linter.unusedVariables false in
theorem Way.first {p : List Int} (hp : Prm p) {x : Nat} (hx : x < p.length) : Way p (x : Int) [(x : Int)] (p.getD x 0) :=
  ⟨fun z hz => by simp at hz; omega, by simp, by simp, rfl, fun i hi => by simp at hi, by simp, by simp [cycC]⟩
set_option linter.unusedVariables false in
theorem Way.next {p : List Int} {x y : Int} {c : List Int} (hp : Prm p) (h : Way p x c y) (hy : y ≠ x) : Way p x (c ++ [y]) (p.getD y.toNat 0) := by
  have hl := h.len
  have hyr := h.yrng hp
  have hni : y ∉ c := fun hm => hy (h.back hp hm)
  have hnd : (c ++ [y]).Nodup := List.nodup_append.2 ⟨h.nd, by simp, fun a ha b hb e => by simp at hb; subst hb; exact hni (e ▸ ha)⟩
  have hlen := nodup_len p.length (c ++ [y]) hnd (fun z hz => by
    rcases List.mem_append.1 hz with g | g
    · exact h.rng z g
    · simp at g; rw [g]; exact hyr)
  simp only [List.length_append, List.length_cons, List.length_nil] at hlen
  have at1 : ∀ i, i < c.length → (c ++ [y]).getD i 0 = c.getD i 0 := fun i hi => by
    rw [List.getD_eq_getElem?_getD, List.getD_eq_getElem?_getD, List.getElem?_append_left hi]
  have at2 : (c ++ [y]).getD c.length 0 = y := by
    rw [List.getD_eq_getElem?_getD, List.getElem?_append_right (Nat.le_refl _)]; simp
  refine ⟨fun z hz => ?_, hnd, by simp, by rw [at1 0 (by omega)]; exact h.head, fun i hi => ?_, ?_, ?_⟩
  · rcases List.mem_append.1 hz with g | g
    · exact h.rng z g
    · simp at g; rw [g]; exact hyr
  · simp only [List.length_append, List.length_cons, List.length_nil] at hi
    by_cases c1 : i + 1 < c.length
    · rw [at1 _ c1, at1 _ (by omega)]; exact h.step i c1
    · have : i = c.length - 1 := by omega
      subst this
      rw [show c.length - 1 + 1 = c.length from by omega, at2, at1 _ (by omega)]
      exact h.last
  · simp only [List.length_append, List.length_cons, List.length_nil, Nat.add_sub_cancel]
    rw [at2]
  · have := h.tail
    obtain ⟨n, hn⟩ : ∃ n, p.length + 1 - c.length = n + 1 := ⟨p.length - c.length, by omega⟩
    rw [hn] at this
    simp only [orb, if_neg hy] at this
    rw [this]
    simp only [List.length_append, List.length_cons, List.length_nil, List.append_assoc, List.cons_append, List.nil_append]
    rw [show p.length + 1 - (c.length + (0 + 1)) = n from by omega]
theorem Way.done {p : List Int} {x : Int} {c : List Int} (h : Way p x c x) : c = cycC p x := by
  rw [h.tail, orb_self, List.append_nil]
/-- what has been seen, and the cycles so far -/
def cycSt (p : List Int) : Nat → List (List Int) × List Int
  | 0 => ([], [])
  | k + 1 => if (k : Int) ∈ (cycSt p k).2 then cycSt p k else ((cycSt p k).1 ++ [cycC p k], (cycSt p k).2 ++ cycC p k)
/-- a set that nothing leads into from outside -/
def Shut (p s : List Int) : Prop := (∀ z ∈ s, 0 ≤ z ∧ z < p.length) ∧ ∀ z : Nat, z < p.length → p.getD z 0 ∈ s → (z : Int) ∈ s
theorem Way.out {p s : List Int} {x y : Int} {c : List Int} (h : Way p x c y) (hs : Shut p s) (hd : ∀ z ∈ c, z ∉ s) : y ∉ s := by
  have hl := h.len
  have hm := getD_mem (show c.length - 1 < c.length by omega)
  have r := h.rng _ hm
  intro hy
  rw [h.last] at hy
  have := hs.2 (c.getD (c.length - 1) 0).toNat (by omega) hy
  rw [show (((c.getD (c.length - 1) 0).toNat : Nat) : Int) = c.getD (c.length - 1) 0 from by omega] at this
  exact hd _ hm this
theorem Way.shut {p s : List Int} {x : Int} {c : List Int} (hp : Prm p) (h : Way p x c x) (hs : Shut p s) : Shut p (s ++ c) := by
  have hl := h.len
  refine ⟨fun z hz => (List.mem_append.1 hz).elim (hs.1 z) (h.rng z), fun z hz hm => ?_⟩
  rw [List.mem_append] at hm ⊢
  rcases hm with g | g
  · exact .inl (hs.2 z hz g)
  · right
    obtain ⟨i, hi, e⟩ := pos_ex g
    by_cases h0 : i = 0
    · subst h0
      rw [h.head] at e
      have r := h.rng _ (getD_mem (show c.length - 1 < c.length by omega))
      have := (prm_range hp).2 z (c.getD (c.length - 1) 0).toNat hz (by omega) (by rw [← e]; exact h.last)
      have e2 : (z : Int) = c.getD (c.length - 1) 0 := by omega
      rw [e2]; exact getD_mem (by omega)
    · have h1 := h.step (i - 1) (by omega)
      rw [show i - 1 + 1 = i from by omega, e] at h1
      have r := h.rng _ (getD_mem (show i - 1 < c.length by omega))
      have := (prm_range hp).2 z (c.getD (i - 1) 0).toNat hz (by omega) h1
      have e2 : (z : Int) = c.getD (i - 1) 0 := by omega
      rw [e2]; exact getD_mem (by omega)
end Go.Proofs.Ytlfongfhbkefmaa.Ai
namespace Go.Proofs.Ytlfongfhbkefmaa.Ai
open Go
set_option linter.unusedVariables false
/-- the place of the first that p takes, or -1 -/
def idxP (p : Int → Bool) : List Int → Nat → Int
  | [], _ => -1
  | x :: xs, k => if p x = true then (k : Int) else idxP p xs (k + 1)
theorem idxP_step (p : Int → Bool) (xs : List Int) (i : Nat) (hi : i < xs.length) : idxP p (xs.drop i) i = if p (xs.getD i 0) = true then (i : Int) else idxP p (xs.drop (i + 1)) (i + 1) := by
  rw [List.drop_eq_getElem_cons hi]
  simp [idxP, hi]
theorem idxP_any (p : Int → Bool) : ∀ (xs : List Int) (k : Nat), (0 ≤ idxP p xs k) ↔ xs.any p = true
  | [], k => by simp [idxP]
  | x :: xs, k => by
    simp only [idxP, List.any_cons]
    cases h : p x with
    | true => simp
    | false => simp [idxP_any p xs (k + 1)]
end Go.Proofs.Ytlfongfhbkefmaa.Ai
namespace Go.Proofs.Ytlfongfhbkefmaa.Ai
open Go
set_option linter.unusedVariables false
/-- the place of a number -/
def ax (q : List Int) (x : Int) : Int := idxP (fun y => decide (x = y)) q 0
theorem idxP_at (p : Int → Bool) : ∀ (xs : List Int) (k : Nat), xs.any p = true → ∃ i : Nat, i < xs.length ∧ idxP p xs k = ((k + i : Nat) : Int) ∧ p (xs.getD i 0) = true
  | [], k, h => by simp at h
  | x :: xs, k, h => by
    by_cases hx : p x = true
    · exact ⟨0, by simp, by simp [idxP, hx], by simpa using hx⟩
    · have : xs.any p = true := by simpa [hx] using h
      obtain ⟨i, h1, h2, h3⟩ := idxP_at p xs (k + 1) this
      refine ⟨i + 1, by simpa using h1, ?_, by simpa using h3⟩
      rw [idxP, if_neg hx, h2]
      congr 1; omega
theorem ax_at {q : List Int} {x : Int} (h : x ∈ q) : ∃ i : Nat, i < q.length ∧ ax q x = (i : Int) ∧ q.getD i 0 = x := by
  obtain ⟨i, h1, h2, h3⟩ := idxP_at (fun y => decide (x = y)) q 0 (by simpa using h)
  refine ⟨i, h1, by rw [ax, h2]; congr 1; omega, ?_⟩
  have := of_decide_eq_true h3
  exact this.symm
def swp (p : List Int) (a b : Nat) : List Int := (p.set a (p.getD b 0)).set b (p.getD a 0)
theorem swp_len (p : List Int) (a b : Nat) : (swp p a b).length = p.length := by simp [swp]
theorem swp_at (p : List Int) (a b k : Nat) (ha : a < p.length) (hb : b < p.length) (hk : k < p.length) : (swp p a b).getD k 0 = if k = b then p.getD a 0 else if k = a then p.getD b 0 else p.getD k 0 := by
  unfold swp
  rw [List.getD_eq_getElem?_getD, List.getElem?_set]
  by_cases h1 : b = k
  · subst h1
    rw [if_pos rfl, if_pos (by simpa using hb), if_pos rfl]; rfl
  · rw [if_neg h1, if_neg (fun e => h1 e.symm), List.getElem?_set]
    by_cases h2 : a = k
    · subst h2
      rw [if_pos rfl, if_pos ha, if_pos rfl]; rfl
    · rw [if_neg h2, if_neg (fun e => h2 e.symm), ← List.getD_eq_getElem?_getD]
theorem mem_getD {q : List Int} {k : Nat} (h : k < q.length) : q.getD k 0 ∈ q := by simp [h]
theorem swp_prm {p : List Int} (h : Prm p) {a b : Nat} (ha : a < p.length) (hb : b < p.length) : Prm (swp p a b) := by
  refine ⟨by rw [swp_len]; exact h.1, fun x hx => ?_⟩
  rw [swp_len] at hx
  obtain ⟨i, hi, e⟩ := pos_ex (h.2 x hx)
  have mk : ∀ k, k < p.length → (swp p a b).getD k 0 = x → (x : Int) ∈ swp p a b := fun k hk e => by
    rw [← e]; exact mem_getD (by rw [swp_len]; exact hk)
  by_cases h1 : i = a
  · subst h1; exact mk b hb (by rw [swp_at p _ b b ha hb hb, if_pos rfl]; exact e)
  · by_cases h2 : i = b
    · subst h2
      by_cases h3 : a = i
      · exact absurd h3.symm h1
      · exact mk a ha (by rw [swp_at p a _ a ha hb ha, if_neg h3, if_pos rfl]; exact e)
    · exact mk i hi (by rw [swp_at p a b i ha hb hi, if_neg h2, if_neg h1]; exact e)
def srtSt (p : List Int) : Nat → List (Int × Int) × List Int
  | 0 => ([], p)
  | x + 1 => if ax (srtSt p x).2 x = x then srtSt p x else ((srtSt p x).1 ++ [((x : Int), ax (srtSt p x).2 x)], swp (srtSt p x).2 x (ax (srtSt p x).2 x).toNat)
structure SrtOk (p : List Int) (x : Nat) (o : List (Int × Int)) (q : List Int) : Prop where
  prm : Prm q
  len : q.length = p.length
  fix : ∀ y, y < x → q.getD y 0 = y
  few : o.length ≤ x
theorem SrtOk.place {p : List Int} {x : Nat} {o : List (Int × Int)} {q : List Int} (h : SrtOk p x o q) (hx : x < p.length) : ∃ i : Nat, x ≤ i ∧ i < p.length ∧ ax q x = (i : Int) ∧ q.getD i 0 = x ∧ (q.getD x 0 = x ↔ i = x) := by
  obtain ⟨i, h1, h2, h3⟩ := ax_at (h.prm.2 x (by rw [h.len]; exact hx))
  have hl := h.len
  refine ⟨i, ?_, by omega, h2, h3, fun e => ?_, fun e => by rw [← e]; rw [h3]; rw [e]⟩
  · by_cases hlt : i < x
    · have := h.fix i hlt
      omega
    · omega
  · exact (prm_range h.prm).2 i x h1 (by omega) (by rw [h3, e])
theorem SrtOk.stay {p : List Int} {x : Nat} {o : List (Int × Int)} {q : List Int} (h : SrtOk p x o q) (e : q.getD x 0 = x) : SrtOk p (x + 1) o q :=
  ⟨h.prm, h.len, fun y hy => by
    by_cases hc : y = x
    · subst hc; exact e
    · exact h.fix y (by omega), by have := h.few; omega⟩
theorem SrtOk.next {p : List Int} {x i : Nat} {o : List (Int × Int)} {q : List Int} (h : SrtOk p x o q) (hx : x < p.length) (h1 : x ≤ i) (h2 : i < p.length) (h3 : q.getD i 0 = x) (hne : i ≠ x) : SrtOk p (x + 1) (o ++ [((x : Int), (i : Int))]) (swp q x i) := by
  have hl := h.len
  refine ⟨swp_prm h.prm (by omega) (by omega), by rw [swp_len]; exact hl, fun y hy => ?_, by have := h.few; simp; omega⟩
  rw [swp_at q x i y (by omega) (by omega) (by omega), if_neg (by omega)]
  by_cases hc : y = x
  · rw [if_pos hc, h3, hc]
  · rw [if_neg hc]; exact h.fix y (by omega)
theorem srt_ok {p : List Int} (h : Prm p) : ∀ x, x ≤ p.length → SrtOk p x (srtSt p x).1 (srtSt p x).2 := by
  intro x
  induction x with
  | zero => intro _; exact ⟨h, rfl, fun y hy => absurd hy (Nat.not_lt_zero _), by simp [srtSt]⟩
  | succ x ih =>
    intro hx
    have ok := ih (by omega)
    obtain ⟨i, h1, h2, h3, h4, h5⟩ := ok.place (by omega)
    rw [srtSt, h3]
    by_cases hc : i = x
    · rw [if_pos (by rw [hc])]; exact ok.stay (h5.2 hc)
    · rw [if_neg (by omega)]
      exact ok.next (by omega) h1 h2 h4 hc
/-- sorting by swaps, one step -/
theorem srt_step {p : List Int} (h : Prm p) {x : Nat} (hx : x < p.length) : ∃ i : Nat, x ≤ i ∧ i < p.length ∧ ax (srtSt p x).2 x = (i : Int) ∧ ((srtSt p x).2.getD x 0 = x ↔ i = x) ∧ (srtSt p (x + 1) = if i = x then srtSt p x else ((srtSt p x).1 ++ [((x : Int), (i : Int))], swp (srtSt p x).2 x i)) := by
  obtain ⟨i, h1, h2, h3, h4, h5⟩ := (srt_ok h x (by omega)).place hx
  refine ⟨i, h1, h2, h3, h5, ?_⟩
  rw [srtSt, h3]
  by_cases hc : i = x
  · rw [if_pos (by rw [hc]), if_pos hc]
  · rw [if_neg (by omega), if_neg hc]; rfl
def sortR (p : List Int) : List (Int × Int) := if Prm p then (srtSt p p.length).1 else []
theorem sortR_len (p : List Int) : (sortR p).length ≤ 8 := by
  unfold sortR
  split
  · rename_i h
    have h1 := (srt_ok h p.length (Nat.le_refl _)).few
    have h2 := h.1
    omega
  · simp
def swOk (n : Nat) (s : Int × Int) : Prop := 0 ≤ s.1 ∧ s.1 < s.2 ∧ s.2 < n
instance (n : Nat) (s : Int × Int) : Decidable (swOk n s) := inferInstanceAs (Decidable (_ ∧ _))
def plcOk (p : List Int) (ss : List (Int × Int)) : Prop := Prm p ∧ ∀ s ∈ ss, swOk p.length s
instance (p : List Int) (ss : List (Int × Int)) : Decidable (plcOk p ss) := inferInstanceAs (Decidable (_ ∧ _))
def plcSt (p : List Int) (ss : List (Int × Int)) : List Int := ss.foldl (fun q s => swp q s.1.toNat s.2.toNat) p
theorem plcSt_len (ss : List (Int × Int)) : ∀ p, (plcSt p ss).length = p.length := by
  induction ss with
  | nil => intro p; rfl
  | cons s ss ih => intro p; simp only [plcSt, List.foldl_cons]; rw [show List.foldl _ _ ss = plcSt (swp p s.1.toNat s.2.toNat) ss from rfl, ih, swp_len]
theorem plcSt_snoc (p : List Int) (ss : List (Int × Int)) (s : Int × Int) : plcSt p (ss ++ [s]) = swp (plcSt p ss) s.1.toNat s.2.toNat := by simp [plcSt]
theorem plcSt_step (p : List Int) (ss : List (Int × Int)) (i : Nat) (hi : i < ss.length) : plcSt p (ss.take (i + 1)) = swp (plcSt p (ss.take i)) (ss.getD i (0, 0)).1.toNat (ss.getD i (0, 0)).2.toNat := by
  rw [List.take_add_one, List.getElem?_eq_getElem hi]
  have : ss.getD i (0, 0) = ss[i] := by simp [hi]
  rw [this]
  exact plcSt_snoc _ _ _
def placeR (p : List Int) (ss : List (Int × Int)) : List Int := if plcOk p ss then plcSt p ss else []
theorem placeR_len (p : List Int) (ss : List (Int × Int)) : (placeR p ss).length ≤ 8 := by
  unfold placeR
  split
  · rename_i h; rw [plcSt_len]; exact h.1.1
  · simp
end Go.Proofs.Ytlfongfhbkefmaa.Ai
namespace Go.Proofs.Ytlfongfhbkefmaa.Ai
open Go
def ords87 : List (Nat × List (Nat × Bool)) := []
def cd87 : Cd := (.seq (.reg [⟨⟨some 2, Op.assign (Operand.const (Value.slice none 0 0)), none⟩, []⟩]) (.seq (.seq (.reg [⟨⟨some 3, Op.move (Operand.tmp 0), none⟩, []⟩,
  ⟨⟨some 4, Op.binOp BinOp.eql 38 (Operand.tmp 3) (Operand.const (Value.slice none 0 0)) 38, none⟩, []⟩]) (.cond (Operand.tmp 4) (.seq (.reg [⟨⟨some 2, Op.assign (Operand.const (Value.slice none 0 0)), none⟩, []⟩]) .ret) .skip)) (.seq (.reg [⟨⟨some 5, Op.buildSlice 38 0 #[], none⟩, []⟩,
  ⟨⟨some 6, Op.move (Operand.tmp 0), none⟩, []⟩,
  ⟨⟨some 7, Op.call { callee := (Callee.builtin Builtin.append), args := #[(Operand.tmp 5), (Operand.tmp 6)], argTypes := #[38, 38] }, none⟩, []⟩,
  ⟨⟨some 2, Op.assign (Operand.tmp 7), none⟩, []⟩]) .ret)))
theorem sl87 : slim Try.f87.ntmps ords87 (Try.f87.body.getD .skip) = some cd87 := by kernel_rfl
theorem in87 {args : List Value} {H : AH} {R : Value → AH → Prop} (hl : args.length = 1) (h : ∀ (Q : Exit → Sl → AH → Prop), (∀ e s H, endA Try.prog [ResultVar.tmp 2] R e s H → Q e s H) → wpC Try.prog cd87 Q (enterA args) H) : ACalls Try.prog 87 args H R :=
  ACalls.intro (by kernel_rfl) Try.func87 rfl (by kernel_rfl) sl87 hl (of_decide_eq_true (by kernel_rfl)) (by kernel_rfl) h
end Go.Proofs.Ytlfongfhbkefmaa.Ai
namespace Go.Proofs.Ytlfongfhbkefmaa.Ai
open Go Go.RowKit
set_option linter.unusedVariables false
set_option linter.unusedSimpArgs false
set_option maxRecDepth 20000 in
theorem Clone_c (v : Value) (xs : List Int) (H : AH) (hr : Row 3 H v xs) (hlen : xs.length ≤ 1099511627776) : ACalls Try.prog 87 [v] H fun r H' => Own 3 H H' r xs ∧ H <+: H' := by
  refine in87 rfl ?_
  intro Q hQ
  obtain ⟨p, e⟩ := hr.shape
  subst e
  simp (maxSteps := 1000000) (disch := omega) only [cd87, S, S1, S2, S3, S4, S5, ST, eq_self, reduceIte, reduceCtorEq, Nat.reduceEqDiff, Nat.reduceAdd]
  refine brH.intro (fun g => ?_) (fun g => ?_) <;> simp (maxSteps := 1000000) (disch := omega) only [S, S1, S2, S3, S4, S5, ST, eq_self, reduceIte, reduceCtorEq, Nat.reduceEqDiff, Nat.reduceAdd]
  · refine hQ _ _ _ ?_
    simp (maxSteps := 1000000) (disch := omega) only [S, S1, S2, S3, S4, S5, ST, eq_self, reduceIte, reduceCtorEq, Nat.reduceEqDiff, Nat.reduceAdd]
    have : xs = [] := by
      rcases hr with h | ⟨o, k, vs, ro, h1, _⟩
      · exact h.2
      · cases p with
        | none => cases h1
        | some p => cases g
    exact ⟨.inl ⟨rfl, this⟩, List.prefix_refl _⟩
  · have hp := List.prefix_append H [AObj.cells [] 3 false]
    have ho : Own 3 H (H ++ [AObj.cells [] 3 false]) (.slice (some ⟨H.length, 0, none⟩) 0 0) [] := .inr ⟨H.length, rfl, Nat.le_refl _, at_new ..⟩
    obtain ⟨v', H2, k1, k2, k3, _⟩ := ho.app (P := Try.prog) (t := 38) Try.underlying38 cs3 (by rw [by3]; decide) zk3 (hr.pre hp) hp (by simp; omega)
    simp (maxSteps := 1000000) (disch := omega) only [k1, S, S1, S2, S3, S4, S5, ST, eq_self, reduceIte, reduceCtorEq, Nat.reduceEqDiff, Nat.reduceAdd]
    refine hQ _ _ _ ?_
    simp (maxSteps := 1000000) (disch := omega) only [k2.row.tup, S, S1, S2, S3, S4, S5, ST, eq_self, reduceIte, reduceCtorEq, Nat.reduceEqDiff, Nat.reduceAdd]
    exact ⟨k2, k3⟩
end Go.Proofs.Ytlfongfhbkefmaa.Ai
namespace Go.Proofs.Ytlfongfhbkefmaa.Ai
open Go
def ords82 : List (Nat × List (Nat × Bool)) := []
def cd82 : Cd := (.seq (.reg [⟨⟨some 2, Op.assign (Operand.const (Value.slice none 0 0)), none⟩, []⟩]) (.seq (.reg [⟨⟨some 3, Op.buildSlice 38 0 #[], none⟩, []⟩,
  ⟨⟨some 4, Op.move (Operand.tmp 0), none⟩, []⟩,
  ⟨⟨some 5, Op.call { callee := (Callee.builtin Builtin.append), args := #[(Operand.tmp 3), (Operand.tmp 4)], argTypes := #[38, 38] }, none⟩, []⟩,
  ⟨⟨some 2, Op.assign (Operand.tmp 5), none⟩, []⟩]) .ret))
theorem sl82 : slim Try.f82.ntmps ords82 (Try.f82.body.getD .skip) = some cd82 := by kernel_rfl
theorem in82 {args : List Value} {H : AH} {R : Value → AH → Prop} (hl : args.length = 1) (h : ∀ (Q : Exit → Sl → AH → Prop), (∀ e s H, endA Try.prog [ResultVar.tmp 2] R e s H → Q e s H) → wpC Try.prog cd82 Q (enterA args) H) : ACalls Try.prog 82 args H R :=
  ACalls.intro (by kernel_rfl) Try.func82 rfl (by kernel_rfl) sl82 hl (of_decide_eq_true (by kernel_rfl)) (by kernel_rfl) h
def ords128 : List (Nat × List (Nat × Bool)) := []
def cd128 : Cd := (.seq (.reg [⟨⟨some 4, Op.assign (Operand.const (Value.int IntKind.i64 0)), none⟩, []⟩]) (.seq (.reg [⟨⟨some 5, Op.assign (Operand.const (Value.int IntKind.i64 0)), none⟩, []⟩]) (.seq (.block 0 (.loop (.seq (.seq (.reg [⟨⟨some 6, Op.move (Operand.tmp 0), none⟩, []⟩,
  ⟨⟨some 7, Op.move (Operand.tmp 5), none⟩, []⟩,
  ⟨⟨some 8, Op.indexAddr 38 (Operand.tmp 6) (Operand.tmp 7), none⟩, []⟩,
  ⟨⟨some 9, Op.load 3 (Operand.tmp 8), none⟩, []⟩,
  ⟨⟨some 10, Op.move (Operand.tmp 1), none⟩, []⟩,
  ⟨⟨some 11, Op.binOp BinOp.neq 3 (Operand.tmp 9) (Operand.tmp 10) 3, none⟩, []⟩]) (.cond (Operand.tmp 11) .skip (.exit 0))) (.block 1 (.reg [⟨⟨some 12, Op.move (Operand.tmp 5), none⟩, []⟩,
  ⟨⟨some 13, Op.binOp BinOp.add 3 (Operand.tmp 12) (Operand.const (Value.int IntKind.i64 1)) 3, none⟩, []⟩,
  ⟨⟨some 5, Op.assign (Operand.tmp 13), none⟩, []⟩]))))) (.seq (.reg [⟨⟨some 14, Op.move (Operand.tmp 5), none⟩, []⟩,
  ⟨⟨some 4, Op.assign (Operand.tmp 14), none⟩, []⟩]) .ret))))
theorem sl128 : slim Try.f128.ntmps ords128 (Try.f128.body.getD .skip) = some cd128 := by kernel_rfl
theorem in128 {args : List Value} {H : AH} {R : Value → AH → Prop} (hl : args.length = 2) (h : ∀ (Q : Exit → Sl → AH → Prop), (∀ e s H, endA Try.prog [ResultVar.tmp 4] R e s H → Q e s H) → wpC Try.prog cd128 Q (enterA args) H) : ACalls Try.prog 128 args H R :=
  ACalls.intro (by kernel_rfl) Try.func128 rfl (by kernel_rfl) sl128 hl (of_decide_eq_true (by kernel_rfl)) (by kernel_rfl) h
def ords129 : List (Nat × List (Nat × Bool)) := []
def cd129 : Cd := (.seq (.reg [⟨⟨some 6, Op.assign (Operand.const (Value.slice none 0 0)), none⟩, []⟩]) (.seq (.reg [⟨⟨some 8, Op.move (Operand.tmp 0), none⟩, []⟩,
  ⟨⟨some 9, Op.call { callee := (Callee.value (Operand.func 82)), args := #[(Operand.tmp 8)], argTypes := #[38] }, none⟩, []⟩,
  ⟨⟨some 7, Op.assign (Operand.tmp 9), none⟩, []⟩]) (.seq (.reg [⟨⟨some 10, Op.move (Operand.tmp 7), none⟩, []⟩,
  ⟨⟨some 11, Op.move (Operand.tmp 1), none⟩, []⟩,
  ⟨⟨some 12, Op.move (Operand.tmp 0), none⟩, []⟩,
  ⟨⟨some 13, Op.move (Operand.tmp 2), none⟩, []⟩,
  ⟨⟨some 14, Op.indexAddr 38 (Operand.tmp 12) (Operand.tmp 13), none⟩, []⟩,
  ⟨⟨some 15, Op.load 3 (Operand.tmp 14), none⟩, []⟩,
  ⟨⟨some 16, Op.indexAddr 38 (Operand.tmp 10) (Operand.tmp 11), none⟩, []⟩,
  ⟨⟨none, Op.store 3 (Operand.tmp 16) (Operand.tmp 15), none⟩, []⟩]) (.seq (.reg [⟨⟨some 17, Op.move (Operand.tmp 7), none⟩, []⟩,
  ⟨⟨some 18, Op.move (Operand.tmp 2), none⟩, []⟩,
  ⟨⟨some 19, Op.move (Operand.tmp 0), none⟩, []⟩,
  ⟨⟨some 20, Op.move (Operand.tmp 1), none⟩, []⟩,
  ⟨⟨some 21, Op.indexAddr 38 (Operand.tmp 19) (Operand.tmp 20), none⟩, []⟩,
  ⟨⟨some 22, Op.load 3 (Operand.tmp 21), none⟩, []⟩,
  ⟨⟨some 23, Op.indexAddr 38 (Operand.tmp 17) (Operand.tmp 18), none⟩, []⟩,
  ⟨⟨none, Op.store 3 (Operand.tmp 23) (Operand.tmp 22), none⟩, []⟩]) (.seq (.reg [⟨⟨some 24, Op.move (Operand.tmp 7), none⟩, []⟩,
  ⟨⟨some 6, Op.assign (Operand.tmp 24), none⟩, []⟩]) .ret)))))
theorem sl129 : slim Try.f129.ntmps ords129 (Try.f129.body.getD .skip) = some cd129 := by kernel_rfl
theorem in129 {args : List Value} {H : AH} {R : Value → AH → Prop} (hl : args.length = 3) (h : ∀ (Q : Exit → Sl → AH → Prop), (∀ e s H, endA Try.prog [ResultVar.tmp 6] R e s H → Q e s H) → wpC Try.prog cd129 Q (enterA args) H) : ACalls Try.prog 129 args H R :=
  ACalls.intro (by kernel_rfl) Try.func129 rfl (by kernel_rfl) sl129 hl (of_decide_eq_true (by kernel_rfl)) (by kernel_rfl) h
def ords126 : List (Nat × List (Nat × Bool)) := [(2, [(0, false), (1, false), (2, false), (3, false), (4, false), (5, false), (6, false), (7, false), (8, false), (9, false), (10, false), (11, false), (12, false), (13, false), (14, false), (15, false), (16, false), (17, true), (18, false), (19, true)])]
def cd126 : Cd := (.seq (.reg [⟨⟨some 3, Op.box 81 (Operand.tmp 1), none⟩, []⟩,
  ⟨⟨some 4, Op.assign (Operand.const (Value.slice none 0 0)), none⟩, []⟩]) (.seq (.reg [⟨⟨some 6, Op.move (Operand.tmp 0), none⟩, []⟩,
  ⟨⟨some 7, Op.call { callee := (Callee.value (Operand.func 87)), args := #[(Operand.tmp 6)], argTypes := #[38] }, none⟩, []⟩,
  ⟨⟨some 5, Op.assign (Operand.tmp 7), none⟩, []⟩]) (.seq (.reg [⟨⟨some 8, Op.move (Operand.tmp 5), none⟩, []⟩,
  ⟨⟨some 9, Op.indexAddr 81 (Operand.tmp 3) (Operand.const (Value.int IntKind.i64 0)), none⟩, []⟩,
  ⟨⟨some 10, Op.load 3 (Operand.tmp 9), none⟩, []⟩,
  ⟨⟨some 11, Op.move (Operand.tmp 5), none⟩, []⟩,
  ⟨⟨some 12, Op.indexAddr 81 (Operand.tmp 3) (Operand.const (Value.int IntKind.i64 1)), none⟩, []⟩,
  ⟨⟨some 13, Op.load 3 (Operand.tmp 12), none⟩, []⟩,
  ⟨⟨some 14, Op.move (Operand.tmp 5), none⟩, []⟩,
  ⟨⟨some 15, Op.indexAddr 81 (Operand.tmp 3) (Operand.const (Value.int IntKind.i64 1)), none⟩, []⟩,
  ⟨⟨some 16, Op.load 3 (Operand.tmp 15), none⟩, []⟩,
  ⟨⟨some 17, Op.indexAddr 38 (Operand.tmp 14) (Operand.tmp 16), none⟩, []⟩,
  ⟨⟨some 18, Op.load 3 (Operand.tmp 17), none⟩, []⟩,
  ⟨⟨some 19, Op.move (Operand.tmp 5), none⟩, []⟩,
  ⟨⟨some 20, Op.indexAddr 81 (Operand.tmp 3) (Operand.const (Value.int IntKind.i64 0)), none⟩, []⟩,
  ⟨⟨some 21, Op.load 3 (Operand.tmp 20), none⟩, []⟩,
  ⟨⟨some 22, Op.indexAddr 38 (Operand.tmp 19) (Operand.tmp 21), none⟩, []⟩,
  ⟨⟨some 23, Op.load 3 (Operand.tmp 22), none⟩, []⟩,
  ⟨⟨some 24, Op.indexAddr 38 (Operand.tmp 8) (Operand.tmp 10), none⟩, []⟩,
  ⟨⟨none, Op.store 3 (Operand.tmp 24) (Operand.tmp 18), none⟩, [⟨some 13, Op.load 3 (Operand.tmp 12), none⟩]⟩,
  ⟨⟨some 25, Op.indexAddr 38 (Operand.tmp 11) (Operand.tmp 13), none⟩, []⟩,
  ⟨⟨none, Op.store 3 (Operand.tmp 25) (Operand.tmp 23), none⟩, []⟩]) (.seq (.reg [⟨⟨some 26, Op.move (Operand.tmp 5), none⟩, []⟩,
  ⟨⟨some 4, Op.assign (Operand.tmp 26), none⟩, []⟩]) .ret))))
theorem sl126 : slim Try.f126.ntmps ords126 (Try.f126.body.getD .skip) = some cd126 := by kernel_rfl
theorem in126 {args : List Value} {H : AH} {R : Value → AH → Prop} (hl : args.length = 2) (h : ∀ (Q : Exit → Sl → AH → Prop), (∀ e s H, endA Try.prog [ResultVar.tmp 4] R e s H → Q e s H) → wpC Try.prog cd126 Q (enterA args) H) : ACalls Try.prog 126 args H R :=
  ACalls.intro (by kernel_rfl) Try.func126 rfl (by kernel_rfl) sl126 hl (of_decide_eq_true (by kernel_rfl)) (by kernel_rfl) h
end Go.Proofs.Ytlfongfhbkefmaa.Ai
namespace Go.Proofs.Ytlfongfhbkefmaa.Ai
open Go Go.RowKit
set_option linter.unusedVariables false
set_option linter.unusedSimpArgs false
set_option maxRecDepth 20000 in
theorem l1Own_c (v : Value) (xs : List Int) (H : AH) (hr : Row 3 H v xs) (hlen : xs.length ≤ 1099511627776) : ACalls Try.prog 82 [v] H fun r H' => Own 3 H H' r xs ∧ H <+: H' := by
  refine in82 rfl ?_
  intro Q hQ
  simp (maxSteps := 1000000) (disch := omega) only [cd82, S, S1, S2, S3, S4, S5, ST, eq_self, reduceIte, reduceCtorEq, Nat.reduceEqDiff, Nat.reduceAdd]
  have hp := List.prefix_append H [AObj.cells [] 3 false]
  have ho : Own 3 H (H ++ [AObj.cells [] 3 false]) (.slice (some ⟨H.length, 0, none⟩) 0 0) [] := .inr ⟨H.length, rfl, Nat.le_refl _, at_new ..⟩
  obtain ⟨v', H2, k1, k2, k3, _⟩ := ho.app (P := Try.prog) (t := 38) Try.underlying38 cs3 (by rw [by3]; decide) zk3 (hr.pre hp) hp (by simp; omega)
  simp (maxSteps := 1000000) (disch := omega) only [k1, S, S1, S2, S3, S4, S5, ST, eq_self, reduceIte, reduceCtorEq, Nat.reduceEqDiff, Nat.reduceAdd]
  refine hQ _ _ _ ?_
  simp (maxSteps := 1000000) (disch := omega) only [k2.row.tup, S, S1, S2, S3, S4, S5, ST, eq_self, reduceIte, reduceCtorEq, Nat.reduceEqDiff, Nat.reduceAdd]
  exact ⟨k2, k3⟩
theorem l9At_c (v : Value) (xs : List Int) (x : Int) (H : AH) (hr : Row 3 H v xs) (hlen : xs.length ≤ 1099511627776) (hx : x ∈ xs) :
    ACalls Try.prog 128 [v, .int .i64 x] H fun r H' => r = .int .i64 (ax xs x) ∧ H = H' := by
  refine in128 rfl ?_
  intro Q hQ
  simp (maxSteps := 1000000) (disch := omega) only [cd128, S, S1, S2, S3, S4, S5, ST, eq_self, reduceIte, reduceCtorEq, Nat.reduceEqDiff, Nat.reduceAdd]
  have h0x : 0 ≤ ax xs x := (idxP_any (fun y => decide (x = y)) xs 0).2 (by simpa using hx)
  refine LoopH.by (fun m s H' => ∃ i, m + i = xs.length ∧ s 0 = v ∧ s 1 = .int .i64 x ∧ s 5 = .int .i64 ((i : Nat) : Int) ∧ H = H' ∧ ax xs x = idxP (fun y => decide (x = y)) (xs.drop i) i) xs.length ?_ ?_
  · exact ⟨0, by simp, rfl, rfl, rfl, rfl, by simp [ax]⟩
  · rintro m s H' ⟨i, hm, h0, h1, h5, rfl, hn⟩
    have hi : i < xs.length := by
      by_cases hi : i < xs.length
      · exact hi
      · rw [List.drop_of_length_le (by omega)] at hn
        simp only [idxP] at hn
        omega
    rw [idxP_step _ xs i hi] at hn
    simp (maxSteps := 1000000) (disch := omega) only [h0, h1, h5, hr.ix Try.underlying38 cs3, hr.cell, Int.toNat_natCast, S, S1, S2, S3, S4, S5, ST, eq_self, reduceIte, reduceCtorEq, Nat.reduceEqDiff, Nat.reduceAdd]
    refine brD.intro (fun e => ?_) (fun e => ?_) <;> simp (maxSteps := 1000000) (disch := omega) only [h0, h1, h5, wrap64, S, S1, S2, S3, S4, S5, ST, eq_self, reduceIte, reduceCtorEq, Nat.reduceEqDiff, Nat.reduceAdd]
    · rw [if_neg (by simp only [decide_eq_true_eq]; exact fun h => e h.symm)] at hn
      refine ⟨m - 1, by omega, i + 1, ?_⟩
      (repeat' apply And.intro) <;> first | exact hn | (simp only [Value.int.injEq, true_and]; omega) | omega | rfl | assumption | (simp; done) | (simp; omega)
    · rw [if_pos (by simp only [decide_eq_true_eq]; exact (Decidable.not_not.1 e).symm)] at hn
      refine hQ _ _ _ ?_
      simp (maxSteps := 1000000) (disch := omega) only [S, S1, S2, S3, S4, S5, ST, eq_self, reduceIte, reduceCtorEq, Nat.reduceEqDiff, Nat.reduceAdd]
      rw [hn]
theorem l9Swap_c (v : Value) (xs : List Int) (a b : Nat) (H : AH) (hr : Row 3 H v xs) (hlen : xs.length ≤ 1099511627776) (ha : a < xs.length) (hb : b < xs.length) :
    ACalls Try.prog 129 [v, .int .i64 ((a : Nat) : Int), .int .i64 ((b : Nat) : Int)] H fun r H' => Own 3 H H' r (swp xs a b) ∧ H <+: H' := by
  refine in129 rfl ?_
  intro Q hQ
  simp (maxSteps := 1000000) (disch := omega) only [cd129, S, S1, S2, S3, S4, S5, ST, eq_self, reduceIte, reduceCtorEq, Nat.reduceEqDiff, Nat.reduceAdd]
  refine CallH.by (l1Own_c v xs H hr hlen) ?_
  rintro w H1 ⟨ho, hp⟩
  have hr1 := hr.pre hp
  rcases ho with ⟨_, h2⟩ | ⟨o, rfl, hoo, hc⟩
  · subst h2; simp at ha
  · have hne : v = .slice none 0 0 ∨ rowO v ≠ o := by
      rcases hr.nil with g | g
      · exact .inl g.1
      · exact .inr (by omega)
    have hr2 : Row 3 (H1.set o (.cells (ints (xs.set a (xs.getD b 0))) 3 false)) v xs := by
      refine hr1.mono fun y hy => ?_
      rcases hne with g | g
      · have := hr.nilv g; subst this; simp at ha
      · rw [List.getElem?_set_ne (fun e => g e.symm)]; exact hy
    have hc2 := at_set (d := .cells (ints (xs.set a (xs.getD b 0))) 3 false) hc
    simp (maxSteps := 1000000) (disch := omega) only [hr1.ix Try.underlying38 cs3, hr1.cell, Int.toNat_natCast, Nat.zero_add, st_ints cs3 hc ha, hr2.ix Try.underlying38 cs3, hr2.cell, S, S1, S2, S3, S4, S5, ST, eq_self, reduceIte, reduceCtorEq, Nat.reduceEqDiff, Nat.reduceAdd]
    simp (maxSteps := 1000000) (disch := omega) only [Int.toNat_natCast, Nat.zero_add, st_ints cs3 hc2 (show b < (xs.set a (xs.getD b 0)).length by simpa using hb), S, S1, S2, S3, S4, S5, ST, eq_self, reduceIte, reduceCtorEq, Nat.reduceEqDiff, Nat.reduceAdd]
    refine hQ _ _ _ ?_
    simp (maxSteps := 1000000) (disch := omega) only [List.set_set, S, S1, S2, S3, S4, S5, ST, eq_self, reduceIte, reduceCtorEq, Nat.reduceEqDiff, Nat.reduceAdd]
    refine ⟨.inr ⟨o, by rw [swp_len], hoo, ?_⟩, ?_⟩
    · exact at_set hc
    · exact pre_set hp hoo _
set_option maxRecDepth 20000 in
theorem swapped_c (v : Value) (xs : List Int) (a b : Nat) (H : AH) (hr : Row 3 H v xs) (hlen : xs.length ≤ 1099511627776) (ha : a < xs.length) (hb : b < xs.length) :
    ACalls Try.prog 126 [v, .agg (List.toArray [.int .i64 ((a : Nat) : Int), .int .i64 ((b : Nat) : Int)])] H fun r H' => Own 3 H H' r (swp xs a b) ∧ H <+: H' := by
  refine in126 rfl ?_
  intro Q hQ
  simp (maxSteps := 1000000) (disch := omega) only [cd126, box_a2, S, S1, S2, S3, S4, S5, ST, eq_self, reduceIte, reduceCtorEq, Nat.reduceEqDiff, Nat.reduceAdd]
  generalize hA : H ++ [AObj.cells [.int .i64 ((a : Nat) : Int), .int .i64 ((b : Nat) : Int)] 81 false] = A
  have a0 : A[H.length]? = some (.cells [.int .i64 ((a : Nat) : Int), .int .i64 ((b : Nat) : Int)] 81 false) := by rw [← hA]; exact at_new ..
  have pA : H <+: A := by rw [← hA]; exact List.prefix_append _ _
  have lA : H.length < A.length := by rw [← hA]; simp
  refine CallH.by (Clone_c v xs A (hr.pre pA) hlen) ?_
  rintro w H1 ⟨ho, hp⟩
  rcases ho with ⟨_, h2⟩ | ⟨o, rfl, hoo, hc⟩
  · subst h2; simp at ha
  · have b0 := pre_at hp a0
    have c0 : cellA H1 H.length 0 = some (.int .i64 ((a : Nat) : Int)) := by rw [cell_of b0]; rfl
    have c1 : cellA H1 H.length 1 = some (.int .i64 ((b : Nat) : Int)) := by rw [cell_of b0]; rfl
    have b2 : (H1.set o (.cells (ints (xs.set a (xs.getD b 0))) 3 false))[H.length]? = some (.cells [.int .i64 ((a : Nat) : Int), .int .i64 ((b : Nat) : Int)] 81 false) := by
      rw [List.getElem?_set_ne (by omega)]; exact b0
    have d1 : cellA (H1.set o (.cells (ints (xs.set a (xs.getD b 0))) 3 false)) H.length 1 = some (.int .i64 ((b : Nat) : Int)) := by rw [cell_of b2]; rfl
    have hc2 := at_set (d := .cells (ints (xs.set a (xs.getD b 0))) 3 false) hc
    simp (maxSteps := 1000000) (disch := omega) only [c0, c1, Int.toNat_natCast, Nat.zero_add, cell_ints hc ha, cell_ints hc hb, st_ints cs3 hc ha, d1, st_ints cs3 hc2 (show b < (xs.set a (xs.getD b 0)).length by simpa using hb), S, S1, S2, S3, S4, S5, ST, eq_self, reduceIte, reduceCtorEq, Nat.reduceEqDiff, Nat.reduceAdd]
    refine hQ _ _ _ ?_
    simp (maxSteps := 1000000) (disch := omega) only [List.set_set, S, S1, S2, S3, S4, S5, ST, eq_self, reduceIte, reduceCtorEq, Nat.reduceEqDiff, Nat.reduceAdd]
    refine ⟨.inr ⟨o, by rw [swp_len], by omega, ?_⟩, ?_⟩
    · exact at_set hc
    · exact pre_set (pA.trans hp) (by omega) _
end Go.Proofs.Ytlfongfhbkefmaa.Ai
namespace Go.Proofs.Ytlfongfhbkefmaa.Ai
open Go
def ords132 : List (Nat × List (Nat × Bool)) := [(6, [(0, false), (1, false), (2, false), (4, false), (5, false), (7, false), (8, false), (9, false), (3, true), (6, true), (10, true), (11, true)])]
def cd132 : Cd := (.seq (.reg [⟨⟨some 4, Op.assign (Operand.const (Value.slice none 0 0)), none⟩, []⟩]) (.seq (.reg [⟨⟨some 8, Op.buildSlice 38 0 #[], none⟩, []⟩,
  ⟨⟨some 5, Op.assign (Operand.tmp 8), none⟩, []⟩]) (.seq (.seq (.reg [⟨⟨some 6, Op.assign (Operand.const (Value.int IntKind.i64 0)), none⟩, []⟩]) (.block 0 (.loop (.seq (.seq (.reg [⟨⟨some 9, Op.move (Operand.tmp 6), none⟩, []⟩,
  ⟨⟨some 10, Op.move (Operand.tmp 1), none⟩, []⟩,
  ⟨⟨some 11, Op.binOp BinOp.lss 3 (Operand.tmp 9) (Operand.tmp 10) 3, none⟩, []⟩,
  ⟨⟨some 12, Op.move (Operand.tmp 11), none⟩, []⟩,
  ⟨⟨some 13, Op.move (Operand.tmp 6), some (12, true)⟩, []⟩,
  ⟨⟨some 14, Op.binOp BinOp.lss 3 (Operand.tmp 13) (Operand.const (Value.int IntKind.i64 10)) 3, some (12, true)⟩, []⟩,
  ⟨⟨some 15, Op.pick (Operand.tmp 12) (Operand.tmp 14) (Operand.const (Value.bool false)), none⟩, []⟩]) (.cond (Operand.tmp 15) .skip (.exit 0))) (.seq (.block 1 (.seq (.reg [⟨⟨some 18, Op.move (Operand.tmp 0), none⟩, []⟩,
  ⟨⟨some 19, Op.move (Operand.tmp 5), none⟩, []⟩,
  ⟨⟨some 20, Op.call { callee := (Callee.builtin Builtin.len), args := #[(Operand.tmp 19)], argTypes := #[38] }, none⟩, []⟩,
  ⟨⟨some 21, Op.binOp BinOp.add 3 (Operand.tmp 20) (Operand.const (Value.int IntKind.i64 1)) 3, none⟩, []⟩,
  ⟨⟨some 22, Op.call { callee := (Callee.value (Operand.func 133)), args := #[(Operand.tmp 18), (Operand.tmp 21)], argTypes := #[121, 3] }, none⟩, []⟩,
  ⟨⟨some 7, Op.assign (Operand.tmp 22), none⟩, []⟩]) (.reg [⟨⟨some 23, Op.move (Operand.tmp 5), none⟩, []⟩,
  ⟨⟨some 24, Op.move (Operand.tmp 7), none⟩, []⟩,
  ⟨⟨some 25, Op.slice 38 (Operand.tmp 23) none (some (Operand.tmp 24)) none, none⟩, []⟩,
  ⟨⟨some 27, Op.move (Operand.tmp 6), none⟩, []⟩,
  ⟨⟨some 28, Op.buildSlice 38 1 #[(0, (Operand.tmp 27))], none⟩, []⟩,
  ⟨⟨some 30, Op.move (Operand.tmp 5), none⟩, []⟩,
  ⟨⟨some 31, Op.move (Operand.tmp 7), none⟩, []⟩,
  ⟨⟨some 32, Op.slice 38 (Operand.tmp 30) (some (Operand.tmp 31)) none none, none⟩, []⟩,
  ⟨⟨some 26, Op.call { callee := (Callee.value (Operand.func 82)), args := #[(Operand.tmp 25)], argTypes := #[38] }, none⟩, [⟨some 32, Op.slice 38 (Operand.tmp 30) (some (Operand.tmp 31)) none none, none⟩, ⟨some 28, Op.buildSlice 38 1 #[(0, (Operand.tmp 27))], none⟩]⟩,
  ⟨⟨some 29, Op.call { callee := (Callee.builtin Builtin.append), args := #[(Operand.tmp 26), (Operand.tmp 28)], argTypes := #[38, 38] }, none⟩, [⟨some 32, Op.slice 38 (Operand.tmp 30) (some (Operand.tmp 31)) none none, none⟩]⟩,
  ⟨⟨some 33, Op.call { callee := (Callee.builtin Builtin.append), args := #[(Operand.tmp 29), (Operand.tmp 32)], argTypes := #[38, 38] }, none⟩, []⟩,
  ⟨⟨some 5, Op.assign (Operand.tmp 33), none⟩, []⟩]))) (.reg [⟨⟨some 16, Op.move (Operand.tmp 6), none⟩, []⟩,
  ⟨⟨some 17, Op.binOp BinOp.add 3 (Operand.tmp 16) (Operand.const (Value.int IntKind.i64 1)) 3, none⟩, []⟩,
  ⟨⟨some 6, Op.assign (Operand.tmp 17), none⟩, []⟩])))))) (.seq (.seq (.reg [⟨⟨some 34, Op.move (Operand.tmp 0), none⟩, []⟩,
  ⟨⟨some 35, Op.call { callee := (Callee.value (Operand.func 134)), args := #[(Operand.tmp 34), (Operand.const (Value.int IntKind.i64 20))], argTypes := #[121, 3] }, none⟩, []⟩]) (.cond (Operand.tmp 35) (.reg [⟨⟨some 36, Op.move (Operand.tmp 5), none⟩, []⟩,
  ⟨⟨some 37, Op.move (Operand.tmp 0), none⟩, []⟩,
  ⟨⟨some 38, Op.buildSlice 38 3 #[(0, (Operand.const (Value.int IntKind.i64 0))), (1, (Operand.const (Value.int IntKind.i64 (-1)))), (2, (Operand.const (Value.int IntKind.i64 9)))], none⟩, []⟩,
  ⟨⟨some 39, Op.call { callee := (Callee.value (Operand.func 137)), args := #[(Operand.tmp 37), (Operand.tmp 38)], argTypes := #[121, 38] }, none⟩, []⟩,
  ⟨⟨some 40, Op.buildSlice 38 1 #[(0, (Operand.tmp 39))], none⟩, []⟩,
  ⟨⟨some 41, Op.call { callee := (Callee.builtin Builtin.append), args := #[(Operand.tmp 36), (Operand.tmp 40)], argTypes := #[38, 38] }, none⟩, []⟩,
  ⟨⟨some 5, Op.assign (Operand.tmp 41), none⟩, []⟩]) .skip)) (.seq (.reg [⟨⟨some 42, Op.move (Operand.tmp 5), none⟩, []⟩,
  ⟨⟨some 4, Op.assign (Operand.tmp 42), none⟩, []⟩]) .ret)))))
theorem sl132 : slim Try.f132.ntmps ords132 (Try.f132.body.getD .skip) = some cd132 := by kernel_rfl
theorem in132 {args : List Value} {H : AH} {R : Value → AH → Prop} (hl : args.length = 2) (h : ∀ (Q : Exit → Sl → AH → Prop), (∀ e s H, endA Try.prog [ResultVar.tmp 4] R e s H → Q e s H) → wpC Try.prog cd132 Q (enterA args) H) : ACalls Try.prog 132 args H R :=
  ACalls.intro (by kernel_rfl) Try.func132 rfl (by kernel_rfl) sl132 hl (of_decide_eq_true (by kernel_rfl)) (by kernel_rfl) h
def ords123 : List (Nat × List (Nat × Bool)) := []
def cd123 : Cd := (.seq (.reg [⟨⟨some 2, Op.assign (Operand.const (Value.slice none 0 0)), none⟩, []⟩]) (.seq (.reg [⟨⟨some 4, Op.move (Operand.tmp 0), none⟩, []⟩,
  ⟨⟨some 5, Op.build 124 #[(0, (Operand.tmp 4))], none⟩, []⟩,
  ⟨⟨some 6, Op.box 124 (Operand.tmp 5), none⟩, []⟩,
  ⟨⟨some 3, Op.assign (Operand.tmp 6), none⟩, []⟩]) (.seq (.reg [⟨⟨some 7, Op.move (Operand.tmp 3), none⟩, []⟩,
  ⟨⟨some 8, Op.move (Operand.tmp 3), none⟩, []⟩,
  ⟨⟨some 9, Op.call { callee := (Callee.value (Operand.func 133)), args := #[(Operand.tmp 8), (Operand.const (Value.int IntKind.i64 9))], argTypes := #[121, 3] }, none⟩, []⟩,
  ⟨⟨some 10, Op.call { callee := (Callee.value (Operand.func 132)), args := #[(Operand.tmp 7), (Operand.tmp 9)], argTypes := #[121, 3] }, none⟩, []⟩,
  ⟨⟨some 2, Op.assign (Operand.tmp 10), none⟩, []⟩]) .ret)))
theorem sl123 : slim Try.f123.ntmps ords123 (Try.f123.body.getD .skip) = some cd123 := by kernel_rfl
theorem in123 {args : List Value} {H : AH} {R : Value → AH → Prop} (hl : args.length = 1) (h : ∀ (Q : Exit → Sl → AH → Prop), (∀ e s H, endA Try.prog [ResultVar.tmp 2] R e s H → Q e s H) → wpC Try.prog cd123 Q (enterA args) H) : ACalls Try.prog 123 args H R :=
  ACalls.intro (by kernel_rfl) Try.func123 rfl (by kernel_rfl) sl123 hl (of_decide_eq_true (by kernel_rfl)) (by kernel_rfl) h
def ords40 : List (Nat × List (Nat × Bool)) := []
def cd40 : Cd := (.seq (.reg [⟨⟨some 2, Op.assign (Operand.const (Value.slice none 0 0)), none⟩, []⟩]) (.seq (.reg [⟨⟨some 3, Op.move (Operand.tmp 0), none⟩, []⟩,
  ⟨⟨some 4, Op.call { callee := (Callee.value (Operand.func 123)), args := #[(Operand.tmp 3)], argTypes := #[56] }, none⟩, []⟩,
  ⟨⟨some 2, Op.assign (Operand.tmp 4), none⟩, []⟩]) .ret))
theorem sl40 : slim Try.f40.ntmps ords40 (Try.f40.body.getD .skip) = some cd40 := by kernel_rfl
theorem in40 {args : List Value} {H : AH} {R : Value → AH → Prop} (hl : args.length = 1) (h : ∀ (Q : Exit → Sl → AH → Prop), (∀ e s H, endA Try.prog [ResultVar.tmp 2] R e s H → Q e s H) → wpC Try.prog cd40 Q (enterA args) H) : ACalls Try.prog 40 args H R :=
  ACalls.intro (by kernel_rfl) Try.func40 rfl (by kernel_rfl) sl40 hl (of_decide_eq_true (by kernel_rfl)) (by kernel_rfl) h
def ords135 : List (Nat × List (Nat × Bool)) := []
def cd135 : Cd := (.seq (.reg [⟨⟨some 4, Op.assign (Operand.const (Value.int IntKind.i64 0)), none⟩, []⟩]) (.seq (.seq (.reg [⟨⟨some 5, Op.move (Operand.tmp 0), none⟩, []⟩,
  ⟨⟨some 6, Op.move (Operand.tmp 1), none⟩, []⟩,
  ⟨⟨some 7, Op.binOp BinOp.lss 3 (Operand.tmp 5) (Operand.tmp 6) 3, none⟩, []⟩]) (.cond (Operand.tmp 7) (.seq (.reg [⟨⟨some 8, Op.move (Operand.tmp 0), none⟩, []⟩,
  ⟨⟨some 4, Op.assign (Operand.tmp 8), none⟩, []⟩]) .ret) .skip)) (.seq (.reg [⟨⟨some 9, Op.move (Operand.tmp 1), none⟩, []⟩,
  ⟨⟨some 4, Op.assign (Operand.tmp 9), none⟩, []⟩]) .ret)))
theorem sl135 : slim Try.f135.ntmps ords135 (Try.f135.body.getD .skip) = some cd135 := by kernel_rfl
theorem in135 {args : List Value} {H : AH} {R : Value → AH → Prop} (hl : args.length = 2) (h : ∀ (Q : Exit → Sl → AH → Prop), (∀ e s H, endA Try.prog [ResultVar.tmp 4] R e s H → Q e s H) → wpC Try.prog cd135 Q (enterA args) H) : ACalls Try.prog 135 args H R :=
  ACalls.intro (by kernel_rfl) Try.func135 rfl (by kernel_rfl) sl135 hl (of_decide_eq_true (by kernel_rfl)) (by kernel_rfl) h
def ords136 : List (Nat × List (Nat × Bool)) := []
def cd136 : Cd := (.seq (.reg [⟨⟨some 4, Op.assign (Operand.const (Value.int IntKind.i64 0)), none⟩, []⟩]) (.seq (.seq (.reg [⟨⟨some 5, Op.move (Operand.tmp 0), none⟩, []⟩,
  ⟨⟨some 6, Op.move (Operand.tmp 1), none⟩, []⟩,
  ⟨⟨some 7, Op.binOp BinOp.gtr 3 (Operand.tmp 5) (Operand.tmp 6) 3, none⟩, []⟩]) (.cond (Operand.tmp 7) (.seq (.reg [⟨⟨some 8, Op.move (Operand.tmp 0), none⟩, []⟩,
  ⟨⟨some 4, Op.assign (Operand.tmp 8), none⟩, []⟩]) .ret) .skip)) (.seq (.reg [⟨⟨some 9, Op.move (Operand.tmp 1), none⟩, []⟩,
  ⟨⟨some 4, Op.assign (Operand.tmp 9), none⟩, []⟩]) .ret)))
theorem sl136 : slim Try.f136.ntmps ords136 (Try.f136.body.getD .skip) = some cd136 := by kernel_rfl
theorem in136 {args : List Value} {H : AH} {R : Value → AH → Prop} (hl : args.length = 2) (h : ∀ (Q : Exit → Sl → AH → Prop), (∀ e s H, endA Try.prog [ResultVar.tmp 4] R e s H → Q e s H) → wpC Try.prog cd136 Q (enterA args) H) : ACalls Try.prog 136 args H R :=
  ACalls.intro (by kernel_rfl) Try.func136 rfl (by kernel_rfl) sl136 hl (of_decide_eq_true (by kernel_rfl)) (by kernel_rfl) h
def ords49 : List (Nat × List (Nat × Bool)) := []
def cd49 : Cd := (.seq (.reg [⟨⟨some 2, Op.assign (Operand.const (Value.slice none 0 0)), none⟩, []⟩,
  ⟨⟨some 3, Op.assign (Operand.const (Value.slice none 0 0)), none⟩, []⟩]) (.seq (.reg [⟨⟨some 10, Op.move (Operand.tmp 0), none⟩, []⟩,
  ⟨⟨some 11, Op.build 124 #[(0, (Operand.tmp 10))], none⟩, []⟩,
  ⟨⟨some 12, Op.box 124 (Operand.tmp 11), none⟩, []⟩,
  ⟨⟨some 4, Op.assign (Operand.tmp 12), none⟩, []⟩]) (.seq (.reg [⟨⟨some 13, Op.move (Operand.tmp 4), none⟩, []⟩,
  ⟨⟨some 14, Op.move (Operand.tmp 4), none⟩, []⟩,
  ⟨⟨some 15, Op.call { callee := (Callee.value (Operand.func 133)), args := #[(Operand.tmp 14), (Operand.const (Value.int IntKind.i64 6))], argTypes := #[121, 3] }, none⟩, []⟩,
  ⟨⟨some 16, Op.binOp BinOp.add 3 (Operand.const (Value.int IntKind.i64 2)) (Operand.tmp 15) 3, none⟩, []⟩,
  ⟨⟨some 17, Op.call { callee := (Callee.value (Operand.func 132)), args := #[(Operand.tmp 13), (Operand.tmp 16)], argTypes := #[121, 3] }, none⟩, []⟩,
  ⟨⟨some 5, Op.assign (Operand.tmp 17), none⟩, []⟩]) (.seq (.reg [⟨⟨some 18, Op.buildSlice 22 0 #[], none⟩, []⟩,
  ⟨⟨some 6, Op.assign (Operand.tmp 18), none⟩, []⟩]) (.seq (.seq (.reg [⟨⟨some 19, Op.move (Operand.tmp 4), none⟩, []⟩,
  ⟨⟨some 20, Op.call { callee := (Callee.value (Operand.func 133)), args := #[(Operand.tmp 19), (Operand.const (Value.int IntKind.i64 5))], argTypes := #[121, 3] }, none⟩, []⟩,
  ⟨⟨some 7, Op.assign (Operand.tmp 20), none⟩, []⟩]) (.block 0 (.loop (.seq (.seq (.reg [⟨⟨some 21, Op.move (Operand.tmp 7), none⟩, []⟩,
  ⟨⟨some 22, Op.binOp BinOp.gtr 3 (Operand.tmp 21) (Operand.const (Value.int IntKind.i64 0)) 3, none⟩, []⟩]) (.cond (Operand.tmp 22) .skip (.exit 0))) (.seq (.block 1 (.seq (.reg [⟨⟨some 25, Op.move (Operand.tmp 4), none⟩, []⟩,
  ⟨⟨some 26, Op.move (Operand.tmp 5), none⟩, []⟩,
  ⟨⟨some 27, Op.call { callee := (Callee.builtin Builtin.len), args := #[(Operand.tmp 26)], argTypes := #[38] }, none⟩, []⟩,
  ⟨⟨some 28, Op.call { callee := (Callee.value (Operand.func 133)), args := #[(Operand.tmp 25), (Operand.tmp 27)], argTypes := #[121, 3] }, none⟩, []⟩,
  ⟨⟨some 29, Op.move (Operand.tmp 4), none⟩, []⟩,
  ⟨⟨some 30, Op.move (Operand.tmp 5), none⟩, []⟩,
  ⟨⟨some 31, Op.call { callee := (Callee.builtin Builtin.len), args := #[(Operand.tmp 30)], argTypes := #[38] }, none⟩, []⟩,
  ⟨⟨some 32, Op.call { callee := (Callee.value (Operand.func 133)), args := #[(Operand.tmp 29), (Operand.tmp 31)], argTypes := #[121, 3] }, none⟩, []⟩,
  ⟨⟨some 8, Op.assign (Operand.tmp 28), none⟩, []⟩,
  ⟨⟨some 9, Op.assign (Operand.tmp 32), none⟩, []⟩]) (.seq (.reg [⟨⟨some 33, Op.move (Operand.tmp 8), none⟩, []⟩,
  ⟨⟨some 34, Op.move (Operand.tmp 9), none⟩, []⟩,
  ⟨⟨some 35, Op.binOp BinOp.neq 3 (Operand.tmp 33) (Operand.tmp 34) 3, none⟩, []⟩,
  ⟨⟨some 36, Op.move (Operand.tmp 35), none⟩, []⟩,
  ⟨⟨some 37, Op.move (Operand.tmp 4), some (36, false)⟩, []⟩,
  ⟨⟨some 38, Op.call { callee := (Callee.value (Operand.func 134)), args := #[(Operand.tmp 37), (Operand.const (Value.int IntKind.i64 12))], argTypes := #[121, 3] }, some (36, false)⟩, []⟩,
  ⟨⟨some 39, Op.pick (Operand.tmp 36) (Operand.const (Value.bool true)) (Operand.tmp 38), none⟩, []⟩]) (.cond (Operand.tmp 39) (.reg [⟨⟨some 40, Op.move (Operand.tmp 6), none⟩, []⟩,
  ⟨⟨some 41, Op.move (Operand.tmp 8), none⟩, []⟩,
  ⟨⟨some 42, Op.move (Operand.tmp 9), none⟩, []⟩,
  ⟨⟨some 43, Op.call { callee := (Callee.value (Operand.func 135)), args := #[(Operand.tmp 41), (Operand.tmp 42)], argTypes := #[3, 3] }, none⟩, []⟩,
  ⟨⟨some 44, Op.move (Operand.tmp 8), none⟩, []⟩,
  ⟨⟨some 45, Op.move (Operand.tmp 9), none⟩, []⟩,
  ⟨⟨some 46, Op.call { callee := (Callee.value (Operand.func 136)), args := #[(Operand.tmp 44), (Operand.tmp 45)], argTypes := #[3, 3] }, none⟩, []⟩,
  ⟨⟨some 47, Op.build 81 #[(0, (Operand.tmp 43)), (1, (Operand.tmp 46))], none⟩, []⟩,
  ⟨⟨some 48, Op.buildSlice 22 1 #[(0, (Operand.tmp 47))], none⟩, []⟩,
  ⟨⟨some 49, Op.call { callee := (Callee.builtin Builtin.append), args := #[(Operand.tmp 40), (Operand.tmp 48)], argTypes := #[22, 22] }, none⟩, []⟩,
  ⟨⟨some 6, Op.assign (Operand.tmp 49), none⟩, []⟩]) .skip)))) (.reg [⟨⟨some 23, Op.move (Operand.tmp 7), none⟩, []⟩,
  ⟨⟨some 24, Op.binOp BinOp.sub 3 (Operand.tmp 23) (Operand.const (Value.int IntKind.i64 1)) 3, none⟩, []⟩,
  ⟨⟨some 7, Op.assign (Operand.tmp 24), none⟩, []⟩])))))) (.seq (.seq (.reg [⟨⟨some 50, Op.move (Operand.tmp 4), none⟩, []⟩,
  ⟨⟨some 51, Op.call { callee := (Callee.value (Operand.func 134)), args := #[(Operand.tmp 50), (Operand.const (Value.int IntKind.i64 24))], argTypes := #[121, 3] }, none⟩, []⟩]) (.cond (Operand.tmp 51) (.reg [⟨⟨some 52, Op.move (Operand.tmp 6), none⟩, []⟩,
  ⟨⟨some 53, Op.move (Operand.tmp 4), none⟩, []⟩,
  ⟨⟨some 54, Op.buildSlice 38 3 #[(0, (Operand.const (Value.int IntKind.i64 0))), (1, (Operand.const (Value.int IntKind.i64 1))), (2, (Operand.const (Value.int IntKind.i64 9)))], none⟩, []⟩,
  ⟨⟨some 55, Op.call { callee := (Callee.value (Operand.func 137)), args := #[(Operand.tmp 53), (Operand.tmp 54)], argTypes := #[121, 38] }, none⟩, []⟩,
  ⟨⟨some 56, Op.build 81 #[(0, (Operand.const (Value.int IntKind.i64 1))), (1, (Operand.tmp 55))], none⟩, []⟩,
  ⟨⟨some 57, Op.buildSlice 22 1 #[(0, (Operand.tmp 56))], none⟩, []⟩,
  ⟨⟨some 58, Op.call { callee := (Callee.builtin Builtin.append), args := #[(Operand.tmp 52), (Operand.tmp 57)], argTypes := #[22, 22] }, none⟩, []⟩,
  ⟨⟨some 6, Op.assign (Operand.tmp 58), none⟩, []⟩]) .skip)) (.seq (.reg [⟨⟨some 59, Op.move (Operand.tmp 5), none⟩, []⟩,
  ⟨⟨some 60, Op.move (Operand.tmp 6), none⟩, []⟩,
  ⟨⟨some 2, Op.assign (Operand.tmp 59), none⟩, []⟩,
  ⟨⟨some 3, Op.assign (Operand.tmp 60), none⟩, []⟩]) .ret)))))))
theorem sl49 : slim Try.f49.ntmps ords49 (Try.f49.body.getD .skip) = some cd49 := by kernel_rfl
theorem in49 {args : List Value} {H : AH} {R : Value → AH → Prop} (hl : args.length = 1) (h : ∀ (Q : Exit → Sl → AH → Prop), (∀ e s H, endA Try.prog [ResultVar.tmp 2, ResultVar.tmp 3] R e s H → Q e s H) → wpC Try.prog cd49 Q (enterA args) H) : ACalls Try.prog 49 args H R :=
  ACalls.intro (by kernel_rfl) Try.func49 rfl (by kernel_rfl) sl49 hl (of_decide_eq_true (by kernel_rfl)) (by kernel_rfl) h
def ords39 : List (Nat × List (Nat × Bool)) := []
def cd39 : Cd := (.seq (.reg [⟨⟨some 2, Op.assign (Operand.const (Value.bool false)), none⟩, []⟩]) (.seq (.reg [⟨⟨some 3, Op.move (Operand.tmp 0), none⟩, []⟩,
  ⟨⟨some 4, Op.call { callee := (Callee.builtin Builtin.len), args := #[(Operand.tmp 3)], argTypes := #[56] }, none⟩, []⟩,
  ⟨⟨some 5, Op.binOp BinOp.gtr 3 (Operand.tmp 4) (Operand.const (Value.int IntKind.i64 65536)) 3, none⟩, []⟩,
  ⟨⟨some 2, Op.assign (Operand.tmp 5), none⟩, []⟩]) .ret))
theorem sl39 : slim Try.f39.ntmps ords39 (Try.f39.body.getD .skip) = some cd39 := by kernel_rfl
theorem in39 {args : List Value} {H : AH} {R : Value → AH → Prop} (hl : args.length = 1) (h : ∀ (Q : Exit → Sl → AH → Prop), (∀ e s H, endA Try.prog [ResultVar.tmp 2] R e s H → Q e s H) → wpC Try.prog cd39 Q (enterA args) H) : ACalls Try.prog 39 args H R :=
  ACalls.intro (by kernel_rfl) Try.func39 rfl (by kernel_rfl) sl39 hl (of_decide_eq_true (by kernel_rfl)) (by kernel_rfl) h
def ords50 : List (Nat × List (Nat × Bool)) := []
def cd50 : Cd := (.seq (.reg [⟨⟨some 4, Op.assign (Operand.const (Value.slice none 0 0)), none⟩, []⟩]) (.seq (.seq (.reg [⟨⟨some 5, Op.move (Operand.tmp 1), none⟩, []⟩,
  ⟨⟨some 6, Op.move (Operand.tmp 0), none⟩, []⟩,
  ⟨⟨some 7, Op.call { callee := (Callee.builtin Builtin.len), args := #[(Operand.tmp 6)], argTypes := #[56] }, none⟩, []⟩,
  ⟨⟨some 8, Op.binOp BinOp.gtr 3 (Operand.tmp 5) (Operand.tmp 7) 3, none⟩, []⟩]) (.cond (Operand.tmp 8) (.reg [⟨⟨some 9, Op.move (Operand.tmp 0), none⟩, []⟩,
  ⟨⟨some 10, Op.call { callee := (Callee.builtin Builtin.len), args := #[(Operand.tmp 9)], argTypes := #[56] }, none⟩, []⟩,
  ⟨⟨some 1, Op.assign (Operand.tmp 10), none⟩, []⟩]) .skip)) (.seq (.reg [⟨⟨some 11, Op.buildSlice 56 0 #[], none⟩, []⟩,
  ⟨⟨some 12, Op.move (Operand.tmp 0), none⟩, []⟩,
  ⟨⟨some 13, Op.move (Operand.tmp 1), none⟩, []⟩,
  ⟨⟨some 14, Op.slice 56 (Operand.tmp 12) (some (Operand.tmp 13)) none none, none⟩, []⟩,
  ⟨⟨some 15, Op.call { callee := (Callee.builtin Builtin.append), args := #[(Operand.tmp 11), (Operand.tmp 14)], argTypes := #[56, 56] }, none⟩, []⟩,
  ⟨⟨some 16, Op.move (Operand.tmp 1), none⟩, []⟩,
  ⟨⟨some 17, Op.convert 3 5 (Operand.tmp 16), none⟩, []⟩,
  ⟨⟨some 18, Op.buildSlice 56 1 #[(0, (Operand.tmp 17))], none⟩, []⟩,
  ⟨⟨some 19, Op.call { callee := (Callee.builtin Builtin.append), args := #[(Operand.tmp 15), (Operand.tmp 18)], argTypes := #[56, 56] }, none⟩, []⟩,
  ⟨⟨some 4, Op.assign (Operand.tmp 19), none⟩, []⟩]) .ret)))
theorem sl50 : slim Try.f50.ntmps ords50 (Try.f50.body.getD .skip) = some cd50 := by kernel_rfl
theorem in50 {args : List Value} {H : AH} {R : Value → AH → Prop} (hl : args.length = 2) (h : ∀ (Q : Exit → Sl → AH → Prop), (∀ e s H, endA Try.prog [ResultVar.tmp 4] R e s H → Q e s H) → wpC Try.prog cd50 Q (enterA args) H) : ACalls Try.prog 50 args H R :=
  ACalls.intro (by kernel_rfl) Try.func50 rfl (by kernel_rfl) sl50 hl (of_decide_eq_true (by kernel_rfl)) (by kernel_rfl) h
end Go.Proofs.Ytlfongfhbkefmaa.Ai
namespace Go.Proofs.Ytlfongfhbkefmaa.Ai
open Go Go.RowKit
set_option linter.unusedVariables false
set_option linter.unusedSimpArgs false
/-- all but one object stays -/
def Keeps (o : Nat) (H H' : AH) : Prop := H.length ≤ H'.length ∧ ∀ (j : Nat) (y : AObj), j ≠ o → H[j]? = some y → H'[j]? = some y
theorem Keeps.trans {o : Nat} {H H' H'' : AH} (h : Keeps o H H') (k : Keeps o H' H'') : Keeps o H H'' := ⟨Nat.le_trans h.1 k.1, fun j y hj hy => k.2 j y hj (h.2 j y hj hy)⟩
theorem OnlyO.keeps {o : Nat} {H H' : AH} (h : OnlyO o H H') : Keeps o H H' := ⟨Nat.le_of_eq h.1.symm, h.2⟩
theorem Keeps.of_pre {o : Nat} {H H' : AH} (h : H <+: H') : Keeps o H H' := ⟨h.length_le, fun j y _ hy => pre_at h hy⟩
theorem Own.keeps {e : TypeId} {H0 H H' : AH} {o : Nat} {v : Value} {xs : List Int} (h : Own e H0 H v xs) (hk : Keeps o H H') (ho : o < H0.length) : Own e H0 H' v xs := by
  rcases h with q | ⟨oo, q1, q2, q3⟩
  · exact .inl q
  · exact .inr ⟨oo, q1, q2, hk.2 _ _ (by omega) q3⟩
theorem Cur.keeps {H H' : AH} {o : Nat} {v : Value} {us : List Value} {N : Nat} (h : Cur H o v us N) (hp : H <+: H') : Cur H' o v us N := h.pre hp
theorem ownB {e : TypeId} {H0 H1 H : AH} {v : Value} {xs : List Int} (h : Own e H0 H v xs) (hl : H1.length ≤ H0.length) : Own e H1 H v xs := by
  rcases h with h | ⟨o, h1, h2, h3⟩
  · exact .inl h
  · exact .inr ⟨o, h1, by omega, h3⟩
set_option maxRecDepth 20000 in
set_option maxHeartbeats 4000000 in
theorem perm9_c {H : AH} {o : Nat} {v : Value} {us : List Value} {N : Nat} (h : Cur H o v us N) (hN : N ≤ 100000000) (n : Nat) (hn : n ≤ 9) :
    ACalls Try.prog 132 [.pointer (some ⟨o, 0, none⟩), .int .i64 (n : Int)] H fun r H' => ∃ p : List Int, Own 3 H H' r p ∧ (n ≤ p.length ∧ p.length ≤ 10) ∧ (∀ y ∈ p, -1 ≤ y ∧ y ≤ 9) ∧ Cur H' o v us (N + 20) ∧ Keeps o H H' := by
  have hoH : o < H.length := by
    obtain ⟨_, _, g, _⟩ := h.cur
    exact at_lt g
  refine in132 rfl ?_
  intro Q hQ
  simp (maxSteps := 1000000) (disch := omega) only [cd132, S, S1, S2, S3, S4, S5, ST, eq_self, reduceIte, reduceCtorEq, Nat.reduceEqDiff, Nat.reduceAdd]
  generalize hA : H ++ [AObj.cells [] 3 false] = A
  have pA : H <+: A := by rw [← hA]; exact List.prefix_append _ _
  have cA : A[H.length]? = some (.cells (ints []) 3 false) := by rw [← hA]; exact at_new ..
  have own0 : Own 3 H A (.slice (some ⟨H.length, 0, none⟩) 0 0) [] := .inr ⟨H.length, rfl, Nat.le_refl _, cA⟩
  have hC0 := (h.pre pA).more (show N ≤ N + 0 by omega)
  have hK0 : Keeps o H A := .of_pre pA
  refine LoopH.by (fun m s H' => ∃ (i : Nat) (xs : List Int), m + i = n ∧ s 0 = .pointer (some ⟨o, 0, none⟩) ∧ s 1 = .int .i64 (n : Int) ∧ s 6 = .int .i64 ((i : Nat) : Int) ∧ xs.length = i ∧ (∀ y ∈ xs, -1 ≤ y ∧ y ≤ 9) ∧ Own 3 H H' (s 5) xs ∧ Cur H' o v us (N + i) ∧ Keeps o H H') n ?_ ?_
  · refine ⟨0, [], ?_⟩
    simp (maxSteps := 1000000) (disch := omega) only [S, S1, S2, S3, S4, S5, ST, eq_self, reduceIte, reduceCtorEq, Nat.reduceEqDiff, Nat.reduceAdd]
    (repeat' first | exact own0 | exact hC0 | exact hK0 | apply And.intro) <;> first | (simp only [Value.int.injEq, true_and]; omega) | omega | rfl | assumption | (simp; done) | (simp; omega)
  rintro m s H' ⟨i, xs, hm, h0, h1, h6, hxl, hxr, hO, hC, hK⟩
  generalize hU : s 5 = U at *
  have hUrow := hO.row
  simp (maxSteps := 1000000) (disch := omega) only [h0, h1, h6, hU, S, S1, S2, S3, S4, S5, ST, eq_self, reduceIte, reduceCtorEq, Nat.reduceEqDiff, Nat.reduceAdd]
  by_cases g : (i : Int) < (n : Int)
  · have g2 : (i : Int) < 10 := by omega
    simp (maxSteps := 1000000) (disch := omega) only [decide_eq_true g, decide_eq_true g2, h0, h1, h6, hU, hUrow.len Try.underlying38, wrap64, S, S1, S2, S3, S4, S5, ST, eq_self, reduceIte, reduceCtorEq, Nat.reduceEqDiff, Nat.reduceAdd]
    refine CallH.by (pick_c hC (by omega) _ (by omega)) ?_
    rintro _ K ⟨⟨k, rfl, hk⟩, hCK, oK⟩
    have hkl : k ≤ xs.length := by omega
    have hOK := hO.keeps oK.keeps hoH
    have hrK := hOK.row
    have hKl : H.length ≤ K.length := by rw [oK.1]; exact hK.1
    obtain ⟨a1, a2, a3⟩ := hrK.slice (P := Try.prog) (t := 38) Try.underlying38 cs3 lo_none (bound_some (k := .i64) (i := (k : Int)) (by omega) xs.length) (Nat.zero_le _) (by rw [Int.toNat_natCast]; exact hkl)
    rw [Int.toNat_natCast] at a1 a2 a3
    rw [List.drop_zero, Nat.sub_zero] at a2
    generalize hK1 : K ++ [AObj.cells [.int .i64 (i : Int)] 3 false] = K1
    have pK1 : K <+: K1 := by rw [← hK1]; exact List.prefix_append _ _
    have at1 : K1[K.length]? = some (.cells [.int .i64 (i : Int)] 3 false) := by rw [← hK1]; exact at_new ..
    have sl2 : ∀ {G : AH}, Row 3 G U xs → _ := fun {G} q => q.slice (P := Try.prog) (t := 38) Try.underlying38 cs3 (bound_some (k := .i64) (i := (k : Int)) (by omega) 0) (hi_none xs.length) (by rw [Int.toNat_natCast]; exact hkl) (Nat.le_refl _)
    have hr1 := hrK.pre pK1
    have b1 := (sl2 hr1).1
    rw [Int.toNat_natCast] at b1
    simp (maxSteps := 1000000) (disch := omega) only [h0, h1, h6, hU, a1, hK1, b1, S, S1, S2, S3, S4, S5, ST, eq_self, reduceIte, reduceCtorEq, Nat.reduceEqDiff, Nat.reduceAdd]
    refine CallH.by (l1Own_c _ _ K1 (a2.pre pK1) (by simp; omega)) ?_
    rintro w1 L ⟨hw1, pL⟩
    have hkeq : L[K.length]? = K1[K.length]? := by rw [pre_at pL at1, at1]
    have hx1 : Row 3 L (.slice (some ⟨K.length, 0, none⟩) 1 1) [(i : Int)] := .inr ⟨K.length, 0, [.int .i64 (i : Int)], false, rfl, pre_at pL at1, by simp, rfl⟩
    obtain ⟨w2, L2, j1, j2, j3, j4, j5⟩ := hw1.app (P := Try.prog) (t := 38) Try.underlying38 cs3 (by rw [by3]; decide) zk3 hx1 pL (by simp; omega)
    have hrL := hr1.pre pL
    have b2 := (sl2 hrL).1
    have hrL2 := hr1.pre j3
    have b3 := (sl2 hrL2).1
    have b4 := (sl2 hrL2).2.1
    rw [Int.toNat_natCast] at b2 b3 b4
    have b5 : (xs.drop k).take (xs.length - k) = xs.drop k := List.take_of_length_le (by simp)
    rw [b5] at b4
    obtain ⟨w3, L3, q1, q2, q3, q4, q5⟩ := j2.app (P := Try.prog) (t := 38) Try.underlying38 cs3 (by rw [by3]; decide) zk3 b4 j3 (by simp; omega)
    have f1 : Own 3 H L3 w3 (xs.take k ++ [(i : Int)] ++ xs.drop k) := ownB q2 (by have := pK1.length_le; omega)
    have f2 : (xs.take k ++ [(i : Int)] ++ xs.drop k).length = i + 1 := by simp; omega
    have f3 : ∀ y ∈ xs.take k ++ [(i : Int)] ++ xs.drop k, -1 ≤ y ∧ y ≤ 9 := fun y hy => by
      simp only [List.mem_append, List.mem_singleton] at hy
      rcases hy with (hy | hy) | hy
      · exact hxr y (List.mem_of_mem_take hy)
      · omega
      · exact hxr y (List.mem_of_mem_drop hy)
    have f4 : Cur L3 o v us (N + (i + 1)) := hCK.pre (pK1.trans q3)
    have f5 : Keeps o H L3 := hK.trans (oK.keeps.trans (.of_pre (pK1.trans q3)))
    simp (maxSteps := 1000000) (disch := omega) only [h0, h1, h6, hU, hkeq, b2, b3, j1, q1, wrap64, S, S1, S2, S3, S4, S5, ST, eq_self, reduceIte, reduceCtorEq, Nat.reduceEqDiff, Nat.reduceAdd]
    refine ⟨m - 1, by omega, i + 1, xs.take k ++ [(i : Int)] ++ xs.drop k, ?_⟩
    (repeat' first | exact f2 | exact f3 | exact f1 | exact f4 | exact f5 | apply And.intro) <;> first | (simp only [Value.int.injEq, true_and]; omega) | omega | rfl | assumption | (simp; done) | (simp; omega)
  · have hin : i = n := by omega
    simp (maxSteps := 1000000) (disch := omega) only [decide_eq_false g, h0, hU, S, S1, S2, S3, S4, S5, ST, eq_self, reduceIte, reduceCtorEq, Nat.reduceEqDiff, Nat.reduceAdd]
    refine CallH.by (one_c hC (by omega) 20 (by omega)) ?_
    rintro _ K ⟨⟨b, rfl⟩, hCK, oK⟩
    have hOK := hO.keeps oK.keeps hoH
    have hKl : H.length ≤ K.length := by rw [oK.1]; exact hK.1
    simp (maxSteps := 1000000) (disch := omega) only [S, S1, S2, S3, S4, S5, ST, eq_self, reduceIte, reduceCtorEq, Nat.reduceEqDiff, Nat.reduceAdd]
    cases b with
    | false =>
      refine brH.intro (fun q => by cases q) (fun _ => ?_)
      simp (maxSteps := 1000000) (disch := omega) only [hU, S, S1, S2, S3, S4, S5, ST, eq_self, reduceIte, reduceCtorEq, Nat.reduceEqDiff, Nat.reduceAdd]
      refine hQ _ _ _ ?_
      simp (maxSteps := 1000000) (disch := omega) only [hOK.row.tup, S, S1, S2, S3, S4, S5, ST, eq_self, reduceIte, reduceCtorEq, Nat.reduceEqDiff, Nat.reduceAdd]
      exact ⟨xs, hOK, by omega, hxr, hCK.more (by omega), hK.trans oK.keeps⟩
    | true =>
      refine brH.intro (fun _ => ?_) (fun q => by cases q)
      simp (maxSteps := 1000000) (disch := omega) only [h0, hU, S, S1, S2, S3, S4, S5, ST, eq_self, reduceIte, reduceCtorEq, Nat.reduceEqDiff, Nat.reduceAdd]
      generalize hK1 : K ++ [AObj.cells [.int .i64 0, .int .i64 (-1), .int .i64 9] 3 false] = K1
      have pK1 : K <+: K1 := by rw [← hK1]; exact List.prefix_append _ _
      have at1 : K1[K.length]? = some (.cells [.int .i64 0, .int .i64 (-1), .int .i64 9] 3 false) := by rw [← hK1]; exact at_new ..
      have hw : Row 3 K1 (.slice (some ⟨K.length, 0, none⟩) 3 3) [0, -1, 9] := .inr ⟨K.length, 0, _, false, rfl, at1, by simp, rfl⟩
      refine CallH.by (among_c (hCK.pre pK1) (by omega) hw (by show K.length ≠ o; omega) (by simp)) ?_
      rintro _ L ⟨⟨x, rfl, hx⟩, hCL, oL⟩
      have hOL := (hOK.row.pre pK1)
      have hOL2 : Own 3 H L U xs := by
        have q : Own 3 H K1 U xs := by
          rcases hOK with q | ⟨oo, q1, q2, q3⟩
          · exact .inl q
          · exact .inr ⟨oo, q1, q2, pre_at pK1 q3⟩
        exact q.keeps oL.keeps hoH
      have hLl : H.length ≤ L.length := by rw [oL.1]; have := pK1.length_le; omega
      have hl0 : (L.take H.length).length = H.length := by simp; omega
      have ox : Own 3 (L.take H.length) L U xs := ownB hOL2 (by omega)
      obtain ⟨w2, L2, j1, j2, j3, j4, j5, j6⟩ := own1_38 ox (List.take_prefix _ _) (by omega) x
      have hle : L.length ≤ L2.length := by
        rcases j2 with ⟨_, q⟩ | ⟨oo, q1, q2, q3⟩
        · simp at q
        · have := at_lt q3
          rw [q1] at j5
          have : L.length ≤ oo := j5
          omega
      have hoU : U = .slice none 0 0 ∨ (H.length ≤ rowO U ∧ rowO U < L.length) := by
        rcases hOL2 with q | ⟨oo, q1, q2, q3⟩
        · exact .inl q.1
        · right; rw [q1]; exact ⟨q2, at_lt q3⟩
      have kp : ∀ (j : Nat) (y : AObj), j < H.length → L[j]? = some y → L2[j]? = some y := fun j y hj hy => j4 j y (hoU.imp id fun q => by omega) hy
      simp (maxSteps := 1000000) (disch := omega) only [hU, j1, S, S1, S2, S3, S4, S5, ST, eq_self, reduceIte, reduceCtorEq, Nat.reduceEqDiff, Nat.reduceAdd]
      refine hQ _ _ _ ?_
      simp (maxSteps := 1000000) (disch := omega) only [j6, S, S1, S2, S3, S4, S5, ST, eq_self, reduceIte, reduceCtorEq, Nat.reduceEqDiff, Nat.reduceAdd]
      obtain ⟨ca, cs, c1, c2, c3⟩ := hCL.cur
      have hx' : -1 ≤ x ∧ x ≤ 9 := by simp at hx; omega
      refine ⟨xs ++ [x], ownB j2 (by omega), by simp; omega, fun y hy => ?_, ⟨⟨ca, cs, kp _ _ hoH c1, by omega, c3⟩, ?_, hCL.byt, hCL.ap, hCL.le⟩, ⟨by have := hK.1; omega, fun j y hj hy => ?_⟩⟩
      · rcases List.mem_append.1 hy with q | q
        · exact hxr y q
        · rw [List.mem_singleton] at q; omega
      · have hvl : v = .slice none 0 0 ∨ rowO v < H.length := by
          rcases h.row with q | ⟨o', k', vs', ro', e1, g2', _⟩
          · exact .inl q.1
          · right; rw [e1]; exact at_lt g2'
        rcases hCL.row with q | q
        · exact .inl q
        · refine RowV.mono (.inr q) fun y hy => ?_
          rcases hvl with g | g
          · obtain ⟨o', k', _, _, g1, _⟩ := q
            rw [g] at g1; cases g1
          · exact kp _ _ g hy
      · exact kp j y (at_lt hy) (oL.2 j y hj (pre_at pK1 (oK.2 j y hj (hK.2 j y hj hy))))
theorem bld_cur (p : Option Addr) (n c : Nat) : buildA Try.prog 124 [(0, .slice p n c)] = some (.agg (List.toArray [.slice p n c, .int .i64 0, .int .u64 0])) := by kernel_rfl
theorem box_cur (p : Option Addr) (n c : Nat) (H : AH) : boxA Try.prog 124 (.agg (List.toArray [.slice p n c, .int .i64 0, .int .u64 0])) H = some (.pointer (some ⟨H.length, 0, none⟩), H ++ [.cells [.slice p n c, .int .i64 0, .int .u64 0] 124 false]) := by kernel_rfl
/-- bytes in memory -/
structure Byt (H : AH) (v : Value) (us : List Value) : Prop where
  row : RowV 5 H v us
  byt : ∀ i, i < us.length → ∃ b : Nat, us.getD i undef = .int .u8 (b : Int) ∧ b < 256
  le : us.length ≤ 1048576
theorem Byt.pre {H H' : AH} {v : Value} {us : List Value} (h : Byt H v us) (hp : H <+: H') : Byt H' v us := ⟨h.row.pre hp, h.byt, h.le⟩
/-- a new cursor -/
theorem Byt.cur {H : AH} {v : Value} {us : List Value} (h : Byt H v us) : Cur (H ++ [.cells [v, .int .i64 0, .int .u64 0] 124 false]) H.length v us 0 := by
  refine ⟨⟨0, 0, at_new .., Nat.le_refl _, by decide⟩, h.row.pre (List.prefix_append _ _), h.byt, ?_, h.le⟩
  rcases h.row with q | ⟨o', k', vs', ro', e1, g2', _⟩
  · exact .inl q.1
  · right
    rw [e1]
    have := at_lt g2'
    show o' ≠ _
    omega
theorem keeps_new {H A G : AH} {o : Nat} (h : Keeps o A G) (hp : H <+: A) (ho : o = H.length) : H <+: G := prefix_of fun j y hy => h.2 j y (by have := at_lt hy; omega) (pre_at hp hy)
set_option maxHeartbeats 1000000 in
theorem DrawCycles_c {H : AH} {v : Value} {us : List Value} (h : Byt H v us) :
    ACalls Try.prog 123 [v] H fun r H' => ∃ p : List Int, Own 3 H H' r p ∧ p.length ≤ 10 ∧ (∀ y ∈ p, -1 ≤ y ∧ y ≤ 9) ∧ H <+: H' := by
  obtain ⟨pv, ev⟩ := h.row.shape
  refine in123 rfl ?_
  intro Q hQ
  have b1 := bld_cur pv us.length us.length
  have b2 := fun H => box_cur pv us.length us.length H
  rw [← ev] at b1 b2
  simp (maxSteps := 1000000) (disch := omega) only [cd123, b1, b2, S, S1, S2, S3, S4, S5, ST, eq_self, reduceIte, reduceCtorEq, Nat.reduceEqDiff, Nat.reduceAdd]
  generalize hA : H ++ [AObj.cells [v, .int .i64 0, .int .u64 0] 124 false] = A
  have pA : H <+: A := by rw [← hA]; exact List.prefix_append _ _
  have hC : Cur A H.length v us 0 := by rw [← hA]; exact h.cur
  refine CallH.by (pick_c hC (by omega) 9 (by omega)) ?_
  rintro _ B ⟨⟨n, rfl, hn⟩, hB, oB⟩
  simp (maxSteps := 1000000) (disch := omega) only [S, S1, S2, S3, S4, S5, ST, eq_self, reduceIte, reduceCtorEq, Nat.reduceEqDiff, Nat.reduceAdd]
  refine CallH.by (perm9_c hB (by omega) n (by omega)) ?_
  rintro p0 C ⟨p, hO, hl, hr, hC2, kC⟩
  simp (maxSteps := 1000000) (disch := omega) only [S, S1, S2, S3, S4, S5, ST, eq_self, reduceIte, reduceCtorEq, Nat.reduceEqDiff, Nat.reduceAdd]
  refine hQ _ _ _ ?_
  simp (maxSteps := 1000000) (disch := omega) only [hO.row.tup, S, S1, S2, S3, S4, S5, ST, eq_self, reduceIte, reduceCtorEq, Nat.reduceEqDiff, Nat.reduceAdd]
  exact ⟨p, ownB hO (by rw [oB.1]; exact pA.length_le), hl.2, hr, keeps_new (oB.keeps.trans kC) pA rfl⟩
set_option maxHeartbeats 1000000 in
theorem DrawSort_c {H : AH} {v : Value} {us : List Value} (h : Byt H v us) :
    ACalls Try.prog 40 [v] H fun r H' => ∃ p : List Int, Own 3 H H' r p ∧ p.length ≤ 10 ∧ (∀ y ∈ p, -1 ≤ y ∧ y ≤ 9) ∧ H <+: H' := by
  refine in40 rfl ?_
  intro Q hQ
  simp (maxSteps := 1000000) (disch := omega) only [cd40, S, S1, S2, S3, S4, S5, ST, eq_self, reduceIte, reduceCtorEq, Nat.reduceEqDiff, Nat.reduceAdd]
  refine CallH.by (DrawCycles_c h) ?_
  rintro p0 C ⟨p, hO, hl, hr, pC⟩
  simp (maxSteps := 1000000) (disch := omega) only [S, S1, S2, S3, S4, S5, ST, eq_self, reduceIte, reduceCtorEq, Nat.reduceEqDiff, Nat.reduceAdd]
  refine hQ _ _ _ ?_
  simp (maxSteps := 1000000) (disch := omega) only [hO.row.tup, S, S1, S2, S3, S4, S5, ST, eq_self, reduceIte, reduceCtorEq, Nat.reduceEqDiff, Nat.reduceAdd]
  exact ⟨p, hO, hl, hr, pC⟩
theorem lstD_c (a b : Int) (H : AH) : ACalls Try.prog 135 [.int .i64 a, .int .i64 b] H fun r H' => (∃ x, r = .int .i64 x ∧ (x = a ∨ x = b)) ∧ H = H' := by
  refine in135 rfl ?_
  intro Q hQ
  simp (maxSteps := 1000000) (disch := omega) only [cd135, S, S1, S2, S3, S4, S5, ST, eq_self, reduceIte, reduceCtorEq, Nat.reduceEqDiff, Nat.reduceAdd]
  refine brD.intro (fun h => ?_) (fun h => ?_) <;> simp (maxSteps := 1000000) (disch := omega) only [S, S1, S2, S3, S4, S5, ST, eq_self, reduceIte, reduceCtorEq, Nat.reduceEqDiff, Nat.reduceAdd] <;> refine hQ _ _ _ ?_ <;> simp (maxSteps := 1000000) (disch := omega) only [S, S1, S2, S3, S4, S5, ST, eq_self, reduceIte, reduceCtorEq, Nat.reduceEqDiff, Nat.reduceAdd]
  · exact ⟨a, rfl, .inl rfl⟩
  · exact ⟨b, rfl, .inr rfl⟩
theorem mstD_c (a b : Int) (H : AH) : ACalls Try.prog 136 [.int .i64 a, .int .i64 b] H fun r H' => (∃ x, r = .int .i64 x ∧ (x = a ∨ x = b)) ∧ H = H' := by
  refine in136 rfl ?_
  intro Q hQ
  simp (maxSteps := 1000000) (disch := omega) only [cd136, S, S1, S2, S3, S4, S5, ST, eq_self, reduceIte, reduceCtorEq, Nat.reduceEqDiff, Nat.reduceAdd]
  refine brD.intro (fun h => ?_) (fun h => ?_) <;> simp (maxSteps := 1000000) (disch := omega) only [S, S1, S2, S3, S4, S5, ST, eq_self, reduceIte, reduceCtorEq, Nat.reduceEqDiff, Nat.reduceAdd] <;> refine hQ _ _ _ ?_ <;> simp (maxSteps := 1000000) (disch := omega) only [S, S1, S2, S3, S4, S5, ST, eq_self, reduceIte, reduceCtorEq, Nat.reduceEqDiff, Nat.reduceAdd]
  · exact ⟨a, rfl, .inl rfl⟩
  · exact ⟨b, rfl, .inr rfl⟩
theorem MineP.keepsP {e : TypeId} {H0 H H' : AH} {o : Nat} {v : Value} {ps : List (Int × Int)} (h : MineP e H0 H v ps) (hk : Keeps o H H') (ho : o < H0.length) : MineP e H0 H' v ps := by
  rcases h with q | ⟨oo, zs, q1, q2, q3, q4⟩
  · exact .inl q
  · exact .inr ⟨oo, zs, q1, q2, hk.2 _ _ (by omega) q3, q4⟩
set_option maxRecDepth 20000 in
set_option maxHeartbeats 4000000 in
theorem DrawPlaces_c {H : AH} {v : Value} {us : List Value} (h : Byt H v us) :
    ACalls Try.prog 49 [v] H fun r H' => ∃ (a b : Value) (p : List Int) (ss : List (Int × Int)), r = .tuple (List.toArray [a, b]) ∧ Row 3 H' a p ∧ p.length ≤ 10 ∧ (∀ y ∈ p, -1 ≤ y ∧ y ≤ 9) ∧ RowP 81 H' b ss ∧ ss.length ≤ 10 ∧ (∀ s ∈ ss, (0 ≤ s.1 ∧ s.1 ≤ 10) ∧ (0 ≤ s.2 ∧ s.2 ≤ 10)) ∧ H <+: H' := by
  obtain ⟨pv, ev⟩ := h.row.shape
  refine in49 rfl ?_
  intro Q hQ
  have b1 := bld_cur pv us.length us.length
  have b2 := fun H => box_cur pv us.length us.length H
  rw [← ev] at b1 b2
  simp (maxSteps := 1000000) (disch := omega) only [cd49, b1, b2, S, S1, S2, S3, S4, S5, ST, eq_self, reduceIte, reduceCtorEq, Nat.reduceEqDiff, Nat.reduceAdd]
  generalize hA : H ++ [AObj.cells [v, .int .i64 0, .int .u64 0] 124 false] = A
  have pA : H <+: A := by rw [← hA]; exact List.prefix_append _ _
  have lA : A.length = H.length + 1 := by rw [← hA]; simp
  have hC : Cur A H.length v us 0 := by rw [← hA]; exact h.cur
  refine CallH.by (pick_c hC (by omega) 6 (by omega)) ?_
  rintro _ B ⟨⟨n, rfl, hn⟩, hB, oB⟩
  have hw1 : IntKind.i64.wrap ((2 : Int) + (n : Int)) = ((n + 2 : Nat) : Int) := by rw [wrap64 (by omega) (by omega)]; omega
  simp (maxSteps := 1000000) (disch := omega) only [hw1, S, S1, S2, S3, S4, S5, ST, eq_self, reduceIte, reduceCtorEq, Nat.reduceEqDiff, Nat.reduceAdd]
  refine CallH.by (perm9_c hB (by omega) (n + 2) (by omega)) ?_
  rintro p0 C ⟨p, hO, hl, hrp, hC2, kC⟩
  simp (maxSteps := 1000000) (disch := omega) only [S, S1, S2, S3, S4, S5, ST, eq_self, reduceIte, reduceCtorEq, Nat.reduceEqDiff, Nat.reduceAdd]
  generalize hD : C ++ [AObj.cells [] 81 false] = D
  have pD : C <+: D := by rw [← hD]; exact List.prefix_append _ _
  have lD : D.length = C.length + 1 := by rw [← hD]; simp
  have m0 : MineP 81 C D (.slice (some ⟨C.length, 0, none⟩) 0 0) [] := by rw [← hD]; exact MineP.nil0 (P := Try.prog) C C (Nat.le_refl _)
  have lB : B.length = A.length := oB.1
  have lC : A.length ≤ C.length := by rw [← lB]; exact kC.1
  have kHC : Keeps H.length A C := oB.keeps.trans kC
  have hoC : H.length < C.length := by omega
  refine CallH.by (pick_c (hC2.pre pD) (by omega) 5 (by omega)) ?_
  rintro _ E ⟨⟨k, rfl, hk⟩, hE, oE⟩
  have hOE : Own 3 B E p0 p := by
    rcases hO with q | ⟨oo, q1, q2, q3⟩
    · exact .inl q
    · exact .inr ⟨oo, q1, q2, oE.2 _ _ (by omega) (pre_at pD q3)⟩
  have mE := m0.keepsP oE.keeps hoC
  have kE : Keeps H.length A E := kHC.trans ((Keeps.of_pre pD).trans oE.keeps)
  have lE : C.length ≤ E.length := by rw [oE.1]; exact pD.length_le
  simp (maxSteps := 1000000) (disch := omega) only [S, S1, S2, S3, S4, S5, ST, eq_self, reduceIte, reduceCtorEq, Nat.reduceEqDiff, Nat.reduceAdd]
  refine LoopH.by (fun m s H' => ∃ (ss : List (Int × Int)) (M : Nat), s 4 = .pointer (some ⟨H.length, 0, none⟩) ∧ s 5 = p0 ∧ s 7 = .int .i64 ((m : Nat) : Int) ∧ ss.length + m ≤ 5 ∧ (∀ s ∈ ss, (0 ≤ s.1 ∧ s.1 ≤ 10) ∧ (0 ≤ s.2 ∧ s.2 ≤ 10)) ∧ MineP 81 C H' (s 6) ss ∧ Own 3 B H' p0 p ∧ Cur H' H.length v us M ∧ M + 10 * m ≤ 1000 ∧ Keeps H.length A H' ∧ C.length ≤ H'.length) k ?_ ?_
  · refine ⟨[], 0 + 1 + 20 + 1, ?_⟩
    simp (maxSteps := 1000000) (disch := omega) only [S, S1, S2, S3, S4, S5, ST, eq_self, reduceIte, reduceCtorEq, Nat.reduceEqDiff, Nat.reduceAdd]
    (repeat' first | exact mE | exact hOE | exact hE | exact kE | apply And.intro) <;> first | (simp only [Value.int.injEq, true_and]; omega) | omega | rfl | assumption | (simp; done) | (simp; omega)
  rintro m s H' ⟨ss, M, h4, h5, h7, hsl, hsr, hM, hO', hC', hMb, hK, hAl⟩
  generalize hU : s 6 = U at *
  simp (maxSteps := 1000000) (disch := omega) only [h4, h5, h7, hU, hO'.row.len Try.underlying38, S, S1, S2, S3, S4, S5, ST, eq_self, reduceIte, reduceCtorEq, Nat.reduceEqDiff, Nat.reduceAdd]
  refine brD.intro (fun g => ?_) (fun g => ?_)
  · obtain ⟨m', rfl⟩ : ∃ m', m = m' + 1 := ⟨m - 1, by omega⟩
    simp (maxSteps := 1000000) (disch := omega) only [h4, h5, h7, hU, hO'.row.len Try.underlying38, S, S1, S2, S3, S4, S5, ST, eq_self, reduceIte, reduceCtorEq, Nat.reduceEqDiff, Nat.reduceAdd]
    refine CallH.by (pick_c hC' (by omega) _ (by omega)) ?_
    rintro _ K ⟨⟨a, rfl, ha⟩, hCK, oK⟩
    simp (maxSteps := 1000000) (disch := omega) only [h4, h5, h7, hU, hO'.row.len Try.underlying38, S, S1, S2, S3, S4, S5, ST, eq_self, reduceIte, reduceCtorEq, Nat.reduceEqDiff, Nat.reduceAdd]
    refine CallH.by (pick_c hCK (by omega) _ (by omega)) ?_
    rintro _ L ⟨⟨b, rfl, hb⟩, hCL, oL⟩
    have oKL := oK.trans oL
    have hML := hM.keepsP oKL.keeps hoC
    have hOL := hO'.keeps oKL.keeps (by omega)
    have hKL := hK.trans oKL.keeps
    have hLl : C.length ≤ L.length := by rw [oKL.1]; exact hAl
    have ha10 : (a : Int) ≤ 10 := by omega
    have hb10 : (b : Int) ≤ 10 := by omega
    -- what follows when the swap is taken
    have go : ∀ {L' : AH} {M' : Nat}, MineP 81 C L' U ss → Own 3 B L' p0 p → Cur L' H.length v us M' → Keeps H.length A L' → C.length ≤ L'.length → ∀ x y : Int, (x = a ∨ x = b) → (y = a ∨ y = b) → ∃ U' H2, appendA Try.prog 22 22 U (.slice (some ⟨L'.length, 0, none⟩) 1 1) (L' ++ [.cells [.int .i64 x, .int .i64 y] 81 false]) = some (U', H2) ∧
        MineP 81 C H2 U' (ss ++ [(x, y)]) ∧ Own 3 B H2 p0 p ∧ Cur H2 H.length v us M' ∧ Keeps H.length A H2 ∧ C.length ≤ H2.length ∧ ∀ s ∈ ss ++ [(x, y)], (0 ≤ s.1 ∧ s.1 ≤ 10) ∧ (0 ≤ s.2 ∧ s.2 ≤ 10) := by
      intro L' M' q1 q2 q3 q4 q5 x y hx hy
      have hl0 : (L'.take C.length).length = C.length := by simp; omega
      have q1' : MineP 81 (L'.take C.length) L' U ss := by
        rcases q1 with q | ⟨oo, zs, w1, w2, w3, w4⟩
        · exact .inl q
        · exact .inr ⟨oo, zs, w1, by omega, w3, w4⟩
      obtain ⟨U', H2, j1, j2, j3, j4, j5, j6⟩ := own1_22 q1' (List.take_prefix _ _) (by omega) x y
      have hoU : U = .slice none 0 0 ∨ (C.length ≤ rowO U ∧ rowO U < L'.length) := by
        rcases q1 with q | ⟨oo, zs, w1, w2, w3, w4⟩
        · exact .inl q.1
        · right; rw [w1]; exact ⟨w2, at_lt w3⟩
      have hle : L'.length ≤ H2.length := by
        rcases j2 with ⟨_, q⟩ | ⟨oo, zs, w1, w2, w3, w4⟩
        · simp at q
        · have := at_lt w3
          rw [w1] at j5
          have : L'.length ≤ oo := j5
          omega
      have kp : ∀ (j : Nat) (y : AObj), j < C.length → L'[j]? = some y → H2[j]? = some y := fun j y hj hy => j4 j y (hoU.imp id fun q => by omega) hy
      obtain ⟨ca, cs, c1, c2, c3⟩ := q3.cur
      have hvl : v = .slice none 0 0 ∨ rowO v < H.length := by
        rcases h.row with q | ⟨o', k', vs', ro', e1, g2', _⟩
        · exact .inl q.1
        · right; rw [e1]; exact at_lt g2'
      refine ⟨U', H2, j1, ?_, ?_, ⟨⟨ca, cs, kp _ _ hoC c1, c2, c3⟩, ?_, q3.byt, q3.ap, q3.le⟩, ⟨by have := q4.1; omega, fun j z hj hz => kp j z (by have := at_lt hz; omega) (q4.2 j z hj hz)⟩, by omega, fun s hs => ?_⟩
      · rcases j2 with q | ⟨oo, zs, w1, w2, w3, w4⟩
        · exact .inl q
        · exact .inr ⟨oo, zs, w1, by omega, w3, w4⟩
      · rcases hO with q | ⟨oo, w1, w2, w3⟩
        · rcases q2 with r | ⟨oo', r1, r2, r3⟩
          · exact .inl r
          · rw [q.1] at r1; cases r1
        · rcases q2 with r | ⟨oo', r1, r2, r3⟩
          · exact .inl r
          · rw [w1] at r1
            have hoo : oo = oo' := by injection r1 with e; injection e with e; injection e
            subst hoo
            exact .inr ⟨oo, w1, r2, kp _ _ (at_lt w3) r3⟩
      · rcases q3.row with q | q
        · exact .inl q
        · refine RowV.mono (.inr q) fun y hy => ?_
          rcases hvl with g | g
          · obtain ⟨o', k', _, _, g1, _⟩ := q
            rw [g] at g1; cases g1
          · exact kp _ _ (by omega) hy
      · rcases List.mem_append.1 hs with q | q
        · exact hsr s q
        · rw [List.mem_singleton] at q
          subst q
          simp only; omega
    have hmm : IntKind.i64.wrap (((m' + 1 : Nat) : Int) - 1) = (m' : Int) := by rw [wrap64 (by omega) (by omega)]; omega
    simp (maxSteps := 1000000) (disch := omega) only [h4, h5, h7, hU, S, S1, S2, S3, S4, S5, ST, eq_self, reduceIte, reduceCtorEq, Nat.reduceEqDiff, Nat.reduceAdd]
    by_cases hab : (a : Int) = (b : Int)
    · have hab' : ¬ ¬ (a : Int) = (b : Int) := fun q => q hab
      simp (maxSteps := 1000000) (disch := omega) only [decide_eq_false hab', h4, h5, h7, hU, S, S1, S2, S3, S4, S5, ST, eq_self, reduceIte, reduceCtorEq, Nat.reduceEqDiff, Nat.reduceAdd]
      refine CallH.by (one_c hCL (by omega) 12 (by omega)) ?_
      rintro _ X ⟨⟨bb, rfl⟩, hCX, oX⟩
      have hMX := hML.keepsP oX.keeps hoC
      have hOX := hOL.keeps oX.keeps (by omega)
      have hKX := hKL.trans oX.keeps
      have hXl : C.length ≤ X.length := by rw [oX.1]; exact hLl
      cases bb with
      | false =>
        simp (maxSteps := 1000000) (disch := omega) only [h4, h5, h7, hU, hmm, S, S1, S2, S3, S4, S5, ST, eq_self, reduceIte, reduceCtorEq, Nat.reduceEqDiff, Nat.reduceAdd]
        refine ⟨m', by omega, ss, M + 1 + 1 + 1, ?_⟩
        (repeat' first | exact hsr | exact hMX | exact hOX | exact hCX | exact hKX | apply And.intro) <;> first | (simp only [Value.int.injEq, true_and]; omega) | omega | rfl | assumption | (simp; done) | (simp; omega)
      | true =>
        simp (maxSteps := 1000000) (disch := omega) only [h4, h5, h7, hU, S, S1, S2, S3, S4, S5, ST, eq_self, reduceIte, reduceCtorEq, Nat.reduceEqDiff, Nat.reduceAdd]
        refine CallH.by (lstD_c _ _ X) ?_
        rintro _ _ ⟨⟨x, rfl, hx⟩, rfl⟩
        simp (maxSteps := 1000000) (disch := omega) only [h4, h5, h7, hU, S, S1, S2, S3, S4, S5, ST, eq_self, reduceIte, reduceCtorEq, Nat.reduceEqDiff, Nat.reduceAdd]
        refine CallH.by (mstD_c _ _ X) ?_
        rintro _ _ ⟨⟨y, rfl, hy⟩, rfl⟩
        obtain ⟨U', H2, j1, j2, j3, j4, j5, j6, j7⟩ := go hMX hOX hCX hKX hXl x y hx hy
        simp (maxSteps := 1000000) (disch := omega) only [h4, h5, h7, hU, build_a2, j1, hmm, S, S1, S2, S3, S4, S5, ST, eq_self, reduceIte, reduceCtorEq, Nat.reduceEqDiff, Nat.reduceAdd]
        refine ⟨m', by omega, ss ++ [(x, y)], M + 1 + 1 + 1, ?_⟩
        (repeat' first | exact j7 | exact j2 | exact j3 | exact j4 | exact j5 | exact j6 | apply And.intro) <;> first | (simp only [Value.int.injEq, true_and]; omega) | omega | rfl | assumption | (simp; done) | (simp; omega)
    · simp (maxSteps := 1000000) (disch := omega) only [decide_eq_true hab, h4, h5, h7, hU, S, S1, S2, S3, S4, S5, ST, eq_self, reduceIte, reduceCtorEq, Nat.reduceEqDiff, Nat.reduceAdd]
      refine CallH.by (lstD_c _ _ L) ?_
      rintro _ _ ⟨⟨x, rfl, hx⟩, rfl⟩
      simp (maxSteps := 1000000) (disch := omega) only [h4, h5, h7, hU, S, S1, S2, S3, S4, S5, ST, eq_self, reduceIte, reduceCtorEq, Nat.reduceEqDiff, Nat.reduceAdd]
      refine CallH.by (mstD_c _ _ L) ?_
      rintro _ _ ⟨⟨y, rfl, hy⟩, rfl⟩
      obtain ⟨U', H2, j1, j2, j3, j4, j5, j6, j7⟩ := go hML hOL hCL hKL hLl x y hx hy
      simp (maxSteps := 1000000) (disch := omega) only [h4, h5, h7, hU, build_a2, j1, hmm, S, S1, S2, S3, S4, S5, ST, eq_self, reduceIte, reduceCtorEq, Nat.reduceEqDiff, Nat.reduceAdd]
      refine ⟨m', by omega, ss ++ [(x, y)], M + 1 + 1, ?_⟩
      (repeat' first | exact j7 | exact j2 | exact j3 | exact j4 | exact j5 | exact j6 | apply And.intro) <;> first | (simp only [Value.int.injEq, true_and]; omega) | omega | rfl | assumption | (simp; done) | (simp; omega)
  · simp (maxSteps := 1000000) (disch := omega) only [h4, h5, hU, S, S1, S2, S3, S4, S5, ST, eq_self, reduceIte, reduceCtorEq, Nat.reduceEqDiff, Nat.reduceAdd]
    refine CallH.by (one_c hC' (by omega) 24 (by omega)) ?_
    rintro _ K ⟨⟨bb, rfl⟩, hCK, oK⟩
    have hMK := hM.keepsP oK.keeps hoC
    have hOK := hO'.keeps oK.keeps (by omega)
    have hKK := hK.trans oK.keeps
    have hKl : C.length ≤ K.length := by rw [oK.1]; exact hAl
    simp (maxSteps := 1000000) (disch := omega) only [S, S1, S2, S3, S4, S5, ST, eq_self, reduceIte, reduceCtorEq, Nat.reduceEqDiff, Nat.reduceAdd]
    cases bb with
    | false =>
      refine brH.intro (fun q => by cases q) (fun _ => ?_)
      simp (maxSteps := 1000000) (disch := omega) only [h5, hU, S, S1, S2, S3, S4, S5, ST, eq_self, reduceIte, reduceCtorEq, Nat.reduceEqDiff, Nat.reduceAdd]
      refine hQ _ _ _ ?_
      simp (maxSteps := 1000000) (disch := omega) only [hOK.row.tup, hMK.row.tup, S, S1, S2, S3, S4, S5, ST, eq_self, reduceIte, reduceCtorEq, Nat.reduceEqDiff, Nat.reduceAdd]
      exact ⟨_, _, p, ss, rfl, hOK.row, hl.2, hrp, hMK.row, by omega, hsr, keeps_new hKK pA rfl⟩
    | true =>
      refine brH.intro (fun _ => ?_) (fun q => by cases q)
      simp (maxSteps := 1000000) (disch := omega) only [h4, hU, S, S1, S2, S3, S4, S5, ST, eq_self, reduceIte, reduceCtorEq, Nat.reduceEqDiff, Nat.reduceAdd]
      generalize hK1 : K ++ [AObj.cells [.int .i64 0, .int .i64 1, .int .i64 9] 3 false] = K1
      have pK1 : K <+: K1 := by rw [← hK1]; exact List.prefix_append _ _
      have at1 : K1[K.length]? = some (.cells [.int .i64 0, .int .i64 1, .int .i64 9] 3 false) := by rw [← hK1]; exact at_new ..
      have hw : Row 3 K1 (.slice (some ⟨K.length, 0, none⟩) 3 3) [0, 1, 9] := .inr ⟨K.length, 0, _, false, rfl, at1, by simp, rfl⟩
      refine CallH.by (among_c (hCK.pre pK1) (by omega) hw (by show K.length ≠ _; omega) (by simp)) ?_
      rintro _ L ⟨⟨x, rfl, hx⟩, hCL, oL⟩
      have hML : MineP 81 C L U ss := by
        have q : MineP 81 C K1 U ss := by
          rcases hMK with q | ⟨oo, zs, w1, w2, w3, w4⟩
          · exact .inl q
          · exact .inr ⟨oo, zs, w1, w2, pre_at pK1 w3, w4⟩
        exact q.keepsP oL.keeps hoC
      have hOL : Own 3 B L p0 p := by
        have q : Own 3 B K1 p0 p := by
          rcases hOK with q | ⟨oo, w1, w2, w3⟩
          · exact .inl q
          · exact .inr ⟨oo, w1, w2, pre_at pK1 w3⟩
        exact q.keeps oL.keeps (by omega)
      have hKL : Keeps H.length A L := hKK.trans ((Keeps.of_pre pK1).trans oL.keeps)
      have hLl : C.length ≤ L.length := by rw [oL.1]; have := pK1.length_le; omega
      have hl0 : (L.take C.length).length = C.length := by simp; omega
      have q1' : MineP 81 (L.take C.length) L U ss := by
        rcases hML with q | ⟨oo, zs, w1, w2, w3, w4⟩
        · exact .inl q
        · exact .inr ⟨oo, zs, w1, by omega, w3, w4⟩
      obtain ⟨U', H2, j1, j2, j3, j4, j5, j6⟩ := own1_22 q1' (List.take_prefix _ _) (by omega) 1 x
      have hoU : U = .slice none 0 0 ∨ (C.length ≤ rowO U ∧ rowO U < L.length) := by
        rcases hML with q | ⟨oo, zs, w1, w2, w3, w4⟩
        · exact .inl q.1
        · right; rw [w1]; exact ⟨w2, at_lt w3⟩
      have kp : ∀ (j : Nat) (y : AObj), j < C.length → L[j]? = some y → H2[j]? = some y := fun j y hj hy => j4 j y (hoU.imp id fun q => by omega) hy
      have hOC : p0 = .slice none 0 0 ∨ rowO p0 < C.length := by
        rcases hO with q | ⟨oo, w1, w2, w3⟩
        · exact .inl q.1
        · right; rw [w1]; exact at_lt w3
      have hO2 : Row 3 H2 p0 p := by
        rcases hOL with q | ⟨oo, w1, w2, w3⟩
        · exact .inl q
        · rcases hOC with q | q
          · rw [q] at w1; cases w1
          · rw [w1] at q
            exact (show Own 3 B H2 p0 p from .inr ⟨oo, w1, w2, kp _ _ q w3⟩).row
      simp (maxSteps := 1000000) (disch := omega) only [h5, hU, build_a2, j1, S, S1, S2, S3, S4, S5, ST, eq_self, reduceIte, reduceCtorEq, Nat.reduceEqDiff, Nat.reduceAdd]
      refine hQ _ _ _ ?_
      simp (maxSteps := 1000000) (disch := omega) only [hO2.tup, j6, S, S1, S2, S3, S4, S5, ST, eq_self, reduceIte, reduceCtorEq, Nat.reduceEqDiff, Nat.reduceAdd]
      refine ⟨_, _, p, ss ++ [(1, x)], rfl, hO2, hl.2, hrp, j2.row, by simp; omega, fun s hs => ?_, prefix_of fun j y hy => kp j y (by have := at_lt hy; omega) (hKL.2 j y (by have := at_lt hy; omega) (pre_at pA hy))⟩
      rcases List.mem_append.1 hs with q | q
      · exact hsr s q
      · rw [List.mem_singleton] at q
        subst q
        simp at hx
        simp only; omega
theorem vBig_c {H : AH} {v : Value} {us : List Value} (h : RowV 5 H v us) (hl : (us.length : Int) ≤ 9223372036854775807) : ACalls Try.prog 39 [v] H fun r H' => r = .bool (decide ((65536 : Int) < (us.length : Int))) ∧ H = H' := by
  refine in39 rfl ?_
  intro Q hQ
  simp (maxSteps := 1000000) (disch := omega) only [cd39, len_by, h.len Try.underlying56, S, S1, S2, S3, S4, S5, ST, eq_self, reduceIte, reduceCtorEq, Nat.reduceEqDiff, Nat.reduceAdd]
  refine hQ _ _ _ ?_
  simp (maxSteps := 1000000) (disch := omega) only [S, S1, S2, S3, S4, S5, ST, eq_self, reduceIte, reduceCtorEq, Nat.reduceEqDiff, Nat.reduceAdd]
theorem appV {P : Program} {t e : TypeId} (hu : P.underlying t = some (.slice e)) (hc : P.cellsOf e = 1) (hby : P.bytesOf e ≤ 64) (hz : zeroOk P e = true) {H : AH} {o : Nat} {us ws : List Value} {w : Value} (ho : H[o]? = some (.cells us e false)) (hw : RowV e H w ws) (hm : 0 < ws.length) (hb : us.length + ws.length ≤ 1099511627776) :
    appendA P t t (.slice (some ⟨o, 0, none⟩) us.length us.length) w H = some (.slice (some ⟨H.length, 0, none⟩) (us.length + ws.length) (us.length + ws.length), H.set o .dead ++ [.cells (us ++ ws) e false]) := by
  have bb : ∀ n : Nat, n ≤ 1099511627776 → n * P.bytesOf e ≤ 140737488355328 := fun n hn => by
    refine Nat.le_trans (Nat.mul_le_mul_left _ hby) ?_
    omega
  have hsc := hw.cells (P := P) hc
  simp only [appendA, hu, hc, hsc, hz, ho]
  rw [if_pos (by simp), if_neg (by omega), if_pos ⟨trivial, by omega, bb _ (by omega), by omega, trivial⟩]
  simp
theorem appV0 {P : Program} {t e : TypeId} (hu : P.underlying t = some (.slice e)) (hc : P.cellsOf e = 1) {H : AH} {o n : Nat} {w : Value} (hw : RowV e H w []) :
    appendA P t t (.slice (some ⟨o, 0, none⟩) n n) w H = some (.slice (some ⟨o, 0, none⟩) n n, H) := by
  have hsc := hw.cells (P := P) hc
  simp only [List.length_nil] at hsc
  simp only [appendA, hu, hc, hsc, isSl]
  rw [if_pos (by simp), if_pos (by simp), if_pos trivial]
set_option maxRecDepth 20000 in
set_option maxHeartbeats 2000000 in
theorem vCut_c {H : AH} {v : Value} {us : List Value} (h : Byt H v us) (hle : us.length ≤ 1000000) : ACalls Try.prog 50 [v, .int .i64 1] H fun r H' => ∃ ws, Byt H' r ws ∧ H <+: H' := by
  refine in50 rfl ?_
  intro Q hQ
  have zu : zeroA Try.prog 5 = some (.int .u8 0) := by kernel_rfl
  have bs_0 := fun K => bs0 Try.underlying56 cs_u8 zu ⟨by kernel_rfl, by kernel_rfl⟩ K
  have bs_1 := fun K (x : Int) => bs1 Try.underlying56 cs_u8 zu ⟨by kernel_rfl, by kernel_rfl⟩ K (a := .int .u8 x) rfl
  have hbt : Try.prog.bytesOf 5 ≤ 64 := by
    have : Try.prog.bytesOf 5 = 1 := by kernel_rfl
    omega
  have zk8 : zeroOk Try.prog 5 = true := by kernel_rfl
  generalize hB : H ++ [AObj.cells [] 5 false] = B
  have pB : H <+: B := by rw [← hB]; exact List.prefix_append _ _
  have cB : B[H.length]? = some (.cells [] 5 false) := by rw [← hB]; exact at_new ..
  have hrB := h.row.pre pB
  -- the first appending, for a cut of n
  have one : ∀ n : Nat, n ≤ us.length → sliceA Try.prog 56 v (some (.int .i64 (n : Int))) none none B = some (subV v n us.length) ∧ ∃ (q : Nat) (L : AH), appendA Try.prog 56 56 (.slice (some ⟨H.length, 0, none⟩) 0 0) (subV v n us.length) B = some (.slice (some ⟨q, 0, none⟩) (us.drop n).length (us.drop n).length, L) ∧ L[q]? = some (.cells (us.drop n) 5 false) ∧ H <+: L ∧ H.length ≤ q := by
    intro n hn
    obtain ⟨a1, a2, _⟩ := hrB.slice (P := Try.prog) (t := 56) Try.underlying56 cs_u8 (bound_some (k := .i64) (i := (n : Int)) (by omega) 0) (hi_none us.length) (by rw [Int.toNat_natCast]; exact hn) (Nat.le_refl _)
    rw [Int.toNat_natCast] at a1 a2
    rw [List.take_of_length_le (by simp)] at a2
    refine ⟨a1, ?_⟩
    by_cases e : us.drop n = []
    · rw [e] at a2 ⊢
      exact ⟨H.length, B, appV0 Try.underlying56 cs_u8 a2, cB, pB, Nat.le_refl _⟩
    · have hp : 0 < (us.drop n).length := List.length_pos_iff.2 e
      have k := appV (P := Try.prog) (t := 56) Try.underlying56 cs_u8 hbt zk8 (us := []) cB a2 hp (by simp; omega)
      simp only [List.length_nil, Nat.zero_add, List.nil_append] at k
      have lB : B.length = H.length + 1 := by rw [← hB]; simp
      refine ⟨B.length, _, k, ?_, prefix_of fun j y hy => at_old (pre_at pB hy) (by have := at_lt hy; omega) _, by omega⟩
      rw [List.getElem?_append_right (by simp)]; simp
  -- the second
  have two : ∀ (n q : Nat) (zs : List Value) (L : AH), n ≤ 1 → zs.length ≤ us.length → (∀ i, i < zs.length → ∃ b : Nat, zs.getD i undef = .int .u8 (b : Int) ∧ b < 256) → L[q]? = some (.cells zs 5 false) → H <+: L → H.length ≤ q → ∃ (r : Value) (M : AH), appendA Try.prog 56 56 (.slice (some ⟨q, 0, none⟩) zs.length zs.length) (.slice (some ⟨L.length, 0, none⟩) 1 1) (L ++ [AObj.cells [.int .u8 (n : Int)] 5 false]) = some (r, M) ∧ isTup r = false ∧ Byt M r (zs ++ [.int .u8 (n : Int)]) ∧ H <+: M := by
    intro n q zs L hn hz hb hq hp hHq
    have hq2 := at_app hq [AObj.cells [.int .u8 (n : Int)] 5 false]
    have hw := RowV.new 5 L [.int .u8 (n : Int)]
    have k := appV (P := Try.prog) (t := 56) Try.underlying56 cs_u8 hbt zk8 hq2 hw (by simp) (by simp; omega)
    have hql := at_lt hq
    refine ⟨_, _, k, rfl, ⟨?_, fun i hi => ?_, by simp; omega⟩, prefix_of fun j y hy => at_old (at_app (pre_at hp hy) _) (by have := at_lt hy; omega) _⟩
    · refine .inr ⟨(L ++ [AObj.cells [.int .u8 (n : Int)] 5 false]).length, 0, zs ++ [.int .u8 (n : Int)], false, by simp, ?_, by simp, by rw [List.drop_zero]; exact List.take_of_length_le (Nat.le_refl _)⟩
      rw [List.getElem?_append_right (by simp)]; simp
    · rw [List.getD_eq_getElem?_getD]
      by_cases e : i < zs.length
      · rw [List.getElem?_append_left e, ← List.getD_eq_getElem?_getD]; exact hb i e
      · rw [List.length_append, List.length_cons, List.length_nil] at hi
        have : i = zs.length := by omega
        subst this
        exact ⟨n, by simp, by omega⟩
  have conv : ∀ n : Nat, n ≤ 1 → convA Try.prog 3 5 (.int .i64 (n : Int)) = some (.int .u8 (n : Int)) := fun n hn => by
    simp only [convA, Try.underlying5, Try.underlying3]
    rw [show IntKind.u8.wrap (n : Int) = (n : Int) by rw [IntKind.wrap_u8]; omega]
  have bd : ∀ n i : Nat, i < (us.drop n).length → ∃ b : Nat, (us.drop n).getD i undef = .int .u8 (b : Int) ∧ b < 256 := fun n i hi => by
    rw [List.length_drop] at hi
    rw [List.getD_eq_getElem?_getD, List.getElem?_drop, ← List.getD_eq_getElem?_getD]
    exact h.byt (n + i) (by omega)
  simp (maxSteps := 1000000) (disch := omega) only [cd50, len_by, h.row.len Try.underlying56, S, S1, S2, S3, S4, S5, ST, eq_self, reduceIte, reduceCtorEq, Nat.reduceEqDiff, Nat.reduceAdd]
  refine brD.intro (fun g => ?_) (fun g => ?_)
  · have h0 : us.length = 0 := by omega
    obtain ⟨a1, q, L, a2, a3, a4, a5⟩ := one us.length (Nat.le_refl _)
    obtain ⟨r, M, b1, b2, b3, b4⟩ := two us.length q _ L (by omega) (by rw [List.length_drop]; omega) (bd us.length) a3 a4 a5
    have a5' : True := trivial
    simp (maxSteps := 1000000) (disch := omega) only [len_by, h.row.len Try.underlying56, bs_0, hB, a1, a2, conv us.length (by omega), bs_1, b1, S, S1, S2, S3, S4, S5, ST, eq_self, reduceIte, reduceCtorEq, Nat.reduceEqDiff, Nat.reduceAdd]
    refine hQ _ _ _ ?_
    simp (maxSteps := 1000000) (disch := omega) only [b2, S, S1, S2, S3, S4, S5, ST, eq_self, reduceIte, reduceCtorEq, Nat.reduceEqDiff, Nat.reduceAdd]
    exact ⟨_, b3, b4⟩
  · obtain ⟨a1, q, L, a2, a3, a4, a5⟩ := one 1 (by omega)
    obtain ⟨r, M, b1, b2, b3, b4⟩ := two 1 q _ L (by omega) (by simp) (bd 1) a3 a4 a5
    have c1 : convA Try.prog 3 5 (.int .i64 1) = some (.int .u8 1) := conv 1 (by omega)
    have a1' : sliceA Try.prog 56 v (some (.int .i64 1)) none none B = some (subV v 1 us.length) := a1
    have b1' : appendA Try.prog 56 56 (.slice (some ⟨q, 0, none⟩) (us.drop 1).length (us.drop 1).length) (.slice (some ⟨L.length, 0, none⟩) 1 1) (L ++ [AObj.cells [.int .u8 1] 5 false]) = some (r, M) := b1
    simp (maxSteps := 1000000) (disch := omega) only [bs_0, hB, a1', a2, c1, bs_1, b1', S, S1, S2, S3, S4, S5, ST, eq_self, reduceIte, reduceCtorEq, Nat.reduceEqDiff, Nat.reduceAdd]
    refine hQ _ _ _ ?_
    simp (maxSteps := 1000000) (disch := omega) only [b2, S, S1, S2, S3, S4, S5, ST, eq_self, reduceIte, reduceCtorEq, Nat.reduceEqDiff, Nat.reduceAdd]
    exact ⟨_, b3, b4⟩
end Go.Proofs.Ytlfongfhbkefmaa.Ai
namespace Go.Proofs.Ytlfongfhbkefmaa.Ai
open Go
def ords55 : List (Nat × List (Nat × Bool)) := [(6, [(0, false), (1, false), (2, false), (3, false), (4, false), (5, false), (6, false), (7, false), (8, false)])]
def cd55 : Cd := (.seq (.reg [⟨⟨some 4, Op.assign (Operand.const (Value.bool false)), none⟩, []⟩]) (.seq (.seq (.reg [⟨⟨some 6, Op.move (Operand.tmp 0), none⟩, []⟩,
  ⟨⟨some 7, Op.call { callee := (Callee.builtin Builtin.len), args := #[(Operand.tmp 6)], argTypes := #[38] }, none⟩, []⟩,
  ⟨⟨some 8, Op.move (Operand.tmp 1), none⟩, []⟩,
  ⟨⟨some 9, Op.call { callee := (Callee.builtin Builtin.len), args := #[(Operand.tmp 8)], argTypes := #[38] }, none⟩, []⟩,
  ⟨⟨some 10, Op.binOp BinOp.neq 3 (Operand.tmp 7) (Operand.tmp 9) 3, none⟩, []⟩]) (.cond (Operand.tmp 10) (.seq (.reg [⟨⟨some 4, Op.assign (Operand.const (Value.bool false)), none⟩, []⟩]) .ret) .skip)) (.seq (.seq (.reg [⟨⟨some 5, Op.assign (Operand.const (Value.int IntKind.i64 0)), none⟩, []⟩]) (.block 0 (.loop (.seq (.seq (.reg [⟨⟨some 11, Op.move (Operand.tmp 5), none⟩, []⟩,
  ⟨⟨some 12, Op.move (Operand.tmp 0), none⟩, []⟩,
  ⟨⟨some 13, Op.call { callee := (Callee.builtin Builtin.len), args := #[(Operand.tmp 12)], argTypes := #[38] }, none⟩, []⟩,
  ⟨⟨some 14, Op.binOp BinOp.lss 3 (Operand.tmp 11) (Operand.tmp 13) 3, none⟩, []⟩]) (.cond (Operand.tmp 14) .skip (.exit 0))) (.seq (.block 1 (.seq (.reg [⟨⟨some 17, Op.move (Operand.tmp 0), none⟩, []⟩,
  ⟨⟨some 18, Op.move (Operand.tmp 5), none⟩, []⟩,
  ⟨⟨some 19, Op.indexAddr 38 (Operand.tmp 17) (Operand.tmp 18), none⟩, []⟩,
  ⟨⟨some 20, Op.load 3 (Operand.tmp 19), none⟩, []⟩,
  ⟨⟨some 21, Op.move (Operand.tmp 1), none⟩, []⟩,
  ⟨⟨some 22, Op.move (Operand.tmp 5), none⟩, []⟩,
  ⟨⟨some 23, Op.indexAddr 38 (Operand.tmp 21) (Operand.tmp 22), none⟩, []⟩,
  ⟨⟨some 24, Op.load 3 (Operand.tmp 23), none⟩, []⟩,
  ⟨⟨some 25, Op.binOp BinOp.neq 3 (Operand.tmp 20) (Operand.tmp 24) 3, none⟩, []⟩]) (.cond (Operand.tmp 25) (.seq (.reg [⟨⟨some 4, Op.assign (Operand.const (Value.bool false)), none⟩, []⟩]) .ret) .skip))) (.reg [⟨⟨some 15, Op.move (Operand.tmp 5), none⟩, []⟩,
  ⟨⟨some 16, Op.binOp BinOp.add 3 (Operand.tmp 15) (Operand.const (Value.int IntKind.i64 1)) 3, none⟩, []⟩,
  ⟨⟨some 5, Op.assign (Operand.tmp 16), none⟩, []⟩])))))) (.seq (.reg [⟨⟨some 4, Op.assign (Operand.const (Value.bool true)), none⟩, []⟩]) .ret))))
theorem sl55 : slim Try.f55.ntmps ords55 (Try.f55.body.getD .skip) = some cd55 := by kernel_rfl
theorem in55 {args : List Value} {H : AH} {R : Value → AH → Prop} (hl : args.length = 2) (h : ∀ (Q : Exit → Sl → AH → Prop), (∀ e s H, endA Try.prog [ResultVar.tmp 4] R e s H → Q e s H) → wpC Try.prog cd55 Q (enterA args) H) : ACalls Try.prog 55 args H R :=
  ACalls.intro (by kernel_rfl) Try.func55 rfl (by kernel_rfl) sl55 hl (of_decide_eq_true (by kernel_rfl)) (by kernel_rfl) h
def ords54 : List (Nat × List (Nat × Bool)) := [(6, [(0, false), (1, false), (2, false), (3, false), (4, false), (5, false), (6, false), (7, false), (8, true), (9, false)])]
def cd54 : Cd := (.seq (.reg [⟨⟨some 4, Op.assign (Operand.const (Value.bool false)), none⟩, []⟩]) (.seq (.seq (.reg [⟨⟨some 6, Op.move (Operand.tmp 0), none⟩, []⟩,
  ⟨⟨some 7, Op.call { callee := (Callee.builtin Builtin.len), args := #[(Operand.tmp 6)], argTypes := #[26] }, none⟩, []⟩,
  ⟨⟨some 8, Op.move (Operand.tmp 1), none⟩, []⟩,
  ⟨⟨some 9, Op.call { callee := (Callee.builtin Builtin.len), args := #[(Operand.tmp 8)], argTypes := #[26] }, none⟩, []⟩,
  ⟨⟨some 10, Op.binOp BinOp.neq 3 (Operand.tmp 7) (Operand.tmp 9) 3, none⟩, []⟩]) (.cond (Operand.tmp 10) (.seq (.reg [⟨⟨some 4, Op.assign (Operand.const (Value.bool false)), none⟩, []⟩]) .ret) .skip)) (.seq (.seq (.reg [⟨⟨some 5, Op.assign (Operand.const (Value.int IntKind.i64 0)), none⟩, []⟩]) (.block 0 (.loop (.seq (.seq (.reg [⟨⟨some 11, Op.move (Operand.tmp 5), none⟩, []⟩,
  ⟨⟨some 12, Op.move (Operand.tmp 0), none⟩, []⟩,
  ⟨⟨some 13, Op.call { callee := (Callee.builtin Builtin.len), args := #[(Operand.tmp 12)], argTypes := #[26] }, none⟩, []⟩,
  ⟨⟨some 14, Op.binOp BinOp.lss 3 (Operand.tmp 11) (Operand.tmp 13) 3, none⟩, []⟩]) (.cond (Operand.tmp 14) .skip (.exit 0))) (.seq (.block 1 (.seq (.reg [⟨⟨some 17, Op.move (Operand.tmp 0), none⟩, []⟩,
  ⟨⟨some 18, Op.move (Operand.tmp 5), none⟩, []⟩,
  ⟨⟨some 19, Op.indexAddr 26 (Operand.tmp 17) (Operand.tmp 18), none⟩, []⟩,
  ⟨⟨some 20, Op.load 38 (Operand.tmp 19), none⟩, []⟩,
  ⟨⟨some 21, Op.move (Operand.tmp 1), none⟩, []⟩,
  ⟨⟨some 22, Op.move (Operand.tmp 5), none⟩, []⟩,
  ⟨⟨some 23, Op.indexAddr 26 (Operand.tmp 21) (Operand.tmp 22), none⟩, []⟩,
  ⟨⟨some 24, Op.load 38 (Operand.tmp 23), none⟩, []⟩,
  ⟨⟨some 25, Op.call { callee := (Callee.value (Operand.func 55)), args := #[(Operand.tmp 20), (Operand.tmp 24)], argTypes := #[38, 38] }, none⟩, []⟩,
  ⟨⟨some 26, Op.unOp UnOp.not 4 (Operand.tmp 25), none⟩, []⟩]) (.cond (Operand.tmp 26) (.seq (.reg [⟨⟨some 4, Op.assign (Operand.const (Value.bool false)), none⟩, []⟩]) .ret) .skip))) (.reg [⟨⟨some 15, Op.move (Operand.tmp 5), none⟩, []⟩,
  ⟨⟨some 16, Op.binOp BinOp.add 3 (Operand.tmp 15) (Operand.const (Value.int IntKind.i64 1)) 3, none⟩, []⟩,
  ⟨⟨some 5, Op.assign (Operand.tmp 16), none⟩, []⟩])))))) (.seq (.reg [⟨⟨some 4, Op.assign (Operand.const (Value.bool true)), none⟩, []⟩]) .ret))))
theorem sl54 : slim Try.f54.ntmps ords54 (Try.f54.body.getD .skip) = some cd54 := by kernel_rfl
theorem in54 {args : List Value} {H : AH} {R : Value → AH → Prop} (hl : args.length = 2) (h : ∀ (Q : Exit → Sl → AH → Prop), (∀ e s H, endA Try.prog [ResultVar.tmp 4] R e s H → Q e s H) → wpC Try.prog cd54 Q (enterA args) H) : ACalls Try.prog 54 args H R :=
  ACalls.intro (by kernel_rfl) Try.func54 rfl (by kernel_rfl) sl54 hl (of_decide_eq_true (by kernel_rfl)) (by kernel_rfl) h
def ords53 : List (Nat × List (Nat × Bool)) := [(6, [(0, false), (1, false), (2, false), (3, false), (4, false), (5, false), (6, false), (7, false), (8, false)])]
def cd53 : Cd := (.seq (.reg [⟨⟨some 4, Op.assign (Operand.const (Value.bool false)), none⟩, []⟩]) (.seq (.seq (.reg [⟨⟨some 6, Op.move (Operand.tmp 0), none⟩, []⟩,
  ⟨⟨some 7, Op.call { callee := (Callee.builtin Builtin.len), args := #[(Operand.tmp 6)], argTypes := #[22] }, none⟩, []⟩,
  ⟨⟨some 8, Op.move (Operand.tmp 1), none⟩, []⟩,
  ⟨⟨some 9, Op.call { callee := (Callee.builtin Builtin.len), args := #[(Operand.tmp 8)], argTypes := #[22] }, none⟩, []⟩,
  ⟨⟨some 10, Op.binOp BinOp.neq 3 (Operand.tmp 7) (Operand.tmp 9) 3, none⟩, []⟩]) (.cond (Operand.tmp 10) (.seq (.reg [⟨⟨some 4, Op.assign (Operand.const (Value.bool false)), none⟩, []⟩]) .ret) .skip)) (.seq (.seq (.reg [⟨⟨some 5, Op.assign (Operand.const (Value.int IntKind.i64 0)), none⟩, []⟩]) (.block 0 (.loop (.seq (.seq (.reg [⟨⟨some 11, Op.move (Operand.tmp 5), none⟩, []⟩,
  ⟨⟨some 12, Op.move (Operand.tmp 0), none⟩, []⟩,
  ⟨⟨some 13, Op.call { callee := (Callee.builtin Builtin.len), args := #[(Operand.tmp 12)], argTypes := #[22] }, none⟩, []⟩,
  ⟨⟨some 14, Op.binOp BinOp.lss 3 (Operand.tmp 11) (Operand.tmp 13) 3, none⟩, []⟩]) (.cond (Operand.tmp 14) .skip (.exit 0))) (.seq (.block 1 (.seq (.reg [⟨⟨some 17, Op.move (Operand.tmp 0), none⟩, []⟩,
  ⟨⟨some 18, Op.move (Operand.tmp 5), none⟩, []⟩,
  ⟨⟨some 19, Op.indexAddr 22 (Operand.tmp 17) (Operand.tmp 18), none⟩, []⟩,
  ⟨⟨some 20, Op.load 81 (Operand.tmp 19), none⟩, []⟩,
  ⟨⟨some 21, Op.move (Operand.tmp 1), none⟩, []⟩,
  ⟨⟨some 22, Op.move (Operand.tmp 5), none⟩, []⟩,
  ⟨⟨some 23, Op.indexAddr 22 (Operand.tmp 21) (Operand.tmp 22), none⟩, []⟩,
  ⟨⟨some 24, Op.load 81 (Operand.tmp 23), none⟩, []⟩,
  ⟨⟨some 25, Op.binOp BinOp.neq 81 (Operand.tmp 20) (Operand.tmp 24) 81, none⟩, []⟩]) (.cond (Operand.tmp 25) (.seq (.reg [⟨⟨some 4, Op.assign (Operand.const (Value.bool false)), none⟩, []⟩]) .ret) .skip))) (.reg [⟨⟨some 15, Op.move (Operand.tmp 5), none⟩, []⟩,
  ⟨⟨some 16, Op.binOp BinOp.add 3 (Operand.tmp 15) (Operand.const (Value.int IntKind.i64 1)) 3, none⟩, []⟩,
  ⟨⟨some 5, Op.assign (Operand.tmp 16), none⟩, []⟩])))))) (.seq (.reg [⟨⟨some 4, Op.assign (Operand.const (Value.bool true)), none⟩, []⟩]) .ret))))
theorem sl53 : slim Try.f53.ntmps ords53 (Try.f53.body.getD .skip) = some cd53 := by kernel_rfl
theorem in53 {args : List Value} {H : AH} {R : Value → AH → Prop} (hl : args.length = 2) (h : ∀ (Q : Exit → Sl → AH → Prop), (∀ e s H, endA Try.prog [ResultVar.tmp 4] R e s H → Q e s H) → wpC Try.prog cd53 Q (enterA args) H) : ACalls Try.prog 53 args H R :=
  ACalls.intro (by kernel_rfl) Try.func53 rfl (by kernel_rfl) sl53 hl (of_decide_eq_true (by kernel_rfl)) (by kernel_rfl) h
end Go.Proofs.Ytlfongfhbkefmaa.Ai
namespace Go.Proofs.Ytlfongfhbkefmaa.Ai
open Go Go.RowKit
set_option linter.unusedVariables false
set_option linter.unusedSimpArgs false
theorem vInts_c (v w : Value) (xs : List Int) (H : AH) (hr : Row 3 H v xs) (hs : Row 3 H w xs) (hl : xs.length ≤ 1000000) : ACalls Try.prog 55 [v, w] H fun r H' => r = .bool true ∧ H = H' := by
  refine in55 rfl ?_
  intro Q hQ
  have e0 : ¬ ¬ ((xs.length : Nat) : Int) = ((xs.length : Nat) : Int) := fun h => h rfl
  simp (maxSteps := 1000000) (disch := omega) only [cd55, hr.len Try.underlying38, hs.len Try.underlying38, decide_eq_false e0, S, S1, S2, S3, S4, S5, ST, eq_self, reduceIte, reduceCtorEq, Nat.reduceEqDiff, Nat.reduceAdd]
  refine LoopH.by (fun m s H' => ∃ (i : Nat), m + i = xs.length ∧ s 0 = v ∧ s 1 = w ∧ s 5 = .int .i64 ((i : Nat) : Int) ∧ H = H') xs.length ?_ ?_
  · exact ⟨0, by simp, rfl, rfl, rfl, rfl⟩
  rintro m s H' ⟨i, hm, h0, h1, h5, rfl⟩
  simp (maxSteps := 1000000) (disch := omega) only [h0, h1, h5, hr.len Try.underlying38, S, S1, S2, S3, S4, S5, ST, eq_self, reduceIte, reduceCtorEq, Nat.reduceEqDiff, Nat.reduceAdd]
  refine brD.intro (fun g => ?_) (fun g => ?_)
  · have hi : i < xs.length := by omega
    have c1 := hr.cell hi
    have c2 := hs.cell hi
    have e1 : ¬ ¬ xs.getD i 0 = xs.getD i 0 := fun h => h rfl
    simp (maxSteps := 1000000) (disch := omega) only [h0, h1, h5, hr.ix Try.underlying38 cs3, hs.ix Try.underlying38 cs3, Int.toNat_natCast, c1, c2, decide_eq_false e1, wrap64, S, S1, S2, S3, S4, S5, ST, eq_self, reduceIte, reduceCtorEq, Nat.reduceEqDiff, Nat.reduceAdd]
    refine ⟨m - 1, by omega, i + 1, ?_⟩
    (repeat' first | exact rfl | apply And.intro) <;> first | (simp only [Value.int.injEq, true_and]; omega) | omega | rfl | assumption | (simp; done) | (simp; omega)
  · simp (maxSteps := 1000000) (disch := omega) only [S, S1, S2, S3, S4, S5, ST, eq_self, reduceIte, reduceCtorEq, Nat.reduceEqDiff, Nat.reduceAdd]
    refine hQ _ _ _ ?_
    simp (maxSteps := 1000000) (disch := omega) only [S, S1, S2, S3, S4, S5, ST, eq_self, reduceIte, reduceCtorEq, Nat.reduceEqDiff, Nat.reduceAdd]
theorem vTable_c {b1 b2 : Nat} (v w : Value) (ls : List (List Int)) (H : AH) (hr : RowLB b1 38 3 H v ls) (hs : RowLB b2 38 3 H w ls) (hl : ls.length ≤ 1000000) (hll : ∀ l ∈ ls, l.length ≤ 1000000) : ACalls Try.prog 54 [v, w] H fun r H' => r = .bool true ∧ H = H' := by
  obtain ⟨us, r1, _, r2, r3⟩ := hr
  obtain ⟨ws, s1, _, s2, s3⟩ := hs
  refine in54 rfl ?_
  intro Q hQ
  have e0 : ¬ ¬ ((us.length : Nat) : Int) = ((ws.length : Nat) : Int) := fun h => h (by omega)
  simp (maxSteps := 1000000) (disch := omega) only [cd54, r1.len Try.underlying26, s1.len Try.underlying26, decide_eq_false e0, S, S1, S2, S3, S4, S5, ST, eq_self, reduceIte, reduceCtorEq, Nat.reduceEqDiff, Nat.reduceAdd]
  refine LoopH.by (fun m s H' => ∃ (i : Nat), m + i = ls.length ∧ s 0 = v ∧ s 1 = w ∧ s 5 = .int .i64 ((i : Nat) : Int) ∧ H = H') ls.length ?_ ?_
  · exact ⟨0, by simp, rfl, rfl, rfl, rfl⟩
  rintro m s H' ⟨i, hm, h0, h1, h5, rfl⟩
  simp (maxSteps := 1000000) (disch := omega) only [h0, h1, h5, r1.len Try.underlying26, S, S1, S2, S3, S4, S5, ST, eq_self, reduceIte, reduceCtorEq, Nat.reduceEqDiff, Nat.reduceAdd]
  refine brD.intro (fun g => ?_) (fun g => ?_)
  · have hi : i < ls.length := by omega
    have c1 := r1.cell (show i < us.length by omega)
    have c2 := s1.cell (show i < ws.length by omega)
    simp (maxSteps := 1000000) (disch := omega) only [h0, h1, h5, r1.ix Try.underlying26 cs38, s1.ix Try.underlying26 cs38, Int.toNat_natCast, c1, c2, S, S1, S2, S3, S4, S5, ST, eq_self, reduceIte, reduceCtorEq, Nat.reduceEqDiff, Nat.reduceAdd]
    refine CallH.by (vInts_c _ _ (ls.getD i []) H (r3 i hi).1 (s3 i hi).1 (hll _ (by simp [hi]))) ?_
    rintro _ _ ⟨rfl, rfl⟩
    simp (maxSteps := 1000000) (disch := omega) only [h0, h1, h5, wrap64, S, S1, S2, S3, S4, S5, ST, eq_self, reduceIte, reduceCtorEq, Nat.reduceEqDiff, Nat.reduceAdd]
    refine ⟨m - 1, by omega, i + 1, ?_⟩
    (repeat' first | exact rfl | apply And.intro) <;> first | (simp only [Value.int.injEq, true_and]; omega) | omega | rfl | assumption | (simp; done) | (simp; omega)
  · simp (maxSteps := 1000000) (disch := omega) only [S, S1, S2, S3, S4, S5, ST, eq_self, reduceIte, reduceCtorEq, Nat.reduceEqDiff, Nat.reduceAdd]
    refine hQ _ _ _ ?_
    simp (maxSteps := 1000000) (disch := omega) only [S, S1, S2, S3, S4, S5, ST, eq_self, reduceIte, reduceCtorEq, Nat.reduceEqDiff, Nat.reduceAdd]
theorem vPairs_c (v w : Value) (ps : List (Int × Int)) (H : AH) (hr : RowP 81 H v ps) (hs : RowP 81 H w ps) (hl : ps.length ≤ 1000000) : ACalls Try.prog 53 [v, w] H fun r H' => r = .bool true ∧ H = H' := by
  refine in53 rfl ?_
  intro Q hQ
  have e0 : ¬ ¬ ((ps.length : Nat) : Int) = ((ps.length : Nat) : Int) := fun h => h rfl
  simp (maxSteps := 1000000) (disch := omega) only [cd53, hr.len Try.underlying22, hs.len Try.underlying22, decide_eq_false e0, S, S1, S2, S3, S4, S5, ST, eq_self, reduceIte, reduceCtorEq, Nat.reduceEqDiff, Nat.reduceAdd]
  refine LoopH.by (fun m s H' => ∃ (i : Nat), m + i = ps.length ∧ s 0 = v ∧ s 1 = w ∧ s 5 = .int .i64 ((i : Nat) : Int) ∧ H = H') ps.length ?_ ?_
  · exact ⟨0, by simp, rfl, rfl, rfl, rfl⟩
  rintro m s H' ⟨i, hm, h0, h1, h5, rfl⟩
  simp (maxSteps := 1000000) (disch := omega) only [h0, h1, h5, hr.len Try.underlying22, S, S1, S2, S3, S4, S5, ST, eq_self, reduceIte, reduceCtorEq, Nat.reduceEqDiff, Nat.reduceAdd]
  refine brD.intro (fun g => ?_) (fun g => ?_)
  · have hi : i < ps.length := by omega
    have c1 := hr.ld ag81 cs81 hi
    have c2 := hs.ld ag81 cs81 hi
    have e1 : ∀ a b : Int, binA Try.prog .neq 81 (.agg (List.toArray [.int .i64 a, .int .i64 b])) (.agg (List.toArray [.int .i64 a, .int .i64 b])) = some (.bool false) := by
      intro a b
      have h : binA Try.prog .neq 81 (.agg (List.toArray [.int .i64 a, .int .i64 b])) (.agg (List.toArray [.int .i64 a, .int .i64 b])) = some (.bool (!(a == a && b == b))) := by kernel_rfl
      rw [h]; simp
    simp (maxSteps := 1000000) (disch := omega) only [h0, h1, h5, hr.ix Try.underlying22 cs81, hs.ix Try.underlying22 cs81, Int.toNat_natCast, c1, c2, e1, wrap64, S, S1, S2, S3, S4, S5, ST, eq_self, reduceIte, reduceCtorEq, Nat.reduceEqDiff, Nat.reduceAdd]
    refine ⟨m - 1, by omega, i + 1, ?_⟩
    (repeat' first | exact rfl | apply And.intro) <;> first | (simp only [Value.int.injEq, true_and]; omega) | omega | rfl | assumption | (simp; done) | (simp; omega)
  · simp (maxSteps := 1000000) (disch := omega) only [S, S1, S2, S3, S4, S5, ST, eq_self, reduceIte, reduceCtorEq, Nat.reduceEqDiff, Nat.reduceAdd]
    refine hQ _ _ _ ?_
    simp (maxSteps := 1000000) (disch := omega) only [S, S1, S2, S3, S4, S5, ST, eq_self, reduceIte, reduceCtorEq, Nat.reduceEqDiff, Nat.reduceAdd]
end Go.Proofs.Ytlfongfhbkefmaa.Ai
namespace Go.Proofs.Ytlfongfhbkefmaa.Ai
open Go
set_option linter.unusedVariables false
/-- joined by a permutation -/
inductive Eqp (p : List Int) : Nat → Nat → Prop
  | refl (x : Nat) : Eqp p x x
  | edge (x : Nat) (h : x < p.length) : Eqp p x (p.getD x 0).toNat
  | symm {x y : Nat} (h : Eqp p x y) : Eqp p y x
  | trans {x y z : Nat} (h1 : Eqp p x y) (h2 : Eqp p y z) : Eqp p x z
/-- the least of its class -/
def Mn (R : Nat → Nat → Prop) (x : Nat) : Prop := ∀ y, R x y → x ≤ y
open Classical in
noncomputable def cls (R : Nat → Nat → Prop) (n : Nat) : Nat := (List.range n).countP fun x => decide (Mn R x)
theorem least_of {P : Nat → Prop} : ∀ n, P n → ∃ m, P m ∧ ∀ k, P k → m ≤ k := by
  intro n
  induction n using Nat.strongRecOn with
  | ind n ih =>
    intro h
    by_cases q : ∃ k, k < n ∧ P k
    · obtain ⟨k, k1, k2⟩ := q
      exact ih k k1 k2
    · exact ⟨n, h, fun k hk => Nat.le_of_not_lt fun g => q ⟨k, g, hk⟩⟩
theorem eqp_in {p : List Int} (hp : Prm p) {x y : Nat} (h : Eqp p x y) : x < p.length ↔ y < p.length := by
  induction h with
  | refl => exact Iff.rfl
  | edge x h => have := (prm_range hp).1 x h; exact ⟨fun _ => by omega, fun _ => h⟩
  | symm _ ih => exact ih.symm
  | trans _ _ i1 i2 => exact i1.trans i2
theorem way_ex {p : List Int} (hp : Prm p) {x : Nat} (hx : x < p.length) : ∃ c, Way p (x : Int) c (x : Int) := by
  have key : ∀ (m : Nat) (c : List Int) (y : Int), c.length + m = p.length + 1 → Way p (x : Int) c y → ∃ c, Way p (x : Int) c (x : Int) := by
    intro m
    induction m with
    | zero => intro c y hm hw; have := hw.len; omega
    | succ m ih =>
      intro c y hm hw
      by_cases e : y = x
      · subst e; exact ⟨c, hw⟩
      · exact ih (c ++ [y]) _ (by simp; omega) (hw.next hp e)
  exact key p.length [(x : Int)] _ (by simp; omega) (Way.first hp hx)
theorem way_cls {p : List Int} (hp : Prm p) {x : Nat} (hx : x < p.length) {c : List Int} (hw : Way p (x : Int) c (x : Int)) (z : Nat) : (z : Int) ∈ c ↔ Eqp p x z := by
  have hl := hw.len
  have hsh := hw.shut hp (s := []) ⟨fun z hz => by simp at hz, fun z _ h => by simp at h⟩
  rw [List.nil_append] at hsh
  have hfw : ∀ z : Nat, (z : Int) ∈ c → p.getD z 0 ∈ c := by
    intro z hz
    obtain ⟨i, hi, e⟩ := pos_ex hz
    by_cases q : i + 1 < c.length
    · have := hw.step i q
      rw [e, Int.toNat_natCast] at this
      rw [← this]; exact getD_mem q
    · have hi' : i = c.length - 1 := by omega
      have := hw.last
      rw [← hi', e, Int.toNat_natCast] at this
      rw [← this, ← hw.head]; exact getD_mem (by omega)
  have hx0 : (x : Int) ∈ c := by rw [← hw.head]; exact getD_mem (by omega)
  constructor
  · intro hz
    obtain ⟨i, hi, e⟩ := pos_ex hz
    have key : ∀ i, i < c.length → ∀ z : Nat, c.getD i 0 = z → Eqp p x z := by
      intro i
      induction i with
      | zero =>
        intro _ z e
        rw [hw.head] at e
        have : x = z := by omega
        subst this; exact .refl _
      | succ i ih =>
        intro hi z e
        have r := hw.rng _ (getD_mem (show i < c.length by omega))
        have h1 := ih (by omega) (c.getD i 0).toNat (by omega)
        have h2 := hw.step i hi
        rw [e] at h2
        have h3 := Eqp.edge (p := p) (c.getD i 0).toNat (by omega)
        rw [← h2, Int.toNat_natCast] at h3
        exact h1.trans h3
    exact key i hi z e
  · intro h
    have both : ∀ {u v : Nat}, Eqp p u v → u < p.length → ((u : Int) ∈ c ↔ (v : Int) ∈ c) := by
      intro u v h
      induction h with
      | refl => intro _; exact Iff.rfl
      | edge u hu =>
        intro _
        have r := (prm_range hp).1 u hu
        have e : (((p.getD u 0).toNat : Nat) : Int) = p.getD u 0 := by omega
        rw [e]
        exact ⟨hfw u, hsh.2 u hu⟩
      | symm h ih => intro hv; exact (ih ((eqp_in hp h).2 hv)).symm
      | trans h1 h2 i1 i2 => intro hu; exact (i1 hu).trans (i2 ((eqp_in hp h1).1 hu))
    exact (both h hx).1 hx0
theorem cyc_cls {p : List Int} (hp : Prm p) {x : Nat} (hx : x < p.length) (z : Nat) : (z : Int) ∈ cycC p x ↔ Eqp p x z := by
  obtain ⟨c, hw⟩ := way_ex hp hx
  rw [← hw.done]
  exact way_cls hp hx hw z
theorem seen_cls {p : List Int} (hp : Prm p) : ∀ k, k ≤ p.length → ∀ z : Nat, (z : Int) ∈ (cycSt p k).2 ↔ ∃ j, j < k ∧ Eqp p j z
  | 0, _, z => by simp [cycSt]
  | k + 1, hk, z => by
    have ih := seen_cls hp k (by omega)
    simp only [cycSt]
    split
    · rename_i h
      rw [ih z]
      constructor
      · rintro ⟨j, j1, j2⟩; exact ⟨j, by omega, j2⟩
      · rintro ⟨j, j1, j2⟩
        by_cases e : j = k
        · subst e
          obtain ⟨i, i1, i2⟩ := (ih j).1 h
          exact ⟨i, i1, i2.trans j2⟩
        · exact ⟨j, by omega, j2⟩
    · show (z : Int) ∈ (cycSt p k).2 ++ cycC p k ↔ _
      rw [List.mem_append, ih z, cyc_cls hp (by omega)]
      constructor
      · rintro (⟨j, j1, j2⟩ | h)
        · exact ⟨j, by omega, j2⟩
        · exact ⟨k, by omega, h⟩
      · rintro ⟨j, j1, j2⟩
        by_cases e : j = k
        · subst e; exact .inr j2
        · exact .inl ⟨j, by omega, j2⟩
/-- as many cycles as classes -/
theorem cyc_cnt {p : List Int} (hp : Prm p) : ∀ k, k ≤ p.length → (cycSt p k).1.length = cls (Eqp p) k
  | 0, _ => by simp [cycSt, cls]
  | k + 1, hk => by
    have ih := cyc_cnt hp k (by omega)
    have hs := seen_cls hp k (by omega) k
    have hM : Mn (Eqp p) k ↔ ¬ ((k : Int) ∈ (cycSt p k).2) := by
      rw [hs]
      constructor
      · rintro h ⟨j, j1, j2⟩
        have := h j j2.symm; omega
      · intro h y hy
        exact Nat.le_of_not_lt fun g => h ⟨y, g, hy.symm⟩
    unfold cls at *
    rw [List.range_succ, List.countP_append, List.countP_cons, List.countP_nil]
    simp only [cycSt]
    split
    · rename_i h
      have hn : ¬ Mn (Eqp p) k := fun q => (hM.1 q) h
      rw [ih]
      simp [hn]
    · rename_i h
      have hy : Mn (Eqp p) k := hM.2 h
      simp only [List.length_append, List.length_cons, List.length_nil, ih]
      simp [hy]
/-- one pair more joins at most two classes -/
theorem cls_join {R R' : Nat → Nat → Prop} {n a b : Nat} (h0 : ∀ x, R x x) (h1 : ∀ {x y}, R x y → R y x) (h2 : ∀ {x y z}, R x y → R y z → R x z)
    (hJ : ∀ {u v}, R' u v → R u v ∨ (R u a ∧ R b v) ∨ (R u b ∧ R a v)) : cls R n ≤ cls R' n + 1 := by
  obtain ⟨ma, a1, a2⟩ := least_of (P := fun x => R a x) a (h0 a)
  obtain ⟨mb, b1, b2⟩ := least_of (P := fun x => R b x) b (h0 b)
  have key : ∀ x, Mn R x → x ≠ max ma mb → Mn R' x := by
    intro x hx hne y hy
    rcases hJ hy with g | ⟨g1, g2⟩ | ⟨g1, g2⟩
    · exact hx y g
    · have e : x = ma := Nat.le_antisymm (hx ma (h2 g1 a1)) (a2 x (h1 g1))
      have := b2 y g2
      omega
    · have e : x = mb := Nat.le_antisymm (hx mb (h2 g1 b1)) (b2 x (h1 g1))
      have := a2 y g2
      omega
  unfold cls
  have : ∀ l : List Nat, l.Nodup → l.countP (fun x => @decide (Mn R x) (Classical.propDecidable _)) ≤ l.countP (fun x => @decide (Mn R' x) (Classical.propDecidable _)) + (if max ma mb ∈ l then 1 else 0) := by
    intro l
    induction l with
    | nil => intro _; simp
    | cons x l ih =>
      intro hn
      have hn' := List.nodup_cons.1 hn
      have ih := ih hn'.2
      rw [List.countP_cons, List.countP_cons]
      by_cases e : x = max ma mb
      · have hnot : max ma mb ∉ l := by rw [← e]; exact hn'.1
        rw [if_neg hnot] at ih
        rw [if_pos (show max ma mb ∈ x :: l by rw [← e]; simp)]
        split <;> split <;> omega
      · have hiff : (max ma mb ∈ x :: l) = (max ma mb ∈ l) := by
          rw [List.mem_cons]; exact propext ⟨fun h => h.resolve_left (fun q => e q.symm), .inr⟩
        simp only [hiff]
        by_cases hx : Mn R x
        · have hy := key x hx e
          have d1 : @decide (Mn R x) (Classical.propDecidable _) = true := by simpa using hx
          have d2 : @decide (Mn R' x) (Classical.propDecidable _) = true := by simpa using hy
          rw [if_pos d1, if_pos d2]; omega
        · have d1 : ¬ @decide (Mn R x) (Classical.propDecidable _) = true := by simpa using hx
          rw [if_neg d1]
          split <;> omega
  have h := this (List.range n) List.nodup_range
  split at h <;> omega
/-- more classes -/
theorem cls_more {R R' : Nat → Nat → Prop} {n m : Nat} (hm : m < n) (h : ∀ x, Mn R x → Mn R' x) (h1 : Mn R' m) (h2 : ¬ Mn R m) : cls R n + 1 ≤ cls R' n := by
  unfold cls
  have : ∀ l : List Nat, l.countP (fun x => @decide (Mn R x) (Classical.propDecidable _)) + (if m ∈ l then 1 else 0) ≤ l.countP (fun x => @decide (Mn R' x) (Classical.propDecidable _)) := by
    intro l
    induction l with
    | nil => simp
    | cons x l ih =>
      rw [List.countP_cons, List.countP_cons]
      by_cases e : x = m
      · subst e
        have d1 : ¬ @decide (Mn R x) (Classical.propDecidable _) = true := by simpa using h2
        have d2 : @decide (Mn R' x) (Classical.propDecidable _) = true := by simpa using h1
        rw [if_neg d1, if_pos d2, if_pos (by simp)]
        split at ih <;> omega
      · have hiff : (m ∈ x :: l) = (m ∈ l) := by
          rw [List.mem_cons]; exact propext ⟨fun h => h.resolve_left (fun q => e q.symm), .inr⟩
        simp only [hiff]
        by_cases hx : Mn R x
        · have hy := h x hx
          have d1 : @decide (Mn R x) (Classical.propDecidable _) = true := by simpa using hx
          have d2 : @decide (Mn R' x) (Classical.propDecidable _) = true := by simpa using hy
          rw [if_pos d1, if_pos d2]; omega
        · have d1 : ¬ @decide (Mn R x) (Classical.propDecidable _) = true := by simpa using hx
          rw [if_neg d1]
          omega
  have h := this (List.range n)
  rw [if_pos (List.mem_range.2 hm)] at h
  exact h
theorem swp_join {p : List Int} {a b : Nat} (ha : a < p.length) (hb : b < p.length) {u v : Nat} (h : Eqp (swp p a b) u v) : Eqp p u v ∨ (Eqp p u a ∧ Eqp p b v) ∨ (Eqp p u b ∧ Eqp p a v) := by
  induction h with
  | refl x => exact .inl (.refl x)
  | edge x hx =>
    rw [swp_len] at hx
    rw [swp_at p a b x ha hb hx]
    by_cases e1 : x = b
    · rw [if_pos e1]; subst e1; exact .inr (.inr ⟨.refl _, .edge a ha⟩)
    · rw [if_neg e1]
      by_cases e2 : x = a
      · rw [if_pos e2]; subst e2; exact .inr (.inl ⟨.refl _, .edge b hb⟩)
      · rw [if_neg e2]; exact .inl (.edge x hx)
  | symm _ ih =>
    rcases ih with g | ⟨g1, g2⟩ | ⟨g1, g2⟩
    · exact .inl g.symm
    · exact .inr (.inr ⟨g2.symm, g1.symm⟩)
    · exact .inr (.inl ⟨g2.symm, g1.symm⟩)
  | trans _ _ i1 i2 =>
    rcases i1 with g | ⟨g1, g2⟩ | ⟨g1, g2⟩ <;> rcases i2 with k | ⟨k1, k2⟩ | ⟨k1, k2⟩
    · exact .inl (g.trans k)
    · exact .inr (.inl ⟨g.trans k1, k2⟩)
    · exact .inr (.inr ⟨g.trans k1, k2⟩)
    · exact .inr (.inl ⟨g1, g2.trans k⟩)
    · exact .inr (.inl ⟨g1, k2⟩)
    · exact .inl (g1.trans k2)
    · exact .inr (.inr ⟨g1, g2.trans k⟩)
    · exact .inl (g1.trans k2)
    · exact .inr (.inr ⟨g1, k2⟩)
theorem cls_swp {p : List Int} {a b : Nat} (ha : a < p.length) (hb : b < p.length) : cls (Eqp p) p.length ≤ cls (Eqp (swp p a b)) p.length + 1 :=
  cls_join (a := a) (b := b) .refl .symm .trans (swp_join ha hb)
/-- the number of cycles -/
def cyN (p : List Int) : Nat := (cycSt p p.length).1.length
theorem cyN_cls {p : List Int} (hp : Prm p) : cyN p = cls (Eqp p) p.length := cyc_cnt hp _ (Nat.le_refl _)
theorem cyN_swp {p : List Int} (hp : Prm p) {a b : Nat} (ha : a < p.length) (hb : b < p.length) : cyN p ≤ cyN (swp p a b) + 1 := by
  rw [cyN_cls hp, cyN_cls (swp_prm hp ha hb), swp_len]
  exact cls_swp ha hb
theorem swp_swp {p : List Int} {a b : Nat} (ha : a < p.length) (hb : b < p.length) : swp (swp p a b) a b = p := by
  refine List.ext_getElem (by rw [swp_len, swp_len]) fun k h1 h2 => ?_
  have hk : k < p.length := h2
  have e1 := swp_at (swp p a b) a b k (by rw [swp_len]; exact ha) (by rw [swp_len]; exact hb) (by rw [swp_len]; exact hk)
  have ea := swp_at p a b a ha hb ha
  have eb := swp_at p a b b ha hb hb
  have ek := swp_at p a b k ha hb hk
  rw [ea, eb, ek] at e1
  have e2 : (swp (swp p a b) a b).getD k 0 = (swp (swp p a b) a b)[k] := by simp [h1]
  have e3 : p.getD k 0 = p[k] := by simp [hk]
  rw [e2] at e1
  rw [e1, ← e3]
  by_cases q1 : k = b <;> by_cases q2 : k = a <;> by_cases q3 : a = b <;> simp_all
/-- a number brought home is a cycle more -/
theorem cyN_home {q : List Int} (hq : Prm q) {x i : Nat} (hx : x < q.length) (hi : i < q.length) (hxi : x < i) (hfix : ∀ y, y < x → q.getD y 0 = y) (h : q.getD i 0 = x) : cyN (swp q x i) = cyN q + 1 := by
  have hq' := swp_prm hq hx hi
  have up : cyN (swp q x i) ≤ cyN q + 1 := by
    have := cyN_swp hq' (a := x) (b := i) (by rw [swp_len]; exact hx) (by rw [swp_len]; exact hi)
    rwa [swp_swp hx hi] at this
  have dn : cyN q + 1 ≤ cyN (swp q x i) := by
    rw [cyN_cls hq, cyN_cls hq', swp_len]
    have hinj := (prm_range hq').2
    rw [swp_len] at hinj
    have hxx : (swp q x i).getD x 0 = x := by rw [swp_at q x i x hx hi hx, if_neg (by omega), if_pos rfl, h]
    -- x stands alone
    have alone : ∀ {u v : Nat}, Eqp (swp q x i) u v → u < q.length → (u = x ↔ v = x) := by
      intro u v hu
      induction hu with
      | refl => intro _; exact Iff.rfl
      | edge u hu =>
        intro hul
        have r := (prm_range hq').1 u hu
        constructor
        · rintro rfl; rw [hxx]; simp
        · intro e
          have e2 : (swp q x i).getD u 0 = (swp q x i).getD x 0 := by rw [hxx]; omega
          exact hinj u x hul hx e2
      | symm h ih =>
        intro hv
        exact (ih (by have := (eqp_in hq' h).2 (by rw [swp_len]; exact hv); rwa [swp_len] at this)).symm
      | trans h1 h2 i1 i2 =>
        intro hu
        exact (i1 hu).trans (i2 (by have := (eqp_in hq' h1).1 (by rw [swp_len]; exact hu); rwa [swp_len] at this))
    -- the new classes lie within the old ones
    have sub : ∀ {u v : Nat}, Eqp (swp q x i) u v → Eqp q u v := by
      have hix : Eqp q i x := by have := Eqp.edge (p := q) i hi; rwa [h, Int.toNat_natCast] at this
      intro u v hu
      rcases swp_join hx hi hu with g | ⟨g1, g2⟩ | ⟨g1, g2⟩
      · exact g
      · exact g1.trans (hix.symm.trans g2)
      · exact g1.trans (hix.trans g2)
    -- what is below x stands alone
    have low : ∀ {u v : Nat}, Eqp q u v → u < q.length → (u < x ∨ v < x) → u = v := by
      intro u v hu
      induction hu with
      | refl => intro _ _; rfl
      | edge u hu =>
        intro _ g
        have r := (prm_range hq).1 u hu
        rcases g with g | g
        · rw [hfix u g]; simp
        · have hf := hfix (q.getD u 0).toNat g
          have : u = (q.getD u 0).toNat := (prm_range hq).2 u _ hu (by omega) (by rw [hf]; omega)
          exact this
      | symm h ih =>
        intro hv g
        exact (ih ((eqp_in hq h).2 hv) g.symm).symm
      | @trans u w v h1 h2 i1 i2 =>
        intro hu g
        have hw := (eqp_in hq h1).1 hu
        rcases g with g | g
        · have e := i1 hu (.inl g)
          subst e
          exact i2 hw (.inl g)
        · have e := i2 hw (.inr g)
          subst e
          exact i1 hu (.inr g)
    obtain ⟨m, m1, m2⟩ := least_of (P := fun y => Eqp (swp q x i) i y) i (.refl i)
    have mx : m ≠ x := fun e => by
      have := (alone m1 hi).2 e
      omega
    have ml : m < q.length := by have := (eqp_in hq' m1).1 (by rw [swp_len]; exact hi); rwa [swp_len] at this
    have hxm : Eqp q x m := by
      have hix : Eqp q i x := by have := Eqp.edge (p := q) i hi; rwa [h, Int.toNat_natCast] at this
      exact hix.symm.trans (sub m1)
    refine cls_more ml (fun y hy z hz => hy z (sub hz)) (fun y hy => m2 y (m1.trans hy)) fun hmn => ?_
    have hge : x ≤ m := Nat.le_of_not_lt fun g => mx (low hxm hx (.inr g)).symm
    have := hmn x hxm.symm
    omega
  omega
def ltC (u : Int) (m : List Int) : Nat := m.countP fun y => decide (y < u)
def gtC (v : Int) (m : List Int) : Nat := m.countP fun y => decide (v < y)
def invL : List Int → Nat
  | [] => 0
  | x :: xs => ltC x xs + invL xs
def crs2 (l m : List Int) : Nat := (l.map fun x => ltC x m).sum
theorem ltC_app (u : Int) (l m : List Int) : ltC u (l ++ m) = ltC u l + ltC u m := List.countP_append
theorem invL_app : ∀ l m : List Int, invL (l ++ m) = invL l + invL m + crs2 l m
  | [], m => by simp [invL, crs2]
  | x :: l, m => by
    have := invL_app l m
    simp only [List.cons_append, invL, ltC_app, this, crs2, List.map_cons, List.sum_cons]
    omega
theorem crs2_perm {l l' m m' : List Int} (h : l.Perm l') (k : m.Perm m') : crs2 l m = crs2 l' m' := by
  have e : (fun x => ltC x m) = fun x => ltC x m' := funext fun x => k.countP_eq _
  unfold crs2
  rw [e]
  exact (h.map _).sum_nat
theorem ltgt {u : Int} : ∀ {m : List Int}, (∀ y ∈ m, y ≠ u) → ltC u m + gtC u m = m.length
  | [], _ => rfl
  | y :: m, h => by
    have := ltgt (u := u) (m := m) fun z hz => h z (by simp [hz])
    have h0 := h y (by simp)
    unfold ltC gtC at *
    rw [List.countP_cons, List.countP_cons, List.length_cons]
    by_cases g : y < u
    · rw [if_pos (by simpa using g), if_neg (by simp; omega)]; omega
    · rw [if_neg (by simpa using g), if_pos (by simp; omega)]; omega
theorem crs2_one (v : Int) : ∀ m : List Int, crs2 m [v] = gtC v m
  | [] => rfl
  | y :: m => by
    have := crs2_one v m
    unfold crs2 gtC ltC at *
    rw [List.map_cons, List.sum_cons, this, List.countP_cons, List.countP_cons, List.countP_nil]
    omega
theorem invL_mid {u v : Int} {m : List Int} (hne : u ≠ v) (hu : ∀ y ∈ m, y ≠ u) (hv : ∀ y ∈ m, y ≠ v) : invL (u :: (m ++ [v])) + invL (v :: (m ++ [u])) = 2 * (invL m + m.length) + 1 := by
  have h1 := ltgt hu
  have h2 := ltgt hv
  simp only [invL, invL_app, ltC_app, crs2_one]
  have e1 : ltC u [v] + ltC v [u] = 1 := by
    unfold ltC
    simp only [List.countP_cons, List.countP_nil, decide_eq_true_eq]
    by_cases g : v < u
    · rw [if_pos g, if_neg (by omega)]
    · rw [if_neg g, if_pos (by omega)]
  have e2 : ∀ z : Int, ltC z ([] : List Int) = 0 := fun _ => rfl
  simp only [e2]
  omega
theorem invL_swp {p : List Int} (hn : p.Nodup) {a b : Nat} (hab : a < b) (hb : b < p.length) : (invL (swp p a b) + invL p) % 2 = 1 := by
  have e : p = p.take a ++ (p.getD a 0 :: ((p.drop (a + 1)).take (b - a - 1) ++ (p.getD b 0 :: p.drop (b + 1)))) := by
    have h1 : p.drop a = p.getD a 0 :: p.drop (a + 1) := by rw [List.drop_eq_getElem_cons (by omega)]; congr 1; simp [show a < p.length by omega]
    have h2 : p.drop b = p.getD b 0 :: p.drop (b + 1) := by rw [List.drop_eq_getElem_cons hb]; congr 1; simp [hb]
    have h3 : p.drop (a + 1) = (p.drop (a + 1)).take (b - a - 1) ++ p.drop b := by
      have := (List.take_append_drop (b - a - 1) (p.drop (a + 1))).symm
      rw [List.drop_drop, show a + 1 + (b - a - 1) = b by omega] at this
      exact this
    rw [← h2, ← h3, ← h1, List.take_append_drop]
  generalize hl1 : p.take a = l1 at e
  generalize hm : (p.drop (a + 1)).take (b - a - 1) = m at e
  generalize hl3 : p.drop (b + 1) = l3 at e
  generalize hu : p.getD a 0 = u at e
  generalize hv : p.getD b 0 = v at e
  have la : l1.length = a := by rw [← hl1, List.length_take]; omega
  have lm : m.length = b - a - 1 := by rw [← hm, List.length_take, List.length_drop]; omega
  have es : swp p a b = l1 ++ (v :: (m ++ (u :: l3))) := by
    unfold swp
    rw [hu, hv]
    rw [e]
    rw [List.set_append, if_neg (by omega), show a - l1.length = 0 by omega, List.set_cons_zero, List.set_append, if_neg (by omega)]
    rw [show b - l1.length = (m.length + 1) by omega, List.set_cons_succ, List.set_append, if_neg (by omega), Nat.sub_self, List.set_cons_zero]
  rw [e] at hn
  rw [es]
  conv => lhs; arg 1; arg 2; rw [e]
  have hn2 := (List.nodup_append.1 hn).2.1
  have hn3 := List.nodup_cons.1 hn2
  have hn4 := List.nodup_append.1 hn3.2
  have hn5 := List.nodup_cons.1 hn4.2.1
  have hne : u ≠ v := fun q => hn3.1 (by rw [q]; simp)
  have hum : ∀ y ∈ m, y ≠ u := fun y hy q => hn3.1 (by rw [← q]; simp [hy])
  have hvm : ∀ y ∈ m, y ≠ v := fun y hy q => hn4.2.2 y hy v (by simp) q
  have hmid := invL_mid hne hum hvm
  have r1 : l1 ++ (u :: (m ++ (v :: l3))) = l1 ++ ((u :: (m ++ [v])) ++ l3) := by simp
  have r2 : l1 ++ (v :: (m ++ (u :: l3))) = l1 ++ ((v :: (m ++ [u])) ++ l3) := by simp
  rw [r1, r2]
  have hperm : (u :: (m ++ [v])).Perm (v :: (m ++ [u])) := by
    have h1 : (u :: (m ++ [v])).Perm (u :: v :: m) := (List.perm_append_comm (l₁ := m) (l₂ := [v])).cons u
    have h2 : (v :: (m ++ [u])).Perm (v :: u :: m) := (List.perm_append_comm (l₁ := m) (l₂ := [u])).cons v
    exact h1.trans ((List.Perm.swap v u m).trans h2.symm)
  have c1 := crs2_perm (.refl l1) (hperm.append_right l3)
  have c2 := crs2_perm hperm (.refl l3)
  have A1 : invL (l1 ++ ((u :: (m ++ [v])) ++ l3)) = invL l1 + (invL (u :: (m ++ [v])) + invL l3 + crs2 (u :: (m ++ [v])) l3) + crs2 l1 ((u :: (m ++ [v])) ++ l3) := by rw [invL_app l1, invL_app (u :: (m ++ [v])) l3]
  have A2 : invL (l1 ++ ((v :: (m ++ [u])) ++ l3)) = invL l1 + (invL (v :: (m ++ [u])) + invL l3 + crs2 (v :: (m ++ [u])) l3) + crs2 l1 ((v :: (m ++ [u])) ++ l3) := by rw [invL_app l1, invL_app (v :: (m ++ [u])) l3]
  rw [A1, A2, c1, c2]
  omega
end Go.Proofs.Ytlfongfhbkefmaa.Ai
namespace Go.Proofs.Ytlfongfhbkefmaa.Ai
open Go Go.RowKit Go.Shelf
set_option linter.unusedVariables false
set_option linter.unusedSimpArgs false
attribute [local go_sem] Oper.semAt_some
/-- what has come when k rounds are over -/
def uptoF {α : Type} (f : Nat → α) (k : Nat) : List α := (List.range k).map f
theorem uptoF_succ {α : Type} (f : Nat → α) (k : Nat) : uptoF f (k + 1) = uptoF f k ++ [f k] := by simp [uptoF, List.range_succ]
theorem uptoF_length {α : Type} (f : Nat → α) (k : Nat) : (uptoF f k).length = k := by simp [uptoF]
theorem uptoF_all (zs : List Int) : uptoF (fun j => zs[j]?.getD 0) zs.length = zs := by
  apply List.ext_getElem
  · simp [uptoF]
  · intro i h1 h2
    simp [uptoF, h2]
theorem uptoF_take (zs : List Int) {k : Nat} (hk : k ≤ zs.length) : uptoF (fun j => zs[j]?.getD 0) k = zs.take k := by
  apply List.ext_getElem
  · simp [uptoF, hk]
  · intro i h1 h2
    have : i < zs.length := by simp [uptoF] at h1; omega
    simp [uptoF, this]
set_option maxRecDepth 100000 in
set_option maxHeartbeats 2000000 in
/-- the iterator of slices.Values, for every body of a loop that keeps what lay below n₀ -/
theorem values1_in (F : Fence) (n : Nat) (h7 : F.fn 245) (hro : F.round = none) (hn : 1 ≤ n) (l Bs kk n₀ b off len cap : Nat) (zs : List Int) (hreach : len * 8 ≤ 140737488351232) (hb : b < n₀) (J Jx : List Int → World → Prop)
    (hY : ∀ pre x W, J pre W → pre.length < len → YieldAt F (n - 1) Try.prog l #[.int .i64 x] W fun e W' =>
      (e = .returned (.bool true) ∧ J (pre ++ [x]) W' ∧ Below n₀ W W') ∨ (e = .returned (.bool false) ∧ Jx (pre ++ [x]) W'))
    (W : World) (hBs : W.cell? ⟨Bs, kk, none⟩ = some (.slice (some ⟨b, off, none⟩) len cap)) (hc : ∀ j, j < len → W.cell? ⟨b, off + j, none⟩ = some (.int .i64 (zs[j]?.getD 0))) (h0 : J [] W) :
    CallsIn F n Try.prog 245 #[.func (.yield l) #[] #[], .pointer (some ⟨Bs, kk, none⟩)] W fun e W' => (∃ v, e = .returned v) ∧
      ((∃ ys, ys = uptoF (fun j => zs[j]?.getD 0) len ∧ J ys W') ∨ (∃ pre, (∃ k, k ≤ len ∧ pre = uptoF (fun j => zs[j]?.getD 0) k) ∧ Jx pre W')) := by
  refine callsIn_of_wp Try.func245 rfl h7 ?_ hro
  simp only [Try.ntmps245, List.size_toArray, List.length_cons, List.length_nil, Nat.reduceAdd, Nat.reduceSub, Array.replicate_succ, Array.replicate_zero, List.push_toArray, List.append_toArray, List.nil_append, List.cons_append]
  gi_wp2
  gi_loopw [7] (fun i wr => ∃ k : Nat, k ≤ len ∧ i = .int .i64 k ∧ J (uptoF (fun j => zs[j]?.getD 0) k) wr ∧ Below n₀ W wr)
    (fun i _ => len - (intOf i).toNat)
  case atStart => exact ⟨0, Nat.zero_le _, rfl, h0, Below.refl _ _⟩
  case round =>
    obtain ⟨k, hk, rfl, hJs, hnx⟩ := hrel
    have hcx : k < len → wr.cell? ⟨b, off + k, none⟩ = some (.int .i64 (zs[k]?.getD 0)) := fun h => (hnx.cell (p := ⟨b, off + k, none⟩) hb).trans (hc k h)
    by_cases hlt : k < len
    · obtain ⟨fn, tmps, assign, body, hy, hR⟩ := hY _ (zs[k]?.getD 0) wr hJs (by rw [uptoF_length]; exact hlt)
      have hcx' := hcx hlt
      gi_wp2
      refine hR.mono ?_
      rintro e W3 (⟨rfl, hJ3, hk3⟩ | ⟨rfl, hJx3⟩)
      · gi_wp2
        go_roundw
        case rel => exact ⟨k + 1, by omega, by simp, by rw [uptoF_succ]; exact hJ3, hnx.trans hk3⟩
        case measure => simp [intOf]; omega
      · gi_wp2
        refine bodyPost_ret (results_none rfl _ _ _) rfl ?_
        exact ⟨⟨_, rfl⟩, .inr ⟨_, ⟨k + 1, by omega, (uptoF_succ _ _).symm⟩, hJx3⟩⟩
    · obtain rfl : k = len := by omega
      gi_wp2
      go_end0
      exact ⟨⟨_, rfl⟩, .inl ⟨_, rfl, hJs⟩⟩
/-- a slice value that holds ints, in a block below n₀; or it is nil -/
def SlInts (n₀ : Nat) (W : World) (sv : Value) (zs : List Int) : Prop :=
  (∃ a c, sv = .slice a 0 c ∧ zs = []) ∨ ∃ b off cap, sv = .slice (some ⟨b, off, none⟩) zs.length cap ∧ b < n₀ ∧ ∀ j, j < zs.length → W.cell? ⟨b, off + j, none⟩ = some (.int .i64 (zs[j]?.getD 0))
theorem SlInts.below {n₀ : Nat} {A B : World} (h : Below n₀ A B) {sv : Value} {zs : List Int} : SlInts n₀ A sv zs → SlInts n₀ B sv zs
  | .inl e => .inl e
  | .inr ⟨b, off, cap, e, hb, hc⟩ => .inr ⟨b, off, cap, e, hb, fun j hj => (h.cell (p := ⟨b, off + j, none⟩) hb).trans (hc j hj)⟩
set_option maxRecDepth 100000 in
set_option maxHeartbeats 1000000 in
theorem values1_nil_in (F : Fence) (n : Nat) (h7 : F.fn 245) (hro : F.round = none) (l Bs kk : Nat) (J : List Int → World → Prop) (W : World) (a0 : Option Addr) (c0 : Nat) (hBs : W.cell? ⟨Bs, kk, none⟩ = some (.slice a0 0 c0)) (h0 : J [] W) :
    CallsIn F n Try.prog 245 #[.func (.yield l) #[] #[], .pointer (some ⟨Bs, kk, none⟩)] W fun e W' => (∃ v, e = .returned v) ∧ J [] W' := by
  refine callsIn_of_wp Try.func245 rfl h7 ?_ hro
  simp only [Try.ntmps245, List.size_toArray, List.length_cons, List.length_nil, Nat.reduceAdd, Nat.reduceSub, Array.replicate_succ, Array.replicate_zero, List.push_toArray, List.append_toArray, List.nil_append, List.cons_append]
  gi_wp2
  gi_loopw [7] (fun i wr => i = .int .i64 0 ∧ J [] wr) (fun _ _ => 0)
  case atStart => exact ⟨rfl, h0⟩
  case round =>
    obtain ⟨rfl, hJs⟩ := hrel
    gi_wp2
    go_end0
    exact ⟨⟨_, rfl⟩, hJs⟩
theorem values_stops (F : Fence) (n : Nat) (h7 : F.fn 245) (hro : F.round = none) (hn : 1 ≤ n) (Bs kk n₀ : Nat) (sv : Value) (zs : List Int) (hreach : zs.length * 8 ≤ 140737488351232) (w : World) (hBs : Bs < w.heap.size) (hn₀ : n₀ ≤ w.heap.size)
    (hc : w.cell? ⟨Bs, kk, none⟩ = some sv) (hI : SlInts n₀ w sv zs) :
    SeqStopsK F n Try.prog 245 #[.pointer (some ⟨Bs, kk, none⟩)] (fun x : Int => #[Value.int .i64 x]) (Below n₀) (fun ys => ys = zs) (fun pre => pre <+: zs) zs.length w := fun l J Jx W hW _ _ hY h0 => by
  have hc' := (hW.cell (p := ⟨Bs, kk, none⟩) hBs).trans hc
  rcases hI.below (hW.mono hn₀) with ⟨a0, c0, rfl, rfl⟩ | ⟨b, off, cap, rfl, hb, hcs⟩
  · exact (values1_nil_in F n h7 hro l Bs kk J W a0 c0 hc' h0).mono fun e W' ⟨he, hj⟩ => ⟨he, .inl ⟨_, rfl, hj⟩⟩
  · refine (values1_in F n h7 hro hn l Bs kk n₀ b off zs.length cap zs hreach hb J Jx hY W hc' hcs h0).mono ?_
    rintro e W' ⟨he, ⟨ys, rfl, hj⟩ | ⟨pre, ⟨k, hk, rfl⟩, hj⟩⟩
    · exact ⟨he, .inl ⟨_, uptoF_all zs, hj⟩⟩
    · exact ⟨he, .inr ⟨_, by rw [uptoF_take zs hk]; exact List.take_prefix _ _, hj⟩⟩
theorem infoInt : (Try.prog.info? 3).map (fun i => (i.zero, i.size, i.bytes)) = some (some (.int .i64 0), 1, 8) := by kernel_rfl
set_option maxRecDepth 100000 in
set_option maxHeartbeats 2000000 in
/-- slices.AppendSeq(nil, seq) over it: a slice that owns just these ints, and nothing that lay before has turned -/
theorem appendSeq_in (F : Fence) (n : Nat) (h3 : F.fn 266) (h5 : F.fn 245) (hro : F.round = none) (hn : 3 ≤ n) (Bs kk : Nat) (sv : Value) (zs : List Int) (hlen : zs.length ≤ maxLen) (hbytes : zs.length * 8 ≤ 140737488351232) (w : World)
    (hBs : Bs < w.heap.size) (hcs : w.cell? ⟨Bs, kk, none⟩ = some sv) (hI : SlInts w.heap.size w sv zs) :
    CallsIn F n Try.prog 266 #[.slice none 0 0, .func (.func 245) #[] #[.pointer (some ⟨Bs, kk, none⟩)]] w fun e W' => ∃ v, e = .returned v ∧ W'.ownsRow w.heap.size 3 1 v zs.length (zs.map (Value.int .i64)) ∧ (v = .slice none 0 0 ↔ zs = []) ∧ Below w.heap.size w W' := by
  have h1 : 1 ≤ n := by omega
  obtain ⟨i0, hi, hz0, hz1, hz2⟩ := info_parts infoInt
  refine callsIn_of_wp_marks Try.func266 rfl h3 ?_ hro
  simp only [Try.ntmps266, List.size_toArray, List.length_cons, List.length_nil, Nat.reduceAdd, Nat.reduceSub, Array.replicate_succ, Array.replicate_zero, List.push_toArray, List.append_toArray, List.nil_append, List.cons_append]
  gi_wp2
  have bO := Boxed.new w 38 (.slice none 0 0)
  have hB0 : Below w.heap.size w (w.alloc (.cells #[.slice none 0 0] 38)) := (Below.refl _ w).alloc (Nat.le_refl _) _
  refine wpIn_rangeFunc_ownG hro h1 (gf := 245) (lb := #[.pointer (some ⟨Bs, kk, none⟩)]) rfl h5 (enters_of Try.func245 (by kernel_rfl) rfl)
    (values_stops F (n - 1) h5 hro (by omega) Bs kk w.heap.size sv zs hbytes (w.alloc (.cells #[.slice none 0 0] 38)) (by simp; omega) (by simp) ((hB0.cell (p := ⟨Bs, kk, none⟩) hBs).trans hcs) (hI.below hB0)) belowK_t (belowK_b (by simp)) (Below.refl _ _) (fun _ => rfl)
    (fun pre W => (∃ v, Boxed W w.heap.size 38 v ∧ W.ownsRow w.heap.size 3 1 v pre.length (pre.map (Value.int .i64)) ∧ (v = .slice none 0 0 ↔ pre = [])) ∧ Below w.heap.size w W)
    (fun _ _ _ => False)
    (OwnFrom.and (Own.from (holdsRow_own w.heap.size w.heap.size 38 3 1 (fun pre : List Int => pre.length) (fun pre => pre.map (Value.int .i64)) (fun pre v => v = .slice none 0 0 ↔ pre = [])) _) (ownFrom_below (Nat.le_refl _) (by simp)))
    (fun _ _ _ _ _ hs _ _ => hs)
    ⟨⟨_, bO, World.ownsRow_nil _ _ _ _, by simp⟩, hB0⟩
    (fun x => { tmps := #[.slice none 0 0, .func (.func 245) #[] #[.pointer (some ⟨Bs, kk, none⟩)], .pointer (some ⟨w.heap.size, 0, none⟩), undef, .slice none 0 0, .int .i64 x, .func (.func 245) #[] #[.pointer (some ⟨Bs, kk, none⟩)], .int .i64 x, undef, undef, undef, undef, undef], defers := [] }) ?assign ?body ?done ?stop
  case assign =>
    intro l x W K hK
    gi_wp2
    exact hK
  case body =>
    rintro l pre x W ⟨⟨v, hv, hrow, hnil⟩, hB⟩ hlt
    have hc := hv.cell
    gi_wp2_with (gi_at_builtin; refine wpListIn_append_own _ rfl _ _ 38 rfl w.heap.size 3 i0 (.int .i64 0) 1 8 Try.underlying38 hi hz0 hz1 hz2 rfl (by decide) _ _ _ rfl (hrow.alloc _) ⟨W.heap.size, 0, none⟩ 1 1 [.int .i64 x] rfl rfl (cell_one_new _ _ _) (by simp [Value.oneCell']) (by omega) (by omega) (by have := hB.size; simp; omega) ?_; intro v' w1 hown' hgrow _; obtain ⟨g', cap', rfl⟩ := ownsRow_succ hown'; obtain ⟨hv1, hv2, hr2, hk2, hb2⟩ := hv.appended (by decide) hrow hB.size (Nat.le_refl _) hown' hgrow; have hc1 := hv1.cell; have hf1 := hv1.frozen)
    exact ⟨hk2.from _, hb2, ⟨_, hv2, by simpa using hr2, by simp⟩, hB.trans hb2⟩
  case done =>
    rintro D ys W hD rfl ⟨⟨v, hv, hrow, hnil⟩, hB⟩ hK
    have hc := hv.cell
    gi_wp2
    refine ⟨by simp, .inl ⟨_, _, rfl, run_takeDeferred hK, ?_⟩⟩
    exact ⟨_, results_tmp rfl _ _ _, v, rfl, ownsRow_putObj hrow _ hK rfl, hnil, hB.trans (belowK_b (w := w) (Nat.le_refl _) W D _ _ (by simp at hD; omega) hK rfl rfl)⟩
  case stop =>
    rintro D c pre W _ _ h _
    exact h.elim
/-- .. the same as a call -/
theorem appendSeq_calls (Bs kk : Nat) (sv : Value) (zs : List Int) (hlen : zs.length ≤ 1099511627776) (w : World) (hBs : Bs < w.heap.size) (hcs : w.cell? ⟨Bs, kk, none⟩ = some sv) (hI : SlInts w.heap.size w sv zs) :
    Calls Try.prog 266 #[.slice none 0 0, .func (.func 245) #[] #[.pointer (some ⟨Bs, kk, none⟩)]] w fun e W' => ∃ v, e = .returned v ∧ W'.ownsRow w.heap.size 3 1 v zs.length (zs.map (Value.int .i64)) ∧ (v = .slice none 0 0 ↔ zs = []) ∧ Below w.heap.size w W' :=
  (callsIn_wide (n := 5)).1 (appendSeq_in Fence.wide 5 trivial trivial rfl (by omega) Bs kk sv zs (Nat.le_trans hlen (by decide)) (by omega) w hBs hcs hI)
end Go.Proofs.Ytlfongfhbkefmaa.Ai
namespace Go.Proofs.Ytlfongfhbkefmaa.Ai
open Go
/-- a number put into an ascending list -/
def put : List Int → Int → List Int
  | [], x => [x]
  | y :: ys, x => if y < x then y :: put ys x else if y = x then y :: ys else x :: y :: ys
end Go.Proofs.Ytlfongfhbkefmaa.Ai
