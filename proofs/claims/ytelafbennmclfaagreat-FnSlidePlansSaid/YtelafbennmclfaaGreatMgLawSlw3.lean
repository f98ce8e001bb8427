/- Texts of this claim, joined: Ty, Arr, Grf, Bag, Ones, Drw, Drb, Base, PermP, PutP, Sort, Good, PrA, Drg, Has, IdxP, Tri, Tri2, Tri3, IdxL, At, Bound, CycP, SrtP, Clone, Swp. -/
import Derived.Test.YtelafbennmclfaaGreatProg
import Derived.KernelRfl
import Derived.Laws.Bits64
import Derived.Laws.BitsLemmas
import Derived.Test.YtelafbennmclfaaGreatMgLawSlw2
set_option linter.unusedVariables false
set_option linter.unusedSimpArgs false
namespace Go.Proofs.YtelafbennmclfaaGreat.Ai
open Go
theorem cs3 : Tryz.prog.cellsOf 3 = 1 := by kernel_rfl
theorem by3 : Tryz.prog.bytesOf 3 = 8 := by kernel_rfl
theorem ag3 : isAggA Tryz.prog 3 = some false := by kernel_rfl
theorem ze3 : zeroA Tryz.prog 3 = some (.int .i64 0) := by kernel_rfl
theorem zk3 : zeroOk Tryz.prog 3 = true := by kernel_rfl
theorem cs4 : Tryz.prog.cellsOf 4 = 1 := by kernel_rfl
theorem by4 : Tryz.prog.bytesOf 4 = 1 := by kernel_rfl
theorem ag4 : isAggA Tryz.prog 4 = some false := by kernel_rfl
theorem ze4 : zeroA Tryz.prog 4 = some (.bool false) := by kernel_rfl
theorem ag5 : isAggA Tryz.prog 5 = some false := by kernel_rfl
theorem ag9 : isAggA Tryz.prog 9 = some false := by kernel_rfl
theorem cs24 : Tryz.prog.cellsOf 24 = 1 := by kernel_rfl
theorem ag24 : isAggA Tryz.prog 24 = some false := by kernel_rfl
theorem cs26 : Tryz.prog.cellsOf 26 = 2 := by kernel_rfl
theorem ag26 : isAggA Tryz.prog 26 = some true := by kernel_rfl
theorem cs27 : Tryz.prog.cellsOf 27 = 1 := by kernel_rfl
theorem by27 : Tryz.prog.bytesOf 27 = 24 := by kernel_rfl
theorem ag27 : isAggA Tryz.prog 27 = some false := by kernel_rfl
theorem ze27 : zeroA Tryz.prog 27 = some (.slice none 0 0) := by kernel_rfl
theorem zk27 : zeroOk Tryz.prog 27 = true := by kernel_rfl
theorem ag42 : isAggA Tryz.prog 42 = some false := by kernel_rfl
theorem ag43 : isAggA Tryz.prog 43 = some false := by kernel_rfl
theorem cs53 : Tryz.prog.cellsOf 53 = 2 := by kernel_rfl
theorem by53 : Tryz.prog.bytesOf 53 = 16 := by kernel_rfl
theorem ag53 : isAggA Tryz.prog 53 = some true := by kernel_rfl
theorem ze53 : zeroA Tryz.prog 53 = some (.agg #[(.int .i64 0),(.int .i64 0)]) := by kernel_rfl
theorem zk53 : zeroOk Tryz.prog 53 = true := by kernel_rfl
theorem cs56 : Tryz.prog.cellsOf 56 = 1 := by kernel_rfl
theorem ag56 : isAggA Tryz.prog 56 = some false := by kernel_rfl
theorem ag69 : isAggA Tryz.prog 69 = some false := by kernel_rfl
theorem ag72 : isAggA Tryz.prog 72 = some false := by kernel_rfl
theorem ag86 : isAggA Tryz.prog 86 = some false := by kernel_rfl
theorem ag110 : isAggA Tryz.prog 110 = some false := by kernel_rfl
theorem ag111 : isAggA Tryz.prog 111 = some false := by kernel_rfl
theorem ag119 : isAggA Tryz.prog 119 = some false := by kernel_rfl
theorem ag130 : isAggA Tryz.prog 130 = some false := by kernel_rfl
theorem ag132 : isAggA Tryz.prog 132 = some false := by kernel_rfl
theorem own1_24 {H0 H : AH} {v : Value} {ps : List (Int × Int)} (h : MineP 53 H0 H v ps) (hp : H0 <+: H) (hb : ps.length ≤ 1099511627775) (a b : Int) : ∃ v' H',appendA Tryz.prog 24 24 v (.slice (some ⟨H.length,0,none⟩) 1 1) (H ++ [.cells [.int .i64 a,.int .i64 b] 53 false]) = some (v',H') ∧ MineP 53 H0 H' v' (ps ++ [(a,b)]) ∧ H0 <+: H' ∧ Kept v H H' ∧ H.length ≤ rowO v' ∧ isTup v' = false := MineP.app1 Tryz.underlying24 cs53 (by rw [by53]; decide) zk53 h hp hb a b
theorem app27 {H : AH} {o : Nat} {vs : List Value} {v : Value} {n c : Nat} (ho : H[o]? = some (.cells vs 3 false)) (hn : vs.length = n) (hb : n ≤ 1099511627776) : appendA Tryz.prog 27 27 (.slice (some ⟨o,0,none⟩) n c) (.slice (some ⟨H.length,0,none⟩) 1 1) (H ++ [.cells [v] 3 false]) = some (.slice (some ⟨H.length + 1,0,none⟩) (n + 1) (n + 1),H.set o .dead ++ [.cells [v] 3 false,.cells (vs ++ [v]) 3 false]) := app_one Tryz.underlying27 cs3 (by rw [by3]; decide) zk3 ho hn hb
theorem mks27 {n : Int} (h0 : 0 ≤ n) (h1 : n ≤ 1099511627776) (H : AH) : makeSliceA Tryz.prog 27 (.int .i64 n) (.int .i64 n) H = some (.slice (some ⟨H.length,0,none⟩) n.toNat n.toNat,H ++ [.cells (ints (List.replicate n.toNat 0)) 3 false]) := mk_ints Tryz.underlying27 cs3 (by rw [by3]; decide) ze3 h0 h1 H
theorem own1_27 {H0 H : AH} {v : Value} {ys : List Int} (h : Own 3 H0 H v ys) (hp : H0 <+: H) (hb : ys.length ≤ 1099511627775) (x : Int) : ∃ v' H',appendA Tryz.prog 27 27 v (.slice (some ⟨H.length,0,none⟩) 1 1) (H ++ [.cells [.int .i64 x] 3 false]) = some (v',H') ∧ Own 3 H0 H' v' (ys ++ [x]) ∧ H0 <+: H' ∧ Kept v H H' ∧ H.length ≤ rowO v' ∧ isTup v' = false := Own.app1 Tryz.underlying27 cs3 (by rw [by3]; decide) zk3 h hp hb x
theorem appi27 {H : AH} {o : Nat} {xs : List Int} {x : Int} {n c : Nat} (ho : H[o]? = some (.cells (ints xs) 3 false)) (hn : xs.length = n) (hb : n ≤ 1099511627776) : appendA Tryz.prog 27 27 (.slice (some ⟨o,0,none⟩) n c) (.slice (some ⟨H.length,0,none⟩) 1 1) (H ++ [.cells [.int .i64 x] 3 false]) = some (.slice (some ⟨H.length + 1,0,none⟩) (n + 1) (n + 1),H.set o .dead ++ [.cells [.int .i64 x] 3 false,.cells (ints (xs ++ [x])) 3 false]) := by rw [ints_app]; exact app27 ho (by rw [ints_len]; exact hn) hb
theorem ST : (∀ p H,loadA Tryz.prog 3 (.pointer (some p)) H = cellA H p.block p.off) ∧
    (∀ p H,loadA Tryz.prog 4 (.pointer (some p)) H = cellA H p.block p.off) ∧
    (∀ a b,binA Tryz.prog .eql 4 (.bool a) (.bool b) = some (.bool (decide (a = b)))) ∧
    (∀ a b,binA Tryz.prog .neq 4 (.bool a) (.bool b) = some (.bool (decide (a ≠ b)))) ∧
    (∀ p H,loadA Tryz.prog 5 (.pointer (some p)) H = cellA H p.block p.off) ∧
    (∀ p H,loadA Tryz.prog 9 (.pointer (some p)) H = cellA H p.block p.off) ∧
    (∀ p H,loadA Tryz.prog 24 (.pointer (some p)) H = cellA H p.block p.off) ∧
    (∀ H,buildSliceA Tryz.prog 24 0 [] H = some (.slice (some ⟨H.length,0,none⟩) 0 0,H ++ [.cells [] 53 false])) ∧
    (∀ H a b,buildSliceA Tryz.prog 24 1 [(0,.agg (List.toArray [a,b]))] H = some (.slice (some ⟨H.length,0,none⟩) 1 1,H ++ [.cells [a,b] 53 false])) ∧
    (∀ (p : Addr) (n c : Nat) (k : IntKind) {i : Int},0 ≤ i → i < (n : Int) → indexAddrA Tryz.prog 24 (.slice (some p) n c) (.int k i) = some (.pointer (some ⟨p.block,p.off + 2 * i.toNat,none⟩))) ∧
    (∀ a n c m d,binA Tryz.prog .eql 24 (.slice a n c) (.slice none m d) = some (.bool (a.isNone))) ∧
    (∀ a n c m d,binA Tryz.prog .neq 24 (.slice a n c) (.slice none m d) = some (.bool (!a.isNone))) ∧
    (∀ x H,lenS Tryz.prog 24 x H = lenA Tryz.prog 24 x) ∧
    (∀ p n c,lenA Tryz.prog 24 (.slice p n c) = some (.int .i64 n)) ∧
    (∀ (p : Addr),fieldAddrA Tryz.prog 26 (.pointer (some p)) 0 = some (.pointer (some ⟨p.block,p.off,none⟩))) ∧
    (∀ (p : Addr),fieldAddrA Tryz.prog 26 (.pointer (some p)) 1 = some (.pointer (some ⟨p.block,p.off + 1,none⟩))) ∧
    (∀ p H,loadA Tryz.prog 27 (.pointer (some p)) H = cellA H p.block p.off) ∧
    (∀ (p : Addr) (n c : Nat) (k : IntKind) {i : Int},0 ≤ i → i < (n : Int) → indexAddrA Tryz.prog 27 (.slice (some p) n c) (.int k i) = some (.pointer (some ⟨p.block,p.off + i.toNat,none⟩))) ∧
    (∀ H,buildSliceA Tryz.prog 27 0 [] H = some (.slice (some ⟨H.length,0,none⟩) 0 0,H ++ [.cells [] 3 false])) ∧
    (∀ H k0 x0,buildSliceA Tryz.prog 27 1 [(0,(.int k0 x0))] H = some (.slice (some ⟨H.length,0,none⟩) 1 1,H ++ [.cells [(.int k0 x0)] 3 false])) ∧
    (∀ H k0 x0 k1 x1,buildSliceA Tryz.prog 27 2 [(0,(.int k0 x0)),(1,(.int k1 x1))] H = some (.slice (some ⟨H.length,0,none⟩) 2 2,H ++ [.cells [(.int k0 x0),(.int k1 x1)] 3 false])) ∧
    (∀ H k0 x0 k1 x1 k2 x2,buildSliceA Tryz.prog 27 3 [(0,(.int k0 x0)),(1,(.int k1 x1)),(2,(.int k2 x2))] H = some (.slice (some ⟨H.length,0,none⟩) 3 3,H ++ [.cells [(.int k0 x0),(.int k1 x1),(.int k2 x2)] 3 false])) ∧
    (∀ a n c m d,binA Tryz.prog .eql 27 (.slice a n c) (.slice none m d) = some (.bool (a.isNone))) ∧
    (∀ a n c m d,binA Tryz.prog .neq 27 (.slice a n c) (.slice none m d) = some (.bool (!a.isNone))) ∧
    (∀ x H,lenS Tryz.prog 27 x H = lenA Tryz.prog 27 x) ∧
    (∀ p n c,lenA Tryz.prog 27 (.slice p n c) = some (.int .i64 n)) ∧
    (∀ p H,loadA Tryz.prog 42 (.pointer (some p)) H = cellA H p.block p.off) ∧
    (∀ p H,loadA Tryz.prog 43 (.pointer (some p)) H = cellA H p.block p.off) ∧
    (∀ (p : Addr) (n c : Nat) (k : IntKind) {i : Int},0 ≤ i → i < (n : Int) → indexAddrA Tryz.prog 43 (.slice (some p) n c) (.int k i) = some (.pointer (some ⟨p.block,p.off + i.toNat,none⟩))) ∧
    (∀ H,buildSliceA Tryz.prog 43 0 [] H = some (.slice (some ⟨H.length,0,none⟩) 0 0,H ++ [.cells [] 27 false])) ∧
    (∀ H p0 n0 c0,buildSliceA Tryz.prog 43 1 [(0,(.slice p0 n0 c0))] H = some (.slice (some ⟨H.length,0,none⟩) 1 1,H ++ [.cells [(.slice p0 n0 c0)] 27 false])) ∧
    (∀ H p0 n0 c0 p1 n1 c1,buildSliceA Tryz.prog 43 2 [(0,(.slice p0 n0 c0)),(1,(.slice p1 n1 c1))] H = some (.slice (some ⟨H.length,0,none⟩) 2 2,H ++ [.cells [(.slice p0 n0 c0),(.slice p1 n1 c1)] 27 false])) ∧
    (∀ H p0 n0 c0 p1 n1 c1 p2 n2 c2,buildSliceA Tryz.prog 43 3 [(0,(.slice p0 n0 c0)),(1,(.slice p1 n1 c1)),(2,(.slice p2 n2 c2))] H = some (.slice (some ⟨H.length,0,none⟩) 3 3,H ++ [.cells [(.slice p0 n0 c0),(.slice p1 n1 c1),(.slice p2 n2 c2)] 27 false])) ∧
    (∀ a n c m d,binA Tryz.prog .eql 43 (.slice a n c) (.slice none m d) = some (.bool (a.isNone))) ∧
    (∀ a n c m d,binA Tryz.prog .neq 43 (.slice a n c) (.slice none m d) = some (.bool (!a.isNone))) ∧
    (∀ x H,lenS Tryz.prog 43 x H = lenA Tryz.prog 43 x) ∧
    (∀ p n c,lenA Tryz.prog 43 (.slice p n c) = some (.int .i64 n)) ∧
    (∀ (p : Addr),fieldAddrA Tryz.prog 45 (.pointer (some p)) 0 = some (.pointer (some ⟨p.block,p.off,none⟩))) ∧
    (∀ (p : Addr),fieldAddrA Tryz.prog 45 (.pointer (some p)) 1 = some (.pointer (some ⟨p.block,p.off + 1,none⟩))) ∧
    (∀ (p : Addr) (k : IntKind),indexAddrA Tryz.prog 53 (.pointer (some p)) (.int k 0) = some (.pointer (some ⟨p.block,p.off,none⟩))) ∧
    (∀ (p : Addr) (k : IntKind),indexAddrA Tryz.prog 53 (.pointer (some p)) (.int k 1) = some (.pointer (some ⟨p.block,p.off + 1,none⟩))) ∧
    (∀ p H,loadA Tryz.prog 56 (.pointer (some p)) H = cellA H p.block p.off) ∧
    (∀ x H,lenS Tryz.prog 56 x H = lenMapA Tryz.prog 56 x H) ∧
    (∀ p H,loadA Tryz.prog 69 (.pointer (some p)) H = cellA H p.block p.off) ∧
    (∀ p H,loadA Tryz.prog 72 (.pointer (some p)) H = cellA H p.block p.off) ∧
    (∀ p H,loadA Tryz.prog 86 (.pointer (some p)) H = cellA H p.block p.off) ∧
    (∀ p H,loadA Tryz.prog 110 (.pointer (some p)) H = cellA H p.block p.off) ∧
    (∀ p H,loadA Tryz.prog 111 (.pointer (some p)) H = cellA H p.block p.off) ∧
    (∀ p H,loadA Tryz.prog 119 (.pointer (some p)) H = cellA H p.block p.off) ∧
    (∀ p H,loadA Tryz.prog 130 (.pointer (some p)) H = cellA H p.block p.off) ∧
    (∀ (p : Addr) (n c : Nat) (k : IntKind) {i : Int},0 ≤ i → i < (n : Int) → indexAddrA Tryz.prog 130 (.slice (some p) n c) (.int k i) = some (.pointer (some ⟨p.block,p.off + i.toNat,none⟩))) ∧
    (∀ H,buildSliceA Tryz.prog 130 0 [] H = some (.slice (some ⟨H.length,0,none⟩) 0 0,H ++ [.cells [] 4 false])) ∧
    (∀ H x0,buildSliceA Tryz.prog 130 1 [(0,(.bool x0))] H = some (.slice (some ⟨H.length,0,none⟩) 1 1,H ++ [.cells [(.bool x0)] 4 false])) ∧
    (∀ H x0 x1,buildSliceA Tryz.prog 130 2 [(0,(.bool x0)),(1,(.bool x1))] H = some (.slice (some ⟨H.length,0,none⟩) 2 2,H ++ [.cells [(.bool x0),(.bool x1)] 4 false])) ∧
    (∀ H x0 x1 x2,buildSliceA Tryz.prog 130 3 [(0,(.bool x0)),(1,(.bool x1)),(2,(.bool x2))] H = some (.slice (some ⟨H.length,0,none⟩) 3 3,H ++ [.cells [(.bool x0),(.bool x1),(.bool x2)] 4 false])) ∧
    (∀ a n c m d,binA Tryz.prog .eql 130 (.slice a n c) (.slice none m d) = some (.bool (a.isNone))) ∧
    (∀ a n c m d,binA Tryz.prog .neq 130 (.slice a n c) (.slice none m d) = some (.bool (!a.isNone))) ∧
    (∀ x H,lenS Tryz.prog 130 x H = lenA Tryz.prog 130 x) ∧
    (∀ p n c,lenA Tryz.prog 130 (.slice p n c) = some (.int .i64 n)) ∧
    (∀ p H,loadA Tryz.prog 132 (.pointer (some p)) H = cellA H p.block p.off) ∧
    (∀ k n,convA Tryz.prog 3 5 (.int k n) = some (.int .u8 (IntKind.u8.wrap n))) ∧
    (∀ k n,convA Tryz.prog 3 69 (.int k n) = some (.int .u64 (IntKind.u64.wrap n))) ∧
    (∀ k n,convA Tryz.prog 3 110 (.int k n) = some (.int .u64 (IntKind.u64.wrap n))) ∧
    (∀ k n,convA Tryz.prog 3 111 (.int k n) = some (.int .u64 (IntKind.u64.wrap n))) ∧
    (∀ k n,convA Tryz.prog 3 132 (.int k n) = some (.int .u32 (IntKind.u32.wrap n))) ∧
    (∀ k n,convA Tryz.prog 5 3 (.int k n) = some (.int .i64 (IntKind.i64.wrap n))) ∧
    (∀ k n,convA Tryz.prog 5 69 (.int k n) = some (.int .u64 (IntKind.u64.wrap n))) ∧
    (∀ k n,convA Tryz.prog 5 110 (.int k n) = some (.int .u64 (IntKind.u64.wrap n))) ∧
    (∀ k n,convA Tryz.prog 5 111 (.int k n) = some (.int .u64 (IntKind.u64.wrap n))) ∧
    (∀ k n,convA Tryz.prog 5 132 (.int k n) = some (.int .u32 (IntKind.u32.wrap n))) ∧
    (∀ k n,convA Tryz.prog 69 3 (.int k n) = some (.int .i64 (IntKind.i64.wrap n))) ∧
    (∀ k n,convA Tryz.prog 69 5 (.int k n) = some (.int .u8 (IntKind.u8.wrap n))) ∧
    (∀ k n,convA Tryz.prog 69 110 (.int k n) = some (.int .u64 (IntKind.u64.wrap n))) ∧
    (∀ k n,convA Tryz.prog 69 111 (.int k n) = some (.int .u64 (IntKind.u64.wrap n))) ∧
    (∀ k n,convA Tryz.prog 69 132 (.int k n) = some (.int .u32 (IntKind.u32.wrap n))) ∧
    (∀ k n,convA Tryz.prog 110 3 (.int k n) = some (.int .i64 (IntKind.i64.wrap n))) ∧
    (∀ k n,convA Tryz.prog 110 5 (.int k n) = some (.int .u8 (IntKind.u8.wrap n))) ∧
    (∀ k n,convA Tryz.prog 110 69 (.int k n) = some (.int .u64 (IntKind.u64.wrap n))) ∧
    (∀ k n,convA Tryz.prog 110 111 (.int k n) = some (.int .u64 (IntKind.u64.wrap n))) ∧
    (∀ k n,convA Tryz.prog 110 132 (.int k n) = some (.int .u32 (IntKind.u32.wrap n))) ∧
    (∀ k n,convA Tryz.prog 111 3 (.int k n) = some (.int .i64 (IntKind.i64.wrap n))) ∧
    (∀ k n,convA Tryz.prog 111 5 (.int k n) = some (.int .u8 (IntKind.u8.wrap n))) ∧
    (∀ k n,convA Tryz.prog 111 69 (.int k n) = some (.int .u64 (IntKind.u64.wrap n))) ∧
    (∀ k n,convA Tryz.prog 111 110 (.int k n) = some (.int .u64 (IntKind.u64.wrap n))) ∧
    (∀ k n,convA Tryz.prog 111 132 (.int k n) = some (.int .u32 (IntKind.u32.wrap n))) ∧
    (∀ k n,convA Tryz.prog 132 3 (.int k n) = some (.int .i64 (IntKind.i64.wrap n))) ∧
    (∀ k n,convA Tryz.prog 132 5 (.int k n) = some (.int .u8 (IntKind.u8.wrap n))) ∧
    (∀ k n,convA Tryz.prog 132 69 (.int k n) = some (.int .u64 (IntKind.u64.wrap n))) ∧
    (∀ k n,convA Tryz.prog 132 110 (.int k n) = some (.int .u64 (IntKind.u64.wrap n))) ∧
    (∀ k n,convA Tryz.prog 132 111 (.int k n) = some (.int .u64 (IntKind.u64.wrap n))) :=
  ⟨ld_one ag3,
   ld_one ag4,
   eq_bool_eql Tryz.underlying4,
   eq_bool_neq Tryz.underlying4,
   ld_one ag5,
   ld_one ag9,
   ld_one ag24,
   bsP0 Tryz.underlying24 cs53 ze53 ⟨by kernel_rfl,by kernel_rfl⟩,
   bsP1 Tryz.underlying24 cs53 ze53,
   ix_two Tryz.underlying24 cs53,
   eq_nil_eql Tryz.underlying24,
   eq_nil_neq Tryz.underlying24,
   lenS_sl (by decide),
   ln_sl Tryz.underlying24,
   fun p => by kernel_rfl,
   fun p => by kernel_rfl,
   ld_one ag27,
   ix_one Tryz.underlying27 cs3,
   bs0 Tryz.underlying27 cs3 ze3 ⟨by kernel_rfl,by kernel_rfl⟩,
   fun H _ _ => bs1 Tryz.underlying27 cs3 ze3 ⟨by kernel_rfl,by kernel_rfl⟩ H rfl,
   fun H _ _ _ _ => bs2 Tryz.underlying27 cs3 ze3 ⟨by kernel_rfl,by kernel_rfl⟩ H rfl rfl,
   fun H _ _ _ _ _ _ => bs3 Tryz.underlying27 cs3 ze3 ⟨by kernel_rfl,by kernel_rfl⟩ H rfl rfl rfl,
   eq_nil_eql Tryz.underlying27,
   eq_nil_neq Tryz.underlying27,
   lenS_sl (by decide),
   ln_sl Tryz.underlying27,
   ld_one ag42,
   ld_one ag43,
   ix_one Tryz.underlying43 cs27,
   bs0 Tryz.underlying43 cs27 ze27 ⟨by kernel_rfl,by kernel_rfl⟩,
   fun H _ _ _ => bs1 Tryz.underlying43 cs27 ze27 ⟨by kernel_rfl,by kernel_rfl⟩ H rfl,
   fun H _ _ _ _ _ _ => bs2 Tryz.underlying43 cs27 ze27 ⟨by kernel_rfl,by kernel_rfl⟩ H rfl rfl,
   fun H _ _ _ _ _ _ _ _ _ => bs3 Tryz.underlying43 cs27 ze27 ⟨by kernel_rfl,by kernel_rfl⟩ H rfl rfl rfl,
   eq_nil_eql Tryz.underlying43,
   eq_nil_neq Tryz.underlying43,
   lenS_sl (by decide),
   ln_sl Tryz.underlying43,
   fun p => by kernel_rfl,
   fun p => by kernel_rfl,
   fun p k => ix_arr Tryz.underlying53 cs3 p k (by decide) (by decide),
   fun p k => ix_arr Tryz.underlying53 cs3 p k (by decide) (by decide),
   ld_one ag56,
   lenS_map,
   ld_one ag69,
   ld_one ag72,
   ld_one ag86,
   ld_one ag110,
   ld_one ag111,
   ld_one ag119,
   ld_one ag130,
   ix_one Tryz.underlying130 cs4,
   bs0 Tryz.underlying130 cs4 ze4 ⟨by kernel_rfl,by kernel_rfl⟩,
   fun H _ => bs1 Tryz.underlying130 cs4 ze4 ⟨by kernel_rfl,by kernel_rfl⟩ H rfl,
   fun H _ _ => bs2 Tryz.underlying130 cs4 ze4 ⟨by kernel_rfl,by kernel_rfl⟩ H rfl rfl,
   fun H _ _ _ => bs3 Tryz.underlying130 cs4 ze4 ⟨by kernel_rfl,by kernel_rfl⟩ H rfl rfl rfl,
   eq_nil_eql Tryz.underlying130,
   eq_nil_neq Tryz.underlying130,
   lenS_sl (by decide),
   ln_sl Tryz.underlying130,
   ld_one ag132,
   fun _ _ => by simp only [convA,Tryz.underlying3,Tryz.underlying5],
   fun _ _ => by simp only [convA,Tryz.underlying3,Tryz.underlying69],
   fun _ _ => by simp only [convA,Tryz.underlying3,Tryz.underlying110],
   fun _ _ => by simp only [convA,Tryz.underlying3,Tryz.underlying111],
   fun _ _ => by simp only [convA,Tryz.underlying3,Tryz.underlying132],
   fun _ _ => by simp only [convA,Tryz.underlying5,Tryz.underlying3],
   fun _ _ => by simp only [convA,Tryz.underlying5,Tryz.underlying69],
   fun _ _ => by simp only [convA,Tryz.underlying5,Tryz.underlying110],
   fun _ _ => by simp only [convA,Tryz.underlying5,Tryz.underlying111],
   fun _ _ => by simp only [convA,Tryz.underlying5,Tryz.underlying132],
   fun _ _ => by simp only [convA,Tryz.underlying69,Tryz.underlying3],
   fun _ _ => by simp only [convA,Tryz.underlying69,Tryz.underlying5],
   fun _ _ => by simp only [convA,Tryz.underlying69,Tryz.underlying110],
   fun _ _ => by simp only [convA,Tryz.underlying69,Tryz.underlying111],
   fun _ _ => by simp only [convA,Tryz.underlying69,Tryz.underlying132],
   fun _ _ => by simp only [convA,Tryz.underlying110,Tryz.underlying3],
   fun _ _ => by simp only [convA,Tryz.underlying110,Tryz.underlying5],
   fun _ _ => by simp only [convA,Tryz.underlying110,Tryz.underlying69],
   fun _ _ => by simp only [convA,Tryz.underlying110,Tryz.underlying111],
   fun _ _ => by simp only [convA,Tryz.underlying110,Tryz.underlying132],
   fun _ _ => by simp only [convA,Tryz.underlying111,Tryz.underlying3],
   fun _ _ => by simp only [convA,Tryz.underlying111,Tryz.underlying5],
   fun _ _ => by simp only [convA,Tryz.underlying111,Tryz.underlying69],
   fun _ _ => by simp only [convA,Tryz.underlying111,Tryz.underlying110],
   fun _ _ => by simp only [convA,Tryz.underlying111,Tryz.underlying132],
   fun _ _ => by simp only [convA,Tryz.underlying132,Tryz.underlying3],
   fun _ _ => by simp only [convA,Tryz.underlying132,Tryz.underlying5],
   fun _ _ => by simp only [convA,Tryz.underlying132,Tryz.underlying69],
   fun _ _ => by simp only [convA,Tryz.underlying132,Tryz.underlying110],
   fun _ _ => by simp only [convA,Tryz.underlying132,Tryz.underlying111]⟩
theorem SS : type_of% S ∧ type_of% S1 ∧ type_of% S2 ∧ type_of% S3 ∧ type_of% S4 ∧ type_of% S5 ∧ type_of% ST := ⟨S,S1,S2,S3,S4,S5,ST⟩
end Go.Proofs.YtelafbennmclfaaGreat.Ai
namespace Go.Proofs.YtelafbennmclfaaGreat.Ai
open Go Go.RowKit
theorem alloc_a2 (H : AH) : allocA Tryz.prog 53 H = some (.pointer (some ⟨H.length,0,none⟩),H ++ [.cells [.int .i64 0,.int .i64 0] 53 false]) := by kernel_rfl
theorem build_a2 (a b : Int) : buildA Tryz.prog 53 [(0,.int .i64 a),(1,.int .i64 b)] = some (.agg (List.toArray [.int .i64 a,.int .i64 b])) := by kernel_rfl
theorem store_a2 (H : AH) (vs : List Value) (hv : vs.length = 2) (a b : Value) : storeA Tryz.prog 53 (.pointer (some ⟨H.length,0,none⟩)) (.agg (List.toArray [a,b])) (H ++ [.cells vs 53 false]) = some (H ++ [.cells [a,b] 53 false]) :=
  st_new rfl (by rw [cs53]; rfl) (by rw [cs53]; decide) (by rw [cs53]; exact hv)
theorem load_a2 (H : AH) (a b : Value) : loadA Tryz.prog 53 (.pointer (some ⟨H.length,0,none⟩)) (H ++ [.cells [a,b] 53 false]) = some (.agg (List.toArray [a,b])) := by
  simp only [loadA,at_new,ag53,cs53]
  rfl
theorem end_cell (P : Program) (a : Nat) (t : TypeId) (R : Value → AH → Prop) (s : Sl) (H : AH) (v : Value) (h : loadA P t (s a) H = some v) (ht : isTup v = false) (hr : R v H) : endA P [.cell a t] R .ret s H := by
  simp only [endA,resA,h,ht]
  simp [outA]
  exact hr
theorem box_a2 (H : AH) (x y : Value) : boxA Tryz.prog 53 (.agg (List.toArray [x,y])) H = some (.pointer (some ⟨H.length,0,none⟩),H ++ [.cells [x,y] 53 false]) := by kernel_rfl
theorem ld_a2 {H : AH} {o : Nat} {a b : Value} {e : TypeId} {ro : Bool} (ho : H[o]? = some (.cells [a,b] e ro)) : loadA Tryz.prog 53 (.pointer (some ⟨o,0,none⟩)) H = some (.agg (List.toArray [a,b])) :=
  ld_two ag53 cs53 (by rw [cell_of ho]; rfl) (by rw [cell_of ho]; rfl)
theorem st_at {P : Program} {t e : TypeId} (hc : P.cellsOf t = 1) {H : AH} {o i : Nat} {vs : List Value} {y : Value} (ho : H[o]? = some (.cells vs e false)) (hi : i < vs.length) (h1 : isTup y = false) (h2 : y.cells.toList = [y]) :
    storeA P t (.pointer (some ⟨o,i,none⟩)) y H = some (H.set o (.cells (vs.set i y) e false)) := by
  simp only [storeA,ho]
  rw [h2,if_pos ⟨h1,by rw [hc]; rfl,by omega,by simp; omega⟩]
  have : putAt vs i [y] = vs.set i y := by
    unfold putAt
    rw [List.set_eq_take_append_cons_drop,if_pos hi]
    simp
  rw [this]
theorem ld_agg {P : Program} {t e : TypeId} (h : isAggA P t = some true) (hc : P.cellsOf t = 2) {H : AH} {o : Nat} {a b : Value} {ro : Bool} (ho : H[o]? = some (.cells [a,b] e ro)) : loadA P t (.pointer (some ⟨o,0,none⟩)) H = some (.agg (List.toArray [a,b])) :=
  ld_two h hc (by rw [cell_of ho]; rfl) (by rw [cell_of ho]; rfl)
section
variable {e : TypeId} {G H : AH} {v : Value} {ps : List (Int × Int)}
theorem RowP.boxG (h : RowP e G v ps) (n : Int) : boxA Tryz.prog 26 (.agg (List.toArray [.int .i64 n,v])) H = some (.pointer (some ⟨H.length,0,none⟩),H ++ [.cells [.int .i64 n,v] 26 false]) := by
  obtain ⟨q,rfl⟩ := h.shape; kernel_rfl
end
theorem alloc_G (H : AH) : allocA Tryz.prog 26 H = some (.pointer (some ⟨H.length,0,none⟩),H ++ [.cells [.int .i64 0,.slice none 0 0] 26 false]) := by kernel_rfl
theorem st_G {e e2 : TypeId} {G H : AH} {v : Value} {ps : List (Int × Int)} (h : RowP e2 G v ps) {o : Nat} {vs : List Value} (ho : H[o]? = some (.cells vs e false)) (hv : vs.length = 2) (n : Int) :
    storeA Tryz.prog 26 (.pointer (some ⟨o,0,none⟩)) (.agg (List.toArray [.int .i64 n,v])) H = some (H.set o (.cells [.int .i64 n,v] e false)) := by
  obtain ⟨q,rfl⟩ := h.shape
  simp only [storeA,ho,cs26]
  have hcl : (Value.agg (List.toArray [.int .i64 n,.slice q ps.length ps.length])).cells.toList = [.int .i64 n,.slice q ps.length ps.length] := rfl
  rw [hcl,if_pos ⟨rfl,rfl,by decide,by rw [hv]; exact Nat.le_refl 2⟩]
  have : putAt vs 0 [.int .i64 n,.slice q ps.length ps.length] = [.int .i64 n,.slice q ps.length ps.length] := by
    unfold putAt
    rw [List.take_zero,List.nil_append,List.drop_of_length_le (by simp; omega),List.append_nil]
  rw [this]
theorem cell_new (H : AH) (vs : List Value) (e : TypeId) (ro : Bool) (i : Nat) : cellA (H ++ [.cells vs e ro]) H.length i = vs[i]? := cell_of (at_new ..) i
end Go.Proofs.YtelafbennmclfaaGreat.Ai
namespace Go.Proofs.YtelafbennmclfaaGreat.Ai
open Go
end Go.Proofs.YtelafbennmclfaaGreat.Ai
namespace Go.Proofs.YtelafbennmclfaaGreat.Ai
open Go Go.RowKit
theorem ofInt_nat (n : Nat) (h : n < 2 ^ 64) : (BitVec.ofInt 64 (n : Int)).toNat = n := by
  rw [BitVec.ofInt_natCast,BitVec.toNat_ofNat,Nat.mod_eq_of_lt h]
theorem and_nat (a b : Nat) (ha : a < 2 ^ 64) (hb : b < 2 ^ 64) : bitsA .and .u64 (a : Int) (b : Int) = ((a &&& b : Nat) : Int) := by
  have h : a &&& b < 2 ^ 64 := Nat.lt_of_le_of_lt Nat.and_le_left ha
  have e : (BitVec.ofInt 64 (a : Int) &&& BitVec.ofInt 64 (b : Int)).toNat = a &&& b := by rw [BitVec.toNat_and,ofInt_nat a ha,ofInt_nat b hb]
  show IntKind.u64.wrap (((BitVec.ofInt 64 (a : Int) &&& BitVec.ofInt 64 (b : Int)).toNat : Nat) : Int) = _
  rw [e,IntKind.wrap_u64]; omega
theorem shr_nat (a y : Nat) (hy : y ≤ 64) : (a : Int).fdiv (2 ^ (min (y : Int).toNat 64)) = ((a / 2 ^ y : Nat) : Int) := by
  rw [Int.toNat_natCast,Nat.min_eq_left hy]
  rw [Int.fdiv_eq_ediv_of_nonneg _ (Int.le_of_lt (Int.pow_pos (by decide)))]
  norm_cast
theorem bin_and (P : Program) (t : TypeId) (a b : Nat) (ha : a < 2 ^ 64) (hb : b < 2 ^ 64) : binA P .and t (.int .u64 (a : Int)) (.int .u64 (b : Int)) = some (.int .u64 ((a &&& b : Nat) : Int)) := by
  simp only [binA,intA,and_nat a b ha hb]
  simp
def Bits (b : Nat) (L : Nat) (s : List Int) : Prop := b < 256 ∧ ∀ z,z < L → b.testBit z = decide ((z : Int) ∈ s)
theorem Bits.or {b L y : Nat} {s : List Int} (h : Bits b L s) (hy : y < 8) : Bits (b ||| 2 ^ y) L (s ++ [(y : Int)]) := by
  refine ⟨?_,fun z hz => ?_⟩
  · have h1 : 2 ^ y < 2 ^ 8 := Nat.pow_lt_pow_right (by decide) hy
    exact Nat.or_lt_two_pow (n := 8) h.1 h1
  · rw [Nat.testBit_or,h.2 z hz,Nat.testBit_two_pow]
    have e : (y = z) ↔ ((z : Int) = y) := by omega
    by_cases hm : (z : Int) ∈ s <;> by_cases hz2 : y = z <;> simp [hm,hz2,e]
    · intro hh; exact hz2 (by omega)
theorem Bits.no {b L x y : Nat} {s : List Int} (h : Bits b L s) (hx : x < L) (hy : y < L) : (b &&& (2 ^ x ||| 2 ^ y) ≠ 0) ↔ ((x : Int) ∈ s ∨ (y : Int) ∈ s) := by
  have hbx := h.2 x hx
  have hby := h.2 y hy
  constructor
  · intro hne
    apply Decidable.byContradiction
    intro hno
    rw [not_or] at hno
    rw [decide_eq_false hno.1] at hbx
    rw [decide_eq_false hno.2] at hby
    apply hne
    apply Nat.eq_of_testBit_eq
    intro z
    rw [Nat.testBit_and,Nat.testBit_or,Nat.testBit_two_pow,Nat.testBit_two_pow,Nat.zero_testBit]
    by_cases e1 : x = z
    · subst e1; rw [hbx]; rfl
    · by_cases e2 : y = z
      · subst e2; rw [hby]; rfl
      · simp [e1,e2]
  · rintro h' h0
    rcases h' with g | g
    · rw [decide_eq_true g] at hbx
      have := congrArg (fun n => Nat.testBit n x) h0
      simp only [Nat.testBit_and,Nat.testBit_or,Nat.testBit_two_pow,Nat.zero_testBit,hbx] at this
      simp at this
    · rw [decide_eq_true g] at hby
      have := congrArg (fun n => Nat.testBit n y) h0
      simp only [Nat.testBit_and,Nat.testBit_or,Nat.testBit_two_pow,Nat.zero_testBit,hby] at this
      simp at this
end Go.Proofs.YtelafbennmclfaaGreat.Ai
namespace Go.Proofs.YtelafbennmclfaaGreat.Ai
open Go Go.RowKit
theorem bin_shrU (P : Program) (t : TypeId) (b y : Nat) (hy : y < 64) : binA P .shr t (.int .u64 (b : Int)) (.int .u64 (y : Int)) = some (.int .u64 ((b / 2 ^ y : Nat) : Int)) := by
  have : ¬ ((y : Int) < 0) := by omega
  simp only [binA,shiftA,this,if_false,IntKind.bits]
  rw [if_pos (.inr trivial)]
  have := shr_nat b y (by omega)
  simp only [this]
end Go.Proofs.YtelafbennmclfaaGreat.Ai
namespace Go.Proofs.YtelafbennmclfaaGreat.Ai
open Go
def ords97 : List (Nat × List (Nat × Bool)) := [(2,[(0,false),(1,false),(2,false),(3,false),(4,false),(5,false),(6,false),(7,false),(8,false),(9,false)]),(3,[(0,false),(1,false),(2,false),(3,false),(4,false),(5,false),(6,false),(7,false),(8,false),(9,false),(10,false),(11,false)]),(6,[(0,false),(1,false),(2,false),(3,false),(4,false),(5,false),(6,false),(7,false),(8,false),(9,false)])]
def cd97 : Cd := (.seq (.reg [⟨⟨some 2,Op.assign (Operand.const (Value.int IntKind.i64 0)),none⟩,[]⟩]) (.seq (.reg [⟨⟨some 3,Op.assign (Operand.const (Value.int IntKind.i64 0)),none⟩,[]⟩]) (.seq (.seq (.reg [⟨⟨some 4,Op.move (Operand.tmp 0),none⟩,[]⟩,
  ⟨⟨some 5,Op.nilCheck (Operand.tmp 4),none⟩,[]⟩,
  ⟨⟨some 6,Op.fieldAddr 71 (Operand.tmp 5) 1,none⟩,[]⟩,
  ⟨⟨some 7,Op.load 3 (Operand.tmp 6),none⟩,[]⟩,
  ⟨⟨some 8,Op.move (Operand.tmp 0),none⟩,[]⟩,
  ⟨⟨some 9,Op.nilCheck (Operand.tmp 8),none⟩,[]⟩,
  ⟨⟨some 10,Op.fieldAddr 71 (Operand.tmp 9) 0,none⟩,[]⟩,
  ⟨⟨some 11,Op.load 22 (Operand.tmp 10),none⟩,[]⟩,
  ⟨⟨some 12,Op.call { callee := (Callee.builtin Builtin.len),args := #[(Operand.tmp 11)],argTypes := #[22] },none⟩,[]⟩,
  ⟨⟨some 13,Op.binOp BinOp.lss 3 (Operand.tmp 7) (Operand.tmp 12) 3,none⟩,[]⟩]) (.cond (Operand.tmp 13) (.reg [⟨⟨some 14,Op.move (Operand.tmp 0),none⟩,[]⟩,
  ⟨⟨some 15,Op.nilCheck (Operand.tmp 14),none⟩,[]⟩,
  ⟨⟨some 16,Op.fieldAddr 71 (Operand.tmp 15) 0,none⟩,[]⟩,
  ⟨⟨some 17,Op.load 22 (Operand.tmp 16),none⟩,[]⟩,
  ⟨⟨some 18,Op.move (Operand.tmp 0),none⟩,[]⟩,
  ⟨⟨some 19,Op.nilCheck (Operand.tmp 18),none⟩,[]⟩,
  ⟨⟨some 20,Op.fieldAddr 71 (Operand.tmp 19) 1,none⟩,[]⟩,
  ⟨⟨some 21,Op.load 3 (Operand.tmp 20),none⟩,[]⟩,
  ⟨⟨some 22,Op.indexAddr 22 (Operand.tmp 17) (Operand.tmp 21),none⟩,[]⟩,
  ⟨⟨some 23,Op.load 5 (Operand.tmp 22),none⟩,[]⟩,
  ⟨⟨some 24,Op.convert 5 3 (Operand.tmp 23),none⟩,[]⟩,
  ⟨⟨some 3,Op.assign (Operand.tmp 24),none⟩,[]⟩]) .skip)) (.seq (.reg [⟨⟨some 25,Op.move (Operand.tmp 0),none⟩,[]⟩,
  ⟨⟨some 26,Op.nilCheck (Operand.tmp 25),none⟩,[]⟩,
  ⟨⟨some 27,Op.fieldAddr 71 (Operand.tmp 26) 1,none⟩,[]⟩,
  ⟨⟨some 28,Op.load 3 (Operand.tmp 27),none⟩,[]⟩,
  ⟨⟨some 29,Op.binOp BinOp.add 3 (Operand.tmp 28) (Operand.const (Value.int IntKind.i64 1)) 3,none⟩,[]⟩,
  ⟨⟨some 30,Op.nilCheck (Operand.tmp 25),none⟩,[]⟩,
  ⟨⟨some 31,Op.fieldAddr 71 (Operand.tmp 30) 1,none⟩,[]⟩,
  ⟨⟨none,Op.store 3 (Operand.tmp 31) (Operand.tmp 29),none⟩,[]⟩]) (.seq (.reg [⟨⟨some 32,Op.move (Operand.tmp 0),none⟩,[]⟩,
  ⟨⟨some 33,Op.move (Operand.tmp 0),none⟩,[]⟩,
  ⟨⟨some 34,Op.nilCheck (Operand.tmp 33),none⟩,[]⟩,
  ⟨⟨some 35,Op.fieldAddr 71 (Operand.tmp 34) 2,none⟩,[]⟩,
  ⟨⟨some 36,Op.load 69 (Operand.tmp 35),none⟩,[]⟩,
  ⟨⟨some 37,Op.binOp BinOp.mul 69 (Operand.tmp 36) (Operand.const (Value.int IntKind.u64 6364136223846793005)) 69,none⟩,[]⟩,
  ⟨⟨some 38,Op.move (Operand.tmp 3),none⟩,[]⟩,
  ⟨⟨some 39,Op.convert 3 69 (Operand.tmp 38),none⟩,[]⟩,
  ⟨⟨some 40,Op.binOp BinOp.add 69 (Operand.tmp 37) (Operand.tmp 39) 69,none⟩,[]⟩,
  ⟨⟨some 41,Op.binOp BinOp.add 69 (Operand.tmp 40) (Operand.const (Value.int IntKind.u64 462197)) 69,none⟩,[]⟩,
  ⟨⟨some 42,Op.nilCheck (Operand.tmp 32),none⟩,[]⟩,
  ⟨⟨some 43,Op.fieldAddr 71 (Operand.tmp 42) 2,none⟩,[]⟩,
  ⟨⟨none,Op.store 69 (Operand.tmp 43) (Operand.tmp 41),none⟩,[]⟩]) (.seq (.seq (.reg [⟨⟨some 44,Op.move (Operand.tmp 0),none⟩,[]⟩,
  ⟨⟨some 45,Op.nilCheck (Operand.tmp 44),none⟩,[]⟩,
  ⟨⟨some 46,Op.fieldAddr 71 (Operand.tmp 45) 1,none⟩,[]⟩,
  ⟨⟨some 47,Op.load 3 (Operand.tmp 46),none⟩,[]⟩,
  ⟨⟨some 48,Op.move (Operand.tmp 0),none⟩,[]⟩,
  ⟨⟨some 49,Op.nilCheck (Operand.tmp 48),none⟩,[]⟩,
  ⟨⟨some 50,Op.fieldAddr 71 (Operand.tmp 49) 0,none⟩,[]⟩,
  ⟨⟨some 51,Op.load 22 (Operand.tmp 50),none⟩,[]⟩,
  ⟨⟨some 52,Op.call { callee := (Callee.builtin Builtin.len),args := #[(Operand.tmp 51)],argTypes := #[22] },none⟩,[]⟩,
  ⟨⟨some 53,Op.binOp BinOp.leq 3 (Operand.tmp 47) (Operand.tmp 52) 3,none⟩,[]⟩]) (.cond (Operand.tmp 53) (.seq (.reg [⟨⟨some 54,Op.move (Operand.tmp 3),none⟩,[]⟩,
  ⟨⟨some 2,Op.assign (Operand.tmp 54),none⟩,[]⟩]) .ret) .skip)) (.seq (.reg [⟨⟨some 55,Op.move (Operand.tmp 0),none⟩,[]⟩,
  ⟨⟨some 56,Op.nilCheck (Operand.tmp 55),none⟩,[]⟩,
  ⟨⟨some 57,Op.fieldAddr 71 (Operand.tmp 56) 2,none⟩,[]⟩,
  ⟨⟨some 58,Op.load 69 (Operand.tmp 57),none⟩,[]⟩,
  ⟨⟨some 59,Op.binOp BinOp.shr 69 (Operand.tmp 58) (Operand.const (Value.int IntKind.u64 40)) 110,none⟩,[]⟩,
  ⟨⟨some 60,Op.binOp BinOp.and 69 (Operand.tmp 59) (Operand.const (Value.int IntKind.u64 255)) 69,none⟩,[]⟩,
  ⟨⟨some 61,Op.convert 69 3 (Operand.tmp 60),none⟩,[]⟩,
  ⟨⟨some 2,Op.assign (Operand.tmp 61),none⟩,[]⟩]) .ret)))))))
theorem sl97 : slim Tryz.f97.ntmps ords97 (Tryz.f97.body.getD .skip) = some cd97 := by kernel_rfl
theorem in97 {args : List Value} {H : AH} {R : Value → AH → Prop} (hl : args.length = 1) (h : ∀ (Q : Exit → Sl → AH → Prop),(∀ e s H,endA Tryz.prog [ResultVar.tmp 2] R e s H → Q e s H) → wpC Tryz.prog cd97 Q (enterA args) H) : ACalls Tryz.prog 97 args H R :=
  ACalls.intro (by kernel_rfl) Tryz.func97 rfl (by kernel_rfl) sl97 hl (of_decide_eq_true (by kernel_rfl)) (by kernel_rfl) h
def ords51 : List (Nat × List (Nat × Bool)) := []
def cd51 : Cd := (.seq (.reg [⟨⟨some 4,Op.assign (Operand.const (Value.int IntKind.i64 0)),none⟩,[]⟩]) (.seq (.seq (.reg [⟨⟨some 6,Op.move (Operand.tmp 1),none⟩,[]⟩,
  ⟨⟨some 7,Op.binOp BinOp.leq 3 (Operand.tmp 6) (Operand.const (Value.int IntKind.i64 1)) 3,none⟩,[]⟩]) (.cond (Operand.tmp 7) (.seq (.reg [⟨⟨some 4,Op.assign (Operand.const (Value.int IntKind.i64 0)),none⟩,[]⟩]) .ret) .skip)) (.seq (.reg [⟨⟨some 8,Op.move (Operand.tmp 0),none⟩,[]⟩,
  ⟨⟨some 9,Op.call { callee := (Callee.value (Operand.func 97)),args := #[(Operand.tmp 8)],argTypes := #[68] },none⟩,[]⟩,
  ⟨⟨some 5,Op.assign (Operand.tmp 9),none⟩,[]⟩]) (.seq (.seq (.reg [⟨⟨some 10,Op.move (Operand.tmp 1),none⟩,[]⟩,
  ⟨⟨some 11,Op.binOp BinOp.gtr 3 (Operand.tmp 10) (Operand.const (Value.int IntKind.i64 200)) 3,none⟩,[]⟩]) (.cond (Operand.tmp 11) (.reg [⟨⟨some 12,Op.move (Operand.tmp 5),none⟩,[]⟩,
  ⟨⟨some 13,Op.binOp BinOp.mul 3 (Operand.tmp 12) (Operand.const (Value.int IntKind.i64 256)) 3,none⟩,[]⟩,
  ⟨⟨some 14,Op.move (Operand.tmp 0),none⟩,[]⟩,
  ⟨⟨some 15,Op.call { callee := (Callee.value (Operand.func 97)),args := #[(Operand.tmp 14)],argTypes := #[68] },none⟩,[]⟩,
  ⟨⟨some 16,Op.binOp BinOp.add 3 (Operand.tmp 13) (Operand.tmp 15) 3,none⟩,[]⟩,
  ⟨⟨some 5,Op.assign (Operand.tmp 16),none⟩,[]⟩]) .skip)) (.seq (.reg [⟨⟨some 17,Op.move (Operand.tmp 5),none⟩,[]⟩,
  ⟨⟨some 18,Op.move (Operand.tmp 1),none⟩,[]⟩,
  ⟨⟨some 19,Op.binOp BinOp.rem 3 (Operand.tmp 17) (Operand.tmp 18) 3,none⟩,[]⟩,
  ⟨⟨some 4,Op.assign (Operand.tmp 19),none⟩,[]⟩]) .ret)))))
theorem sl51 : slim Tryz.f51.ntmps ords51 (Tryz.f51.body.getD .skip) = some cd51 := by kernel_rfl
theorem in51 {args : List Value} {H : AH} {R : Value → AH → Prop} (hl : args.length = 2) (h : ∀ (Q : Exit → Sl → AH → Prop),(∀ e s H,endA Tryz.prog [ResultVar.tmp 4] R e s H → Q e s H) → wpC Tryz.prog cd51 Q (enterA args) H) : ACalls Tryz.prog 51 args H R :=
  ACalls.intro (by kernel_rfl) Tryz.func51 rfl (by kernel_rfl) sl51 hl (of_decide_eq_true (by kernel_rfl)) (by kernel_rfl) h
def ords53 : List (Nat × List (Nat × Bool)) := []
def cd53 : Cd := (.seq (.reg [⟨⟨some 4,Op.assign (Operand.const (Value.bool false)),none⟩,[]⟩]) (.seq (.reg [⟨⟨some 5,Op.move (Operand.tmp 0),none⟩,[]⟩,
  ⟨⟨some 6,Op.move (Operand.tmp 1),none⟩,[]⟩,
  ⟨⟨some 7,Op.call { callee := (Callee.value (Operand.func 51)),args := #[(Operand.tmp 5),(Operand.tmp 6)],argTypes := #[68,3] },none⟩,[]⟩,
  ⟨⟨some 8,Op.binOp BinOp.eql 3 (Operand.tmp 7) (Operand.const (Value.int IntKind.i64 0)) 3,none⟩,[]⟩,
  ⟨⟨some 4,Op.assign (Operand.tmp 8),none⟩,[]⟩]) .ret))
theorem sl53 : slim Tryz.f53.ntmps ords53 (Tryz.f53.body.getD .skip) = some cd53 := by kernel_rfl
theorem in53 {args : List Value} {H : AH} {R : Value → AH → Prop} (hl : args.length = 2) (h : ∀ (Q : Exit → Sl → AH → Prop),(∀ e s H,endA Tryz.prog [ResultVar.tmp 4] R e s H → Q e s H) → wpC Tryz.prog cd53 Q (enterA args) H) : ACalls Tryz.prog 53 args H R :=
  ACalls.intro (by kernel_rfl) Tryz.func53 rfl (by kernel_rfl) sl53 hl (of_decide_eq_true (by kernel_rfl)) (by kernel_rfl) h
def ords96 : List (Nat × List (Nat × Bool)) := []
def cd96 : Cd := (.seq (.reg [⟨⟨some 4,Op.assign (Operand.const (Value.int IntKind.i64 0)),none⟩,[]⟩]) (.seq (.reg [⟨⟨some 5,Op.move (Operand.tmp 1),none⟩,[]⟩,
  ⟨⟨some 6,Op.move (Operand.tmp 0),none⟩,[]⟩,
  ⟨⟨some 7,Op.move (Operand.tmp 1),none⟩,[]⟩,
  ⟨⟨some 8,Op.call { callee := (Callee.builtin Builtin.len),args := #[(Operand.tmp 7)],argTypes := #[27] },none⟩,[]⟩,
  ⟨⟨some 9,Op.call { callee := (Callee.value (Operand.func 51)),args := #[(Operand.tmp 6),(Operand.tmp 8)],argTypes := #[68,3] },none⟩,[]⟩,
  ⟨⟨some 10,Op.indexAddr 27 (Operand.tmp 5) (Operand.tmp 9),none⟩,[]⟩,
  ⟨⟨some 11,Op.load 3 (Operand.tmp 10),none⟩,[]⟩,
  ⟨⟨some 4,Op.assign (Operand.tmp 11),none⟩,[]⟩]) .ret))
theorem sl96 : slim Tryz.f96.ntmps ords96 (Tryz.f96.body.getD .skip) = some cd96 := by kernel_rfl
theorem in96 {args : List Value} {H : AH} {R : Value → AH → Prop} (hl : args.length = 2) (h : ∀ (Q : Exit → Sl → AH → Prop),(∀ e s H,endA Tryz.prog [ResultVar.tmp 4] R e s H → Q e s H) → wpC Tryz.prog cd96 Q (enterA args) H) : ACalls Tryz.prog 96 args H R :=
  ACalls.intro (by kernel_rfl) Tryz.func96 rfl (by kernel_rfl) sl96 hl (of_decide_eq_true (by kernel_rfl)) (by kernel_rfl) h
end Go.Proofs.YtelafbennmclfaaGreat.Ai
namespace Go.Proofs.YtelafbennmclfaaGreat.Ai
open Go Go.RowKit
theorem fa_cur (p : Addr) : fieldAddrA Tryz.prog 71 (.pointer (some p)) 0 = some (.pointer (some ⟨p.block,p.off,none⟩)) ∧ fieldAddrA Tryz.prog 71 (.pointer (some p)) 1 = some (.pointer (some ⟨p.block,p.off + 1,none⟩)) ∧ fieldAddrA Tryz.prog 71 (.pointer (some p)) 2 = some (.pointer (some ⟨p.block,p.off + 2,none⟩)) := ⟨by kernel_rfl,by kernel_rfl,by kernel_rfl⟩
theorem cs_u8 : Tryz.prog.cellsOf 5 = 1 := by kernel_rfl
theorem cs_u64 : Tryz.prog.cellsOf 69 = 1 := by kernel_rfl
theorem ag_u8 : isAggA Tryz.prog 5 = some false := by kernel_rfl
theorem ag_u64 : isAggA Tryz.prog 69 = some false := by kernel_rfl
theorem ag_by : isAggA Tryz.prog 22 = some false := by kernel_rfl
theorem len_by : ∀ x H,lenS Tryz.prog 22 x H = lenA Tryz.prog 22 x := lenS_sl (by decide)
theorem nilP (p : Addr) : nilA (.pointer (some p)) = some (.pointer (some p)) := rfl
structure Cur (H : AH) (o : Nat) (v : Value) (us : List Value) (N : Nat) : Prop where
  cur : ∃ at_ seed : Nat,H[o]? = some (.cells [v,.int .i64 (at_ : Int),.int .u64 (seed : Int)] 71 false) ∧ at_ ≤ N ∧ seed < 2 ^ 64
  row : RowV 5 H v us
  byt : ∀ i,i < us.length → ∃ b : Nat,us.getD i undef = .int .u8 (b : Int) ∧ b < 256
  ap : v = .slice none 0 0 ∨ rowO v ≠ o
  le : us.length ≤ 1048576
def OnlyO (o : Nat) (H H' : AH) : Prop := H'.length = H.length ∧ ∀ (j : Nat) (y : AObj),j ≠ o → H[j]? = some y → H'[j]? = some y
theorem OnlyO.trans {o : Nat} {H H' H'' : AH} (h : OnlyO o H H') (k : OnlyO o H' H'') : OnlyO o H H'' := ⟨k.1.trans h.1,fun j y hj hy => k.2 j y hj (h.2 j y hj hy)⟩
theorem OnlyO.refl (o : Nat) (H : AH) : OnlyO o H H := ⟨rfl,fun _ _ _ h => h⟩
theorem Cur.more {H : AH} {o : Nat} {v : Value} {us : List Value} {N M : Nat} (h : Cur H o v us N) (hm : N ≤ M) : Cur H o v us M := by
  obtain ⟨a,s,h1,h2,h3⟩ := h.cur
  exact ⟨⟨a,s,h1,by omega,h3⟩,h.row,h.byt,h.ap,h.le⟩
theorem Cur.pre {H H' : AH} {o : Nat} {v : Value} {us : List Value} {N : Nat} (h : Cur H o v us N) (hp : H <+: H') : Cur H' o v us N := by
  obtain ⟨a,s,h1,h2,h3⟩ := h.cur
  exact ⟨⟨a,s,pre_at hp h1,h2,h3⟩,h.row.pre hp,h.byt,h.ap,h.le⟩
set_option maxRecDepth 20000 in
set_option maxHeartbeats 4000000 in
theorem next_c {H : AH} {o : Nat} {v : Value} {us : List Value} {N : Nat} (h : Cur H o v us N) (hN : N ≤ 1000000000) :
    ACalls Tryz.prog 97 [.pointer (some ⟨o,0,none⟩)] H fun r H' => (∃ x : Nat,r = .int .i64 (x : Int) ∧ x < 256) ∧ Cur H' o v us (N + 1) ∧ OnlyO o H H' := by
  obtain ⟨at_,seed,ho,hat,hs⟩ := h.cur
  have hle := h.le
  have hol := at_lt ho
  refine in97 rfl ?_
  intro Q hQ
  have fin : ∀ (b : Nat),b < 256 → ∀ z : Int,0 ≤ z → z < 18446744073709551616 → ∀ H2 : AH,H2 = (H.set o (.cells [v,.int .i64 ((at_ + 1 : Nat) : Int),.int .u64 (seed : Int)] 71 false)).set o (.cells [v,.int .i64 ((at_ + 1 : Nat) : Int),.int .u64 z] 71 false) → Cur H2 o v us (N + 1) ∧ OnlyO o H H2 := by
    intro b hb z z0 z1 H2 e
    have only : OnlyO o H H2 := by
      subst e
      refine ⟨by simp,fun j y hj hy => ?_⟩
      rw [List.getElem?_set_ne (fun e => hj e.symm),List.getElem?_set_ne (fun e => hj e.symm)]
      exact hy
    refine ⟨⟨⟨at_ + 1,z.toNat,?_,by omega,by omega⟩,?_,h.byt,h.ap,hle⟩,only⟩
    · subst e
      rw [List.getElem?_set_self (by simpa using hol),Int.toNat_of_nonneg z0]
    · rcases h.row with q | q
      · exact .inl q
      · refine RowV.mono (.inr q) fun y hy => ?_
        rcases h.ap with g | g
        · obtain ⟨o',k',_,_,g1,_⟩ := q
          rw [g] at g1; cases g1
        · exact only.2 _ _ g hy
  have s1 := st_at (P := Tryz.prog) (t := 3) (i := 1) (y := .int .i64 ((at_ + 1 : Nat) : Int)) cs3 ho (by show 1 < 3; decide) rfl rfl
  have hw1 : IntKind.i64.wrap ((at_ : Int) + 1) = ((at_ + 1 : Nat) : Int) := by rw [wrap64 (by omega) (by omega)]; omega
  have c1 : (H.set o (.cells ([v,.int .i64 (at_ : Int),.int .u64 (seed : Int)].set 1 (.int .i64 ((at_ + 1 : Nat) : Int))) 71 false))[o]? = some (.cells [v,.int .i64 ((at_ + 1 : Nat) : Int),.int .u64 (seed : Int)] 71 false) := by
    rw [List.getElem?_set_self hol]; rfl
  have fa := fun p => fa_cur p
  generalize hK : H.set o (.cells ([v,.int .i64 (at_ : Int),.int .u64 (seed : Int)].set 1 (.int .i64 ((at_ + 1 : Nat) : Int))) 71 false) = K at s1 c1
  have hK2 : K = H.set o (.cells [v,.int .i64 ((at_ + 1 : Nat) : Int),.int .u64 (seed : Int)] 71 false) := by rw [← hK]; rfl
  rw [← hK2] at fin
  have s2 : ∀ z : Int,storeA Tryz.prog 69 (.pointer (some ⟨o,2,none⟩)) (.int .u64 z) K = some (K.set o (.cells [v,.int .i64 ((at_ + 1 : Nat) : Int),.int .u64 z] 71 false)) := fun z =>
    st_at (P := Tryz.prog) (t := 69) (i := 2) (y := .int .u64 z) cs_u64 c1 (by show 2 < 3; decide) rfl rfl
  have hKl : o < K.length := at_lt c1
  have c2 : ∀ z : Int,(K.set o (.cells [v,.int .i64 ((at_ + 1 : Nat) : Int),.int .u64 z] 71 false))[o]? = some (.cells [v,.int .i64 ((at_ + 1 : Nat) : Int),.int .u64 z] 71 false) := fun z => List.getElem?_set_self hKl
  have wz : ∀ y : Int,0 ≤ IntKind.u64.wrap y ∧ IntKind.u64.wrap y < 18446744073709551616 := fun y => by rw [IntKind.wrap_u64]; omega
  simp (maxSteps := 1000000) (disch := omega) only [cd97,nilP,(fa_cur _).1,(fa_cur _).2.1,(fa_cur _).2.2,ld_one ag_by,ld_one ag_u8,ld_one ag_u64,cell_of ho,len_by,h.row.len Tryz.underlying22,SS,eq_self,reduceIte,reduceCtorEq,Nat.reduceEqDiff,Nat.reduceAdd]
  refine brD.intro (fun g => ?_) (fun g => ?_)
  · have hi : at_ < us.length := by omega
    obtain ⟨b,hb1,hb2⟩ := h.byt at_ hi
    have hc := h.row.cell hi
    rw [hb1] at hc
    simp (maxSteps := 1000000) (disch := omega) only [nilP,(fa_cur _).1,(fa_cur _).2.1,(fa_cur _).2.2,ld_one ag_by,ld_one ag_u8,ld_one ag_u64,cell_of ho,h.row.ix Tryz.underlying22 cs_u8,Int.toNat_natCast,hc,hw1,s1,cell_of c1,s2,SS,eq_self,reduceIte,reduceCtorEq,Nat.reduceEqDiff,Nat.reduceAdd]
    generalize hzz : IntKind.u64.wrap (IntKind.u64.wrap (IntKind.u64.wrap ((seed : Int) * 6364136223846793005) + IntKind.u64.wrap (IntKind.i64.wrap (b : Int))) + 462197) = z
    have hz : 0 ≤ z ∧ z < 18446744073709551616 := by rw [← hzz]; exact wz _
    obtain ⟨q1,q2⟩ := fin b hb2 z hz.1 hz.2 _ rfl
    have hw2 : IntKind.i64.wrap (b : Int) = (b : Int) := wrap64 (by omega) (by omega)
    simp (maxSteps := 1000000) (disch := omega) only [nilP,(fa_cur _).1,(fa_cur _).2.1,(fa_cur _).2.2,ld_one ag_by,ld_one ag_u64,cell_of (c2 z),len_by,h.row.len Tryz.underlying22,SS,eq_self,reduceIte,reduceCtorEq,Nat.reduceEqDiff,Nat.reduceAdd]
    refine brD.intro (fun g2 => ?_) (fun g2 => absurd (show ((at_ + 1 : Nat) : Int) ≤ (us.length : Int) by omega) g2)
    simp (maxSteps := 1000000) (disch := omega) only [hw2,SS,eq_self,reduceIte,reduceCtorEq,Nat.reduceEqDiff,Nat.reduceAdd]
    refine hQ _ _ _ ?_
    simp (maxSteps := 1000000) (disch := omega) only [SS,eq_self,reduceIte,reduceCtorEq,Nat.reduceEqDiff,Nat.reduceAdd]
    exact ⟨⟨b,rfl,hb2⟩,q1,q2⟩
  · simp (maxSteps := 1000000) (disch := omega) only [nilP,(fa_cur _).1,(fa_cur _).2.1,(fa_cur _).2.2,ld_one ag_by,ld_one ag_u8,ld_one ag_u64,cell_of ho,hw1,s1,cell_of c1,s2,SS,eq_self,reduceIte,reduceCtorEq,Nat.reduceEqDiff,Nat.reduceAdd]
    generalize hzz : IntKind.u64.wrap (IntKind.u64.wrap (IntKind.u64.wrap ((seed : Int) * 6364136223846793005) + IntKind.u64.wrap 0) + 462197) = z
    have hz : 0 ≤ z ∧ z < 18446744073709551616 := by rw [← hzz]; exact wz _
    obtain ⟨q1,q2⟩ := fin 0 (by omega) z hz.1 hz.2 _ rfl
    obtain ⟨zn,rfl⟩ : ∃ k : Nat,z = k := ⟨z.toNat,by omega⟩
    simp (maxSteps := 1000000) (disch := omega) only [nilP,(fa_cur _).1,(fa_cur _).2.1,(fa_cur _).2.2,ld_one ag_by,ld_one ag_u64,cell_of (c2 _),len_by,h.row.len Tryz.underlying22,SS,eq_self,reduceIte,reduceCtorEq,Nat.reduceEqDiff,Nat.reduceAdd]
    refine brD.intro (fun g2 => absurd g2 (by omega)) (fun g2 => ?_)
    have k1 : binA Tryz.prog .shr 69 (.int .u64 (zn : Int)) (.int .u64 40) = some (.int .u64 ((zn / 2 ^ 40 : Nat) : Int)) := bin_shrU _ _ zn 40 (by decide)
    have hd : zn / 2 ^ 40 < 2 ^ 64 := Nat.lt_of_le_of_lt (Nat.div_le_self _ _) (by omega)
    have k2 : binA Tryz.prog .and 69 (.int .u64 ((zn / 2 ^ 40 : Nat) : Int)) (.int .u64 255) = some (.int .u64 ((zn / 2 ^ 40 &&& 255 : Nat) : Int)) := bin_and _ _ _ 255 hd (by decide)
    have hle2 : zn / 2 ^ 40 &&& 255 ≤ 255 := Nat.and_le_right
    generalize zn / 2 ^ 40 &&& 255 = r at *
    have c3 : convA Tryz.prog 69 3 (.int .u64 (r : Int)) = some (.int .i64 (r : Int)) := by
      simp only [convA,Tryz.underlying69,Tryz.underlying3]
      rw [wrap64 (by omega) (by omega)]
    simp (maxSteps := 1000000) (disch := omega) only [nilP,(fa_cur _).1,(fa_cur _).2.1,(fa_cur _).2.2,ld_one ag_u64,cell_of (c2 _),k1,k2,c3,SS,eq_self,reduceIte,reduceCtorEq,Nat.reduceEqDiff,Nat.reduceAdd]
    refine hQ _ _ _ ?_
    simp (maxSteps := 1000000) (disch := omega) only [SS,eq_self,reduceIte,reduceCtorEq,Nat.reduceEqDiff,Nat.reduceAdd]
    exact ⟨⟨r,rfl,by omega⟩,q1,q2⟩
set_option maxHeartbeats 1000000 in
theorem pick_c {H : AH} {o : Nat} {v : Value} {us : List Value} {N : Nat} (h : Cur H o v us N) (hN : N ≤ 1000000000) (n : Int) (hn : n ≤ 200) :
    ACalls Tryz.prog 51 [.pointer (some ⟨o,0,none⟩),.int .i64 n] H fun r H' => (∃ x : Nat,r = .int .i64 (x : Int) ∧ ((x : Int) < n ∨ x = 0)) ∧ Cur H' o v us (N + 1) ∧ OnlyO o H H' := by
  refine in51 rfl ?_
  intro Q hQ
  simp (maxSteps := 1000000) (disch := omega) only [cd51,SS,eq_self,reduceIte,reduceCtorEq,Nat.reduceEqDiff,Nat.reduceAdd]
  refine brD.intro (fun g => ?_) (fun g => ?_)
  · simp (maxSteps := 1000000) (disch := omega) only [SS,eq_self,reduceIte,reduceCtorEq,Nat.reduceEqDiff,Nat.reduceAdd]
    refine hQ _ _ _ ?_
    simp (maxSteps := 1000000) (disch := omega) only [SS,eq_self,reduceIte,reduceCtorEq,Nat.reduceEqDiff,Nat.reduceAdd]
    exact ⟨⟨0,rfl,.inr rfl⟩,h.more (by omega),OnlyO.refl o H⟩
  simp (maxSteps := 1000000) (disch := omega) only [SS,eq_self,reduceIte,reduceCtorEq,Nat.reduceEqDiff,Nat.reduceAdd]
  refine CallH.by (next_c h hN) ?_
  rintro _ K ⟨⟨x,rfl,hx⟩,hK,oK⟩
  have hn0 : n ≠ 0 := by omega
  have hmod : (x : Int).tmod n = ((x % n.toNat : Nat) : Int) := by
    rw [Int.tmod_eq_emod_of_nonneg (by omega)]
    have : n = (n.toNat : Int) := by omega
    conv => lhs; rw [this]
    exact (Int.natCast_emod x n.toNat).symm
  simp (maxSteps := 1000000) (disch := omega) only [SS,eq_self,reduceIte,reduceCtorEq,Nat.reduceEqDiff,Nat.reduceAdd]
  refine brD.intro (fun g2 => absurd g2 (by omega)) (fun g2 => ?_)
  simp (maxSteps := 1000000) (disch := omega) only [hn0,hmod,SS,eq_self,reduceIte,reduceCtorEq,Nat.reduceEqDiff,Nat.reduceAdd]
  refine hQ _ _ _ ?_
  simp (maxSteps := 1000000) (disch := omega) only [SS,eq_self,reduceIte,reduceCtorEq,Nat.reduceEqDiff,Nat.reduceAdd]
  have := Nat.mod_lt x (show 0 < n.toNat by omega)
  exact ⟨⟨x % n.toNat,rfl,.inl (by omega)⟩,hK,oK⟩
theorem one_c {H : AH} {o : Nat} {v : Value} {us : List Value} {N : Nat} (h : Cur H o v us N) (hN : N ≤ 1000000000) (n : Int) (hn : n ≤ 200) :
    ACalls Tryz.prog 53 [.pointer (some ⟨o,0,none⟩),.int .i64 n] H fun r H' => (∃ b : Bool,r = .bool b) ∧ Cur H' o v us (N + 1) ∧ OnlyO o H H' := by
  refine in53 rfl ?_
  intro Q hQ
  simp (maxSteps := 1000000) (disch := omega) only [cd53,SS,eq_self,reduceIte,reduceCtorEq,Nat.reduceEqDiff,Nat.reduceAdd]
  refine CallH.by (pick_c h hN n hn) ?_
  rintro _ K ⟨⟨x,rfl,_⟩,hK,oK⟩
  simp (maxSteps := 1000000) (disch := omega) only [SS,eq_self,reduceIte,reduceCtorEq,Nat.reduceEqDiff,Nat.reduceAdd]
  refine hQ _ _ _ ?_
  simp (maxSteps := 1000000) (disch := omega) only [SS,eq_self,reduceIte,reduceCtorEq,Nat.reduceEqDiff,Nat.reduceAdd]
  exact ⟨⟨_,rfl⟩,hK,oK⟩
set_option maxHeartbeats 1000000 in
theorem among_c {H : AH} {o : Nat} {v w : Value} {us : List Value} {xs : List Int} {N : Nat} (h : Cur H o v us N) (hN : N ≤ 1000000000) (hw : Row 3 H w xs) (hwo : rowO w ≠ o) (hl : 0 < xs.length ∧ xs.length ≤ 200) :
    ACalls Tryz.prog 96 [.pointer (some ⟨o,0,none⟩),w] H fun r H' => (∃ x : Int,r = .int .i64 x ∧ x ∈ xs) ∧ Cur H' o v us (N + 1) ∧ OnlyO o H H' := by
  refine in96 rfl ?_
  intro Q hQ
  simp (maxSteps := 1000000) (disch := omega) only [cd96,hw.len Tryz.underlying27,SS,eq_self,reduceIte,reduceCtorEq,Nat.reduceEqDiff,Nat.reduceAdd]
  refine CallH.by (pick_c h hN (xs.length : Int) (by omega)) ?_
  rintro _ K ⟨⟨x,rfl,hx⟩,hK,oK⟩
  have hxl : x < xs.length := by omega
  have hwK : Row 3 K w xs := hw.mono fun y hy => oK.2 _ _ hwo hy
  have hc := hwK.cell hxl
  simp (maxSteps := 1000000) (disch := omega) only [hw.ix Tryz.underlying27 cs3,Int.toNat_natCast,hc,SS,eq_self,reduceIte,reduceCtorEq,Nat.reduceEqDiff,Nat.reduceAdd]
  refine hQ _ _ _ ?_
  simp (maxSteps := 1000000) (disch := omega) only [SS,eq_self,reduceIte,reduceCtorEq,Nat.reduceEqDiff,Nat.reduceAdd]
  exact ⟨⟨xs.getD x 0,rfl,by simp [hxl]⟩,hK,oK⟩
def ords5 : List (Nat × List (Nat × Bool)) := []
def cd5 : Cd := (.seq (.reg [⟨⟨some 2,Op.assign (Operand.const (Value.bool false)),none⟩,[]⟩]) (.seq (.reg [⟨⟨some 3,Op.move (Operand.tmp 0),none⟩,[]⟩,
  ⟨⟨some 4,Op.call { callee := (Callee.builtin Builtin.len),args := #[(Operand.tmp 3)],argTypes := #[22] },none⟩,[]⟩,
  ⟨⟨some 5,Op.binOp BinOp.gtr 3 (Operand.tmp 4) (Operand.const (Value.int IntKind.i64 65536)) 3,none⟩,[]⟩,
  ⟨⟨some 2,Op.assign (Operand.tmp 5),none⟩,[]⟩]) .ret))
theorem sl5 : slim Tryz.f5.ntmps ords5 (Tryz.f5.body.getD .skip) = some cd5 := by kernel_rfl
theorem in5 {args : List Value} {H : AH} {R : Value → AH → Prop} (hl : args.length = 1) (h : ∀ (Q : Exit → Sl → AH → Prop),(∀ e s H,endA Tryz.prog [ResultVar.tmp 2] R e s H → Q e s H) → wpC Tryz.prog cd5 Q (enterA args) H) : ACalls Tryz.prog 5 args H R :=
  ACalls.intro (by kernel_rfl) Tryz.func5 rfl (by kernel_rfl) sl5 hl (of_decide_eq_true (by kernel_rfl)) (by kernel_rfl) h
def ords12 : List (Nat × List (Nat × Bool)) := []
def cd12 : Cd := (.seq (.reg [⟨⟨some 4,Op.assign (Operand.const (Value.slice none 0 0)),none⟩,[]⟩]) (.seq (.seq (.reg [⟨⟨some 5,Op.move (Operand.tmp 1),none⟩,[]⟩,
  ⟨⟨some 6,Op.move (Operand.tmp 0),none⟩,[]⟩,
  ⟨⟨some 7,Op.call { callee := (Callee.builtin Builtin.len),args := #[(Operand.tmp 6)],argTypes := #[22] },none⟩,[]⟩,
  ⟨⟨some 8,Op.binOp BinOp.gtr 3 (Operand.tmp 5) (Operand.tmp 7) 3,none⟩,[]⟩]) (.cond (Operand.tmp 8) (.reg [⟨⟨some 9,Op.move (Operand.tmp 0),none⟩,[]⟩,
  ⟨⟨some 10,Op.call { callee := (Callee.builtin Builtin.len),args := #[(Operand.tmp 9)],argTypes := #[22] },none⟩,[]⟩,
  ⟨⟨some 1,Op.assign (Operand.tmp 10),none⟩,[]⟩]) .skip)) (.seq (.reg [⟨⟨some 11,Op.buildSlice 22 0 #[],none⟩,[]⟩,
  ⟨⟨some 12,Op.move (Operand.tmp 0),none⟩,[]⟩,
  ⟨⟨some 13,Op.move (Operand.tmp 1),none⟩,[]⟩,
  ⟨⟨some 14,Op.slice 22 (Operand.tmp 12) (some (Operand.tmp 13)) none none,none⟩,[]⟩,
  ⟨⟨some 15,Op.call { callee := (Callee.builtin Builtin.append),args := #[(Operand.tmp 11),(Operand.tmp 14)],argTypes := #[22,22] },none⟩,[]⟩,
  ⟨⟨some 16,Op.move (Operand.tmp 1),none⟩,[]⟩,
  ⟨⟨some 17,Op.convert 3 5 (Operand.tmp 16),none⟩,[]⟩,
  ⟨⟨some 18,Op.buildSlice 22 1 #[(0,(Operand.tmp 17))],none⟩,[]⟩,
  ⟨⟨some 19,Op.call { callee := (Callee.builtin Builtin.append),args := #[(Operand.tmp 15),(Operand.tmp 18)],argTypes := #[22,22] },none⟩,[]⟩,
  ⟨⟨some 4,Op.assign (Operand.tmp 19),none⟩,[]⟩]) .ret)))
theorem sl12 : slim Tryz.f12.ntmps ords12 (Tryz.f12.body.getD .skip) = some cd12 := by kernel_rfl
theorem in12 {args : List Value} {H : AH} {R : Value → AH → Prop} (hl : args.length = 2) (h : ∀ (Q : Exit → Sl → AH → Prop),(∀ e s H,endA Tryz.prog [ResultVar.tmp 4] R e s H → Q e s H) → wpC Tryz.prog cd12 Q (enterA args) H) : ACalls Tryz.prog 12 args H R :=
  ACalls.intro (by kernel_rfl) Tryz.func12 rfl (by kernel_rfl) sl12 hl (of_decide_eq_true (by kernel_rfl)) (by kernel_rfl) h
end Go.Proofs.YtelafbennmclfaaGreat.Ai
namespace Go.Proofs.YtelafbennmclfaaGreat.Ai
open Go Go.RowKit
def Keeps (o : Nat) (H H' : AH) : Prop := H.length ≤ H'.length ∧ ∀ (j : Nat) (y : AObj),j ≠ o → H[j]? = some y → H'[j]? = some y
theorem Keeps.trans {o : Nat} {H H' H'' : AH} (h : Keeps o H H') (k : Keeps o H' H'') : Keeps o H H'' := ⟨Nat.le_trans h.1 k.1,fun j y hj hy => k.2 j y hj (h.2 j y hj hy)⟩
theorem OnlyO.keeps {o : Nat} {H H' : AH} (h : OnlyO o H H') : Keeps o H H' := ⟨Nat.le_of_eq h.1.symm,h.2⟩
theorem Keeps.of_pre {o : Nat} {H H' : AH} (h : H <+: H') : Keeps o H H' := ⟨h.length_le,fun j y _ hy => pre_at h hy⟩
theorem Own.keeps {e : TypeId} {H0 H H' : AH} {o : Nat} {v : Value} {xs : List Int} (h : Own e H0 H v xs) (hk : Keeps o H H') (ho : o < H0.length) : Own e H0 H' v xs := by
  rcases h with q | ⟨oo,q1,q2,q3⟩
  · exact .inl q
  · exact .inr ⟨oo,q1,q2,hk.2 _ _ (by omega) q3⟩
theorem Cur.keeps {H H' : AH} {o : Nat} {v : Value} {us : List Value} {N : Nat} (h : Cur H o v us N) (hp : H <+: H') : Cur H' o v us N := h.pre hp
theorem ownB {e : TypeId} {H0 H1 H : AH} {v : Value} {xs : List Int} (h : Own e H0 H v xs) (hl : H1.length ≤ H0.length) : Own e H1 H v xs := by
  rcases h with h | ⟨o,h1,h2,h3⟩
  · exact .inl h
  · exact .inr ⟨o,h1,by omega,h3⟩
theorem bld_cur (p : Option Addr) (n c : Nat) : buildA Tryz.prog 71 [(0,.slice p n c)] = some (.agg (List.toArray [.slice p n c,.int .i64 0,.int .u64 0])) := by kernel_rfl
theorem box_cur (p : Option Addr) (n c : Nat) (H : AH) : boxA Tryz.prog 71 (.agg (List.toArray [.slice p n c,.int .i64 0,.int .u64 0])) H = some (.pointer (some ⟨H.length,0,none⟩),H ++ [.cells [.slice p n c,.int .i64 0,.int .u64 0] 71 false]) := by kernel_rfl
structure Byt (H : AH) (v : Value) (us : List Value) : Prop where
  row : RowV 5 H v us
  byt : ∀ i,i < us.length → ∃ b : Nat,us.getD i undef = .int .u8 (b : Int) ∧ b < 256
  le : us.length ≤ 1048576
theorem Byt.pre {H H' : AH} {v : Value} {us : List Value} (h : Byt H v us) (hp : H <+: H') : Byt H' v us := ⟨h.row.pre hp,h.byt,h.le⟩
theorem Byt.cur {H : AH} {v : Value} {us : List Value} (h : Byt H v us) : Cur (H ++ [.cells [v,.int .i64 0,.int .u64 0] 71 false]) H.length v us 0 := by
  refine ⟨⟨0,0,at_new ..,Nat.le_refl _,by decide⟩,h.row.pre (List.prefix_append _ _),h.byt,?_,h.le⟩
  rcases h.row with q | ⟨o',k',vs',ro',e1,g2',_⟩
  · exact .inl q.1
  · right
    rw [e1]
    have := at_lt g2'
    show o' ≠ _
    omega
theorem MineP.keepsP {e : TypeId} {H0 H H' : AH} {o : Nat} {v : Value} {ps : List (Int × Int)} (h : MineP e H0 H v ps) (hk : Keeps o H H') (ho : o < H0.length) : MineP e H0 H' v ps := by
  rcases h with q | ⟨oo,zs,q1,q2,q3,q4⟩
  · exact .inl q
  · exact .inr ⟨oo,zs,q1,q2,hk.2 _ _ (by omega) q3,q4⟩
theorem vBig_c {H : AH} {v : Value} {us : List Value} (h : RowV 5 H v us) (hl : (us.length : Int) ≤ 9223372036854775807) : ACalls Tryz.prog 5 [v] H fun r H' => r = .bool (decide ((65536 : Int) < (us.length : Int))) ∧ H = H' := by
  refine in5 rfl ?_
  intro Q hQ
  simp (maxSteps := 1000000) (disch := omega) only [cd5,len_by,h.len Tryz.underlying22,SS,eq_self,reduceIte,reduceCtorEq,Nat.reduceEqDiff,Nat.reduceAdd]
  refine hQ _ _ _ ?_
  simp (maxSteps := 1000000) (disch := omega) only [SS,eq_self,reduceIte,reduceCtorEq,Nat.reduceEqDiff,Nat.reduceAdd]
theorem appV {P : Program} {t e : TypeId} (hu : P.underlying t = some (.slice e)) (hc : P.cellsOf e = 1) (hby : P.bytesOf e ≤ 64) (hz : zeroOk P e = true) {H : AH} {o : Nat} {us ws : List Value} {w : Value} (ho : H[o]? = some (.cells us e false)) (hw : RowV e H w ws) (hm : 0 < ws.length) (hb : us.length + ws.length ≤ 1099511627776) :
    appendA P t t (.slice (some ⟨o,0,none⟩) us.length us.length) w H = some (.slice (some ⟨H.length,0,none⟩) (us.length + ws.length) (us.length + ws.length),H.set o .dead ++ [.cells (us ++ ws) e false]) := by
  have bb : ∀ n : Nat,n ≤ 1099511627776 → n * P.bytesOf e ≤ 140737488355328 := fun n hn => by
    refine Nat.le_trans (Nat.mul_le_mul_left _ hby) ?_
    omega
  have hsc := hw.cells (P := P) hc
  simp only [appendA,hu,hc,hsc,hz,ho]
  rw [if_pos (by simp),if_neg (by omega),if_pos ⟨trivial,by omega,bb _ (by omega),by omega,trivial⟩]
  simp
theorem appV0 {P : Program} {t e : TypeId} (hu : P.underlying t = some (.slice e)) (hc : P.cellsOf e = 1) {H : AH} {o n : Nat} {w : Value} (hw : RowV e H w []) :
    appendA P t t (.slice (some ⟨o,0,none⟩) n n) w H = some (.slice (some ⟨o,0,none⟩) n n,H) := by
  have hsc := hw.cells (P := P) hc
  simp only [List.length_nil] at hsc
  simp only [appendA,hu,hc,hsc,isSl]
  rw [if_pos (by simp),if_pos (by simp),if_pos trivial]
set_option maxRecDepth 20000 in
set_option maxHeartbeats 2000000 in
theorem vCut_c {H : AH} {v : Value} {us : List Value} (h : Byt H v us) (hle : us.length ≤ 1000000) : ACalls Tryz.prog 12 [v,.int .i64 1] H fun r H' => ∃ ws,Byt H' r ws ∧ H <+: H' := by
  refine in12 rfl ?_
  intro Q hQ
  have zu : zeroA Tryz.prog 5 = some (.int .u8 0) := by kernel_rfl
  have bs_0 := fun K => bs0 Tryz.underlying22 cs_u8 zu ⟨by kernel_rfl,by kernel_rfl⟩ K
  have bs_1 := fun K (x : Int) => bs1 Tryz.underlying22 cs_u8 zu ⟨by kernel_rfl,by kernel_rfl⟩ K (a := .int .u8 x) rfl
  have hbt : Tryz.prog.bytesOf 5 ≤ 64 := by
    have : Tryz.prog.bytesOf 5 = 1 := by kernel_rfl
    omega
  have zk8 : zeroOk Tryz.prog 5 = true := by kernel_rfl
  generalize hB : H ++ [AObj.cells [] 5 false] = B
  have pB : H <+: B := by rw [← hB]; exact List.prefix_append _ _
  have cB : B[H.length]? = some (.cells [] 5 false) := by rw [← hB]; exact at_new ..
  have hrB := h.row.pre pB
  have one : ∀ n : Nat,n ≤ us.length → sliceA Tryz.prog 22 v (some (.int .i64 (n : Int))) none none B = some (subV v n us.length) ∧ ∃ (q : Nat) (L : AH),appendA Tryz.prog 22 22 (.slice (some ⟨H.length,0,none⟩) 0 0) (subV v n us.length) B = some (.slice (some ⟨q,0,none⟩) (us.drop n).length (us.drop n).length,L) ∧ L[q]? = some (.cells (us.drop n) 5 false) ∧ H <+: L ∧ H.length ≤ q := by
    intro n hn
    obtain ⟨a1,a2,_⟩ := hrB.slice (P := Tryz.prog) (t := 22) Tryz.underlying22 cs_u8 (bound_some (k := .i64) (i := (n : Int)) (by omega) 0) (hi_none us.length) (by rw [Int.toNat_natCast]; exact hn) (Nat.le_refl _)
    rw [Int.toNat_natCast] at a1 a2
    rw [List.take_of_length_le (by simp)] at a2
    refine ⟨a1,?_⟩
    by_cases e : us.drop n = []
    · rw [e] at a2 ⊢
      exact ⟨H.length,B,appV0 Tryz.underlying22 cs_u8 a2,cB,pB,Nat.le_refl _⟩
    · have hp : 0 < (us.drop n).length := List.length_pos_iff.2 e
      have k := appV (P := Tryz.prog) (t := 22) Tryz.underlying22 cs_u8 hbt zk8 (us := []) cB a2 hp (by simp; omega)
      simp only [List.length_nil,Nat.zero_add,List.nil_append] at k
      have lB : B.length = H.length + 1 := by rw [← hB]; simp
      refine ⟨B.length,_,k,?_,prefix_of fun j y hy => at_old (pre_at pB hy) (by have := at_lt hy; omega) _,by omega⟩
      rw [List.getElem?_append_right (by simp)]; simp
  have two : ∀ (n q : Nat) (zs : List Value) (L : AH),n ≤ 1 → zs.length ≤ us.length → (∀ i,i < zs.length → ∃ b : Nat,zs.getD i undef = .int .u8 (b : Int) ∧ b < 256) → L[q]? = some (.cells zs 5 false) → H <+: L → H.length ≤ q → ∃ (r : Value) (M : AH),appendA Tryz.prog 22 22 (.slice (some ⟨q,0,none⟩) zs.length zs.length) (.slice (some ⟨L.length,0,none⟩) 1 1) (L ++ [AObj.cells [.int .u8 (n : Int)] 5 false]) = some (r,M) ∧ isTup r = false ∧ Byt M r (zs ++ [.int .u8 (n : Int)]) ∧ H <+: M := by
    intro n q zs L hn hz hb hq hp hHq
    have hq2 := at_app hq [AObj.cells [.int .u8 (n : Int)] 5 false]
    have hw := RowV.new 5 L [.int .u8 (n : Int)]
    have k := appV (P := Tryz.prog) (t := 22) Tryz.underlying22 cs_u8 hbt zk8 hq2 hw (by simp) (by simp; omega)
    have hql := at_lt hq
    refine ⟨_,_,k,rfl,⟨?_,fun i hi => ?_,by simp; omega⟩,prefix_of fun j y hy => at_old (at_app (pre_at hp hy) _) (by have := at_lt hy; omega) _⟩
    · refine .inr ⟨(L ++ [AObj.cells [.int .u8 (n : Int)] 5 false]).length,0,zs ++ [.int .u8 (n : Int)],false,by simp,?_,by simp,by rw [List.drop_zero]; exact List.take_of_length_le (Nat.le_refl _)⟩
      rw [List.getElem?_append_right (by simp)]; simp
    · rw [List.getD_eq_getElem?_getD]
      by_cases e : i < zs.length
      · rw [List.getElem?_append_left e,← List.getD_eq_getElem?_getD]; exact hb i e
      · rw [List.length_append,List.length_cons,List.length_nil] at hi
        have : i = zs.length := by omega
        subst this
        exact ⟨n,by simp,by omega⟩
  have conv : ∀ n : Nat,n ≤ 1 → convA Tryz.prog 3 5 (.int .i64 (n : Int)) = some (.int .u8 (n : Int)) := fun n hn => by
    simp only [convA,Tryz.underlying5,Tryz.underlying3]
    rw [show IntKind.u8.wrap (n : Int) = (n : Int) by rw [IntKind.wrap_u8]; omega]
  have bd : ∀ n i : Nat,i < (us.drop n).length → ∃ b : Nat,(us.drop n).getD i undef = .int .u8 (b : Int) ∧ b < 256 := fun n i hi => by
    rw [List.length_drop] at hi
    rw [List.getD_eq_getElem?_getD,List.getElem?_drop,← List.getD_eq_getElem?_getD]
    exact h.byt (n + i) (by omega)
  simp (maxSteps := 1000000) (disch := omega) only [cd12,len_by,h.row.len Tryz.underlying22,SS,eq_self,reduceIte,reduceCtorEq,Nat.reduceEqDiff,Nat.reduceAdd]
  refine brD.intro (fun g => ?_) (fun g => ?_)
  · have h0 : us.length = 0 := by omega
    obtain ⟨a1,q,L,a2,a3,a4,a5⟩ := one us.length (Nat.le_refl _)
    obtain ⟨r,M,b1,b2,b3,b4⟩ := two us.length q _ L (by omega) (by rw [List.length_drop]; omega) (bd us.length) a3 a4 a5
    have a5' : True := trivial
    simp (maxSteps := 1000000) (disch := omega) only [len_by,h.row.len Tryz.underlying22,bs_0,hB,a1,a2,conv us.length (by omega),bs_1,b1,SS,eq_self,reduceIte,reduceCtorEq,Nat.reduceEqDiff,Nat.reduceAdd]
    refine hQ _ _ _ ?_
    simp (maxSteps := 1000000) (disch := omega) only [b2,SS,eq_self,reduceIte,reduceCtorEq,Nat.reduceEqDiff,Nat.reduceAdd]
    exact ⟨_,b3,b4⟩
  · obtain ⟨a1,q,L,a2,a3,a4,a5⟩ := one 1 (by omega)
    obtain ⟨r,M,b1,b2,b3,b4⟩ := two 1 q _ L (by omega) (by simp) (bd 1) a3 a4 a5
    have c1 : convA Tryz.prog 3 5 (.int .i64 1) = some (.int .u8 1) := conv 1 (by omega)
    have a1' : sliceA Tryz.prog 22 v (some (.int .i64 1)) none none B = some (subV v 1 us.length) := a1
    have b1' : appendA Tryz.prog 22 22 (.slice (some ⟨q,0,none⟩) (us.drop 1).length (us.drop 1).length) (.slice (some ⟨L.length,0,none⟩) 1 1) (L ++ [AObj.cells [.int .u8 1] 5 false]) = some (r,M) := b1
    simp (maxSteps := 1000000) (disch := omega) only [bs_0,hB,a1',a2,c1,bs_1,b1',SS,eq_self,reduceIte,reduceCtorEq,Nat.reduceEqDiff,Nat.reduceAdd]
    refine hQ _ _ _ ?_
    simp (maxSteps := 1000000) (disch := omega) only [b2,SS,eq_self,reduceIte,reduceCtorEq,Nat.reduceEqDiff,Nat.reduceAdd]
    exact ⟨_,b3,b4⟩
def ords101 : List (Nat × List (Nat × Bool)) := []
def cd101 : Cd := (.seq (.reg [⟨⟨some 6,Op.assign (Operand.const (Value.bool false)),none⟩,[]⟩]) (.seq (.reg [⟨⟨some 7,Op.move (Operand.tmp 0),none⟩,[]⟩,
  ⟨⟨some 8,Op.move (Operand.tmp 1),none⟩,[]⟩,
  ⟨⟨some 9,Op.binOp BinOp.geq 3 (Operand.tmp 7) (Operand.tmp 8) 3,none⟩,[]⟩,
  ⟨⟨some 10,Op.move (Operand.tmp 9),none⟩,[]⟩,
  ⟨⟨some 11,Op.move (Operand.tmp 0),some (10,true)⟩,[]⟩,
  ⟨⟨some 12,Op.move (Operand.tmp 2),some (10,true)⟩,[]⟩,
  ⟨⟨some 13,Op.binOp BinOp.leq 3 (Operand.tmp 11) (Operand.tmp 12) 3,some (10,true)⟩,[]⟩,
  ⟨⟨some 14,Op.pick (Operand.tmp 10) (Operand.tmp 13) (Operand.const (Value.bool false)),none⟩,[]⟩,
  ⟨⟨some 6,Op.assign (Operand.tmp 14),none⟩,[]⟩]) .ret))
theorem sl101 : slim Tryz.f101.ntmps ords101 (Tryz.f101.body.getD .skip) = some cd101 := by kernel_rfl
theorem in101 {args : List Value} {H : AH} {R : Value → AH → Prop} (hl : args.length = 3) (h : ∀ (Q : Exit → Sl → AH → Prop),(∀ e s H,endA Tryz.prog [ResultVar.tmp 6] R e s H → Q e s H) → wpC Tryz.prog cd101 Q (enterA args) H) : ACalls Tryz.prog 101 args H R :=
  ACalls.intro (by kernel_rfl) Tryz.func101 rfl (by kernel_rfl) sl101 hl (of_decide_eq_true (by kernel_rfl)) (by kernel_rfl) h
def ords90 : List (Nat × List (Nat × Bool)) := []
def cd90 : Cd := (.seq (.reg [⟨⟨some 6,Op.assign (Operand.const (Value.bool false)),none⟩,[]⟩]) (.seq (.reg [⟨⟨some 7,Op.move (Operand.tmp 0),none⟩,[]⟩,
  ⟨⟨some 8,Op.move (Operand.tmp 1),none⟩,[]⟩,
  ⟨⟨some 9,Op.binOp BinOp.geq 3 (Operand.tmp 7) (Operand.tmp 8) 3,none⟩,[]⟩,
  ⟨⟨some 10,Op.move (Operand.tmp 9),none⟩,[]⟩,
  ⟨⟨some 11,Op.move (Operand.tmp 0),some (10,true)⟩,[]⟩,
  ⟨⟨some 12,Op.move (Operand.tmp 2),some (10,true)⟩,[]⟩,
  ⟨⟨some 13,Op.binOp BinOp.leq 3 (Operand.tmp 11) (Operand.tmp 12) 3,some (10,true)⟩,[]⟩,
  ⟨⟨some 14,Op.pick (Operand.tmp 10) (Operand.tmp 13) (Operand.const (Value.bool false)),none⟩,[]⟩,
  ⟨⟨some 6,Op.assign (Operand.tmp 14),none⟩,[]⟩]) .ret))
theorem sl90 : slim Tryz.f90.ntmps ords90 (Tryz.f90.body.getD .skip) = some cd90 := by kernel_rfl
theorem in90 {args : List Value} {H : AH} {R : Value → AH → Prop} (hl : args.length = 3) (h : ∀ (Q : Exit → Sl → AH → Prop),(∀ e s H,endA Tryz.prog [ResultVar.tmp 6] R e s H → Q e s H) → wpC Tryz.prog cd90 Q (enterA args) H) : ACalls Tryz.prog 90 args H R :=
  ACalls.intro (by kernel_rfl) Tryz.func90 rfl (by kernel_rfl) sl90 hl (of_decide_eq_true (by kernel_rfl)) (by kernel_rfl) h
end Go.Proofs.YtelafbennmclfaaGreat.Ai
namespace Go.Proofs.YtelafbennmclfaaGreat.Ai
open Go Go.RowKit
theorem l1In_c (a b c : Int) (H : AH) : ACalls Tryz.prog 101 [.int .i64 a,.int .i64 b,.int .i64 c] H fun r H' => r = .bool (decide (b ≤ a ∧ a ≤ c)) ∧ H = H' := by
  refine in101 rfl ?_
  intro Q hQ
  simp (maxSteps := 1000000) (disch := omega) only [cd101,SS,eq_self,reduceIte,reduceCtorEq,Nat.reduceEqDiff,Nat.reduceAdd]
  refine brD.intro (fun h => ?_) (fun h => ?_) <;> simp (maxSteps := 1000000) (disch := omega) only [h,SS,eq_self,reduceIte,reduceCtorEq,Nat.reduceEqDiff,Nat.reduceAdd] <;> refine hQ _ _ _ ?_ <;> simp (maxSteps := 1000000) (disch := omega) only [h,SS,eq_self,reduceIte,reduceCtorEq,Nat.reduceEqDiff,Nat.reduceAdd] <;> simp [h]
theorem between_c (a b c : Int) (H : AH) : ACalls Tryz.prog 90 [.int .i64 a,.int .i64 b,.int .i64 c] H fun r H' => r = .bool (decide (b ≤ a ∧ a ≤ c)) ∧ H = H' := by
  refine in90 rfl ?_
  intro Q hQ
  simp (maxSteps := 1000000) (disch := omega) only [cd90,SS,eq_self,reduceIte,reduceCtorEq,Nat.reduceEqDiff,Nat.reduceAdd]
  refine brD.intro (fun h => ?_) (fun h => ?_) <;> simp (maxSteps := 1000000) (disch := omega) only [h,SS,eq_self,reduceIte,reduceCtorEq,Nat.reduceEqDiff,Nat.reduceAdd] <;> refine hQ _ _ _ ?_ <;> simp (maxSteps := 1000000) (disch := omega) only [h,SS,eq_self,reduceIte,reduceCtorEq,Nat.reduceEqDiff,Nat.reduceAdd] <;> simp [h]
def Asc (ys : List Int) : Prop := ∀ i j,i < j → j < ys.length → ys.getD i 0 ≤ ys.getD j 0
def Rsg (n : Int) (ys : List Int) : Prop := ∀ i,i < ys.length → (0 ≤ ys.getD i 0 ∧ ys.getD i 0 ≤ n - 1) ∧ (0 < i → ys.getD (i - 1) 0 < ys.getD i 0)
def Prm (p : List Int) : Prop := p.length ≤ 8 ∧ ∀ x,x < p.length → (x : Int) ∈ p
instance (p : List Int) : Decidable (Prm p) := inferInstanceAs (Decidable (_ ∧ _))
theorem rsg_at {ys : List Int} (h : Rsg ys.length ys) : ∀ i,i < ys.length → ys.getD i 0 = i := by
  have lo : ∀ i,i < ys.length → (i : Int) ≤ ys.getD i 0 := by
    intro i
    induction i with
    | zero => intro hi; exact (h 0 hi).1.1
    | succ i ih =>
      intro hi
      have h1 := ih (by omega)
      have h2 := (h (i + 1) hi).2 (by omega)
      rw [Nat.add_sub_cancel] at h2
      omega
  have hi' : ∀ d i,i + d + 1 = ys.length → ys.getD i 0 ≤ i := by
    intro d
    induction d with
    | zero => intro i hi; have := (h i (by omega)).1.2; omega
    | succ d ih =>
      intro i hi
      have h1 := ih (i + 1) (by omega)
      have h2 := (h (i + 1) (by omega)).2 (by omega)
      rw [Nat.add_sub_cancel] at h2
      omega
  intro i hi
  have := lo i hi
  have := hi' (ys.length - i - 1) i (by omega)
  omega
theorem pos_ex {ys : List Int} {x : Int} (h : x ∈ ys) : ∃ i,i < ys.length ∧ ys.getD i 0 = x := by
  obtain ⟨i,hi,e⟩ := List.getElem_of_mem h
  exact ⟨i,hi,by simp [hi,e]⟩
theorem asc_at {ys : List Int} (ha : Asc ys) (h : ∀ x,x < ys.length → (x : Int) ∈ ys) : ∀ i,i < ys.length → ys.getD i 0 = i := by
  have ex : ∀ x,∃ i,x < ys.length → (i < ys.length ∧ ys.getD i 0 = x) := by
    intro x
    by_cases hx : x < ys.length
    · obtain ⟨i,hi⟩ := pos_ex (h x hx); exact ⟨i,fun _ => hi⟩
    · exact ⟨0,fun e => absurd e hx⟩
  let pos : Nat → Nat := fun x => Classical.choose (ex x)
  have hp : ∀ x,x < ys.length → pos x < ys.length ∧ ys.getD (pos x) 0 = x := fun x hx => Classical.choose_spec (ex x) hx
  have mono : ∀ x,x + 1 < ys.length → pos x < pos (x + 1) := by
    intro x hx
    have h1 := hp x (by omega)
    have h2 := hp (x + 1) hx
    rcases Nat.lt_trichotomy (pos x) (pos (x + 1)) with h3 | h3 | h3
    · exact h3
    · rw [h3] at h1; rw [h1.2] at h2; omega
    · have := ha _ _ h3 h1.1
      rw [h1.2,h2.2] at this; omega
  have lo : ∀ x,x < ys.length → x ≤ pos x := by
    intro x
    induction x with
    | zero => intro _; omega
    | succ x ih =>
      intro hx
      have := ih (by omega)
      have := mono x hx
      omega
  have hi' : ∀ d x,x + d + 1 = ys.length → pos x ≤ x := by
    intro d
    induction d with
    | zero => intro x hx; have := (hp x (by omega)).1; omega
    | succ d ih =>
      intro x hx
      have := ih (x + 1) (by omega)
      have := mono x (by omega)
      omega
  intro i hi
  have h1 := lo i hi
  have h2 := hi' (ys.length - i - 1) i (by omega)
  have h3 := hp i hi
  have : pos i = i := by omega
  rw [this] at h3
  exact h3.2
theorem rsg_iff {p ys : List Int} (hp : ys.Perm p) (ha : Asc ys) : Rsg p.length ys ↔ ∀ x,x < p.length → (x : Int) ∈ p := by
  have hl := hp.length_eq
  constructor
  · intro h x hx
    rw [← hl] at h
    have := rsg_at h x (by omega)
    have hm : ys.getD x 0 ∈ ys := by
      have : x < ys.length := by omega
      simp [this]
    rw [this] at hm
    exact hp.mem_iff.1 hm
  · intro h
    have hat := asc_at ha (fun x hx => hp.mem_iff.2 (h x (by omega)))
    intro i hi
    rw [hat i hi]
    refine ⟨⟨by omega,by omega⟩,fun h0 => ?_⟩
    rw [hat (i - 1) (by omega)]
    omega
theorem prm_at {p : List Int} (h : Prm p) {ys : List Int} (hp : ys.Perm p) (ha : Asc ys) : ∀ i,i < ys.length → ys.getD i 0 = i :=
  asc_at ha (fun x hx => hp.mem_iff.2 (h.2 x (by have := hp.length_eq; omega)))
def put : List Int → Int → List Int
  | [],x => [x]
  | y :: ys,x => if y < x then y :: put ys x else if y = x then y :: ys else x :: y :: ys
theorem put_mem (l : List Int) (x y : Int) : y ∈ put l x ↔ y = x ∨ y ∈ l := by
  induction l with
  | nil => simp [put]
  | cons z zs ih =>
    simp only [put]
    split
    · simp only [List.mem_cons,ih]
      constructor
      · rintro (h | h | h)
        · exact .inr (.inl h)
        · exact .inl h
        · exact .inr (.inr h)
      · rintro (h | h | h)
        · exact .inr (.inl h)
        · exact .inl h
        · exact .inr (.inr h)
    · split
      · rename_i h1 h2
        subst h2
        simp
      · simp
theorem put_sorted (l : List Int) (x : Int) (h : l.Pairwise (· < ·)) : (put l x).Pairwise (· < ·) := by
  induction l with
  | nil => simp [put]
  | cons y ys ih =>
    simp only [List.pairwise_cons] at h
    simp only [put]
    split
    · rename_i h1
      rw [List.pairwise_cons]
      refine ⟨fun z hz => ?_,ih h.2⟩
      rcases (put_mem ys x z).1 hz with e | e
      · rw [e]; exact h1
      · exact h.1 z e
    · split
      · rw [List.pairwise_cons]; exact h
      · rename_i h1 h2
        rw [List.pairwise_cons]
        refine ⟨fun z hz => ?_,by rw [List.pairwise_cons]; exact h⟩
        rcases List.mem_cons.1 hz with e | e
        · rw [e]; omega
        · have := h.1 z e; omega
def puts (xs : List Int) : List Int := xs.foldl put []
theorem asc_of {ys : List Int} (h : Asc ys) : ys.Pairwise (· ≤ ·) := by
  rw [List.pairwise_iff_getElem]
  intro i j hi hj hij
  have := h i j hij hj
  simpa [hi,hj] using this
def ords149 : List (Nat × List (Nat × Bool)) := []
def cd149 : Cd := (.seq (.reg [⟨⟨some 2,Op.assign (Operand.const (Value.bool false)),none⟩,[]⟩]) (.seq (.reg [⟨⟨some 3,Op.move (Operand.tmp 0),none⟩,[]⟩,
  ⟨⟨some 4,Op.move (Operand.tmp 0),none⟩,[]⟩,
  ⟨⟨some 5,Op.binOp BinOp.neq 3 (Operand.tmp 3) (Operand.tmp 4) 3,none⟩,[]⟩,
  ⟨⟨some 2,Op.assign (Operand.tmp 5),none⟩,[]⟩]) .ret))
theorem sl149 : slim Tryz.f149.ntmps ords149 (Tryz.f149.body.getD .skip) = some cd149 := by kernel_rfl
theorem in149 {args : List Value} {H : AH} {R : Value → AH → Prop} (hl : args.length = 1) (h : ∀ (Q : Exit → Sl → AH → Prop),(∀ e s H,endA Tryz.prog [ResultVar.tmp 2] R e s H → Q e s H) → wpC Tryz.prog cd149 Q (enterA args) H) : ACalls Tryz.prog 149 args H R :=
  ACalls.intro (by kernel_rfl) Tryz.func149 rfl (by kernel_rfl) sl149 hl (of_decide_eq_true (by kernel_rfl)) (by kernel_rfl) h
def ords157 : List (Nat × List (Nat × Bool)) := []
def cd157 : Cd := (.seq (.reg [⟨⟨some 4,Op.assign (Operand.const (Value.bool false)),none⟩,[]⟩]) (.seq (.reg [⟨⟨some 5,Op.move (Operand.tmp 0),none⟩,[]⟩,
  ⟨⟨some 6,Op.call { callee := (Callee.value (Operand.func 149)),args := #[(Operand.tmp 5)],argTypes := #[3] },none⟩,[]⟩,
  ⟨⟨some 7,Op.move (Operand.tmp 6),none⟩,[]⟩,
  ⟨⟨some 8,Op.move (Operand.tmp 1),some (7,true)⟩,[]⟩,
  ⟨⟨some 9,Op.call { callee := (Callee.value (Operand.func 149)),args := #[(Operand.tmp 8)],argTypes := #[3] },some (7,true)⟩,[]⟩,
  ⟨⟨some 10,Op.unOp UnOp.not 4 (Operand.tmp 9),some (7,true)⟩,[]⟩,
  ⟨⟨some 11,Op.pick (Operand.tmp 7) (Operand.tmp 10) (Operand.const (Value.bool false)),none⟩,[]⟩,
  ⟨⟨some 12,Op.move (Operand.tmp 11),none⟩,[]⟩,
  ⟨⟨some 13,Op.move (Operand.tmp 0),some (12,false)⟩,[]⟩,
  ⟨⟨some 14,Op.move (Operand.tmp 1),some (12,false)⟩,[]⟩,
  ⟨⟨some 15,Op.binOp BinOp.lss 3 (Operand.tmp 13) (Operand.tmp 14) 3,some (12,false)⟩,[]⟩,
  ⟨⟨some 16,Op.pick (Operand.tmp 12) (Operand.const (Value.bool true)) (Operand.tmp 15),none⟩,[]⟩,
  ⟨⟨some 4,Op.assign (Operand.tmp 16),none⟩,[]⟩]) .ret))
theorem sl157 : slim Tryz.f157.ntmps ords157 (Tryz.f157.body.getD .skip) = some cd157 := by kernel_rfl
theorem in157 {args : List Value} {H : AH} {R : Value → AH → Prop} (hl : args.length = 2) (h : ∀ (Q : Exit → Sl → AH → Prop),(∀ e s H,endA Tryz.prog [ResultVar.tmp 4] R e s H → Q e s H) → wpC Tryz.prog cd157 Q (enterA args) H) : ACalls Tryz.prog 157 args H R :=
  ACalls.intro (by kernel_rfl) Tryz.func157 rfl (by kernel_rfl) sl157 hl (of_decide_eq_true (by kernel_rfl)) (by kernel_rfl) h
def ords151 : List (Nat × List (Nat × Bool)) := [(4,[(0,false),(1,false),(2,false),(3,false),(4,false),(5,false),(6,false),(7,false),(8,false),(9,false),(10,false),(11,false),(12,false),(13,true),(14,false)]),(6,[(0,false),(1,false),(2,false),(3,false),(4,false),(5,false),(6,false),(7,false),(8,false),(9,false),(10,false),(11,false),(12,false),(13,false),(14,false),(15,true),(16,false),(17,true)])]
def cd151 : Cd := (.seq (.reg [⟨⟨some 8,Op.move (Operand.tmp 1),none⟩,[]⟩,
  ⟨⟨some 9,Op.binOp BinOp.add 3 (Operand.tmp 8) (Operand.const (Value.int IntKind.i64 1)) 3,none⟩,[]⟩,
  ⟨⟨some 6,Op.assign (Operand.tmp 9),none⟩,[]⟩]) (.block 0 (.loop (.seq (.seq (.reg [⟨⟨some 10,Op.move (Operand.tmp 6),none⟩,[]⟩,
  ⟨⟨some 11,Op.move (Operand.tmp 2),none⟩,[]⟩,
  ⟨⟨some 12,Op.binOp BinOp.lss 3 (Operand.tmp 10) (Operand.tmp 11) 3,none⟩,[]⟩]) (.cond (Operand.tmp 12) .skip (.exit 0))) (.seq (.block 1 (.seq (.reg [⟨⟨some 15,Op.move (Operand.tmp 6),none⟩,[]⟩,
  ⟨⟨some 7,Op.assign (Operand.tmp 15),none⟩,[]⟩]) (.block 2 (.loop (.seq (.seq (.reg [⟨⟨some 16,Op.move (Operand.tmp 7),none⟩,[]⟩,
  ⟨⟨some 17,Op.move (Operand.tmp 1),none⟩,[]⟩,
  ⟨⟨some 18,Op.binOp BinOp.gtr 3 (Operand.tmp 16) (Operand.tmp 17) 3,none⟩,[]⟩,
  ⟨⟨some 19,Op.move (Operand.tmp 18),none⟩,[]⟩,
  ⟨⟨some 20,Op.move (Operand.tmp 0),some (19,true)⟩,[]⟩,
  ⟨⟨some 21,Op.move (Operand.tmp 7),some (19,true)⟩,[]⟩,
  ⟨⟨some 22,Op.indexAddr 27 (Operand.tmp 20) (Operand.tmp 21),some (19,true)⟩,[]⟩,
  ⟨⟨some 23,Op.load 3 (Operand.tmp 22),some (19,true)⟩,[]⟩,
  ⟨⟨some 24,Op.move (Operand.tmp 0),some (19,true)⟩,[]⟩,
  ⟨⟨some 25,Op.move (Operand.tmp 7),some (19,true)⟩,[]⟩,
  ⟨⟨some 26,Op.binOp BinOp.sub 3 (Operand.tmp 25) (Operand.const (Value.int IntKind.i64 1)) 3,some (19,true)⟩,[]⟩,
  ⟨⟨some 27,Op.indexAddr 27 (Operand.tmp 24) (Operand.tmp 26),some (19,true)⟩,[]⟩,
  ⟨⟨some 28,Op.load 3 (Operand.tmp 27),some (19,true)⟩,[]⟩,
  ⟨⟨some 29,Op.call { callee := (Callee.value (Operand.func 157)),args := #[(Operand.tmp 23),(Operand.tmp 28)],argTypes := #[3,3] },some (19,true)⟩,[]⟩,
  ⟨⟨some 30,Op.pick (Operand.tmp 19) (Operand.tmp 29) (Operand.const (Value.bool false)),none⟩,[]⟩]) (.cond (Operand.tmp 30) .skip (.exit 2))) (.seq (.block 3 (.reg [⟨⟨some 33,Op.move (Operand.tmp 0),none⟩,[]⟩,
  ⟨⟨some 34,Op.move (Operand.tmp 7),none⟩,[]⟩,
  ⟨⟨some 35,Op.move (Operand.tmp 0),none⟩,[]⟩,
  ⟨⟨some 36,Op.move (Operand.tmp 7),none⟩,[]⟩,
  ⟨⟨some 37,Op.binOp BinOp.sub 3 (Operand.tmp 36) (Operand.const (Value.int IntKind.i64 1)) 3,none⟩,[]⟩,
  ⟨⟨some 38,Op.move (Operand.tmp 0),none⟩,[]⟩,
  ⟨⟨some 39,Op.move (Operand.tmp 7),none⟩,[]⟩,
  ⟨⟨some 40,Op.binOp BinOp.sub 3 (Operand.tmp 39) (Operand.const (Value.int IntKind.i64 1)) 3,none⟩,[]⟩,
  ⟨⟨some 41,Op.indexAddr 27 (Operand.tmp 38) (Operand.tmp 40),none⟩,[]⟩,
  ⟨⟨some 42,Op.load 3 (Operand.tmp 41),none⟩,[]⟩,
  ⟨⟨some 43,Op.move (Operand.tmp 0),none⟩,[]⟩,
  ⟨⟨some 44,Op.move (Operand.tmp 7),none⟩,[]⟩,
  ⟨⟨some 45,Op.indexAddr 27 (Operand.tmp 43) (Operand.tmp 44),none⟩,[]⟩,
  ⟨⟨some 46,Op.load 3 (Operand.tmp 45),none⟩,[]⟩,
  ⟨⟨some 47,Op.indexAddr 27 (Operand.tmp 33) (Operand.tmp 34),none⟩,[]⟩,
  ⟨⟨none,Op.store 3 (Operand.tmp 47) (Operand.tmp 42),none⟩,[]⟩,
  ⟨⟨some 48,Op.indexAddr 27 (Operand.tmp 35) (Operand.tmp 37),none⟩,[]⟩,
  ⟨⟨none,Op.store 3 (Operand.tmp 48) (Operand.tmp 46),none⟩,[]⟩])) (.reg [⟨⟨some 31,Op.move (Operand.tmp 7),none⟩,[]⟩,
  ⟨⟨some 32,Op.binOp BinOp.sub 3 (Operand.tmp 31) (Operand.const (Value.int IntKind.i64 1)) 3,none⟩,[]⟩,
  ⟨⟨some 7,Op.assign (Operand.tmp 32),none⟩,[]⟩]))))))) (.reg [⟨⟨some 13,Op.move (Operand.tmp 6),none⟩,[]⟩,
  ⟨⟨some 14,Op.binOp BinOp.add 3 (Operand.tmp 13) (Operand.const (Value.int IntKind.i64 1)) 3,none⟩,[]⟩,
  ⟨⟨some 6,Op.assign (Operand.tmp 14),none⟩,[]⟩]))))))
theorem sl151 : slim Tryz.f151.ntmps ords151 (Tryz.f151.body.getD .skip) = some cd151 := by kernel_rfl
theorem in151 {args : List Value} {H : AH} {R : Value → AH → Prop} (hl : args.length = 3) (h : ∀ (Q : Exit → Sl → AH → Prop),(∀ e s H,endA Tryz.prog [] R e s H → Q e s H) → wpC Tryz.prog cd151 Q (enterA args) H) : ACalls Tryz.prog 151 args H R :=
  ACalls.intro (by kernel_rfl) Tryz.func151 rfl (by kernel_rfl) sl151 hl (of_decide_eq_true (by kernel_rfl)) (by kernel_rfl) h
def ords148 : List (Nat × List (Nat × Bool)) := []
def cd148 : Cd := (.seq (.reg [⟨⟨some 2,Op.assign (Operand.const (Value.int IntKind.i64 0)),none⟩,[]⟩]) (.seq (.seq (.reg [⟨⟨some 3,Op.move (Operand.tmp 0),none⟩,[]⟩,
  ⟨⟨some 4,Op.binOp BinOp.geq 69 (Operand.tmp 3) (Operand.const (Value.int IntKind.u64 4294967296)) 69,none⟩,[]⟩]) (.cond (Operand.tmp 4) (.seq (.reg [⟨⟨some 5,Op.move (Operand.tmp 0),none⟩,[]⟩,
  ⟨⟨some 6,Op.binOp BinOp.shr 69 (Operand.tmp 5) (Operand.const (Value.int IntKind.u64 32)) 110,none⟩,[]⟩,
  ⟨⟨some 0,Op.assign (Operand.tmp 6),none⟩,[]⟩]) (.reg [⟨⟨some 2,Op.assign (Operand.const (Value.int IntKind.i64 32)),none⟩,[]⟩])) .skip)) (.seq (.seq (.reg [⟨⟨some 7,Op.move (Operand.tmp 0),none⟩,[]⟩,
  ⟨⟨some 8,Op.binOp BinOp.geq 69 (Operand.tmp 7) (Operand.const (Value.int IntKind.u64 65536)) 69,none⟩,[]⟩]) (.cond (Operand.tmp 8) (.seq (.reg [⟨⟨some 9,Op.move (Operand.tmp 0),none⟩,[]⟩,
  ⟨⟨some 10,Op.binOp BinOp.shr 69 (Operand.tmp 9) (Operand.const (Value.int IntKind.u64 16)) 110,none⟩,[]⟩,
  ⟨⟨some 0,Op.assign (Operand.tmp 10),none⟩,[]⟩]) (.reg [⟨⟨some 11,Op.move (Operand.tmp 2),none⟩,[]⟩,
  ⟨⟨some 12,Op.binOp BinOp.add 3 (Operand.tmp 11) (Operand.const (Value.int IntKind.i64 16)) 3,none⟩,[]⟩,
  ⟨⟨some 2,Op.assign (Operand.tmp 12),none⟩,[]⟩])) .skip)) (.seq (.seq (.reg [⟨⟨some 13,Op.move (Operand.tmp 0),none⟩,[]⟩,
  ⟨⟨some 14,Op.binOp BinOp.geq 69 (Operand.tmp 13) (Operand.const (Value.int IntKind.u64 256)) 69,none⟩,[]⟩]) (.cond (Operand.tmp 14) (.seq (.reg [⟨⟨some 15,Op.move (Operand.tmp 0),none⟩,[]⟩,
  ⟨⟨some 16,Op.binOp BinOp.shr 69 (Operand.tmp 15) (Operand.const (Value.int IntKind.u64 8)) 110,none⟩,[]⟩,
  ⟨⟨some 0,Op.assign (Operand.tmp 16),none⟩,[]⟩]) (.reg [⟨⟨some 17,Op.move (Operand.tmp 2),none⟩,[]⟩,
  ⟨⟨some 18,Op.binOp BinOp.add 3 (Operand.tmp 17) (Operand.const (Value.int IntKind.i64 8)) 3,none⟩,[]⟩,
  ⟨⟨some 2,Op.assign (Operand.tmp 18),none⟩,[]⟩])) .skip)) (.seq (.reg [⟨⟨some 19,Op.move (Operand.tmp 2),none⟩,[]⟩,
  ⟨⟨some 20,Op.move (Operand.tmp 0),none⟩,[]⟩,
  ⟨⟨some 21,Op.convert 69 5 (Operand.tmp 20),none⟩,[]⟩,
  ⟨⟨some 22,Op.index 9 (Operand.const (Value.string { data := #[0,1,2,2,3,3,3,3,4,4,4,4,4,4,4,4,5,5,5,5,5,5,5,5,5,5,5,5,5,5,5,5,6,6,6,6,6,6,6,6,6,6,6,6,6,6,6,6,6,6,6,6,6,6,6,6,6,6,6,6,6,6,6,6,7,7,7,7,7,7,7,7,7,7,7,7,7,7,7,7,7,7,7,7,7,7,7,7,7,7,7,7,7,7,7,7,7,7,7,7,7,7,7,7,7,7,7,7,7,7,7,7,7,7,7,7,7,7,7,7,7,7,7,7,7,7,7,7,8,8,8,8,8,8,8,8,8,8,8,8,8,8,8,8,8,8,8,8,8,8,8,8,8,8,8,8,8,8,8,8,8,8,8,8,8,8,8,8,8,8,8,8,8,8,8,8,8,8,8,8,8,8,8,8,8,8,8,8,8,8,8,8,8,8,8,8,8,8,8,8,8,8,8,8,8,8,8,8,8,8,8,8,8,8,8,8,8,8,8,8,8,8,8,8,8,8,8,8,8,8,8,8,8,8,8,8,8,8,8,8,8,8,8,8,8,8,8,8,8,8,8,8,8,8,8,8] })) (Operand.tmp 21),none⟩,[]⟩,
  ⟨⟨some 23,Op.convert 5 3 (Operand.tmp 22),none⟩,[]⟩,
  ⟨⟨some 24,Op.binOp BinOp.add 3 (Operand.tmp 19) (Operand.tmp 23) 3,none⟩,[]⟩,
  ⟨⟨some 2,Op.assign (Operand.tmp 24),none⟩,[]⟩]) .ret)))))
theorem sl148 : slim Tryz.f148.ntmps ords148 (Tryz.f148.body.getD .skip) = some cd148 := by kernel_rfl
theorem in148 {args : List Value} {H : AH} {R : Value → AH → Prop} (hl : args.length = 1) (h : ∀ (Q : Exit → Sl → AH → Prop),(∀ e s H,endA Tryz.prog [ResultVar.tmp 2] R e s H → Q e s H) → wpC Tryz.prog cd148 Q (enterA args) H) : ACalls Tryz.prog 148 args H R :=
  ACalls.intro (by kernel_rfl) Tryz.func148 rfl (by kernel_rfl) sl148 hl (of_decide_eq_true (by kernel_rfl)) (by kernel_rfl) h
def ords126 : List (Nat × List (Nat × Bool)) := []
def cd126 : Cd := (.seq (.reg [⟨⟨some 2,Op.assign (Operand.const (Value.int IntKind.i64 0)),none⟩,[]⟩]) (.seq (.cond (Operand.const (Value.bool false)) (.seq (.reg [⟨⟨some 3,Op.move (Operand.tmp 0),none⟩,[]⟩,
  ⟨⟨some 4,Op.convert 110 132 (Operand.tmp 3),none⟩,[]⟩,
  ⟨⟨some 5,Op.call { callee := (Callee.value (Operand.func 147)),args := #[(Operand.tmp 4)],argTypes := #[132] },none⟩,[]⟩,
  ⟨⟨some 2,Op.assign (Operand.tmp 5),none⟩,[]⟩]) .ret) .skip) (.seq (.reg [⟨⟨some 6,Op.move (Operand.tmp 0),none⟩,[]⟩,
  ⟨⟨some 7,Op.call { callee := (Callee.value (Operand.func 148)),args := #[(Operand.tmp 6)],argTypes := #[69] },none⟩,[]⟩,
  ⟨⟨some 2,Op.assign (Operand.tmp 7),none⟩,[]⟩]) .ret)))
theorem sl126 : slim Tryz.f126.ntmps ords126 (Tryz.f126.body.getD .skip) = some cd126 := by kernel_rfl
theorem in126 {args : List Value} {H : AH} {R : Value → AH → Prop} (hl : args.length = 1) (h : ∀ (Q : Exit → Sl → AH → Prop),(∀ e s H,endA Tryz.prog [ResultVar.tmp 2] R e s H → Q e s H) → wpC Tryz.prog cd126 Q (enterA args) H) : ACalls Tryz.prog 126 args H R :=
  ACalls.intro (by kernel_rfl) Tryz.func126 rfl (by kernel_rfl) sl126 hl (of_decide_eq_true (by kernel_rfl)) (by kernel_rfl) h
def ords131 : List (Nat × List (Nat × Bool)) := [(17,[(0,false),(1,false),(2,false),(3,false),(4,false),(5,false),(6,false),(7,false),(8,false),(9,false),(10,false),(11,false),(12,true),(13,false),(14,false)])]
def cd131 : Cd := (.seq (.reg [⟨⟨some 8,Op.assign (Operand.const (Value.bool true)),none⟩,[]⟩]) (.seq (.reg [⟨⟨some 9,Op.assign (Operand.const (Value.bool true)),none⟩,[]⟩]) (.block 0 (.loop (.block 1 (.seq (.reg [⟨⟨some 19,Op.move (Operand.tmp 2),none⟩,[]⟩,
  ⟨⟨some 20,Op.move (Operand.tmp 1),none⟩,[]⟩,
  ⟨⟨some 21,Op.binOp BinOp.sub 3 (Operand.tmp 19) (Operand.tmp 20) 3,none⟩,[]⟩,
  ⟨⟨some 10,Op.assign (Operand.tmp 21),none⟩,[]⟩]) (.seq (.seq (.reg [⟨⟨some 22,Op.move (Operand.tmp 10),none⟩,[]⟩,
  ⟨⟨some 23,Op.binOp BinOp.leq 3 (Operand.tmp 22) (Operand.const (Value.int IntKind.i64 12)) 3,none⟩,[]⟩]) (.cond (Operand.tmp 23) (.seq (.reg [⟨⟨some 24,Op.move (Operand.tmp 0),none⟩,[]⟩,
  ⟨⟨some 25,Op.move (Operand.tmp 1),none⟩,[]⟩,
  ⟨⟨some 26,Op.move (Operand.tmp 2),none⟩,[]⟩,
  ⟨⟨some 27,Op.call { callee := (Callee.value (Operand.func 151)),args := #[(Operand.tmp 24),(Operand.tmp 25),(Operand.tmp 26)],argTypes := #[27,3,3] },none⟩,[]⟩]) .ret) .skip)) (.seq (.seq (.reg [⟨⟨some 28,Op.move (Operand.tmp 3),none⟩,[]⟩,
  ⟨⟨some 29,Op.binOp BinOp.eql 3 (Operand.tmp 28) (Operand.const (Value.int IntKind.i64 0)) 3,none⟩,[]⟩]) (.cond (Operand.tmp 29) (.seq (.reg [⟨⟨some 30,Op.move (Operand.tmp 0),none⟩,[]⟩,
  ⟨⟨some 31,Op.move (Operand.tmp 1),none⟩,[]⟩,
  ⟨⟨some 32,Op.move (Operand.tmp 2),none⟩,[]⟩,
  ⟨⟨some 33,Op.call { callee := (Callee.value (Operand.func 152)),args := #[(Operand.tmp 30),(Operand.tmp 31),(Operand.tmp 32)],argTypes := #[27,3,3] },none⟩,[]⟩]) .ret) .skip)) (.seq (.seq (.reg [⟨⟨some 34,Op.move (Operand.tmp 8),none⟩,[]⟩,
  ⟨⟨some 35,Op.unOp UnOp.not 4 (Operand.tmp 34),none⟩,[]⟩]) (.cond (Operand.tmp 35) (.seq (.reg [⟨⟨some 36,Op.move (Operand.tmp 0),none⟩,[]⟩,
  ⟨⟨some 37,Op.move (Operand.tmp 1),none⟩,[]⟩,
  ⟨⟨some 38,Op.move (Operand.tmp 2),none⟩,[]⟩,
  ⟨⟨some 39,Op.call { callee := (Callee.value (Operand.func 153)),args := #[(Operand.tmp 36),(Operand.tmp 37),(Operand.tmp 38)],argTypes := #[27,3,3] },none⟩,[]⟩]) (.reg [⟨⟨some 40,Op.move (Operand.tmp 3),none⟩,[]⟩,
  ⟨⟨some 41,Op.binOp BinOp.sub 3 (Operand.tmp 40) (Operand.const (Value.int IntKind.i64 1)) 3,none⟩,[]⟩,
  ⟨⟨some 3,Op.assign (Operand.tmp 41),none⟩,[]⟩])) .skip)) (.seq (.reg [⟨⟨some 43,Op.move (Operand.tmp 0),none⟩,[]⟩,
  ⟨⟨some 44,Op.move (Operand.tmp 1),none⟩,[]⟩,
  ⟨⟨some 45,Op.move (Operand.tmp 2),none⟩,[]⟩,
  ⟨⟨some 46,Op.call { callee := (Callee.value (Operand.func 154)),args := #[(Operand.tmp 43),(Operand.tmp 44),(Operand.tmp 45)],argTypes := #[27,3,3] },none⟩,[]⟩,
  ⟨⟨some 42,Op.move (Operand.tmp 46),none⟩,[]⟩,
  ⟨⟨some 47,Op.extract (Operand.tmp 42) 0,none⟩,[]⟩,
  ⟨⟨some 48,Op.extract (Operand.tmp 42) 1,none⟩,[]⟩,
  ⟨⟨some 11,Op.assign (Operand.tmp 47),none⟩,[]⟩,
  ⟨⟨some 12,Op.assign (Operand.tmp 48),none⟩,[]⟩]) (.seq (.seq (.reg [⟨⟨some 49,Op.move (Operand.tmp 12),none⟩,[]⟩,
  ⟨⟨some 50,Op.binOp BinOp.eql 139 (Operand.tmp 49) (Operand.const (Value.int IntKind.i64 2)) 139,none⟩,[]⟩]) (.cond (Operand.tmp 50) (.seq (.reg [⟨⟨some 51,Op.move (Operand.tmp 0),none⟩,[]⟩,
  ⟨⟨some 52,Op.move (Operand.tmp 1),none⟩,[]⟩,
  ⟨⟨some 53,Op.move (Operand.tmp 2),none⟩,[]⟩,
  ⟨⟨some 54,Op.call { callee := (Callee.value (Operand.func 155)),args := #[(Operand.tmp 51),(Operand.tmp 52),(Operand.tmp 53)],argTypes := #[27,3,3] },none⟩,[]⟩]) (.seq (.reg [⟨⟨some 55,Op.move (Operand.tmp 2),none⟩,[]⟩,
  ⟨⟨some 56,Op.binOp BinOp.sub 3 (Operand.tmp 55) (Operand.const (Value.int IntKind.i64 1)) 3,none⟩,[]⟩,
  ⟨⟨some 57,Op.move (Operand.tmp 11),none⟩,[]⟩,
  ⟨⟨some 58,Op.move (Operand.tmp 1),none⟩,[]⟩,
  ⟨⟨some 59,Op.binOp BinOp.sub 3 (Operand.tmp 57) (Operand.tmp 58) 3,none⟩,[]⟩,
  ⟨⟨some 60,Op.binOp BinOp.sub 3 (Operand.tmp 56) (Operand.tmp 59) 3,none⟩,[]⟩,
  ⟨⟨some 11,Op.assign (Operand.tmp 60),none⟩,[]⟩]) (.reg [⟨⟨some 12,Op.assign (Operand.const (Value.int IntKind.i64 1)),none⟩,[]⟩]))) .skip)) (.seq (.seq (.reg [⟨⟨some 61,Op.move (Operand.tmp 8),none⟩,[]⟩,
  ⟨⟨some 62,Op.move (Operand.tmp 61),none⟩,[]⟩,
  ⟨⟨some 63,Op.move (Operand.tmp 9),some (62,true)⟩,[]⟩,
  ⟨⟨some 64,Op.pick (Operand.tmp 62) (Operand.tmp 63) (Operand.const (Value.bool false)),none⟩,[]⟩,
  ⟨⟨some 65,Op.move (Operand.tmp 64),none⟩,[]⟩,
  ⟨⟨some 66,Op.move (Operand.tmp 12),some (65,true)⟩,[]⟩,
  ⟨⟨some 67,Op.binOp BinOp.eql 139 (Operand.tmp 66) (Operand.const (Value.int IntKind.i64 1)) 139,some (65,true)⟩,[]⟩,
  ⟨⟨some 68,Op.pick (Operand.tmp 65) (Operand.tmp 67) (Operand.const (Value.bool false)),none⟩,[]⟩]) (.cond (Operand.tmp 68) (.seq (.reg [⟨⟨some 69,Op.move (Operand.tmp 0),none⟩,[]⟩,
  ⟨⟨some 70,Op.move (Operand.tmp 1),none⟩,[]⟩,
  ⟨⟨some 71,Op.move (Operand.tmp 2),none⟩,[]⟩,
  ⟨⟨some 72,Op.call { callee := (Callee.value (Operand.func 156)),args := #[(Operand.tmp 69),(Operand.tmp 70),(Operand.tmp 71)],argTypes := #[27,3,3] },none⟩,[]⟩]) (.cond (Operand.tmp 72) .ret .skip)) .skip)) (.seq (.seq (.reg [⟨⟨some 73,Op.move (Operand.tmp 1),none⟩,[]⟩,
  ⟨⟨some 74,Op.binOp BinOp.gtr 3 (Operand.tmp 73) (Operand.const (Value.int IntKind.i64 0)) 3,none⟩,[]⟩,
  ⟨⟨some 75,Op.move (Operand.tmp 74),none⟩,[]⟩,
  ⟨⟨some 76,Op.move (Operand.tmp 0),some (75,true)⟩,[]⟩,
  ⟨⟨some 77,Op.move (Operand.tmp 1),some (75,true)⟩,[]⟩,
  ⟨⟨some 78,Op.binOp BinOp.sub 3 (Operand.tmp 77) (Operand.const (Value.int IntKind.i64 1)) 3,some (75,true)⟩,[]⟩,
  ⟨⟨some 79,Op.indexAddr 27 (Operand.tmp 76) (Operand.tmp 78),some (75,true)⟩,[]⟩,
  ⟨⟨some 80,Op.load 3 (Operand.tmp 79),some (75,true)⟩,[]⟩,
  ⟨⟨some 81,Op.move (Operand.tmp 0),some (75,true)⟩,[]⟩,
  ⟨⟨some 82,Op.move (Operand.tmp 11),some (75,true)⟩,[]⟩,
  ⟨⟨some 83,Op.indexAddr 27 (Operand.tmp 81) (Operand.tmp 82),some (75,true)⟩,[]⟩,
  ⟨⟨some 84,Op.load 3 (Operand.tmp 83),some (75,true)⟩,[]⟩,
  ⟨⟨some 85,Op.call { callee := (Callee.value (Operand.func 157)),args := #[(Operand.tmp 80),(Operand.tmp 84)],argTypes := #[3,3] },some (75,true)⟩,[]⟩,
  ⟨⟨some 86,Op.unOp UnOp.not 4 (Operand.tmp 85),some (75,true)⟩,[]⟩,
  ⟨⟨some 87,Op.pick (Operand.tmp 75) (Operand.tmp 86) (Operand.const (Value.bool false)),none⟩,[]⟩]) (.cond (Operand.tmp 87) (.seq (.reg [⟨⟨some 88,Op.move (Operand.tmp 0),none⟩,[]⟩,
  ⟨⟨some 89,Op.move (Operand.tmp 1),none⟩,[]⟩,
  ⟨⟨some 90,Op.move (Operand.tmp 2),none⟩,[]⟩,
  ⟨⟨some 91,Op.move (Operand.tmp 11),none⟩,[]⟩,
  ⟨⟨some 92,Op.call { callee := (Callee.value (Operand.func 158)),args := #[(Operand.tmp 88),(Operand.tmp 89),(Operand.tmp 90),(Operand.tmp 91)],argTypes := #[27,3,3,3] },none⟩,[]⟩,
  ⟨⟨some 13,Op.assign (Operand.tmp 92),none⟩,[]⟩]) (.seq (.reg [⟨⟨some 93,Op.move (Operand.tmp 13),none⟩,[]⟩,
  ⟨⟨some 1,Op.assign (Operand.tmp 93),none⟩,[]⟩]) (.exit 1))) .skip)) (.seq (.reg [⟨⟨some 95,Op.move (Operand.tmp 0),none⟩,[]⟩,
  ⟨⟨some 96,Op.move (Operand.tmp 1),none⟩,[]⟩,
  ⟨⟨some 97,Op.move (Operand.tmp 2),none⟩,[]⟩,
  ⟨⟨some 98,Op.move (Operand.tmp 11),none⟩,[]⟩,
  ⟨⟨some 99,Op.call { callee := (Callee.value (Operand.func 159)),args := #[(Operand.tmp 95),(Operand.tmp 96),(Operand.tmp 97),(Operand.tmp 98)],argTypes := #[27,3,3,3] },none⟩,[]⟩,
  ⟨⟨some 94,Op.move (Operand.tmp 99),none⟩,[]⟩,
  ⟨⟨some 100,Op.extract (Operand.tmp 94) 0,none⟩,[]⟩,
  ⟨⟨some 101,Op.extract (Operand.tmp 94) 1,none⟩,[]⟩,
  ⟨⟨some 14,Op.assign (Operand.tmp 100),none⟩,[]⟩,
  ⟨⟨some 15,Op.assign (Operand.tmp 101),none⟩,[]⟩]) (.seq (.reg [⟨⟨some 102,Op.move (Operand.tmp 15),none⟩,[]⟩,
  ⟨⟨some 9,Op.assign (Operand.tmp 102),none⟩,[]⟩]) (.seq (.reg [⟨⟨some 103,Op.move (Operand.tmp 14),none⟩,[]⟩,
  ⟨⟨some 104,Op.move (Operand.tmp 1),none⟩,[]⟩,
  ⟨⟨some 105,Op.binOp BinOp.sub 3 (Operand.tmp 103) (Operand.tmp 104) 3,none⟩,[]⟩,
  ⟨⟨some 106,Op.move (Operand.tmp 2),none⟩,[]⟩,
  ⟨⟨some 107,Op.move (Operand.tmp 14),none⟩,[]⟩,
  ⟨⟨some 108,Op.binOp BinOp.sub 3 (Operand.tmp 106) (Operand.tmp 107) 3,none⟩,[]⟩,
  ⟨⟨some 16,Op.assign (Operand.tmp 105),none⟩,[]⟩,
  ⟨⟨some 17,Op.assign (Operand.tmp 108),none⟩,[]⟩]) (.seq (.reg [⟨⟨some 109,Op.move (Operand.tmp 10),none⟩,[]⟩,
  ⟨⟨some 110,Op.binOp BinOp.quo 3 (Operand.tmp 109) (Operand.const (Value.int IntKind.i64 8)) 3,none⟩,[]⟩,
  ⟨⟨some 18,Op.assign (Operand.tmp 110),none⟩,[]⟩]) (.seq (.reg [⟨⟨some 111,Op.move (Operand.tmp 16),none⟩,[]⟩,
  ⟨⟨some 112,Op.move (Operand.tmp 17),none⟩,[]⟩,
  ⟨⟨some 113,Op.binOp BinOp.lss 3 (Operand.tmp 111) (Operand.tmp 112) 3,none⟩,[]⟩]) (.cond (Operand.tmp 113) (.seq (.reg [⟨⟨some 114,Op.move (Operand.tmp 16),none⟩,[]⟩,
  ⟨⟨some 115,Op.move (Operand.tmp 18),none⟩,[]⟩,
  ⟨⟨some 116,Op.binOp BinOp.geq 3 (Operand.tmp 114) (Operand.tmp 115) 3,none⟩,[]⟩,
  ⟨⟨some 8,Op.assign (Operand.tmp 116),none⟩,[]⟩]) (.seq (.reg [⟨⟨some 117,Op.move (Operand.tmp 0),none⟩,[]⟩,
  ⟨⟨some 118,Op.move (Operand.tmp 1),none⟩,[]⟩,
  ⟨⟨some 119,Op.move (Operand.tmp 14),none⟩,[]⟩,
  ⟨⟨some 120,Op.move (Operand.tmp 3),none⟩,[]⟩,
  ⟨⟨some 121,Op.call { callee := (Callee.value (Operand.func 131)),args := #[(Operand.tmp 117),(Operand.tmp 118),(Operand.tmp 119),(Operand.tmp 120)],argTypes := #[27,3,3,3] },none⟩,[]⟩]) (.reg [⟨⟨some 122,Op.move (Operand.tmp 14),none⟩,[]⟩,
  ⟨⟨some 123,Op.binOp BinOp.add 3 (Operand.tmp 122) (Operand.const (Value.int IntKind.i64 1)) 3,none⟩,[]⟩,
  ⟨⟨some 1,Op.assign (Operand.tmp 123),none⟩,[]⟩]))) (.seq (.reg [⟨⟨some 124,Op.move (Operand.tmp 17),none⟩,[]⟩,
  ⟨⟨some 125,Op.move (Operand.tmp 18),none⟩,[]⟩,
  ⟨⟨some 126,Op.binOp BinOp.geq 3 (Operand.tmp 124) (Operand.tmp 125) 3,none⟩,[]⟩,
  ⟨⟨some 8,Op.assign (Operand.tmp 126),none⟩,[]⟩]) (.seq (.reg [⟨⟨some 127,Op.move (Operand.tmp 0),none⟩,[]⟩,
  ⟨⟨some 128,Op.move (Operand.tmp 14),none⟩,[]⟩,
  ⟨⟨some 129,Op.binOp BinOp.add 3 (Operand.tmp 128) (Operand.const (Value.int IntKind.i64 1)) 3,none⟩,[]⟩,
  ⟨⟨some 130,Op.move (Operand.tmp 2),none⟩,[]⟩,
  ⟨⟨some 131,Op.move (Operand.tmp 3),none⟩,[]⟩,
  ⟨⟨some 132,Op.call { callee := (Callee.value (Operand.func 131)),args := #[(Operand.tmp 127),(Operand.tmp 129),(Operand.tmp 130),(Operand.tmp 131)],argTypes := #[27,3,3,3] },none⟩,[]⟩]) (.reg [⟨⟨some 133,Op.move (Operand.tmp 14),none⟩,[]⟩,
  ⟨⟨some 2,Op.assign (Operand.tmp 133),none⟩,[]⟩]))))))))))))))))))))))
theorem sl131 : slim Tryz.f131.ntmps ords131 (Tryz.f131.body.getD .skip) = some cd131 := by kernel_rfl
theorem in131 {args : List Value} {H : AH} {R : Value → AH → Prop} (hl : args.length = 4) (h : ∀ (Q : Exit → Sl → AH → Prop),(∀ e s H,endA Tryz.prog [] R e s H → Q e s H) → wpC Tryz.prog cd131 Q (enterA args) H) : ACalls Tryz.prog 131 args H R :=
  ACalls.intro (by kernel_rfl) Tryz.func131 rfl (by kernel_rfl) sl131 hl (of_decide_eq_true (by kernel_rfl)) (by kernel_rfl) h
def ords114 : List (Nat × List (Nat × Bool)) := []
def cd114 : Cd := (.seq (.reg [⟨⟨some 3,Op.move (Operand.tmp 0),none⟩,[]⟩,
  ⟨⟨some 4,Op.call { callee := (Callee.builtin Builtin.len),args := #[(Operand.tmp 3)],argTypes := #[27] },none⟩,[]⟩,
  ⟨⟨some 2,Op.assign (Operand.tmp 4),none⟩,[]⟩]) (.reg [⟨⟨some 5,Op.move (Operand.tmp 0),none⟩,[]⟩,
  ⟨⟨some 6,Op.move (Operand.tmp 2),none⟩,[]⟩,
  ⟨⟨some 7,Op.move (Operand.tmp 2),none⟩,[]⟩,
  ⟨⟨some 8,Op.convert 3 110 (Operand.tmp 7),none⟩,[]⟩,
  ⟨⟨some 9,Op.call { callee := (Callee.value (Operand.func 126)),args := #[(Operand.tmp 8)],argTypes := #[110] },none⟩,[]⟩,
  ⟨⟨some 10,Op.call { callee := (Callee.value (Operand.func 131)),args := #[(Operand.tmp 5),(Operand.const (Value.int IntKind.i64 0)),(Operand.tmp 6),(Operand.tmp 9)],argTypes := #[27,3,3,3] },none⟩,[]⟩]))
theorem sl114 : slim Tryz.f114.ntmps ords114 (Tryz.f114.body.getD .skip) = some cd114 := by kernel_rfl
theorem in114 {args : List Value} {H : AH} {R : Value → AH → Prop} (hl : args.length = 1) (h : ∀ (Q : Exit → Sl → AH → Prop),(∀ e s H,endA Tryz.prog [] R e s H → Q e s H) → wpC Tryz.prog cd114 Q (enterA args) H) : ACalls Tryz.prog 114 args H R :=
  ACalls.intro (by kernel_rfl) Tryz.func114 rfl (by kernel_rfl) sl114 hl (of_decide_eq_true (by kernel_rfl)) (by kernel_rfl) h
end Go.Proofs.YtelafbennmclfaaGreat.Ai
namespace Go.Proofs.YtelafbennmclfaaGreat.Ai
open Go Go.RowKit
theorem Own.else_pre {e : TypeId} {H0 H H' : AH} {v : Value} {xs : List Int} (h : Own e H0 H v xs) (hp : H0 <+: H) (he : Else v H H') : H0 <+: H' := by
  rcases h with h | ⟨o,h1,h2,h3⟩
  · exact hp.trans (else_pre_nil h.1 he)
  · exact Ai.else_pre hp (by rw [h1]; exact h2) he
theorem isNaN_c (x : Int) (H : AH) : ACalls Tryz.prog 149 [.int .i64 x] H fun r H' => r = .bool false ∧ H = H' := by
  refine in149 rfl ?_
  intro Q hQ
  simp (maxSteps := 1000000) (disch := omega) only [cd149,SS,eq_self,reduceIte,reduceCtorEq,Nat.reduceEqDiff,Nat.reduceAdd]
  refine hQ _ _ _ ?_
  simp (maxSteps := 1000000) (disch := omega) only [SS,eq_self,reduceIte,reduceCtorEq,Nat.reduceEqDiff,Nat.reduceAdd]
theorem Less_c (x y : Int) (H : AH) : ACalls Tryz.prog 157 [.int .i64 x,.int .i64 y] H fun r H' => r = .bool (decide (x < y)) ∧ H = H' := by
  refine in157 rfl ?_
  intro Q hQ
  simp (maxSteps := 1000000) (disch := omega) only [cd157,SS,eq_self,reduceIte,reduceCtorEq,Nat.reduceEqDiff,Nat.reduceAdd]
  refine CallH.by (isNaN_c ..) ?_
  rintro _ _ ⟨rfl,rfl⟩
  simp (maxSteps := 1000000) (disch := omega) only [SS,eq_self,reduceIte,reduceCtorEq,Nat.reduceEqDiff,Nat.reduceAdd]
  refine hQ _ _ _ ?_
  simp (maxSteps := 1000000) (disch := omega) only [SS,eq_self,reduceIte,reduceCtorEq,Nat.reduceEqDiff,Nat.reduceAdd]
theorem getD_set (xs : List Int) (i k : Nat) (x : Int) (hi : i < xs.length) : (xs.set i x).getD k 0 = if k = i then x else xs.getD k 0 := by
  rw [List.getD_eq_getElem?_getD,List.getElem?_set]
  by_cases h : i = k
  · subst h; rw [if_pos rfl,if_pos rfl,if_pos hi]; rfl
  · rw [if_neg h,if_neg (fun e => h e.symm),← List.getD_eq_getElem?_getD]
theorem swap_perm (xs : List Int) (i j : Nat) (hi : i < xs.length) (hj : j < xs.length) : ((xs.set i (xs.getD j 0)).set j (xs.getD i 0)).Perm xs := by
  have h := @List.set_set_perm _ xs i j hi hj
  have e1 : xs.getD j 0 = xs[j] := by simp [hj]
  have e2 : xs.getD i 0 = xs[i] := by simp [hi]
  rw [e1,e2]; exact h
theorem swap_at (zs : List Int) (j k p : Nat) (a b : Int) (hj : j < zs.length) (hk : k < zs.length) : ((zs.set j a).set k b).getD p 0 = if p = k then b else if p = j then a else zs.getD p 0 := by
  rw [getD_set (zs.set j a) k p b (by simpa using hk),getD_set zs j p a hj]
set_option maxHeartbeats 2000000 in
theorem insSort_c (o : Nat) (xs : List Int) (H : AH) (ho : H[o]? = some (.cells (ints xs) 3 false)) (hlen : xs.length ≤ 1099511627776) :
    ACalls Tryz.prog 151 [.slice (some ⟨o,0,none⟩) xs.length xs.length,.int .i64 0,.int .i64 (xs.length : Int)] H fun r H' => ∃ ys,H' = H.set o (.cells (ints ys) 3 false) ∧ ys.Perm xs ∧ Asc ys := by
  refine in151 rfl ?_
  intro Q hQ
  generalize hn : xs.length = n at *
  simp (maxSteps := 1000000) (disch := omega) only [cd151,wrap64,SS,eq_self,reduceIte,reduceCtorEq,Nat.reduceEqDiff,Nat.reduceAdd]
  refine LoopH.by (fun m s H' => ∃ i ys,m + i = n + 1 ∧ 1 ≤ i ∧ s 0 = .slice (some ⟨o,0,none⟩) n n ∧ s 1 = .int .i64 0 ∧ s 2 = .int .i64 (n : Int) ∧ s 6 = .int .i64 ((i : Nat) : Int) ∧ H' = H.set o (.cells (ints ys) 3 false) ∧ ys.Perm xs ∧ ∀ p q,p < q → q < i → q < n → ys.getD p 0 ≤ ys.getD q 0) n ?_ ?_
  · refine ⟨1,xs,by omega,by omega,rfl,rfl,rfl,rfl,?_,List.Perm.refl _,by omega⟩
    apply List.ext_getElem?
    intro j
    rw [List.getElem?_set]
    by_cases hj : o = j
    · subst hj; rw [if_pos rfl,if_pos (at_lt ho),ho]
    · rw [if_neg hj]
  · rintro m s H' ⟨i,ys,hm,hi1,h0,h1,h2,h6,rfl,hp,hs⟩
    have hyl : ys.length = n := by rw [hp.length_eq,hn]
    simp (maxSteps := 1000000) (disch := omega) only [h0,h1,h2,h6,SS,eq_self,reduceIte,reduceCtorEq,Nat.reduceEqDiff,Nat.reduceAdd]
    refine brD.intro (fun g => ?_) (fun g => ?_) <;> simp (maxSteps := 1000000) (disch := omega) only [h0,h1,h2,h6,SS,eq_self,reduceIte,reduceCtorEq,Nat.reduceEqDiff,Nat.reduceAdd]
    · have hi : i < n := by omega
      refine LoopH.by (fun m' s' H'' => ∃ zs,m' ≤ i ∧ s' 0 = .slice (some ⟨o,0,none⟩) n n ∧ s' 1 = .int .i64 0 ∧ s' 2 = .int .i64 (n : Int) ∧ s' 6 = .int .i64 ((i : Nat) : Int) ∧ s' 7 = .int .i64 ((m' : Nat) : Int) ∧ H'' = H.set o (.cells (ints zs) 3 false) ∧ zs.Perm xs ∧ ∀ p q,p < q → q ≤ i → q ≠ m' → zs.getD p 0 ≤ zs.getD q 0) i ?_ ?_
      · refine ⟨ys,Nat.le_refl _,?_⟩
        have f1 : ∀ p q,p < q → q ≤ i → q ≠ i → ys.getD p 0 ≤ ys.getD q 0 := fun p q h1 h2 h3 => hs p q h1 (by omega) (by omega)
        simp only [SS,eq_self,reduceIte,reduceCtorEq,Nat.reduceEqDiff,Nat.reduceAdd,h0,h1,h2,h6]
        exact ⟨hp,f1⟩
      · rintro j s' H'' ⟨zs,hj,g0,g1,g2,g6,g7,rfl,hq,hz⟩
        have hzl : zs.length = n := by rw [hq.length_eq,hn]
        have hc : (H.set o (.cells (ints zs) 3 false))[o]? = some (.cells (ints zs) 3 false) := at_set ho
        have out : (j = 0 ∨ zs.getD (j - 1) 0 ≤ zs.getD j 0) → ∀ p q,p < q → q < i + 1 → q < n → zs.getD p 0 ≤ zs.getD q 0 := by
          intro h p q h1 h2 h3
          by_cases e : q = j
          · subst e
            rcases h with h | h
            · omega
            · by_cases e2 : p = q - 1
              · subst e2; exact h
              · have := hz p (q - 1) (by omega) (by omega) (by omega)
                omega
          · exact hz p q h1 (by omega) e
        simp (maxSteps := 1000000) (disch := omega) only [g0,g1,g2,g6,g7,SS,eq_self,reduceIte,reduceCtorEq,Nat.reduceEqDiff,Nat.reduceAdd]
        refine brD.intro (fun q => ?_) (fun q => ?_)
        · have hj0 : 0 < j := by omega
          have e1 : ((j : Int) - 1).toNat = j - 1 := by omega
          have e3 : ((j : Int) - 1) = ((j - 1 : Nat) : Int) := by omega
          have c1 : cellA (H.set o (.cells (ints zs) 3 false)) o j = some (.int .i64 (zs.getD j 0)) := cell_ints hc (by omega)
          have c2 : cellA (H.set o (.cells (ints zs) 3 false)) o (j - 1) = some (.int .i64 (zs.getD (j - 1) 0)) := cell_ints hc (by omega)
          simp (maxSteps := 1000000) (disch := omega) only [q,g0,g1,g2,g6,g7,Int.toNat_natCast,Nat.zero_add,e1,c1,c2,wrap64,SS,eq_self,reduceIte,reduceCtorEq,Nat.reduceEqDiff,Nat.reduceAdd]
          refine CallH.by (Less_c ..) ?_
          rintro _ _ ⟨rfl,rfl⟩
          simp (maxSteps := 1000000) (disch := omega) only [q,SS,eq_self,reduceIte,reduceCtorEq,Nat.reduceEqDiff,Nat.reduceAdd]
          refine brD.intro (fun lt => ?_) (fun lt => ?_)
          · have st1 : ∀ x,storeA Tryz.prog 3 (.pointer (some ⟨o,j,none⟩)) (.int .i64 x) (H.set o (.cells (ints zs) 3 false)) = some (H.set o (.cells (ints (zs.set j x)) 3 false)) := by
              intro x; rw [st_ints cs3 hc (by omega),List.set_set]
            have st2 : ∀ x y,storeA Tryz.prog 3 (.pointer (some ⟨o,j - 1,none⟩)) (.int .i64 x) (H.set o (.cells (ints (zs.set j y)) 3 false)) = some (H.set o (.cells (ints ((zs.set j y).set (j - 1) x)) 3 false)) := by
              intro x y
              have : (H.set o (.cells (ints (zs.set j y)) 3 false))[o]? = some (.cells (ints (zs.set j y)) 3 false) := at_set ho
              rw [st_ints cs3 this (by simp; omega),List.set_set]
            simp (maxSteps := 1000000) (disch := omega) only [g0,g1,g2,g6,g7,Int.toNat_natCast,Nat.zero_add,e1,c1,c2,st1,st2,wrap64,SS,eq_self,reduceIte,reduceCtorEq,Nat.reduceEqDiff,Nat.reduceAdd]
            have f1 := swap_perm zs j (j - 1) (by omega) (by omega)
            have f2 : ∀ p q,p < q → q ≤ i → q ≠ j - 1 → ((zs.set j (zs.getD (j - 1) 0)).set (j - 1) (zs.getD j 0)).getD p 0 ≤ ((zs.set j (zs.getD (j - 1) 0)).set (j - 1) (zs.getD j 0)).getD q 0 := by
              intro p q h1 h2 h3
              rw [swap_at zs j (j - 1) p _ _ (by omega) (by omega),swap_at zs j (j - 1) q _ _ (by omega) (by omega),if_neg h3]
              by_cases ep : p = j - 1
              · rw [if_pos ep]
                by_cases eq : q = j
                · rw [if_pos eq]; omega
                · rw [if_neg eq]; exact hz j q (by omega) h2 eq
              · rw [if_neg ep]
                by_cases ep2 : p = j
                · rw [if_pos ep2,if_neg (by omega)]; exact hz (j - 1) q (by omega) h2 (by omega)
                · rw [if_neg ep2]
                  by_cases eq : q = j
                  · rw [if_pos eq]; exact hz p (j - 1) (by omega) (by omega) (by omega)
                  · rw [if_neg eq]; exact hz p q h1 h2 eq
            refine ⟨j - 1,by omega,(zs.set j (zs.getD (j - 1) 0)).set (j - 1) (zs.getD j 0),?_⟩
            (repeat' apply And.intro) <;> first | exact f1.trans hq | exact f2 | (simp only [Value.int.injEq,true_and]; omega) | omega | rfl | assumption | (simp; done) | (simp; omega)
          · simp (maxSteps := 1000000) (disch := omega) only [g0,g1,g2,g6,g7,wrap64,SS,eq_self,reduceIte,reduceCtorEq,Nat.reduceEqDiff,Nat.reduceAdd]
            have f1 := out (.inr (by omega))
            refine ⟨m - 1,by omega,i + 1,zs,?_⟩
            (repeat' apply And.intro) <;> first | exact hq | exact f1 | (simp only [Value.int.injEq,true_and]; omega) | omega | rfl | assumption | (simp; done) | (simp; omega)
        · simp (maxSteps := 1000000) (disch := omega) only [q,g0,g1,g2,g6,g7,wrap64,SS,eq_self,reduceIte,reduceCtorEq,Nat.reduceEqDiff,Nat.reduceAdd]
          have f1 := out (.inl (by omega))
          refine ⟨m - 1,by omega,i + 1,zs,?_⟩
          (repeat' apply And.intro) <;> first | exact hq | exact f1 | (simp only [Value.int.injEq,true_and]; omega) | omega | rfl | assumption | (simp; done) | (simp; omega)
    · refine hQ _ _ _ ?_
      simp (maxSteps := 1000000) (disch := omega) only [SS,eq_self,reduceIte,reduceCtorEq,Nat.reduceEqDiff,Nat.reduceAdd]
      refine ⟨ys,rfl,hp,?_⟩
      intro p q h1 h2
      exact hs p q h1 (by omega) (by omega)
theorem insNil_c (H : AH) : ACalls Tryz.prog 151 [.slice none 0 0,.int .i64 0,.int .i64 0] H fun r H' => H = H' := by
  refine in151 rfl ?_
  intro Q hQ
  simp (maxSteps := 1000000) (disch := omega) only [cd151,wrap64,SS,eq_self,reduceIte,reduceCtorEq,Nat.reduceEqDiff,Nat.reduceAdd]
  refine LoopH.by (fun m s H' => s 2 = .int .i64 0 ∧ s 6 = .int .i64 1 ∧ H = H') 0 ?_ ?_
  · exact ⟨rfl,rfl,rfl⟩
  · rintro m s H' ⟨h2,h6,rfl⟩
    simp (maxSteps := 1000000) (disch := omega) only [h2,h6,SS,eq_self,reduceIte,reduceCtorEq,Nat.reduceEqDiff,Nat.reduceAdd]
    refine brD.intro (fun h => absurd h (by decide)) (fun _ => ?_)
    simp (maxSteps := 1000000) (disch := omega) only [SS,eq_self,reduceIte,reduceCtorEq,Nat.reduceEqDiff,Nat.reduceAdd]
    refine hQ _ _ _ ?_
    simp (maxSteps := 1000000) (disch := omega) only [SS,eq_self,reduceIte,reduceCtorEq,Nat.reduceEqDiff,Nat.reduceAdd]
theorem wrapU64 {n : Int} (h1 : 0 ≤ n) (h2 : n < 18446744073709551616) : IntKind.u64.wrap n = n := by rw [IntKind.wrap_u64]; omega
theorem wrapU8 {n : Int} (h1 : 0 ≤ n) (h2 : n < 256) : IntKind.u8.wrap n = n := by rw [IntKind.wrap_u8]; omega
theorem str_ix {P : Program} {t : TypeId} (hu : P.underlying t = some .string) (s : ByteArray) (k : IntKind) (i : Int) (h0 : 0 ≤ i) (h1 : i.toNat < s.size) : ∃ b : UInt8,indexA P t (.string s) (.int k i) = some (.int .u8 b.toNat) := by
  have : s[i.toNat]? = some s[i.toNat] := by simp [h1]
  exact ⟨s[i.toNat],by simp only [indexA,hu,if_pos h0,this]⟩
set_option maxRecDepth 20000 in
theorem Len64_c (n : Int) (H : AH) (hn : 0 ≤ n ∧ n < 256) : ACalls Tryz.prog 148 [.int .u64 n] H fun r H' => (∃ k : Int,r = .int .i64 k) ∧ H = H' := by
  refine in148 rfl ?_
  intro Q hQ
  simp (maxSteps := 1000000) (disch := omega) only [cd148,SS,eq_self,reduceIte,reduceCtorEq,Nat.reduceEqDiff,Nat.reduceAdd]
  refine brD.intro (fun h => absurd h (by omega)) (fun _ => ?_)
  simp (maxSteps := 1000000) (disch := omega) only [SS,eq_self,reduceIte,reduceCtorEq,Nat.reduceEqDiff,Nat.reduceAdd]
  refine brD.intro (fun h => absurd h (by omega)) (fun _ => ?_)
  simp (maxSteps := 1000000) (disch := omega) only [SS,eq_self,reduceIte,reduceCtorEq,Nat.reduceEqDiff,Nat.reduceAdd]
  refine brD.intro (fun h => absurd h (by omega)) (fun _ => ?_)
  simp (maxSteps := 1000000) (disch := omega) only [wrapU8,SS,eq_self,reduceIte,reduceCtorEq,Nat.reduceEqDiff,Nat.reduceAdd]
  generalize hs : (ByteArray.mk _) = s
  have hz : s.size = 256 := by rw [← hs]; rfl
  obtain ⟨b,hb⟩ := str_ix (P := Tryz.prog) Tryz.underlying9 s .u8 n hn.1 (by omega)
  simp (maxSteps := 1000000) (disch := omega) only [hb,SS,eq_self,reduceIte,reduceCtorEq,Nat.reduceEqDiff,Nat.reduceAdd]
  refine hQ _ _ _ ?_
  simp (maxSteps := 1000000) (disch := omega) only [SS,eq_self,reduceIte,reduceCtorEq,Nat.reduceEqDiff,Nat.reduceAdd]
  exact ⟨_,rfl⟩
theorem Len_c (n : Int) (H : AH) (hn : 0 ≤ n ∧ n < 256) : ACalls Tryz.prog 126 [.int .u64 n] H fun r H' => (∃ k : Int,r = .int .i64 k) ∧ H = H' := by
  refine in126 rfl ?_
  intro Q hQ
  simp (maxSteps := 1000000) (disch := omega) only [cd126,SS,eq_self,reduceIte,reduceCtorEq,Nat.reduceEqDiff,Nat.reduceAdd]
  refine CallH.by (Len64_c n H hn) ?_
  rintro _ _ ⟨⟨k,rfl⟩,rfl⟩
  simp (maxSteps := 1000000) (disch := omega) only [SS,eq_self,reduceIte,reduceCtorEq,Nat.reduceEqDiff,Nat.reduceAdd]
  refine hQ _ _ _ ?_
  simp (maxSteps := 1000000) (disch := omega) only [SS,eq_self,reduceIte,reduceCtorEq,Nat.reduceEqDiff,Nat.reduceAdd]
  exact ⟨_,rfl⟩
theorem pdq_c (o : Nat) (xs : List Int) (l : Int) (H : AH) (ho : H[o]? = some (.cells (ints xs) 3 false)) (hlen : xs.length ≤ 12) :
    ACalls Tryz.prog 131 [.slice (some ⟨o,0,none⟩) xs.length xs.length,.int .i64 0,.int .i64 (xs.length : Int),.int .i64 l] H fun r H' => ∃ ys,H' = H.set o (.cells (ints ys) 3 false) ∧ ys.Perm xs ∧ Asc ys := by
  refine in131 rfl ?_
  intro Q hQ
  simp (maxSteps := 1000000) (disch := omega) only [cd131,SS,eq_self,reduceIte,reduceCtorEq,Nat.reduceEqDiff,Nat.reduceAdd]
  refine LoopH.by (fun m s H' => s 0 = .slice (some ⟨o,0,none⟩) xs.length xs.length ∧ s 1 = .int .i64 0 ∧ s 2 = .int .i64 (xs.length : Int) ∧ H = H') 0 ?_ ?_
  · exact ⟨rfl,rfl,rfl,rfl⟩
  · rintro m s H' ⟨h0,h1,h2,rfl⟩
    simp (maxSteps := 1000000) (disch := omega) only [h0,h1,h2,wrap64,SS,eq_self,reduceIte,reduceCtorEq,Nat.reduceEqDiff,Nat.reduceAdd]
    refine brD.intro (fun _ => ?_) (fun h => absurd h (by omega))
    simp (maxSteps := 1000000) (disch := omega) only [h0,h1,h2,SS,eq_self,reduceIte,reduceCtorEq,Nat.reduceEqDiff,Nat.reduceAdd]
    refine CallH.by (insSort_c o xs H ho (by omega)) ?_
    rintro r H1 hr
    simp (maxSteps := 1000000) (disch := omega) only [SS,eq_self,reduceIte,reduceCtorEq,Nat.reduceEqDiff,Nat.reduceAdd]
    refine hQ _ _ _ ?_
    simp (maxSteps := 1000000) (disch := omega) only [SS,eq_self,reduceIte,reduceCtorEq,Nat.reduceEqDiff,Nat.reduceAdd]
    exact hr
theorem pdqNil_c (l : Int) (H : AH) : ACalls Tryz.prog 131 [.slice none 0 0,.int .i64 0,.int .i64 0,.int .i64 l] H fun r H' => H = H' := by
  refine in131 rfl ?_
  intro Q hQ
  simp (maxSteps := 1000000) (disch := omega) only [cd131,SS,eq_self,reduceIte,reduceCtorEq,Nat.reduceEqDiff,Nat.reduceAdd]
  refine LoopH.by (fun m s H' => s 0 = .slice none 0 0 ∧ s 1 = .int .i64 0 ∧ s 2 = .int .i64 0 ∧ H = H') 0 ?_ ?_
  · exact ⟨rfl,rfl,rfl,rfl⟩
  · rintro m s H' ⟨h0,h1,h2,rfl⟩
    simp (maxSteps := 1000000) (disch := omega) only [h0,h1,h2,wrap64,SS,eq_self,reduceIte,reduceCtorEq,Nat.reduceEqDiff,Nat.reduceAdd]
    refine brD.intro (fun _ => ?_) (fun h => absurd h (by decide))
    simp (maxSteps := 1000000) (disch := omega) only [h0,h1,h2,SS,eq_self,reduceIte,reduceCtorEq,Nat.reduceEqDiff,Nat.reduceAdd]
    refine CallH.by (insNil_c ..) ?_
    rintro _ _ rfl
    simp (maxSteps := 1000000) (disch := omega) only [SS,eq_self,reduceIte,reduceCtorEq,Nat.reduceEqDiff,Nat.reduceAdd]
    refine hQ _ _ _ ?_
    simp (maxSteps := 1000000) (disch := omega) only [SS,eq_self,reduceIte,reduceCtorEq,Nat.reduceEqDiff,Nat.reduceAdd]
theorem Sort_c (v : Value) (xs : List Int) (H0 H : AH) (ho : Own 3 H0 H v xs) (hlen : xs.length ≤ 12) :
    ACalls Tryz.prog 114 [v] H fun r H' => ∃ ys,Own 3 H0 H' v ys ∧ ys.Perm xs ∧ Asc ys ∧ Else v H H' := by
  refine in114 rfl ?_
  intro Q hQ
  obtain ⟨p,e⟩ := ho.row.shape
  rcases ho with ⟨rfl,rfl⟩ | ⟨o,rfl,hoo,hc⟩
  · simp (maxSteps := 1000000) (disch := omega) only [cd114,wrapU64,List.length_nil,Int.natCast_zero,SS,eq_self,reduceIte,reduceCtorEq,Nat.reduceEqDiff,Nat.reduceAdd]
    refine CallH.by (Len_c _ _ (by decide)) ?_
    rintro _ _ ⟨⟨k,rfl⟩,rfl⟩
    simp (maxSteps := 1000000) (disch := omega) only [List.length_nil,Int.natCast_zero,SS,eq_self,reduceIte,reduceCtorEq,Nat.reduceEqDiff,Nat.reduceAdd]
    refine CallH.by (pdqNil_c k H) ?_
    rintro _ _ rfl
    simp (maxSteps := 1000000) (disch := omega) only [SS,eq_self,reduceIte,reduceCtorEq,Nat.reduceEqDiff,Nat.reduceAdd]
    refine hQ _ _ _ ?_
    simp (maxSteps := 1000000) (disch := omega) only [SS,eq_self,reduceIte,reduceCtorEq,Nat.reduceEqDiff,Nat.reduceAdd]
    exact ⟨[],.inl ⟨rfl,rfl⟩,List.Perm.refl _,fun i j _ h => by simp at h,Else.refl _ _⟩
  · simp (maxSteps := 1000000) (disch := omega) only [cd114,wrapU64,SS,eq_self,reduceIte,reduceCtorEq,Nat.reduceEqDiff,Nat.reduceAdd]
    refine CallH.by (Len_c _ _ (by omega)) ?_
    rintro _ _ ⟨⟨k,rfl⟩,rfl⟩
    simp (maxSteps := 1000000) (disch := omega) only [SS,eq_self,reduceIte,reduceCtorEq,Nat.reduceEqDiff,Nat.reduceAdd]
    refine CallH.by (pdq_c o xs k H hc hlen) ?_
    rintro _ H1 ⟨ys,rfl,hp,ha⟩
    simp (maxSteps := 1000000) (disch := omega) only [SS,eq_self,reduceIte,reduceCtorEq,Nat.reduceEqDiff,Nat.reduceAdd]
    refine hQ _ _ _ ?_
    simp (maxSteps := 1000000) (disch := omega) only [SS,eq_self,reduceIte,reduceCtorEq,Nat.reduceEqDiff,Nat.reduceAdd]
    exact ⟨ys,.inr ⟨o,by rw [hp.length_eq],hoo,at_set hc⟩,hp,ha,Else.set _ _⟩
def ords118 : List (Nat × List (Nat × Bool)) := []
def cd118 : Cd := (.seq (.reg [⟨⟨some 2,Op.box 53 (Operand.tmp 0),none⟩,[]⟩,
  ⟨⟨some 3,Op.box 53 (Operand.tmp 1),none⟩,[]⟩,
  ⟨⟨some 4,Op.assign (Operand.const (Value.bool false)),none⟩,[]⟩]) (.seq (.reg [⟨⟨some 5,Op.indexAddr 53 (Operand.tmp 2) (Operand.const (Value.int IntKind.i64 0)),none⟩,[]⟩,
  ⟨⟨some 6,Op.load 3 (Operand.tmp 5),none⟩,[]⟩,
  ⟨⟨some 7,Op.indexAddr 53 (Operand.tmp 3) (Operand.const (Value.int IntKind.i64 0)),none⟩,[]⟩,
  ⟨⟨some 8,Op.load 3 (Operand.tmp 7),none⟩,[]⟩,
  ⟨⟨some 9,Op.binOp BinOp.lss 3 (Operand.tmp 6) (Operand.tmp 8) 3,none⟩,[]⟩,
  ⟨⟨some 10,Op.move (Operand.tmp 9),none⟩,[]⟩,
  ⟨⟨some 11,Op.indexAddr 53 (Operand.tmp 2) (Operand.const (Value.int IntKind.i64 0)),some (10,false)⟩,[]⟩,
  ⟨⟨some 12,Op.load 3 (Operand.tmp 11),some (10,false)⟩,[]⟩,
  ⟨⟨some 13,Op.indexAddr 53 (Operand.tmp 3) (Operand.const (Value.int IntKind.i64 0)),some (10,false)⟩,[]⟩,
  ⟨⟨some 14,Op.load 3 (Operand.tmp 13),some (10,false)⟩,[]⟩,
  ⟨⟨some 15,Op.binOp BinOp.eql 3 (Operand.tmp 12) (Operand.tmp 14) 3,some (10,false)⟩,[]⟩,
  ⟨⟨some 16,Op.move (Operand.tmp 15),some (10,false)⟩,[]⟩,
  ⟨⟨some 17,Op.indexAddr 53 (Operand.tmp 2) (Operand.const (Value.int IntKind.i64 1)),some (16,true)⟩,[]⟩,
  ⟨⟨some 18,Op.load 3 (Operand.tmp 17),some (16,true)⟩,[]⟩,
  ⟨⟨some 19,Op.indexAddr 53 (Operand.tmp 3) (Operand.const (Value.int IntKind.i64 1)),some (16,true)⟩,[]⟩,
  ⟨⟨some 20,Op.load 3 (Operand.tmp 19),some (16,true)⟩,[]⟩,
  ⟨⟨some 21,Op.binOp BinOp.lss 3 (Operand.tmp 18) (Operand.tmp 20) 3,some (16,true)⟩,[]⟩,
  ⟨⟨some 22,Op.pick (Operand.tmp 16) (Operand.tmp 21) (Operand.const (Value.bool false)),some (10,false)⟩,[]⟩,
  ⟨⟨some 23,Op.pick (Operand.tmp 10) (Operand.const (Value.bool true)) (Operand.tmp 22),none⟩,[]⟩,
  ⟨⟨some 4,Op.assign (Operand.tmp 23),none⟩,[]⟩]) .ret))
theorem sl118 : slim Tryz.f118.ntmps ords118 (Tryz.f118.body.getD .skip) = some cd118 := by kernel_rfl
theorem in118 {args : List Value} {H : AH} {R : Value → AH → Prop} (hl : args.length = 2) (h : ∀ (Q : Exit → Sl → AH → Prop),(∀ e s H,endA Tryz.prog [ResultVar.tmp 4] R e s H → Q e s H) → wpC Tryz.prog cd118 Q (enterA args) H) : ACalls Tryz.prog 118 args H R :=
  ACalls.intro (by kernel_rfl) Tryz.func118 rfl (by kernel_rfl) sl118 hl (of_decide_eq_true (by kernel_rfl)) (by kernel_rfl) h
def ords127 : List (Nat × List (Nat × Bool)) := []
def cd127 : Cd := (.seq (.reg [⟨⟨some 4,Op.assign (Operand.const (Value.int IntKind.i64 0)),none⟩,[]⟩]) (.seq (.reg [⟨⟨some 7,Op.move (Operand.tmp 0),none⟩,[]⟩,
  ⟨⟨some 8,Op.call { callee := (Callee.value (Operand.func 149)),args := #[(Operand.tmp 7)],argTypes := #[3] },none⟩,[]⟩,
  ⟨⟨some 5,Op.assign (Operand.tmp 8),none⟩,[]⟩]) (.seq (.reg [⟨⟨some 9,Op.move (Operand.tmp 1),none⟩,[]⟩,
  ⟨⟨some 10,Op.call { callee := (Callee.value (Operand.func 149)),args := #[(Operand.tmp 9)],argTypes := #[3] },none⟩,[]⟩,
  ⟨⟨some 6,Op.assign (Operand.tmp 10),none⟩,[]⟩]) (.seq (.seq (.reg [⟨⟨some 11,Op.move (Operand.tmp 5),none⟩,[]⟩]) (.cond (Operand.tmp 11) (.seq (.seq (.reg [⟨⟨some 12,Op.move (Operand.tmp 6),none⟩,[]⟩]) (.cond (Operand.tmp 12) (.seq (.reg [⟨⟨some 4,Op.assign (Operand.const (Value.int IntKind.i64 0)),none⟩,[]⟩]) .ret) .skip)) (.seq (.reg [⟨⟨some 4,Op.assign (Operand.const (Value.int IntKind.i64 (-1))),none⟩,[]⟩]) .ret)) .skip)) (.seq (.seq (.reg [⟨⟨some 13,Op.move (Operand.tmp 6),none⟩,[]⟩]) (.cond (Operand.tmp 13) (.seq (.reg [⟨⟨some 4,Op.assign (Operand.const (Value.int IntKind.i64 1)),none⟩,[]⟩]) .ret) .skip)) (.seq (.seq (.reg [⟨⟨some 14,Op.move (Operand.tmp 0),none⟩,[]⟩,
  ⟨⟨some 15,Op.move (Operand.tmp 1),none⟩,[]⟩,
  ⟨⟨some 16,Op.binOp BinOp.lss 3 (Operand.tmp 14) (Operand.tmp 15) 3,none⟩,[]⟩]) (.cond (Operand.tmp 16) (.seq (.reg [⟨⟨some 4,Op.assign (Operand.const (Value.int IntKind.i64 (-1))),none⟩,[]⟩]) .ret) .skip)) (.seq (.seq (.reg [⟨⟨some 17,Op.move (Operand.tmp 0),none⟩,[]⟩,
  ⟨⟨some 18,Op.move (Operand.tmp 1),none⟩,[]⟩,
  ⟨⟨some 19,Op.binOp BinOp.gtr 3 (Operand.tmp 17) (Operand.tmp 18) 3,none⟩,[]⟩]) (.cond (Operand.tmp 19) (.seq (.reg [⟨⟨some 4,Op.assign (Operand.const (Value.int IntKind.i64 1)),none⟩,[]⟩]) .ret) .skip)) (.seq (.reg [⟨⟨some 4,Op.assign (Operand.const (Value.int IntKind.i64 0)),none⟩,[]⟩]) .ret))))))))
theorem sl127 : slim Tryz.f127.ntmps ords127 (Tryz.f127.body.getD .skip) = some cd127 := by kernel_rfl
theorem in127 {args : List Value} {H : AH} {R : Value → AH → Prop} (hl : args.length = 2) (h : ∀ (Q : Exit → Sl → AH → Prop),(∀ e s H,endA Tryz.prog [ResultVar.tmp 4] R e s H → Q e s H) → wpC Tryz.prog cd127 Q (enterA args) H) : ACalls Tryz.prog 127 args H R :=
  ACalls.intro (by kernel_rfl) Tryz.func127 rfl (by kernel_rfl) sl127 hl (of_decide_eq_true (by kernel_rfl)) (by kernel_rfl) h
def ords138 : List (Nat × List (Nat × Bool)) := []
def cd138 : Cd := (.seq (.reg [⟨⟨some 2,Op.assign (Operand.const (Value.int IntKind.i64 0)),none⟩,[]⟩]) (.seq (.reg [⟨⟨some 3,Op.assign (Operand.const (Value.int IntKind.i64 0)),none⟩,[]⟩]) (.seq (.seq (.reg [⟨⟨some 6,Op.move (Operand.tmp 0),none⟩,[]⟩,
  ⟨⟨some 7,Op.call { callee := (Callee.builtin Builtin.len),args := #[(Operand.tmp 6)],argTypes := #[27] },none⟩,[]⟩,
  ⟨⟨some 8,Op.move (Operand.const (Value.int IntKind.i64 0)),none⟩,[]⟩]) (.block 0 (.loop (.seq (.reg [⟨⟨some 9,Op.binOp BinOp.lss 3 (Operand.tmp 8) (Operand.tmp 7) 3,none⟩,[]⟩]) (.seq (.cond (Operand.tmp 9) .skip (.exit 0)) (.seq (.block 1 (.seq (.reg [⟨⟨some 10,Op.indexAddr 27 (Operand.tmp 6) (Operand.tmp 8),none⟩,[]⟩,
  ⟨⟨some 11,Op.load 3 (Operand.tmp 10),none⟩,[]⟩,
  ⟨⟨some 5,Op.assign (Operand.tmp 11),none⟩,[]⟩]) (.seq (.reg [⟨⟨some 12,Op.move (Operand.tmp 5),none⟩,[]⟩,
  ⟨⟨some 13,Op.move (Operand.tmp 3),none⟩,[]⟩,
  ⟨⟨some 14,Op.binOp BinOp.neq 3 (Operand.tmp 12) (Operand.tmp 13) 3,none⟩,[]⟩]) (.cond (Operand.tmp 14) (.seq (.reg [⟨⟨some 15,Op.move (Operand.tmp 5),none⟩,[]⟩,
  ⟨⟨some 2,Op.assign (Operand.tmp 15),none⟩,[]⟩]) .ret) .skip)))) (.reg [⟨⟨some 16,Op.binOp BinOp.add 3 (Operand.tmp 8) (Operand.const (Value.int IntKind.i64 1)) 3,none⟩,[]⟩,
  ⟨⟨some 8,Op.move (Operand.tmp 16),none⟩,[]⟩]))))))) (.seq (.reg [⟨⟨some 17,Op.move (Operand.tmp 3),none⟩,[]⟩,
  ⟨⟨some 2,Op.assign (Operand.tmp 17),none⟩,[]⟩]) .ret))))
theorem sl138 : slim Tryz.f138.ntmps ords138 (Tryz.f138.body.getD .skip) = some cd138 := by kernel_rfl
theorem in138 {args : List Value} {H : AH} {R : Value → AH → Prop} (hl : args.length = 1) (h : ∀ (Q : Exit → Sl → AH → Prop),(∀ e s H,endA Tryz.prog [ResultVar.tmp 2] R e s H → Q e s H) → wpC Tryz.prog cd138 Q (enterA args) H) : ACalls Tryz.prog 138 args H R :=
  ACalls.intro (by kernel_rfl) Tryz.func138 rfl (by kernel_rfl) sl138 hl (of_decide_eq_true (by kernel_rfl)) (by kernel_rfl) h
def ords124 : List (Nat × List (Nat × Bool)) := [(1,[(0,false),(1,false),(2,false),(3,false),(5,false),(6,false),(7,false),(8,false),(4,true),(9,true),(10,false),(11,true),(12,false)])]
def cd124 : Cd := (.seq (.reg [⟨⟨some 2,Op.box 53 (Operand.tmp 0),none⟩,[]⟩,
  ⟨⟨some 3,Op.box 53 (Operand.tmp 1),none⟩,[]⟩,
  ⟨⟨some 4,Op.assign (Operand.const (Value.int IntKind.i64 0)),none⟩,[]⟩]) (.seq (.reg [⟨⟨some 5,Op.indexAddr 53 (Operand.tmp 2) (Operand.const (Value.int IntKind.i64 0)),none⟩,[]⟩,
  ⟨⟨some 6,Op.load 3 (Operand.tmp 5),none⟩,[]⟩,
  ⟨⟨some 7,Op.indexAddr 53 (Operand.tmp 3) (Operand.const (Value.int IntKind.i64 0)),none⟩,[]⟩,
  ⟨⟨some 8,Op.load 3 (Operand.tmp 7),none⟩,[]⟩,
  ⟨⟨some 10,Op.indexAddr 53 (Operand.tmp 2) (Operand.const (Value.int IntKind.i64 1)),none⟩,[]⟩,
  ⟨⟨some 11,Op.load 3 (Operand.tmp 10),none⟩,[]⟩,
  ⟨⟨some 12,Op.indexAddr 53 (Operand.tmp 3) (Operand.const (Value.int IntKind.i64 1)),none⟩,[]⟩,
  ⟨⟨some 13,Op.load 3 (Operand.tmp 12),none⟩,[]⟩,
  ⟨⟨some 9,Op.call { callee := (Callee.value (Operand.func 127)),args := #[(Operand.tmp 6),(Operand.tmp 8)],argTypes := #[3,3] },none⟩,[⟨some 13,Op.load 3 (Operand.tmp 12),none⟩,⟨some 11,Op.load 3 (Operand.tmp 10),none⟩]⟩,
  ⟨⟨some 14,Op.call { callee := (Callee.value (Operand.func 127)),args := #[(Operand.tmp 11),(Operand.tmp 13)],argTypes := #[3,3] },none⟩,[]⟩,
  ⟨⟨some 15,Op.buildSlice 27 2 #[(0,(Operand.tmp 9)),(1,(Operand.tmp 14))],none⟩,[]⟩,
  ⟨⟨some 16,Op.call { callee := (Callee.value (Operand.func 138)),args := #[(Operand.tmp 15)],argTypes := #[27] },none⟩,[]⟩,
  ⟨⟨some 4,Op.assign (Operand.tmp 16),none⟩,[]⟩]) .ret))
theorem sl124 : slim Tryz.f124.ntmps ords124 (Tryz.f124.body.getD .skip) = some cd124 := by kernel_rfl
theorem in124 {args : List Value} {H : AH} {R : Value → AH → Prop} (hl : args.length = 2) (h : ∀ (Q : Exit → Sl → AH → Prop),(∀ e s H,endA Tryz.prog [ResultVar.tmp 4] R e s H → Q e s H) → wpC Tryz.prog cd124 Q (enterA args) H) : ACalls Tryz.prog 124 args H R :=
  ACalls.intro (by kernel_rfl) Tryz.func124 rfl (by kernel_rfl) sl124 hl (of_decide_eq_true (by kernel_rfl)) (by kernel_rfl) h
def ords102 : List (Nat × List (Nat × Bool)) := [(5,[(0,false),(1,false),(2,false),(3,false),(4,true),(5,false),(6,false),(7,false),(8,false),(9,false),(10,false),(11,true),(12,false),(13,false),(14,false),(15,false),(16,false),(17,false),(18,false),(19,false),(20,false),(21,false),(22,false),(23,false),(24,false),(25,false),(26,false),(27,false),(28,false),(29,false),(30,false),(31,true),(32,false),(33,false),(34,false)])]
def cd102 : Cd := (.seq (.reg [⟨⟨some 4,Op.assign (Operand.const (Value.bool false)),none⟩,[]⟩]) (.seq (.seq (.reg [⟨⟨some 5,Op.assign (Operand.const (Value.int IntKind.i64 0)),none⟩,[]⟩]) (.block 0 (.loop (.seq (.seq (.reg [⟨⟨some 7,Op.move (Operand.tmp 5),none⟩,[]⟩,
  ⟨⟨some 8,Op.move (Operand.tmp 0),none⟩,[]⟩,
  ⟨⟨some 9,Op.call { callee := (Callee.builtin Builtin.len),args := #[(Operand.tmp 8)],argTypes := #[24] },none⟩,[]⟩,
  ⟨⟨some 10,Op.binOp BinOp.lss 3 (Operand.tmp 7) (Operand.tmp 9) 3,none⟩,[]⟩]) (.cond (Operand.tmp 10) .skip (.exit 0))) (.seq (.block 1 (.seq (.reg [⟨⟨some 13,Op.move (Operand.tmp 0),none⟩,[]⟩,
  ⟨⟨some 14,Op.move (Operand.tmp 5),none⟩,[]⟩,
  ⟨⟨some 15,Op.indexAddr 24 (Operand.tmp 13) (Operand.tmp 14),none⟩,[]⟩,
  ⟨⟨some 16,Op.load 53 (Operand.tmp 15),none⟩,[]⟩,
  ⟨⟨some 6,Op.alloc 53,none⟩,[]⟩,
  ⟨⟨none,Op.store 53 (Operand.tmp 6) (Operand.tmp 16),none⟩,[]⟩]) (.seq (.reg [⟨⟨some 17,Op.indexAddr 53 (Operand.tmp 6) (Operand.const (Value.int IntKind.i64 0)),none⟩,[]⟩,
  ⟨⟨some 18,Op.load 3 (Operand.tmp 17),none⟩,[]⟩,
  ⟨⟨some 19,Op.move (Operand.tmp 1),none⟩,[]⟩,
  ⟨⟨some 20,Op.binOp BinOp.sub 3 (Operand.tmp 19) (Operand.const (Value.int IntKind.i64 1)) 3,none⟩,[]⟩,
  ⟨⟨some 21,Op.call { callee := (Callee.value (Operand.func 101)),args := #[(Operand.tmp 18),(Operand.const (Value.int IntKind.i64 0)),(Operand.tmp 20)],argTypes := #[3,3,3] },none⟩,[]⟩,
  ⟨⟨some 22,Op.unOp UnOp.not 4 (Operand.tmp 21),none⟩,[]⟩,
  ⟨⟨some 23,Op.move (Operand.tmp 22),none⟩,[]⟩,
  ⟨⟨some 24,Op.indexAddr 53 (Operand.tmp 6) (Operand.const (Value.int IntKind.i64 1)),some (23,false)⟩,[]⟩,
  ⟨⟨some 25,Op.load 3 (Operand.tmp 24),some (23,false)⟩,[]⟩,
  ⟨⟨some 26,Op.move (Operand.tmp 1),some (23,false)⟩,[]⟩,
  ⟨⟨some 27,Op.binOp BinOp.sub 3 (Operand.tmp 26) (Operand.const (Value.int IntKind.i64 1)) 3,some (23,false)⟩,[]⟩,
  ⟨⟨some 28,Op.call { callee := (Callee.value (Operand.func 101)),args := #[(Operand.tmp 25),(Operand.const (Value.int IntKind.i64 0)),(Operand.tmp 27)],argTypes := #[3,3,3] },some (23,false)⟩,[]⟩,
  ⟨⟨some 29,Op.unOp UnOp.not 4 (Operand.tmp 28),some (23,false)⟩,[]⟩,
  ⟨⟨some 30,Op.pick (Operand.tmp 23) (Operand.const (Value.bool true)) (Operand.tmp 29),none⟩,[]⟩,
  ⟨⟨some 31,Op.move (Operand.tmp 30),none⟩,[]⟩,
  ⟨⟨some 32,Op.indexAddr 53 (Operand.tmp 6) (Operand.const (Value.int IntKind.i64 0)),some (31,false)⟩,[]⟩,
  ⟨⟨some 33,Op.load 3 (Operand.tmp 32),some (31,false)⟩,[]⟩,
  ⟨⟨some 34,Op.indexAddr 53 (Operand.tmp 6) (Operand.const (Value.int IntKind.i64 1)),some (31,false)⟩,[]⟩,
  ⟨⟨some 35,Op.load 3 (Operand.tmp 34),some (31,false)⟩,[]⟩,
  ⟨⟨some 36,Op.binOp BinOp.geq 3 (Operand.tmp 33) (Operand.tmp 35) 3,some (31,false)⟩,[]⟩,
  ⟨⟨some 37,Op.pick (Operand.tmp 31) (Operand.const (Value.bool true)) (Operand.tmp 36),none⟩,[]⟩,
  ⟨⟨some 38,Op.move (Operand.tmp 37),none⟩,[]⟩,
  ⟨⟨some 39,Op.move (Operand.tmp 5),some (38,false)⟩,[]⟩,
  ⟨⟨some 40,Op.binOp BinOp.gtr 3 (Operand.tmp 39) (Operand.const (Value.int IntKind.i64 0)) 3,some (38,false)⟩,[]⟩,
  ⟨⟨some 41,Op.move (Operand.tmp 40),some (38,false)⟩,[]⟩,
  ⟨⟨some 42,Op.move (Operand.tmp 0),some (41,true)⟩,[]⟩,
  ⟨⟨some 43,Op.move (Operand.tmp 5),some (41,true)⟩,[]⟩,
  ⟨⟨some 44,Op.binOp BinOp.sub 3 (Operand.tmp 43) (Operand.const (Value.int IntKind.i64 1)) 3,some (41,true)⟩,[]⟩,
  ⟨⟨some 45,Op.indexAddr 24 (Operand.tmp 42) (Operand.tmp 44),some (41,true)⟩,[]⟩,
  ⟨⟨some 46,Op.load 53 (Operand.tmp 45),some (41,true)⟩,[]⟩,
  ⟨⟨some 47,Op.load 53 (Operand.tmp 6),some (41,true)⟩,[]⟩,
  ⟨⟨some 48,Op.call { callee := (Callee.value (Operand.func 118)),args := #[(Operand.tmp 46),(Operand.tmp 47)],argTypes := #[53,53] },some (41,true)⟩,[]⟩,
  ⟨⟨some 49,Op.unOp UnOp.not 4 (Operand.tmp 48),some (41,true)⟩,[]⟩,
  ⟨⟨some 50,Op.pick (Operand.tmp 41) (Operand.tmp 49) (Operand.const (Value.bool false)),some (38,false)⟩,[]⟩,
  ⟨⟨some 51,Op.pick (Operand.tmp 38) (Operand.const (Value.bool true)) (Operand.tmp 50),none⟩,[]⟩]) (.cond (Operand.tmp 51) (.seq (.reg [⟨⟨some 4,Op.assign (Operand.const (Value.bool false)),none⟩,[]⟩]) .ret) .skip)))) (.reg [⟨⟨some 11,Op.move (Operand.tmp 5),none⟩,[]⟩,
  ⟨⟨some 12,Op.binOp BinOp.add 3 (Operand.tmp 11) (Operand.const (Value.int IntKind.i64 1)) 3,none⟩,[]⟩,
  ⟨⟨some 5,Op.assign (Operand.tmp 12),none⟩,[]⟩])))))) (.seq (.reg [⟨⟨some 4,Op.assign (Operand.const (Value.bool true)),none⟩,[]⟩]) .ret)))
theorem sl102 : slim Tryz.f102.ntmps ords102 (Tryz.f102.body.getD .skip) = some cd102 := by kernel_rfl
theorem in102 {args : List Value} {H : AH} {R : Value → AH → Prop} (hl : args.length = 2) (h : ∀ (Q : Exit → Sl → AH → Prop),(∀ e s H,endA Tryz.prog [ResultVar.tmp 4] R e s H → Q e s H) → wpC Tryz.prog cd102 Q (enterA args) H) : ACalls Tryz.prog 102 args H R :=
  ACalls.intro (by kernel_rfl) Tryz.func102 rfl (by kernel_rfl) sl102 hl (of_decide_eq_true (by kernel_rfl)) (by kernel_rfl) h
def ords106 : List (Nat × List (Nat × Bool)) := [(4,[(0,false),(1,false),(2,false),(3,false),(4,false),(5,false),(6,false),(7,false),(8,false),(9,false),(10,false),(11,false),(12,false),(13,false),(14,false),(15,false),(16,false),(17,false),(18,false),(19,false),(20,false),(21,false),(22,false),(23,false),(24,false),(25,false),(26,true),(27,false),(28,false),(29,false)])]
def cd106 : Cd := (.seq (.reg [⟨⟨some 4,Op.assign (Operand.const (Value.bool false)),none⟩,[]⟩]) (.seq (.seq (.reg [⟨⟨some 7,Op.move (Operand.tmp 0),none⟩,[]⟩,
  ⟨⟨some 8,Op.call { callee := (Callee.builtin Builtin.len),args := #[(Operand.tmp 7)],argTypes := #[24] },none⟩,[]⟩,
  ⟨⟨some 9,Op.move (Operand.const (Value.int IntKind.i64 0)),none⟩,[]⟩]) (.block 0 (.loop (.seq (.reg [⟨⟨some 10,Op.binOp BinOp.lss 3 (Operand.tmp 9) (Operand.tmp 8) 3,none⟩,[]⟩]) (.seq (.cond (Operand.tmp 10) .skip (.exit 0)) (.seq (.block 1 (.seq (.reg [⟨⟨some 11,Op.move (Operand.tmp 9),none⟩,[]⟩,
  ⟨⟨some 12,Op.indexAddr 24 (Operand.tmp 7) (Operand.tmp 9),none⟩,[]⟩,
  ⟨⟨some 13,Op.load 53 (Operand.tmp 12),none⟩,[]⟩,
  ⟨⟨some 6,Op.alloc 53,none⟩,[]⟩,
  ⟨⟨some 5,Op.assign (Operand.tmp 11),none⟩,[]⟩,
  ⟨⟨none,Op.store 53 (Operand.tmp 6) (Operand.tmp 13),none⟩,[]⟩]) (.seq (.reg [⟨⟨some 14,Op.indexAddr 53 (Operand.tmp 6) (Operand.const (Value.int IntKind.i64 0)),none⟩,[]⟩,
  ⟨⟨some 15,Op.load 3 (Operand.tmp 14),none⟩,[]⟩,
  ⟨⟨some 16,Op.binOp BinOp.lss 3 (Operand.tmp 15) (Operand.const (Value.int IntKind.i64 0)) 3,none⟩,[]⟩,
  ⟨⟨some 17,Op.move (Operand.tmp 16),none⟩,[]⟩,
  ⟨⟨some 18,Op.indexAddr 53 (Operand.tmp 6) (Operand.const (Value.int IntKind.i64 0)),some (17,false)⟩,[]⟩,
  ⟨⟨some 19,Op.load 3 (Operand.tmp 18),some (17,false)⟩,[]⟩,
  ⟨⟨some 20,Op.indexAddr 53 (Operand.tmp 6) (Operand.const (Value.int IntKind.i64 1)),some (17,false)⟩,[]⟩,
  ⟨⟨some 21,Op.load 3 (Operand.tmp 20),some (17,false)⟩,[]⟩,
  ⟨⟨some 22,Op.binOp BinOp.geq 3 (Operand.tmp 19) (Operand.tmp 21) 3,some (17,false)⟩,[]⟩,
  ⟨⟨some 23,Op.pick (Operand.tmp 17) (Operand.const (Value.bool true)) (Operand.tmp 22),none⟩,[]⟩,
  ⟨⟨some 24,Op.move (Operand.tmp 23),none⟩,[]⟩,
  ⟨⟨some 25,Op.indexAddr 53 (Operand.tmp 6) (Operand.const (Value.int IntKind.i64 1)),some (24,false)⟩,[]⟩,
  ⟨⟨some 26,Op.load 3 (Operand.tmp 25),some (24,false)⟩,[]⟩,
  ⟨⟨some 27,Op.move (Operand.tmp 1),some (24,false)⟩,[]⟩,
  ⟨⟨some 28,Op.binOp BinOp.geq 3 (Operand.tmp 26) (Operand.tmp 27) 3,some (24,false)⟩,[]⟩,
  ⟨⟨some 29,Op.pick (Operand.tmp 24) (Operand.const (Value.bool true)) (Operand.tmp 28),none⟩,[]⟩,
  ⟨⟨some 30,Op.move (Operand.tmp 29),none⟩,[]⟩,
  ⟨⟨some 31,Op.move (Operand.tmp 5),some (30,false)⟩,[]⟩,
  ⟨⟨some 32,Op.binOp BinOp.gtr 3 (Operand.tmp 31) (Operand.const (Value.int IntKind.i64 0)) 3,some (30,false)⟩,[]⟩,
  ⟨⟨some 33,Op.move (Operand.tmp 32),some (30,false)⟩,[]⟩,
  ⟨⟨some 34,Op.move (Operand.tmp 0),some (33,true)⟩,[]⟩,
  ⟨⟨some 35,Op.move (Operand.tmp 5),some (33,true)⟩,[]⟩,
  ⟨⟨some 36,Op.binOp BinOp.sub 3 (Operand.tmp 35) (Operand.const (Value.int IntKind.i64 1)) 3,some (33,true)⟩,[]⟩,
  ⟨⟨some 37,Op.indexAddr 24 (Operand.tmp 34) (Operand.tmp 36),some (33,true)⟩,[]⟩,
  ⟨⟨some 38,Op.load 53 (Operand.tmp 37),some (33,true)⟩,[]⟩,
  ⟨⟨some 39,Op.load 53 (Operand.tmp 6),some (33,true)⟩,[]⟩,
  ⟨⟨some 40,Op.call { callee := (Callee.value (Operand.func 124)),args := #[(Operand.tmp 38),(Operand.tmp 39)],argTypes := #[53,53] },some (33,true)⟩,[]⟩,
  ⟨⟨some 41,Op.binOp BinOp.geq 3 (Operand.tmp 40) (Operand.const (Value.int IntKind.i64 0)) 3,some (33,true)⟩,[]⟩,
  ⟨⟨some 42,Op.pick (Operand.tmp 33) (Operand.tmp 41) (Operand.const (Value.bool false)),some (30,false)⟩,[]⟩,
  ⟨⟨some 43,Op.pick (Operand.tmp 30) (Operand.const (Value.bool true)) (Operand.tmp 42),none⟩,[]⟩]) (.cond (Operand.tmp 43) (.seq (.reg [⟨⟨some 4,Op.assign (Operand.const (Value.bool false)),none⟩,[]⟩]) .ret) .skip)))) (.reg [⟨⟨some 44,Op.binOp BinOp.add 3 (Operand.tmp 9) (Operand.const (Value.int IntKind.i64 1)) 3,none⟩,[]⟩,
  ⟨⟨some 9,Op.move (Operand.tmp 44),none⟩,[]⟩]))))))) (.seq (.reg [⟨⟨some 4,Op.assign (Operand.const (Value.bool true)),none⟩,[]⟩]) .ret)))
theorem sl106 : slim Tryz.f106.ntmps ords106 (Tryz.f106.body.getD .skip) = some cd106 := by kernel_rfl
theorem in106 {args : List Value} {H : AH} {R : Value → AH → Prop} (hl : args.length = 2) (h : ∀ (Q : Exit → Sl → AH → Prop),(∀ e s H,endA Tryz.prog [ResultVar.tmp 4] R e s H → Q e s H) → wpC Tryz.prog cd106 Q (enterA args) H) : ACalls Tryz.prog 106 args H R :=
  ACalls.intro (by kernel_rfl) Tryz.func106 rfl (by kernel_rfl) sl106 hl (of_decide_eq_true (by kernel_rfl)) (by kernel_rfl) h
def ords69 : List (Nat × List (Nat × Bool)) := []
def cd69 : Cd := (.seq (.reg [⟨⟨some 1,Op.box 26 (Operand.tmp 0),none⟩,[]⟩,
  ⟨⟨some 2,Op.assign (Operand.const (Value.bool false)),none⟩,[]⟩]) (.seq (.reg [⟨⟨some 3,Op.fieldAddr 26 (Operand.tmp 1) 0,none⟩,[]⟩,
  ⟨⟨some 4,Op.load 3 (Operand.tmp 3),none⟩,[]⟩,
  ⟨⟨some 5,Op.call { callee := (Callee.value (Operand.func 101)),args := #[(Operand.tmp 4),(Operand.const (Value.int IntKind.i64 0)),(Operand.const (Value.int IntKind.i64 8))],argTypes := #[3,3,3] },none⟩,[]⟩,
  ⟨⟨some 6,Op.move (Operand.tmp 5),none⟩,[]⟩,
  ⟨⟨some 7,Op.fieldAddr 26 (Operand.tmp 1) 1,some (6,true)⟩,[]⟩,
  ⟨⟨some 8,Op.load 24 (Operand.tmp 7),some (6,true)⟩,[]⟩,
  ⟨⟨some 9,Op.fieldAddr 26 (Operand.tmp 1) 0,some (6,true)⟩,[]⟩,
  ⟨⟨some 10,Op.load 3 (Operand.tmp 9),some (6,true)⟩,[]⟩,
  ⟨⟨some 11,Op.call { callee := (Callee.value (Operand.func 102)),args := #[(Operand.tmp 8),(Operand.tmp 10)],argTypes := #[24,3] },some (6,true)⟩,[]⟩,
  ⟨⟨some 12,Op.pick (Operand.tmp 6) (Operand.tmp 11) (Operand.const (Value.bool false)),none⟩,[]⟩,
  ⟨⟨some 2,Op.assign (Operand.tmp 12),none⟩,[]⟩]) .ret))
theorem sl69 : slim Tryz.f69.ntmps ords69 (Tryz.f69.body.getD .skip) = some cd69 := by kernel_rfl
theorem in69 {args : List Value} {H : AH} {R : Value → AH → Prop} (hl : args.length = 1) (h : ∀ (Q : Exit → Sl → AH → Prop),(∀ e s H,endA Tryz.prog [ResultVar.tmp 2] R e s H → Q e s H) → wpC Tryz.prog cd69 Q (enterA args) H) : ACalls Tryz.prog 69 args H R :=
  ACalls.intro (by kernel_rfl) Tryz.func69 rfl (by kernel_rfl) sl69 hl (of_decide_eq_true (by kernel_rfl)) (by kernel_rfl) h
def ords73 : List (Nat × List (Nat × Bool)) := []
def cd73 : Cd := (.seq (.reg [⟨⟨some 1,Op.box 26 (Operand.tmp 0),none⟩,[]⟩,
  ⟨⟨some 2,Op.assign (Operand.const (Value.bool false)),none⟩,[]⟩]) (.seq (.reg [⟨⟨some 3,Op.fieldAddr 26 (Operand.tmp 1) 0,none⟩,[]⟩,
  ⟨⟨some 4,Op.load 3 (Operand.tmp 3),none⟩,[]⟩,
  ⟨⟨some 5,Op.call { callee := (Callee.value (Operand.func 90)),args := #[(Operand.tmp 4),(Operand.const (Value.int IntKind.i64 0)),(Operand.const (Value.int IntKind.i64 8))],argTypes := #[3,3,3] },none⟩,[]⟩,
  ⟨⟨some 6,Op.move (Operand.tmp 5),none⟩,[]⟩,
  ⟨⟨some 7,Op.fieldAddr 26 (Operand.tmp 1) 1,some (6,true)⟩,[]⟩,
  ⟨⟨some 8,Op.load 24 (Operand.tmp 7),some (6,true)⟩,[]⟩,
  ⟨⟨some 9,Op.fieldAddr 26 (Operand.tmp 1) 0,some (6,true)⟩,[]⟩,
  ⟨⟨some 10,Op.load 3 (Operand.tmp 9),some (6,true)⟩,[]⟩,
  ⟨⟨some 11,Op.call { callee := (Callee.value (Operand.func 106)),args := #[(Operand.tmp 8),(Operand.tmp 10)],argTypes := #[24,3] },some (6,true)⟩,[]⟩,
  ⟨⟨some 12,Op.pick (Operand.tmp 6) (Operand.tmp 11) (Operand.const (Value.bool false)),none⟩,[]⟩,
  ⟨⟨some 2,Op.assign (Operand.tmp 12),none⟩,[]⟩]) .ret))
theorem sl73 : slim Tryz.f73.ntmps ords73 (Tryz.f73.body.getD .skip) = some cd73 := by kernel_rfl
theorem in73 {args : List Value} {H : AH} {R : Value → AH → Prop} (hl : args.length = 1) (h : ∀ (Q : Exit → Sl → AH → Prop),(∀ e s H,endA Tryz.prog [ResultVar.tmp 2] R e s H → Q e s H) → wpC Tryz.prog cd73 Q (enterA args) H) : ACalls Tryz.prog 73 args H R :=
  ACalls.intro (by kernel_rfl) Tryz.func73 rfl (by kernel_rfl) sl73 hl (of_decide_eq_true (by kernel_rfl)) (by kernel_rfl) h
end Go.Proofs.YtelafbennmclfaaGreat.Ai
namespace Go.Proofs.YtelafbennmclfaaGreat.Ai
open Go Go.RowKit
def pairLt (p q : Int × Int) : Prop := p.1 < q.1 ∨ p.1 = q.1 ∧ p.2 < q.2
instance (p q : Int × Int) : Decidable (pairLt p q) := by unfold pairLt; infer_instance
def prOk (n : Int) (ps : List (Int × Int)) (i : Nat) : Prop :=
  0 ≤ (ps.getD i (0,0)).1 ∧ (ps.getD i (0,0)).1 < (ps.getD i (0,0)).2 ∧ (ps.getD i (0,0)).2 < n ∧ (0 < i → pairLt (ps.getD (i - 1) (0,0)) (ps.getD i (0,0)))
instance (n : Int) (ps : List (Int × Int)) (i : Nat) : Decidable (prOk n ps i) := by unfold prOk; infer_instance
def PrU (n : Int) (ps : List (Int × Int)) (k : Nat) : Prop := ∀ i,i < k → prOk n ps i
instance (n : Int) (ps : List (Int × Int)) (k : Nat) : Decidable (PrU n ps k) := by unfold PrU; infer_instance
def Grd (n : Int) (ps : List (Int × Int)) : Prop := (0 ≤ n ∧ n ≤ 8) ∧ PrU n ps ps.length
instance (n : Int) (ps : List (Int × Int)) : Decidable (Grd n ps) := by unfold Grd; infer_instance
theorem PrU.zero (n : Int) (ps : List (Int × Int)) : PrU n ps 0 := fun i h => absurd h (Nat.not_lt_zero i)
theorem PrU.succ {n : Int} {ps : List (Int × Int)} {k : Nat} (h : PrU n ps k) (h2 : prOk n ps k) : PrU n ps (k + 1) := by
  intro i hi
  rcases Nat.lt_succ_iff_lt_or_eq.1 hi with g | g
  · exact h i g
  · rw [g]; exact h2
theorem PrU.no {n : Int} {ps : List (Int × Int)} {k i : Nat} (hi : i < k) (h : ¬ prOk n ps i) : ¬ PrU n ps k := fun g => h (g i hi)
theorem l2Edge_c (p q : Int × Int) (H : AH) : ACalls Tryz.prog 118 [.agg (List.toArray [.int .i64 p.1,.int .i64 p.2]),.agg (List.toArray [.int .i64 q.1,.int .i64 q.2])] H fun r H' => r = .bool (decide (pairLt p q)) ∧ H <+: H' := by
  refine in118 rfl ?_
  intro Q hQ
  simp (maxSteps := 1000000) (disch := omega) only [cd118,box_a2,SS,eq_self,reduceIte,reduceCtorEq,Nat.reduceEqDiff,Nat.reduceAdd]
  generalize hA : H ++ [AObj.cells [.int .i64 p.1,.int .i64 p.2] 53 false] = A
  have pA : H <+: A := by rw [← hA]; exact List.prefix_append _ _
  have a0 : A[H.length]? = some (.cells [.int .i64 p.1,.int .i64 p.2] 53 false) := by rw [← hA]; exact at_new ..
  generalize hB : A ++ [AObj.cells [.int .i64 q.1,.int .i64 q.2] 53 false] = B
  have pB : A <+: B := by rw [← hB]; exact List.prefix_append _ _
  have b0 := pre_at pB a0
  have b1 : B[A.length]? = some (.cells [.int .i64 q.1,.int .i64 q.2] 53 false) := by rw [← hB]; exact at_new ..
  have pHB := pA.trans pB
  simp (maxSteps := 1000000) (disch := omega) only [cell_of b0,cell_of b1,SS,eq_self,reduceIte,reduceCtorEq,Nat.reduceEqDiff,Nat.reduceAdd]
  refine brD.intro (fun e1 => ?_) (fun e1 => ?_) <;> simp (maxSteps := 1000000) (disch := omega) only [e1,cell_of b0,cell_of b1,SS,eq_self,reduceIte,reduceCtorEq,Nat.reduceEqDiff,Nat.reduceAdd]
  · refine hQ _ _ _ ?_
    simp (maxSteps := 1000000) (disch := omega) only [e1,SS,eq_self,reduceIte,reduceCtorEq,Nat.reduceEqDiff,Nat.reduceAdd]
    exact ⟨by rw [decide_eq_true (show pairLt p q from .inl e1)],pHB⟩
  · refine brD.intro (fun e2 => ?_) (fun e2 => ?_) <;> simp (maxSteps := 1000000) (disch := omega) only [e1,e2,cell_of b0,cell_of b1,SS,eq_self,reduceIte,reduceCtorEq,Nat.reduceEqDiff,Nat.reduceAdd]
    · refine hQ _ _ _ ?_
      simp (maxSteps := 1000000) (disch := omega) only [e1,e2,SS,eq_self,reduceIte,reduceCtorEq,Nat.reduceEqDiff,Nat.reduceAdd]
      have : pairLt p q ↔ p.2 < q.2 := by unfold pairLt; omega
      exact ⟨by simp [this],pHB⟩
    · refine hQ _ _ _ ?_
      simp (maxSteps := 1000000) (disch := omega) only [e1,e2,SS,eq_self,reduceIte,reduceCtorEq,Nat.reduceEqDiff,Nat.reduceAdd]
      have : ¬ pairLt p q := by unfold pairLt; omega
      exact ⟨by simp [this],pHB⟩
def cmpI (a b : Int) : Int := if a < b then -1 else if b < a then 1 else 0
def cmpP (p q : Int × Int) : Int := if cmpI p.1 q.1 ≠ 0 then cmpI p.1 q.1 else cmpI p.2 q.2
theorem cmpP_ge (p q : Int × Int) : (0 ≤ cmpP p q) ↔ ¬ pairLt p q := by
  unfold cmpP cmpI pairLt
  repeat' split
  all_goals omega
theorem Compare_c (a b : Int) (H : AH) : ACalls Tryz.prog 127 [.int .i64 a,.int .i64 b] H fun r H' => r = .int .i64 (cmpI a b) ∧ H = H' := by
  refine in127 rfl ?_
  intro Q hQ
  simp (maxSteps := 1000000) (disch := omega) only [cd127,SS,eq_self,reduceIte,reduceCtorEq,Nat.reduceEqDiff,Nat.reduceAdd]
  refine CallH.by (isNaN_c a H) ?_
  rintro _ _ ⟨rfl,rfl⟩
  simp (maxSteps := 1000000) (disch := omega) only [SS,eq_self,reduceIte,reduceCtorEq,Nat.reduceEqDiff,Nat.reduceAdd]
  refine CallH.by (isNaN_c b H) ?_
  rintro _ _ ⟨rfl,rfl⟩
  simp (maxSteps := 1000000) (disch := omega) only [SS,eq_self,reduceIte,reduceCtorEq,Nat.reduceEqDiff,Nat.reduceAdd]
  refine brD.intro (fun e => ?_) (fun e => ?_) <;> simp (maxSteps := 1000000) (disch := omega) only [e,SS,eq_self,reduceIte,reduceCtorEq,Nat.reduceEqDiff,Nat.reduceAdd]
  · refine hQ _ _ _ ?_
    simp (maxSteps := 1000000) (disch := omega) only [cmpI,e,SS,eq_self,reduceIte,reduceCtorEq,Nat.reduceEqDiff,Nat.reduceAdd]
  · refine brD.intro (fun e2 => ?_) (fun e2 => ?_) <;> simp (maxSteps := 1000000) (disch := omega) only [e,e2,SS,eq_self,reduceIte,reduceCtorEq,Nat.reduceEqDiff,Nat.reduceAdd]
    · refine hQ _ _ _ ?_
      simp (maxSteps := 1000000) (disch := omega) only [cmpI,e,e2,SS,eq_self,reduceIte,reduceCtorEq,Nat.reduceEqDiff,Nat.reduceAdd]
    · refine hQ _ _ _ ?_
      simp (maxSteps := 1000000) (disch := omega) only [cmpI,e,e2,SS,eq_self,reduceIte,reduceCtorEq,Nat.reduceEqDiff,Nat.reduceAdd]
theorem Or_c (a b : Int) (o : Nat) (H : AH) (ho : H[o]? = some (.cells (ints [a,b]) 3 false)) : ACalls Tryz.prog 138 [.slice (some ⟨o,0,none⟩) 2 2] H fun r H' => r = .int .i64 (if a ≠ 0 then a else b) ∧ H = H' := by
  refine in138 rfl ?_
  intro Q hQ
  simp (maxSteps := 1000000) (disch := omega) only [cd138,SS,eq_self,reduceIte,reduceCtorEq,Nat.reduceEqDiff,Nat.reduceAdd]
  refine LoopH.by (fun m s H' => ∃ i,m + i = 2 ∧ s 0 = .slice (some ⟨o,0,none⟩) 2 2 ∧ s 3 = .int .i64 0 ∧ s 6 = .slice (some ⟨o,0,none⟩) 2 2 ∧ s 7 = .int .i64 2 ∧ s 8 = .int .i64 ((i : Nat) : Int) ∧ H = H' ∧ ∀ j,j < i → [a,b].getD j 0 = 0) 2 ?_ ?_
  · exact ⟨0,rfl,rfl,rfl,rfl,rfl,rfl,rfl,fun j hj => absurd hj (Nat.not_lt_zero j)⟩
  · rintro m s H' ⟨i,hm,h0,h3,h6,h7,h8,rfl,hz⟩
    simp (maxSteps := 1000000) (disch := omega) only [h0,h3,h6,h7,h8,SS,eq_self,reduceIte,reduceCtorEq,Nat.reduceEqDiff,Nat.reduceAdd]
    refine brD.intro (fun g => ?_) (fun g => ?_)
    · have hi : i < [a,b].length := by show i < 2; omega
      simp (maxSteps := 1000000) (disch := omega) only [h0,h3,h6,h7,h8,Int.toNat_natCast,Nat.zero_add,cell_ints ho hi,SS,eq_self,reduceIte,reduceCtorEq,Nat.reduceEqDiff,Nat.reduceAdd]
      refine brD.intro (fun e => ?_) (fun e => ?_) <;> simp (maxSteps := 1000000) (disch := omega) only [h0,h3,h6,h7,h8,e,wrap64,SS,eq_self,reduceIte,reduceCtorEq,Nat.reduceEqDiff,Nat.reduceAdd]
      · refine hQ _ _ _ ?_
        simp (maxSteps := 1000000) (disch := omega) only [SS,eq_self,reduceIte,reduceCtorEq,Nat.reduceEqDiff,Nat.reduceAdd]
        have : i = 0 ∨ i = 1 := by omega
        rcases this with rfl | rfl
        · have e' : a ≠ 0 := e
          simp [e']
        · have e1 : a = 0 := hz 0 (by omega)
          simp [e1]
      · have f1 : ∀ j,j < i + 1 → [a,b].getD j 0 = 0 := by
          intro j hj
          rcases Nat.lt_succ_iff_lt_or_eq.1 hj with h | h
          · exact hz j h
          · rw [h]; exact Decidable.not_not.1 e
        refine ⟨m - 1,by omega,i + 1,?_⟩
        (repeat' apply And.intro) <;> first | exact f1 | (simp only [Value.int.injEq,true_and]; omega) | omega | rfl | assumption | (simp; done) | (simp; omega)
    · simp (maxSteps := 1000000) (disch := omega) only [h3,SS,eq_self,reduceIte,reduceCtorEq,Nat.reduceEqDiff,Nat.reduceAdd]
      refine hQ _ _ _ ?_
      simp (maxSteps := 1000000) (disch := omega) only [h3,SS,eq_self,reduceIte,reduceCtorEq,Nat.reduceEqDiff,Nat.reduceAdd]
      have e1 : a = 0 := hz 0 (by omega)
      have e2 : b = 0 := hz 1 (by omega)
      simp [e1,e2]
set_option maxRecDepth 20000 in
theorem comparePairs_c (p q : Int × Int) (H : AH) : ACalls Tryz.prog 124 [.agg (List.toArray [.int .i64 p.1,.int .i64 p.2]),.agg (List.toArray [.int .i64 q.1,.int .i64 q.2])] H fun r H' => r = .int .i64 (cmpP p q) ∧ H <+: H' := by
  refine in124 rfl ?_
  intro Q hQ
  simp (maxSteps := 1000000) (disch := omega) only [cd124,box_a2,SS,eq_self,reduceIte,reduceCtorEq,Nat.reduceEqDiff,Nat.reduceAdd]
  generalize hA : H ++ [AObj.cells [.int .i64 p.1,.int .i64 p.2] 53 false] = A
  have pA : H <+: A := by rw [← hA]; exact List.prefix_append _ _
  have a0 : A[H.length]? = some (.cells [.int .i64 p.1,.int .i64 p.2] 53 false) := by rw [← hA]; exact at_new ..
  generalize hB : A ++ [AObj.cells [.int .i64 q.1,.int .i64 q.2] 53 false] = B
  have pB : A <+: B := by rw [← hB]; exact List.prefix_append _ _
  have b0 := pre_at pB a0
  have b1 : B[A.length]? = some (.cells [.int .i64 q.1,.int .i64 q.2] 53 false) := by rw [← hB]; exact at_new ..
  have pHB := pA.trans pB
  simp (maxSteps := 1000000) (disch := omega) only [cell_of b0,cell_of b1,SS,eq_self,reduceIte,reduceCtorEq,Nat.reduceEqDiff,Nat.reduceAdd]
  refine CallH.by (Compare_c p.1 q.1 B) ?_
  rintro _ _ ⟨rfl,rfl⟩
  simp (maxSteps := 1000000) (disch := omega) only [cell_of b0,cell_of b1,SS,eq_self,reduceIte,reduceCtorEq,Nat.reduceEqDiff,Nat.reduceAdd]
  refine CallH.by (Compare_c p.2 q.2 B) ?_
  rintro _ _ ⟨rfl,rfl⟩
  simp (maxSteps := 1000000) (disch := omega) only [SS,eq_self,reduceIte,reduceCtorEq,Nat.reduceEqDiff,Nat.reduceAdd]
  refine CallH.by (Or_c (cmpI p.1 q.1) (cmpI p.2 q.2) B.length _ (at_new ..)) ?_
  rintro _ _ ⟨rfl,rfl⟩
  simp (maxSteps := 1000000) (disch := omega) only [SS,eq_self,reduceIte,reduceCtorEq,Nat.reduceEqDiff,Nat.reduceAdd]
  refine hQ _ _ _ ?_
  simp (maxSteps := 1000000) (disch := omega) only [cmpP,SS,eq_self,reduceIte,reduceCtorEq,Nat.reduceEqDiff,Nat.reduceAdd]
  exact pre_app pHB _
set_option maxRecDepth 20000 in
set_option maxHeartbeats 4000000 in
theorem l2Pairs_c (v : Value) (n : Int) (ps : List (Int × Int)) (H : AH) (hr : RowP 53 H v ps) (hlen : ps.length ≤ 1099511627776) (hn : 0 ≤ n ∧ n ≤ 8) :
    ACalls Tryz.prog 102 [v,.int .i64 n] H fun r H' => r = .bool (decide (PrU n ps ps.length)) ∧ H <+: H' := by
  refine in102 rfl ?_
  intro Q hQ
  simp (maxSteps := 1000000) (disch := omega) only [cd102,SS,eq_self,reduceIte,reduceCtorEq,Nat.reduceEqDiff,Nat.reduceAdd]
  refine LoopH.by (fun m s H' => ∃ i,m + i = ps.length ∧ s 0 = v ∧ s 1 = .int .i64 n ∧ s 5 = .int .i64 ((i : Nat) : Int) ∧ H <+: H' ∧ PrU n ps i) ps.length ?_ ?_
  · exact ⟨0,by simp,rfl,rfl,rfl,List.prefix_refl _,PrU.zero _ _⟩
  · rintro m s H' ⟨i,hm,h0,h1,h5,hp,hu⟩
    have hr' := hr.pre hp
    simp (maxSteps := 1000000) (disch := omega) only [h0,h1,h5,hr'.len Tryz.underlying24,SS,eq_self,reduceIte,reduceCtorEq,Nat.reduceEqDiff,Nat.reduceAdd]
    refine brD.intro (fun g => ?_) (fun g => ?_)
    · have hi : i < ps.length := by omega
      have hst0 := store_a2 H' [.int .i64 0,.int .i64 0] rfl
      simp (maxSteps := 1000000) (disch := omega) only [h0,h1,h5,hr'.ix Tryz.underlying24 cs53,Int.toNat_natCast,hr'.ld ag53 cs53 hi,alloc_a2,hst0,cell_new,wrap64,SS,eq_self,reduceIte,reduceCtorEq,Nat.reduceEqDiff,Nat.reduceAdd]
      generalize hB : H' ++ [AObj.cells [.int .i64 (ps.getD i (0,0)).1,.int .i64 (ps.getD i (0,0)).2] 53 false] = B
      have pB : H' <+: B := by rw [← hB]; exact List.prefix_append _ _
      have b0 : B[H'.length]? = some (.cells [.int .i64 (ps.getD i (0,0)).1,.int .i64 (ps.getD i (0,0)).2] 53 false) := by rw [← hB]; exact at_new ..
      have hrB := hr'.pre pB
      refine CallH.by (l1In_c _ _ _ B) ?_
      rintro _ _ ⟨rfl,rfl⟩
      simp (maxSteps := 1000000) (disch := omega) only [cell_of b0,wrap64,SS,eq_self,reduceIte,reduceCtorEq,Nat.reduceEqDiff,Nat.reduceAdd]
      have hBp := hp.trans pB
      have e0 : ((i : Int) - 1).toNat = i - 1 := by omega
      have ok2 : prOk n ps i → PrU n ps (i + 1) := fun h => hu.succ h
      have bad : ¬ prOk n ps i → ∀ G,H <+: G → decide (PrU n ps ps.length) = false ∧ H <+: G := fun h G hG => ⟨decide_eq_false (PrU.no hi h),hG⟩
      have hld1 : 0 < i → loadA Tryz.prog 53 (.pointer (some ⟨rowO v,rowK v + 2 * (i - 1),none⟩)) B = some (.agg (List.toArray [.int .i64 (ps.getD (i - 1) (0,0)).1,.int .i64 (ps.getD (i - 1) (0,0)).2])) := fun h => hrB.ld ag53 cs53 (by omega)
      unfold prOk at ok2 bad
      generalize hx : ps.getD i (0,0) = x at *
      generalize hy : ps.getD (i - 1) (0,0) = y at *
      refine brD.intro (fun e1 => ?_) (fun e1 => ?_)
      · simp (maxSteps := 1000000) (disch := omega) only [e1,cell_of b0,h0,h1,h5,wrap64,SS,eq_self,reduceIte,reduceCtorEq,Nat.reduceEqDiff,Nat.reduceAdd]
        refine CallH.by (l1In_c _ _ _ B) ?_
        rintro _ _ ⟨rfl,rfl⟩
        simp (maxSteps := 1000000) (disch := omega) only [e1,cell_of b0,h0,h1,h5,wrap64,SS,eq_self,reduceIte,reduceCtorEq,Nat.reduceEqDiff,Nat.reduceAdd]
        refine brD.intro (fun e2 => ?_) (fun e2 => ?_)
        · simp (maxSteps := 1000000) (disch := omega) only [e1,e2,cell_of b0,h0,h1,h5,wrap64,SS,eq_self,reduceIte,reduceCtorEq,Nat.reduceEqDiff,Nat.reduceAdd]
          refine brD.intro (fun e3 => ?_) (fun e3 => ?_) <;> simp (maxSteps := 1000000) (disch := omega) only [e1,e2,e3,cell_of b0,h0,h1,h5,wrap64,SS,eq_self,reduceIte,reduceCtorEq,Nat.reduceEqDiff,Nat.reduceAdd]
          · refine hQ _ _ _ ?_
            simp (maxSteps := 1000000) (disch := omega) only [SS,eq_self,reduceIte,reduceCtorEq,Nat.reduceEqDiff,Nat.reduceAdd]
            obtain ⟨q1,q2⟩ := bad (by omega) _ hBp
            rw [q1]
            exact ⟨rfl,q2⟩
          · refine brD.intro (fun e4 => ?_) (fun e4 => ?_) <;> simp (maxSteps := 1000000) (disch := omega) only [e1,e2,e3,e4,h0,h1,h5,wrap64,SS,eq_self,reduceIte,reduceCtorEq,Nat.reduceEqDiff,Nat.reduceAdd]
            · have hi1 : 0 < i := by omega
              simp (maxSteps := 1000000) (disch := omega) only [e1,e2,e3,e4,e0,h0,h1,h5,hrB.ix Tryz.underlying24 cs53,hld1 hi1,ld_a2 b0,wrap64,SS,eq_self,reduceIte,reduceCtorEq,Nat.reduceEqDiff,Nat.reduceAdd]
              refine CallH.by (l2Edge_c y x B) ?_
              rintro _ C ⟨rfl,pC⟩
              have hCp := hBp.trans pC
              simp (maxSteps := 1000000) (disch := omega) only [e1,e2,e3,e4,SS,eq_self,reduceIte,reduceCtorEq,Nat.reduceEqDiff,Nat.reduceAdd]
              refine brD.intro (fun e5 => ?_) (fun e5 => ?_) <;> simp (maxSteps := 1000000) (disch := omega) only [e1,e2,e3,e4,e5,h0,h1,h5,wrap64,SS,eq_self,reduceIte,reduceCtorEq,Nat.reduceEqDiff,Nat.reduceAdd]
              · have f1 := ok2 ⟨e1.1,by omega,by omega,fun _ => e5⟩
                refine ⟨m - 1,by omega,i + 1,?_⟩
                (repeat' first | exact f1 | exact hCp | apply And.intro) <;> first | (simp only [Value.int.injEq,true_and]; omega) | omega | rfl | assumption | (simp; done) | (simp; omega)
              · refine hQ _ _ _ ?_
                simp (maxSteps := 1000000) (disch := omega) only [SS,eq_self,reduceIte,reduceCtorEq,Nat.reduceEqDiff,Nat.reduceAdd]
                obtain ⟨q1,q2⟩ := bad (fun h => e5 (h.2.2.2 hi1)) _ hCp
                rw [q1]
                exact ⟨rfl,q2⟩
            · have f1 := ok2 ⟨e1.1,by omega,by omega,fun h => absurd h (by omega)⟩
              refine ⟨m - 1,by omega,i + 1,?_⟩
              (repeat' first | exact f1 | exact hBp | apply And.intro) <;> first | (simp only [Value.int.injEq,true_and]; omega) | omega | rfl | assumption | (simp; done) | (simp; omega)
        · simp (maxSteps := 1000000) (disch := omega) only [e1,e2,SS,eq_self,reduceIte,reduceCtorEq,Nat.reduceEqDiff,Nat.reduceAdd]
          refine hQ _ _ _ ?_
          simp (maxSteps := 1000000) (disch := omega) only [SS,eq_self,reduceIte,reduceCtorEq,Nat.reduceEqDiff,Nat.reduceAdd]
          obtain ⟨q1,q2⟩ := bad (by omega) _ hBp
          rw [q1]
          exact ⟨rfl,q2⟩
      · simp (maxSteps := 1000000) (disch := omega) only [e1,SS,eq_self,reduceIte,reduceCtorEq,Nat.reduceEqDiff,Nat.reduceAdd]
        refine hQ _ _ _ ?_
        simp (maxSteps := 1000000) (disch := omega) only [SS,eq_self,reduceIte,reduceCtorEq,Nat.reduceEqDiff,Nat.reduceAdd]
        obtain ⟨q1,q2⟩ := bad (by omega) _ hBp
        rw [q1]
        exact ⟨rfl,q2⟩
    · simp (maxSteps := 1000000) (disch := omega) only [h0,h1,h5,SS,eq_self,reduceIte,reduceCtorEq,Nat.reduceEqDiff,Nat.reduceAdd]
      refine hQ _ _ _ ?_
      simp (maxSteps := 1000000) (disch := omega) only [SS,eq_self,reduceIte,reduceCtorEq,Nat.reduceEqDiff,Nat.reduceAdd]
      have : i = ps.length := by omega
      subst this
      simp [hu,hp]
set_option maxRecDepth 20000 in
set_option maxHeartbeats 4000000 in
theorem isPairsN_c (v : Value) (n : Int) (ps : List (Int × Int)) (H : AH) (hr : RowP 53 H v ps) (hlen : ps.length ≤ 1099511627776) :
    ACalls Tryz.prog 106 [v,.int .i64 n] H fun r H' => r = .bool (decide (PrU n ps ps.length)) ∧ H <+: H' := by
  refine in106 rfl ?_
  intro Q hQ
  simp (maxSteps := 1000000) (disch := omega) only [cd106,hr.len Tryz.underlying24,SS,eq_self,reduceIte,reduceCtorEq,Nat.reduceEqDiff,Nat.reduceAdd]
  refine LoopH.by (fun m s H' => ∃ i,m + i = ps.length ∧ s 0 = v ∧ s 1 = .int .i64 n ∧ s 7 = v ∧ s 8 = .int .i64 (ps.length : Int) ∧ s 9 = .int .i64 ((i : Nat) : Int) ∧ H <+: H' ∧ PrU n ps i) ps.length ?_ ?_
  · exact ⟨0,by simp,rfl,rfl,rfl,rfl,rfl,List.prefix_refl _,PrU.zero _ _⟩
  · rintro m s H' ⟨i,hm,h0,h1,h7,h8,h9,hp,hu⟩
    have hr' := hr.pre hp
    simp (maxSteps := 1000000) (disch := omega) only [h0,h1,h7,h8,h9,SS,eq_self,reduceIte,reduceCtorEq,Nat.reduceEqDiff,Nat.reduceAdd]
    refine brD.intro (fun g => ?_) (fun g => ?_)
    · have hi : i < ps.length := by omega
      have hst0 := store_a2 H' [.int .i64 0,.int .i64 0] rfl
      simp (maxSteps := 1000000) (disch := omega) only [h0,h1,h7,h8,h9,hr'.ix Tryz.underlying24 cs53,Int.toNat_natCast,hr'.ld ag53 cs53 hi,alloc_a2,hst0,cell_new,wrap64,SS,eq_self,reduceIte,reduceCtorEq,Nat.reduceEqDiff,Nat.reduceAdd]
      generalize hB : H' ++ [AObj.cells [.int .i64 (ps.getD i (0,0)).1,.int .i64 (ps.getD i (0,0)).2] 53 false] = B
      have pB : H' <+: B := by rw [← hB]; exact List.prefix_append _ _
      have b0 : B[H'.length]? = some (.cells [.int .i64 (ps.getD i (0,0)).1,.int .i64 (ps.getD i (0,0)).2] 53 false) := by rw [← hB]; exact at_new ..
      have hrB := hr'.pre pB
      have hBp := hp.trans pB
      have e0 : ((i : Int) - 1).toNat = i - 1 := by omega
      have ok2 : prOk n ps i → PrU n ps (i + 1) := fun h => hu.succ h
      have bad : ¬ prOk n ps i → ∀ G,H <+: G → decide (PrU n ps ps.length) = false ∧ H <+: G := fun h G hG => ⟨decide_eq_false (PrU.no hi h),hG⟩
      have hld1 : 0 < i → loadA Tryz.prog 53 (.pointer (some ⟨rowO v,rowK v + 2 * (i - 1),none⟩)) B = some (.agg (List.toArray [.int .i64 (ps.getD (i - 1) (0,0)).1,.int .i64 (ps.getD (i - 1) (0,0)).2])) := fun h => hrB.ld ag53 cs53 (by omega)
      unfold prOk at ok2 bad
      generalize hx : ps.getD i (0,0) = x at *
      generalize hy : ps.getD (i - 1) (0,0) = y at *
      refine brD.intro (fun e1 => ?_) (fun e1 => ?_) <;> simp (maxSteps := 1000000) (disch := omega) only [e1,cell_of b0,h0,h1,h7,h8,h9,wrap64,SS,eq_self,reduceIte,reduceCtorEq,Nat.reduceEqDiff,Nat.reduceAdd]
      · refine hQ _ _ _ ?_
        simp (maxSteps := 1000000) (disch := omega) only [SS,eq_self,reduceIte,reduceCtorEq,Nat.reduceEqDiff,Nat.reduceAdd]
        obtain ⟨q1,q2⟩ := bad (by omega) _ hBp
        rw [q1]
        exact ⟨rfl,q2⟩
      · refine brD.intro (fun e2 => ?_) (fun e2 => ?_) <;> simp (maxSteps := 1000000) (disch := omega) only [e1,e2,cell_of b0,h0,h1,h7,h8,h9,wrap64,SS,eq_self,reduceIte,reduceCtorEq,Nat.reduceEqDiff,Nat.reduceAdd]
        · refine hQ _ _ _ ?_
          simp (maxSteps := 1000000) (disch := omega) only [SS,eq_self,reduceIte,reduceCtorEq,Nat.reduceEqDiff,Nat.reduceAdd]
          obtain ⟨q1,q2⟩ := bad (by omega) _ hBp
          rw [q1]
          exact ⟨rfl,q2⟩
        · refine brD.intro (fun e3 => ?_) (fun e3 => ?_) <;> simp (maxSteps := 1000000) (disch := omega) only [e1,e2,e3,cell_of b0,h0,h1,h7,h8,h9,wrap64,SS,eq_self,reduceIte,reduceCtorEq,Nat.reduceEqDiff,Nat.reduceAdd]
          · refine hQ _ _ _ ?_
            simp (maxSteps := 1000000) (disch := omega) only [SS,eq_self,reduceIte,reduceCtorEq,Nat.reduceEqDiff,Nat.reduceAdd]
            obtain ⟨q1,q2⟩ := bad (by omega) _ hBp
            rw [q1]
            exact ⟨rfl,q2⟩
          · refine brD.intro (fun e4 => ?_) (fun e4 => ?_) <;> simp (maxSteps := 1000000) (disch := omega) only [e1,e2,e3,e4,h0,h1,h7,h8,h9,wrap64,SS,eq_self,reduceIte,reduceCtorEq,Nat.reduceEqDiff,Nat.reduceAdd]
            · have hi1 : 0 < i := by omega
              simp (maxSteps := 1000000) (disch := omega) only [e1,e2,e3,e4,e0,h0,h1,h7,h8,h9,hrB.ix Tryz.underlying24 cs53,hld1 hi1,ld_a2 b0,wrap64,SS,eq_self,reduceIte,reduceCtorEq,Nat.reduceEqDiff,Nat.reduceAdd]
              refine CallH.by (comparePairs_c y x B) ?_
              rintro _ C ⟨rfl,pC⟩
              have hCp := hBp.trans pC
              simp (maxSteps := 1000000) (disch := omega) only [e1,e2,e3,e4,SS,eq_self,reduceIte,reduceCtorEq,Nat.reduceEqDiff,Nat.reduceAdd]
              refine brD.intro (fun e5 => ?_) (fun e5 => ?_) <;> simp (maxSteps := 1000000) (disch := omega) only [e1,e2,e3,e4,e5,h0,h1,h7,h8,h9,wrap64,SS,eq_self,reduceIte,reduceCtorEq,Nat.reduceEqDiff,Nat.reduceAdd]
              · refine hQ _ _ _ ?_
                simp (maxSteps := 1000000) (disch := omega) only [SS,eq_self,reduceIte,reduceCtorEq,Nat.reduceEqDiff,Nat.reduceAdd]
                obtain ⟨q1,q2⟩ := bad (fun h => (cmpP_ge y x).1 e5 (h.2.2.2 hi1)) _ hCp
                rw [q1]
                exact ⟨rfl,q2⟩
              · have f1 := ok2 ⟨by omega,by omega,by omega,fun _ => Decidable.not_not.1 fun h => e5 ((cmpP_ge y x).2 h)⟩
                refine ⟨m - 1,by omega,i + 1,?_⟩
                (repeat' first | exact f1 | exact hCp | apply And.intro) <;> first | (simp only [Value.int.injEq,true_and]; omega) | omega | rfl | assumption | (simp; done) | (simp; omega)
            · have f1 := ok2 ⟨by omega,by omega,by omega,fun h => absurd h (by omega)⟩
              refine ⟨m - 1,by omega,i + 1,?_⟩
              (repeat' first | exact f1 | exact hBp | apply And.intro) <;> first | (simp only [Value.int.injEq,true_and]; omega) | omega | rfl | assumption | (simp; done) | (simp; omega)
    · simp (maxSteps := 1000000) (disch := omega) only [h0,h1,h7,h8,h9,SS,eq_self,reduceIte,reduceCtorEq,Nat.reduceEqDiff,Nat.reduceAdd]
      refine hQ _ _ _ ?_
      simp (maxSteps := 1000000) (disch := omega) only [SS,eq_self,reduceIte,reduceCtorEq,Nat.reduceEqDiff,Nat.reduceAdd]
      have : i = ps.length := by omega
      subst this
      simp [hu,hp]
theorem isPairs_c (v : Value) (n : Int) (ps : List (Int × Int)) (H : AH) (hr : RowP 53 H v ps) (hlen : ps.length ≤ 1099511627776) (hn : 0 ≤ n ∧ n ≤ 8) :
    ACalls Tryz.prog 106 [v,.int .i64 n] H fun r H' => r = .bool (decide (PrU n ps ps.length)) ∧ H <+: H' := isPairsN_c v n ps H hr hlen
theorem l2Good_c (n : Int) (v : Value) (ps : List (Int × Int)) (H : AH) (hr : RowP 53 H v ps) (hlen : ps.length ≤ 1099511627776) :
    ACalls Tryz.prog 69 [.agg (List.toArray [.int .i64 n,v])] H fun r H' => r = .bool (decide (Grd n ps)) ∧ H <+: H' := by
  refine in69 rfl ?_
  intro Q hQ
  simp (maxSteps := 1000000) (disch := omega) only [cd69,hr.boxG,SS,eq_self,reduceIte,reduceCtorEq,Nat.reduceEqDiff,Nat.reduceAdd]
  generalize hA : H ++ [AObj.cells [.int .i64 n,v] 26 false] = A
  have pA : H <+: A := by rw [← hA]; exact List.prefix_append _ _
  have cA : A[H.length]? = some (.cells [.int .i64 n,v] 26 false) := by rw [← hA]; exact at_new ..
  have rA := hr.pre pA
  simp (maxSteps := 1000000) (disch := omega) only [cell_of cA,SS,eq_self,reduceIte,reduceCtorEq,Nat.reduceEqDiff,Nat.reduceAdd]
  refine CallH.by (l1In_c _ _ _ A) ?_
  rintro _ _ ⟨rfl,rfl⟩
  simp (maxSteps := 1000000) (disch := omega) only [cell_of cA,SS,eq_self,reduceIte,reduceCtorEq,Nat.reduceEqDiff,Nat.reduceAdd]
  refine brD.intro (fun e => ?_) (fun e => ?_) <;> simp (maxSteps := 1000000) (disch := omega) only [e,cell_of cA,SS,eq_self,reduceIte,reduceCtorEq,Nat.reduceEqDiff,Nat.reduceAdd]
  · refine CallH.by (l2Pairs_c v n ps A rA hlen e) ?_
    rintro _ B ⟨rfl,pB⟩
    simp (maxSteps := 1000000) (disch := omega) only [e,SS,eq_self,reduceIte,reduceCtorEq,Nat.reduceEqDiff,Nat.reduceAdd]
    refine hQ _ _ _ ?_
    simp (maxSteps := 1000000) (disch := omega) only [e,SS,eq_self,reduceIte,reduceCtorEq,Nat.reduceEqDiff,Nat.reduceAdd]
    exact ⟨by simp [Grd,e],pA.trans pB⟩
  · refine hQ _ _ _ ?_
    simp (maxSteps := 1000000) (disch := omega) only [e,SS,eq_self,reduceIte,reduceCtorEq,Nat.reduceEqDiff,Nat.reduceAdd]
    exact ⟨by simp [Grd,e],pA⟩
theorem IsGraph_c (n : Int) (v : Value) (ps : List (Int × Int)) (H : AH) (hr : RowP 53 H v ps) (hlen : ps.length ≤ 1099511627776) :
    ACalls Tryz.prog 73 [.agg (List.toArray [.int .i64 n,v])] H fun r H' => r = .bool (decide (Grd n ps)) ∧ H <+: H' := by
  refine in73 rfl ?_
  intro Q hQ
  simp (maxSteps := 1000000) (disch := omega) only [cd73,hr.boxG,SS,eq_self,reduceIte,reduceCtorEq,Nat.reduceEqDiff,Nat.reduceAdd]
  generalize hA : H ++ [AObj.cells [.int .i64 n,v] 26 false] = A
  have pA : H <+: A := by rw [← hA]; exact List.prefix_append _ _
  have cA : A[H.length]? = some (.cells [.int .i64 n,v] 26 false) := by rw [← hA]; exact at_new ..
  have rA := hr.pre pA
  simp (maxSteps := 1000000) (disch := omega) only [cell_of cA,SS,eq_self,reduceIte,reduceCtorEq,Nat.reduceEqDiff,Nat.reduceAdd]
  refine CallH.by (between_c _ _ _ A) ?_
  rintro _ _ ⟨rfl,rfl⟩
  simp (maxSteps := 1000000) (disch := omega) only [cell_of cA,SS,eq_self,reduceIte,reduceCtorEq,Nat.reduceEqDiff,Nat.reduceAdd]
  refine brD.intro (fun e => ?_) (fun e => ?_) <;> simp (maxSteps := 1000000) (disch := omega) only [e,cell_of cA,SS,eq_self,reduceIte,reduceCtorEq,Nat.reduceEqDiff,Nat.reduceAdd]
  · refine CallH.by (isPairs_c v n ps A rA hlen e) ?_
    rintro _ B ⟨rfl,pB⟩
    simp (maxSteps := 1000000) (disch := omega) only [e,SS,eq_self,reduceIte,reduceCtorEq,Nat.reduceEqDiff,Nat.reduceAdd]
    refine hQ _ _ _ ?_
    simp (maxSteps := 1000000) (disch := omega) only [e,SS,eq_self,reduceIte,reduceCtorEq,Nat.reduceEqDiff,Nat.reduceAdd]
    exact ⟨by simp [Grd,e],pA.trans pB⟩
  · refine hQ _ _ _ ?_
    simp (maxSteps := 1000000) (disch := omega) only [e,SS,eq_self,reduceIte,reduceCtorEq,Nat.reduceEqDiff,Nat.reduceAdd]
    exact ⟨by simp [Grd,e],pA⟩
end Go.Proofs.YtelafbennmclfaaGreat.Ai
namespace Go.Proofs.YtelafbennmclfaaGreat.Ai
open Go Go.RowKit
theorem RowP.cells {P : Program} {e : TypeId} (hc : P.cellsOf e = 2) {H : AH} {v : Value} {ps : List (Int × Int)} (h : RowP e H v ps) : sliceCells P e v H = some (ps.length,ints (flat ps)) := by
  rcases h with ⟨h1,h2⟩ | ⟨o,k,vs,ro,e1,h2,h3,h4⟩
  · subst h1; subst h2; rfl
  · subst e1
    simp only [sliceCells,h2,hc]
    rw [Nat.mul_comm ps.length 2,if_pos ⟨h3,trivial⟩,h4]
theorem MineP.app {P : Program} {t e : TypeId} (hu : P.underlying t = some (.slice e)) (hc : P.cellsOf e = 2) (hby : P.bytesOf e ≤ 64) (hz : zeroOk P e = true) {H0 H : AH} {v x : Value} {ps qs : List (Int × Int)} (h : MineP e H0 H v ps) (hx : RowP e H x qs) (hp : H0 <+: H) (hb : ps.length + qs.length ≤ 1099511627776) :
    ∃ v' H',appendA P t t v x H = some (v',H') ∧ MineP e H0 H' v' (ps ++ qs) ∧ H0 <+: H' ∧ Kept v H H' ∧ (H.length ≤ rowO v' ∨ (v' = v ∧ H' = H)) ∧ H.length ≤ H'.length := by
  have hcells := hx.cells (P := P) hc
  have hb2 : (ps.length + qs.length) * P.bytesOf e ≤ 140737488355328 := by
    refine Nat.le_trans (Nat.mul_le_mul_left _ hby) ?_
    omega
  by_cases hm : qs.length = 0
  · have hx0 : qs = [] := List.eq_nil_of_length_eq_zero hm
    subst hx0
    refine ⟨v,H,?_,by simpa using h,hp,fun o y _ hy => hy,.inr ⟨rfl,rfl⟩,Nat.le_refl _⟩
    have hsl : isSl v = true := by rcases h with ⟨h1,_⟩ | ⟨o,zs,h1,_⟩ <;> subst h1 <;> rfl
    simp only [appendA,hu,hc,hcells,hsl]
    simp
  · rcases h with ⟨h1,h2⟩ | ⟨o,zs,h1,h2,h3,h4⟩
    · subst h1; subst h2
      refine ⟨.slice (some ⟨H.length,0,none⟩) qs.length qs.length,H ++ [.cells (ints (flat qs)) e false],?_,.inr ⟨H.length,flat qs,rfl,hp.length_le,at_new ..,?_⟩,pre_app hp _,fun o y _ hy => at_app hy _,.inl (Nat.le_refl _),by simp⟩
      · simp only [appendA,hu,hc,hcells,hz]
        simp only [List.length_nil,Nat.zero_add] at hb hb2
        simp [hm,hb2]; omega
      · show (flat qs).take (2 * qs.length) = flat qs
        rw [List.take_of_length_le (by rw [flat_len]; omega)]
    · subst h1
      have hl := take_flat_len h4
      have lo := hp.length_le
      refine ⟨.slice (some ⟨H.length,0,none⟩) (ps.length + qs.length) (ps.length + qs.length),H.set o .dead ++ [.cells (ints (flat (ps ++ qs))) e false],?_,.inr ⟨H.length,flat (ps ++ qs),by simp,by omega,?_,?_⟩,pre_app (pre_set hp h2 _) _,?_,.inl (Nat.le_refl _),by simp⟩
      · simp only [appendA,hu,hc,hcells,hz,h3]
        rw [if_pos (by simp),if_neg hm,if_pos ⟨trivial,by rw [ints_len]; omega,hb2,by omega,trivial⟩]
        have : ((ints zs).drop 0).take (ps.length * 2) ++ ints (flat qs) = ints (flat (ps ++ qs)) := by
          rw [flat_app,ints_app,← h4,List.drop_zero,Nat.mul_comm]
          simp [ints,List.map_take]
        rw [this]
      · rw [List.getElem?_append_right (by simp)]; simp
      · rw [List.take_of_length_le (by rw [flat_len]; omega)]
      · intro o' y hne hy
        refine at_old hy ?_ _
        rcases hne with hne | hne
        · cases hne
        · exact fun e => hne e.symm
def subP (v : Value) (l h : Nat) : Value :=
  match v with
  | .slice (some p) _ _ => .slice (some ⟨p.block,p.off + 2 * l,none⟩) (h - l) (h - l)
  | _ => .slice none 0 0
theorem RowP.slice {P : Program} {t e : TypeId} (hu : P.underlying t = some (.slice e)) (hc : P.cellsOf e = 2) {H : AH} {v : Value} {ps : List (Int × Int)} (h : RowP e H v ps) {lo hi : Option Value} {l r : Nat} (h1 : boundA lo 0 = some l) (h2 : boundA hi ps.length = some r) (hl : l ≤ r) (hr : r ≤ ps.length) :
    sliceA P t v lo hi none H = some (subP v l r) ∧ RowP e H (subP v l r) ((ps.drop l).take (r - l)) ∧ rowO (subP v l r) = rowO v := by
  rcases h with ⟨e1,e2⟩ | ⟨o,k,vs,ro,e1,g2,g3,g4⟩
  · subst e1; subst e2
    have hr0 : r = 0 := by simpa using hr
    have hl0 : l = 0 := by omega
    subst hr0; subst hl0
    refine ⟨?_,.inl ⟨rfl,by simp⟩,rfl⟩
    simp only [List.length_nil] at h2
    simp only [sliceA,hu,h1,h2,hc,subP]; rfl
  · subst e1
    have hlen : ((ps.drop l).take (r - l)).length = r - l := by simp; omega
    refine ⟨?_,.inr ⟨o,k + 2 * l,vs,ro,?_,g2,?_,?_⟩,rfl⟩
    · simp only [sliceA,hu,h1,h2,g2,hc,subP]
      rw [if_pos ⟨hl,hr,trivial,by decide⟩,Nat.mul_comm l 2]
    · simp only [subP,hlen]
    · rw [hlen]; omega
    · rw [hlen,← List.drop_drop]
      have e4 : ints (flat ((ps.drop l).take (r - l))) = ((ints (flat ps)).drop (2 * l)).take (2 * (r - l)) := by
        rw [← flat_take,← flat_drop]; simp [ints,List.map_drop,List.map_take]
      rw [e4,← g4,List.drop_take,List.take_take,Nat.min_eq_left (by omega)]
end Go.Proofs.YtelafbennmclfaaGreat.Ai
namespace Go.Proofs.YtelafbennmclfaaGreat.Ai
open Go
def ords95 : List (Nat × List (Nat × Bool)) := [(2,[(0,false),(1,false),(2,false),(3,false),(4,false),(5,false),(6,false),(7,false),(8,false),(9,true),(10,false)]),(4,[(0,false),(1,false),(2,false),(3,false),(4,false),(5,false),(6,false),(7,false),(8,false),(9,false),(10,false)]),(6,[(0,false),(1,false),(2,false),(3,false),(5,false),(6,false),(8,false),(9,false),(10,false),(4,true),(7,true),(11,true),(12,false)])]
def cd95 : Cd := (.seq (.reg [⟨⟨some 3,Op.box 53 (Operand.tmp 1),none⟩,[]⟩,
  ⟨⟨some 4,Op.assign (Operand.const (Value.slice none 0 0)),none⟩,[]⟩]) (.seq (.reg [⟨⟨some 6,Op.move (Operand.tmp 0),none⟩,[]⟩,
  ⟨⟨some 7,Op.call { callee := (Callee.builtin Builtin.len),args := #[(Operand.tmp 6)],argTypes := #[24] },none⟩,[]⟩,
  ⟨⟨some 5,Op.assign (Operand.tmp 7),none⟩,[]⟩]) (.seq (.block 0 (.loop (.seq (.seq (.reg [⟨⟨some 8,Op.move (Operand.tmp 5),none⟩,[]⟩,
  ⟨⟨some 9,Op.binOp BinOp.gtr 3 (Operand.tmp 8) (Operand.const (Value.int IntKind.i64 0)) 3,none⟩,[]⟩,
  ⟨⟨some 10,Op.move (Operand.tmp 9),none⟩,[]⟩,
  ⟨⟨some 11,Op.load 53 (Operand.tmp 3),some (10,true)⟩,[]⟩,
  ⟨⟨some 12,Op.move (Operand.tmp 0),some (10,true)⟩,[]⟩,
  ⟨⟨some 13,Op.move (Operand.tmp 5),some (10,true)⟩,[]⟩,
  ⟨⟨some 14,Op.binOp BinOp.sub 3 (Operand.tmp 13) (Operand.const (Value.int IntKind.i64 1)) 3,some (10,true)⟩,[]⟩,
  ⟨⟨some 15,Op.indexAddr 24 (Operand.tmp 12) (Operand.tmp 14),some (10,true)⟩,[]⟩,
  ⟨⟨some 16,Op.load 53 (Operand.tmp 15),some (10,true)⟩,[]⟩,
  ⟨⟨some 17,Op.call { callee := (Callee.value (Operand.func 118)),args := #[(Operand.tmp 11),(Operand.tmp 16)],argTypes := #[53,53] },some (10,true)⟩,[]⟩,
  ⟨⟨some 18,Op.pick (Operand.tmp 10) (Operand.tmp 17) (Operand.const (Value.bool false)),none⟩,[]⟩]) (.cond (Operand.tmp 18) .skip (.exit 0))) (.block 1 (.reg [⟨⟨some 19,Op.move (Operand.tmp 5),none⟩,[]⟩,
  ⟨⟨some 20,Op.binOp BinOp.sub 3 (Operand.tmp 19) (Operand.const (Value.int IntKind.i64 1)) 3,none⟩,[]⟩,
  ⟨⟨some 5,Op.assign (Operand.tmp 20),none⟩,[]⟩]))))) (.seq (.seq (.reg [⟨⟨some 21,Op.move (Operand.tmp 5),none⟩,[]⟩,
  ⟨⟨some 22,Op.binOp BinOp.gtr 3 (Operand.tmp 21) (Operand.const (Value.int IntKind.i64 0)) 3,none⟩,[]⟩,
  ⟨⟨some 23,Op.move (Operand.tmp 22),none⟩,[]⟩,
  ⟨⟨some 24,Op.move (Operand.tmp 0),some (23,true)⟩,[]⟩,
  ⟨⟨some 25,Op.move (Operand.tmp 5),some (23,true)⟩,[]⟩,
  ⟨⟨some 26,Op.binOp BinOp.sub 3 (Operand.tmp 25) (Operand.const (Value.int IntKind.i64 1)) 3,some (23,true)⟩,[]⟩,
  ⟨⟨some 27,Op.indexAddr 24 (Operand.tmp 24) (Operand.tmp 26),some (23,true)⟩,[]⟩,
  ⟨⟨some 28,Op.load 53 (Operand.tmp 27),some (23,true)⟩,[]⟩,
  ⟨⟨some 29,Op.load 53 (Operand.tmp 3),some (23,true)⟩,[]⟩,
  ⟨⟨some 30,Op.binOp BinOp.eql 53 (Operand.tmp 28) (Operand.tmp 29) 53,some (23,true)⟩,[]⟩,
  ⟨⟨some 31,Op.pick (Operand.tmp 23) (Operand.tmp 30) (Operand.const (Value.bool false)),none⟩,[]⟩]) (.cond (Operand.tmp 31) (.seq (.reg [⟨⟨some 32,Op.move (Operand.tmp 0),none⟩,[]⟩,
  ⟨⟨some 4,Op.assign (Operand.tmp 32),none⟩,[]⟩]) .ret) .skip)) (.seq (.reg [⟨⟨some 33,Op.buildSlice 24 0 #[],none⟩,[]⟩,
  ⟨⟨some 34,Op.move (Operand.tmp 0),none⟩,[]⟩,
  ⟨⟨some 35,Op.move (Operand.tmp 5),none⟩,[]⟩,
  ⟨⟨some 36,Op.slice 24 (Operand.tmp 34) none (some (Operand.tmp 35)) none,none⟩,[]⟩,
  ⟨⟨some 38,Op.load 53 (Operand.tmp 3),none⟩,[]⟩,
  ⟨⟨some 39,Op.buildSlice 24 1 #[(0,(Operand.tmp 38))],none⟩,[]⟩,
  ⟨⟨some 41,Op.move (Operand.tmp 0),none⟩,[]⟩,
  ⟨⟨some 42,Op.move (Operand.tmp 5),none⟩,[]⟩,
  ⟨⟨some 43,Op.slice 24 (Operand.tmp 41) (some (Operand.tmp 42)) none none,none⟩,[]⟩,
  ⟨⟨some 37,Op.call { callee := (Callee.builtin Builtin.append),args := #[(Operand.tmp 33),(Operand.tmp 36)],argTypes := #[24,24] },none⟩,[⟨some 43,Op.slice 24 (Operand.tmp 41) (some (Operand.tmp 42)) none none,none⟩,⟨some 39,Op.buildSlice 24 1 #[(0,(Operand.tmp 38))],none⟩,⟨some 38,Op.load 53 (Operand.tmp 3),none⟩]⟩,
  ⟨⟨some 40,Op.call { callee := (Callee.builtin Builtin.append),args := #[(Operand.tmp 37),(Operand.tmp 39)],argTypes := #[24,24] },none⟩,[⟨some 43,Op.slice 24 (Operand.tmp 41) (some (Operand.tmp 42)) none none,none⟩]⟩,
  ⟨⟨some 44,Op.call { callee := (Callee.builtin Builtin.append),args := #[(Operand.tmp 40),(Operand.tmp 43)],argTypes := #[24,24] },none⟩,[]⟩,
  ⟨⟨some 4,Op.assign (Operand.tmp 44),none⟩,[]⟩]) .ret)))))
theorem sl95 : slim Tryz.f95.ntmps ords95 (Tryz.f95.body.getD .skip) = some cd95 := by kernel_rfl
theorem in95 {args : List Value} {H : AH} {R : Value → AH → Prop} (hl : args.length = 2) (h : ∀ (Q : Exit → Sl → AH → Prop),(∀ e s H,endA Tryz.prog [ResultVar.tmp 4] R e s H → Q e s H) → wpC Tryz.prog cd95 Q (enterA args) H) : ACalls Tryz.prog 95 args H R :=
  ACalls.intro (by kernel_rfl) Tryz.func95 rfl (by kernel_rfl) sl95 hl (of_decide_eq_true (by kernel_rfl)) (by kernel_rfl) h
end Go.Proofs.YtelafbennmclfaaGreat.Ai
namespace Go.Proofs.YtelafbennmclfaaGreat.Ai
open Go Go.RowKit
theorem cutC {P : Program} {a b : Cd} {Q : Exit → Sl → AH → Prop} {s : Sl} {H : AH} (R : Sl → AH → Prop) (h1 : ∀ c,(∀ s H,R s H → wpC P c Q s H) → wpC P a (thenA (wpC P c Q) Q) s H) (h2 : ∀ s H,R s H → wpC P b Q s H) : wpC P (.seq a b) Q s H := h1 b h2
theorem MineP.rebase {e : TypeId} {H0 H1 H : AH} {v : Value} {ps : List (Int × Int)} (h : MineP e H0 H v ps) (hl : H1.length = H0.length) : MineP e H1 H v ps := by
  rcases h with h | ⟨o,zs,h1,h2,h3,h4⟩
  · exact .inl h
  · exact .inr ⟨o,zs,h1,by omega,h3,h4⟩
theorem eq_pr (a b c d : Int) : binA Tryz.prog .eql 53 (.agg (List.toArray [.int .i64 a,.int .i64 b])) (.agg (List.toArray [.int .i64 c,.int .i64 d])) = some (.bool (decide ((a,b) = (c,d)))) := by
  have h : binA Tryz.prog .eql 53 (.agg (List.toArray [.int .i64 a,.int .i64 b])) (.agg (List.toArray [.int .i64 c,.int .i64 d])) = some (.bool (a == c && b == d)) := by kernel_rfl
  have e : (a == c && b == d) = decide ((a,b) = (c,d)) := by
    rw [Bool.eq_iff_iff,decide_eq_true_eq,Prod.mk.injEq,Bool.and_eq_true,beq_iff_eq,beq_iff_eq]
  rw [h,e]
set_option maxRecDepth 20000 in
set_option maxHeartbeats 8000000 in
theorem l2PutPair_c {Hb H : AH} (v : Value) (ps : List (Int × Int)) (a b : Int) (hm : MineP 53 Hb H v ps) (hbl : Hb.length ≤ H.length) (hl : ps.length ≤ 1000) :
    ACalls Tryz.prog 95 [v,.agg (List.toArray [.int .i64 a,.int .i64 b])] H fun r H' => ∃ qs,MineP 53 Hb H' r qs ∧ qs.length ≤ ps.length + 1 ∧ (∀ y ∈ qs,y ∈ ps ∨ y = (a,b)) ∧ (r = v ∨ H.length ≤ rowO r) ∧ H <+: H' := by
  obtain ⟨H0,hp0,hb0⟩ : ∃ H0 : AH,H0 <+: H ∧ H0.length = Hb.length := ⟨H.take Hb.length,List.take_prefix _ _,by simp; omega⟩
  have hm := hm.rebase hb0
  refine in95 rfl ?_
  intro Q hQ
  have bx : ∀ H : AH,boxA Tryz.prog 53 (.agg (List.toArray [.int .i64 a,.int .i64 b])) H = some (.pointer (some ⟨H.length,0,none⟩),H ++ [.cells [.int .i64 a,.int .i64 b] 53 false]) := fun H => by kernel_rfl
  have hr := hm.row
  rw [cd95]
  generalize hA : H ++ [AObj.cells [.int .i64 a,.int .i64 b] 53 false] = A
  have pA : H <+: A := by rw [← hA]; exact List.prefix_append _ _
  have cA : A[H.length]? = some (.cells [.int .i64 a,.int .i64 b] 53 false) := by rw [← hA]; exact at_new ..
  have bxA := bx H
  rw [hA] at bxA
  have ldb : ∀ {K : AH},K[H.length]? = some (.cells [.int .i64 a,.int .i64 b] 53 false) → loadA Tryz.prog 53 (.pointer (some ⟨H.length,0,none⟩)) K = some (.agg (List.toArray [.int .i64 a,.int .i64 b])) := fun h => ld_agg ag53 cs53 h
  refine cutC (fun s K => s 0 = v ∧ s 3 = .pointer (some ⟨H.length,0,none⟩) ∧ A <+: K) (fun c hc => ?_) ?_
  · simp (maxSteps := 1000000) (disch := omega) only [bxA,SS,eq_self,reduceIte,reduceCtorEq,Nat.reduceEqDiff,Nat.reduceAdd]
    exact hc _ _ ⟨rfl,rfl,List.prefix_refl _⟩
  rintro s K ⟨s0,s3,pK⟩
  refine cutC (fun s K => s 0 = v ∧ s 3 = .pointer (some ⟨H.length,0,none⟩) ∧ s 5 = .int .i64 (ps.length : Int) ∧ A <+: K) (fun c hc => ?_) ?_
  · simp (maxSteps := 1000000) (disch := omega) only [s0,s3,hr.len Tryz.underlying24,SS,eq_self,reduceIte,reduceCtorEq,Nat.reduceEqDiff,Nat.reduceAdd]
    exact hc _ _ ⟨s0,s3,rfl,pK⟩
  clear s0 s3 pK s K
  rintro s K ⟨s0,s3,s5,pK⟩
  refine cutC (fun s K => ∃ k : Nat,k ≤ ps.length ∧ s 0 = v ∧ s 3 = .pointer (some ⟨H.length,0,none⟩) ∧ s 5 = .int .i64 (k : Int) ∧ A <+: K) (fun c hc => ?_) ?_
  · simp (maxSteps := 1000000) (disch := omega) only [s0,s3,s5,SS,eq_self,reduceIte,reduceCtorEq,Nat.reduceEqDiff,Nat.reduceAdd]
    refine LoopH.by (fun m s H' => ∃ k : Nat,m = k ∧ k ≤ ps.length ∧ s 0 = v ∧ s 3 = .pointer (some ⟨H.length,0,none⟩) ∧ s 5 = .int .i64 ((k : Nat) : Int) ∧ A <+: H') ps.length ?_ ?_
    · exact ⟨ps.length,rfl,Nat.le_refl _,s0,s3,s5,pK⟩
    rintro m s B ⟨k,rfl,hk,s0,s3,s5,pB⟩
    have rB := hr.pre (pA.trans pB)
    have cB := pre_at pB cA
    simp (maxSteps := 1000000) (disch := omega) only [s0,s3,s5,SS,eq_self,reduceIte,reduceCtorEq,Nat.reduceEqDiff,Nat.reduceAdd]
    by_cases g : (0 : Int) < (m : Int)
    rotate_left
    · simp (maxSteps := 1000000) (disch := omega) only [decide_eq_false g,SS,eq_self,reduceIte,reduceCtorEq,Nat.reduceEqDiff,Nat.reduceAdd]
      exact hc _ _ ⟨m,hk,s0,s3,s5,pB⟩
    have hm1 : m - 1 < ps.length := by omega
    have hw1 : IntKind.i64.wrap ((m : Int) - 1) = ((m - 1 : Nat) : Int) := by rw [wrap64 (by omega) (by omega)]; omega
    simp (maxSteps := 1000000) (disch := omega) only [decide_eq_true g,s0,s3,s5,ldb cB,hw1,rB.ix Tryz.underlying24 cs53,Int.toNat_natCast,rB.ld ag53 cs53 hm1,SS,eq_self,reduceIte,reduceCtorEq,Nat.reduceEqDiff,Nat.reduceAdd]
    refine CallH.by (l2Edge_c (a,b) (ps.getD (m - 1) (0,0)) B) ?_
    rintro _ C ⟨rfl,pC⟩
    simp (maxSteps := 1000000) (disch := omega) only [SS,eq_self,reduceIte,reduceCtorEq,Nat.reduceEqDiff,Nat.reduceAdd]
    by_cases z : pairLt (a,b) (ps.getD (m - 1) (0,0))
    · simp (maxSteps := 1000000) (disch := omega) only [decide_eq_true z,s0,s3,s5,hw1,SS,eq_self,reduceIte,reduceCtorEq,Nat.reduceEqDiff,Nat.reduceAdd]
      have f1 := pB.trans pC
      refine ⟨m - 1,by omega,m - 1,?_⟩
      (repeat' first | exact f1 | exact s0 | exact s3 | apply And.intro) <;> first | (simp only [Value.int.injEq,true_and]; omega) | omega | rfl | assumption | (simp; done) | (simp; omega)
    · simp (maxSteps := 1000000) (disch := omega) only [decide_eq_false z,SS,eq_self,reduceIte,reduceCtorEq,Nat.reduceEqDiff,Nat.reduceAdd]
      exact hc _ _ ⟨m,hk,s0,s3,s5,pB.trans pC⟩
  clear s0 s3 s5 pK s K
  rintro s K ⟨k,hk,s0,s3,s5,pK⟩
  have rK := hr.pre (pA.trans pK)
  have cK := pre_at pK cA
  refine cutC (fun s K' => K = K' ∧ s 0 = v ∧ s 3 = .pointer (some ⟨H.length,0,none⟩) ∧ s 5 = .int .i64 (k : Int)) (fun c hc => ?_) ?_
  · simp (maxSteps := 1000000) (disch := omega) only [s0,s3,s5,SS,eq_self,reduceIte,reduceCtorEq,Nat.reduceEqDiff,Nat.reduceAdd]
    by_cases g : (0 : Int) < (k : Int)
    rotate_left
    · simp (maxSteps := 1000000) (disch := omega) only [decide_eq_false g,SS,eq_self,reduceIte,reduceCtorEq,Nat.reduceEqDiff,Nat.reduceAdd]
      exact hc _ _ ⟨rfl,s0,s3,s5⟩
    have hm1 : k - 1 < ps.length := by omega
    have hw1 : IntKind.i64.wrap ((k : Int) - 1) = ((k - 1 : Nat) : Int) := by rw [wrap64 (by omega) (by omega)]; omega
    simp (maxSteps := 1000000) (disch := omega) only [decide_eq_true g,s0,s3,s5,ldb cK,hw1,rK.ix Tryz.underlying24 cs53,Int.toNat_natCast,rK.ld ag53 cs53 hm1,eq_pr,SS,eq_self,reduceIte,reduceCtorEq,Nat.reduceEqDiff,Nat.reduceAdd]
    refine brD.intro (fun z => ?_) (fun z => ?_)
    · simp (maxSteps := 1000000) (disch := omega) only [s0,SS,eq_self,reduceIte,reduceCtorEq,Nat.reduceEqDiff,Nat.reduceAdd]
      refine hQ _ _ _ ?_
      simp (maxSteps := 1000000) (disch := omega) only [s0,hr.tup,SS,eq_self,reduceIte,reduceCtorEq,Nat.reduceEqDiff,Nat.reduceAdd]
      exact ⟨ps,(hm.pre (pA.trans pK)).rebase hb0.symm,by omega,fun y hy => .inl hy,.inl trivial,pA.trans pK⟩
    · simp (maxSteps := 1000000) (disch := omega) only [SS,eq_self,reduceIte,reduceCtorEq,Nat.reduceEqDiff,Nat.reduceAdd]
      exact hc _ _ ⟨rfl,s0,s3,s5⟩
  clear s0 s3 s5 s
  rintro s _ ⟨rfl,s0,s3,s5⟩
  have lK := (hp0.trans (pA.trans pK)).length_le
  generalize hC : K ++ [AObj.cells [] 53 false] = C
  have pC : K <+: C := by rw [← hC]; exact List.prefix_append _ _
  have lC : C.length = K.length + 1 := by rw [← hC]; simp
  have m0 : MineP 53 H0 C (.slice (some ⟨K.length,0,none⟩) 0 0) [] := by rw [← hC]; exact MineP.nil0 (P := Tryz.prog) H0 K lK
  generalize hD : C ++ [AObj.cells [.int .i64 a,.int .i64 b] 53 false] = D
  have pD : C <+: D := by rw [← hD]; exact List.prefix_append _ _
  have lD : D.length = C.length + 1 := by rw [← hD]; simp
  have at1 : D[C.length]? = some (.cells [.int .i64 a,.int .i64 b] 53 false) := by rw [← hD]; exact at_new ..
  have pKD := pC.trans pD
  have ks := bound_some (k := .i64) (i := (k : Int)) (by omega)
  have sl1 : ∀ {G : AH},RowP 53 G v ps → sliceA Tryz.prog 24 v none (some (.int .i64 (k : Int))) none G = some (subP v 0 k) ∧ RowP 53 G (subP v 0 k) (ps.take k) ∧ rowO (subP v 0 k) = rowO v := fun {G} h => by
    have := h.slice (P := Tryz.prog) (t := 24) Tryz.underlying24 cs53 lo_none (ks ps.length) (Nat.zero_le _) (by rw [Int.toNat_natCast]; exact hk)
    rw [Int.toNat_natCast,List.drop_zero,Nat.sub_zero] at this
    exact this
  have sl2 : ∀ {G : AH},RowP 53 G v ps → sliceA Tryz.prog 24 v (some (.int .i64 (k : Int))) none none G = some (subP v k ps.length) ∧ RowP 53 G (subP v k ps.length) (ps.drop k) ∧ rowO (subP v k ps.length) = rowO v := fun {G} h => by
    have := h.slice (P := Tryz.prog) (t := 24) Tryz.underlying24 cs53 (ks 0) (hi_none ps.length) (by rw [Int.toNat_natCast]; exact hk) (Nat.le_refl _)
    rw [Int.toNat_natCast,List.take_of_length_le (by simp)] at this
    exact this
  have rD := rK.pre pKD
  have hby : Tryz.prog.bytesOf 53 ≤ 64 := by rw [by53]; decide
  obtain ⟨v1,E,a1,a2,a3,a4,a5,a6⟩ := (m0.pre pD).app (P := Tryz.prog) (t := 24) Tryz.underlying24 cs53 hby zk53 (sl1 rD).2.1 (hp0.trans (pA.trans (pK.trans pKD))) (by simp; omega)
  rw [List.nil_append] at a2
  have kE : ∀ {j : Nat} {y : AObj},j ≠ K.length → D[j]? = some y → E[j]? = some y := fun hj hy => a4 _ _ (.inr hj) hy
  have pKE : K <+: E := prefix_of fun j y hy => kE (by have := at_lt hy; omega) (pre_at pKD hy)
  have rE := rK.pre pKE
  have at2 := kE (by omega) at1
  have rx : RowP 53 E (.slice (some ⟨C.length,0,none⟩) 1 1) [(a,b)] := .inr ⟨C.length,0,_,false,rfl,at2,by simp,rfl⟩
  have v1o : v1 = .slice (some ⟨K.length,0,none⟩) 0 0 ∨ D.length ≤ rowO v1 := by
    rcases a5 with q | q
    · exact .inr q
    · exact .inl q.1
  obtain ⟨v2,F,b1,b2,b3,b4,b5,b6⟩ := a2.app (P := Tryz.prog) (t := 24) Tryz.underlying24 cs53 hby zk53 rx a3 (by simp; omega)
  have kF : ∀ {j : Nat} {y : AObj},j < K.length → E[j]? = some y → F[j]? = some y := fun {j y} hj hy => b4 _ _ (.inr (by
    rcases v1o with q | q
    · rw [q]; show j ≠ K.length; omega
    · omega)) hy
  have pKF : K <+: F := prefix_of fun j y hy => kF (at_lt hy) (pre_at pKE hy)
  have rF := rK.pre pKF
  have cE : E[C.length]? = D[C.length]? := by rw [at2,at1]
  obtain ⟨v3,G,c1,c2,c3,c4,c5,c6⟩ := b2.app (P := Tryz.prog) (t := 24) Tryz.underlying24 cs53 hby zk53 (sl2 rF).2.1 b3 (by simp; omega)
  have v2o : K.length ≤ rowO v2 := by
    rcases b5 with q | q
    · omega
    · rw [q.1]
      rcases v1o with z | z
      · rw [z]; exact Nat.le_refl _
      · omega
  have pKG : K <+: G := prefix_of fun j y hy => c4 _ _ (.inr (by have := at_lt hy; omega)) (pre_at pKF hy)
  simp (maxSteps := 1000000) (disch := omega) only [s0,s3,s5,hC,(sl1 (rK.pre pC)).1,ldb (pre_at pC cK),hD,(sl2 rD).1,a1,(sl2 rE).1,cE,ldb (pre_at pKE cK),b1,(sl2 rF).1,c1,SS,eq_self,reduceIte,reduceCtorEq,Nat.reduceEqDiff,Nat.reduceAdd]
  refine hQ _ _ _ ?_
  simp (maxSteps := 1000000) (disch := omega) only [c2.row.tup,SS,eq_self,reduceIte,reduceCtorEq,Nat.reduceEqDiff,Nat.reduceAdd]
  have v3o : H.length ≤ rowO v3 := by
    have l1 := (pA.trans pK).length_le
    have l2 := pKF.length_le
    rcases c5 with q | q
    · omega
    · rw [q.1]; omega
  refine ⟨_,c2.rebase hb0.symm,by simp; omega,fun y hy => ?_,.inr v3o,pA.trans (pK.trans pKG)⟩
  rcases List.mem_append.1 hy with hy | hy
  · rcases List.mem_append.1 hy with hy | hy
    · exact .inl (List.mem_of_mem_take hy)
    · exact .inr (by simpa using hy)
  · exact .inl (List.mem_of_mem_drop hy)
def ords103 : List (Nat × List (Nat × Bool)) := []
def cd103 : Cd := (.seq (.reg [⟨⟨some 4,Op.assign (Operand.const (Value.bool false)),none⟩,[]⟩]) (.seq (.seq (.reg [⟨⟨some 5,Op.assign (Operand.const (Value.int IntKind.i64 0)),none⟩,[]⟩]) (.block 0 (.loop (.seq (.seq (.reg [⟨⟨some 6,Op.move (Operand.tmp 5),none⟩,[]⟩,
  ⟨⟨some 7,Op.move (Operand.tmp 0),none⟩,[]⟩,
  ⟨⟨some 8,Op.call { callee := (Callee.builtin Builtin.len),args := #[(Operand.tmp 7)],argTypes := #[27] },none⟩,[]⟩,
  ⟨⟨some 9,Op.binOp BinOp.lss 3 (Operand.tmp 6) (Operand.tmp 8) 3,none⟩,[]⟩]) (.cond (Operand.tmp 9) .skip (.exit 0))) (.seq (.block 1 (.seq (.reg [⟨⟨some 12,Op.move (Operand.tmp 0),none⟩,[]⟩,
  ⟨⟨some 13,Op.move (Operand.tmp 5),none⟩,[]⟩,
  ⟨⟨some 14,Op.indexAddr 27 (Operand.tmp 12) (Operand.tmp 13),none⟩,[]⟩,
  ⟨⟨some 15,Op.load 3 (Operand.tmp 14),none⟩,[]⟩,
  ⟨⟨some 16,Op.move (Operand.tmp 1),none⟩,[]⟩,
  ⟨⟨some 17,Op.binOp BinOp.eql 3 (Operand.tmp 15) (Operand.tmp 16) 3,none⟩,[]⟩]) (.cond (Operand.tmp 17) (.seq (.reg [⟨⟨some 4,Op.assign (Operand.const (Value.bool true)),none⟩,[]⟩]) .ret) .skip))) (.reg [⟨⟨some 10,Op.move (Operand.tmp 5),none⟩,[]⟩,
  ⟨⟨some 11,Op.binOp BinOp.add 3 (Operand.tmp 10) (Operand.const (Value.int IntKind.i64 1)) 3,none⟩,[]⟩,
  ⟨⟨some 5,Op.assign (Operand.tmp 11),none⟩,[]⟩])))))) (.seq (.reg [⟨⟨some 4,Op.assign (Operand.const (Value.bool false)),none⟩,[]⟩]) .ret)))
theorem sl103 : slim Tryz.f103.ntmps ords103 (Tryz.f103.body.getD .skip) = some cd103 := by kernel_rfl
theorem in103 {args : List Value} {H : AH} {R : Value → AH → Prop} (hl : args.length = 2) (h : ∀ (Q : Exit → Sl → AH → Prop),(∀ e s H,endA Tryz.prog [ResultVar.tmp 4] R e s H → Q e s H) → wpC Tryz.prog cd103 Q (enterA args) H) : ACalls Tryz.prog 103 args H R :=
  ACalls.intro (by kernel_rfl) Tryz.func103 rfl (by kernel_rfl) sl103 hl (of_decide_eq_true (by kernel_rfl)) (by kernel_rfl) h
end Go.Proofs.YtelafbennmclfaaGreat.Ai
namespace Go.Proofs.YtelafbennmclfaaGreat.Ai
open Go Go.RowKit
theorem l1Has_c (v : Value) (xs : List Int) (x : Int) (H : AH) (hr : Row 3 H v xs) (hlen : xs.length ≤ 1099511627776) : ACalls Tryz.prog 103 [v,.int .i64 x] H fun r H' => r = .bool (decide (x ∈ xs)) ∧ H = H' := by
  refine in103 rfl ?_
  intro Q hQ
  simp (maxSteps := 1000000) (disch := omega) only [cd103,SS,eq_self,reduceIte,reduceCtorEq,Nat.reduceEqDiff,Nat.reduceAdd]
  refine LoopH.by (fun m s H' => ∃ i,m + i = xs.length ∧ s 0 = v ∧ s 1 = .int .i64 x ∧ s 5 = .int .i64 ((i : Nat) : Int) ∧ H = H' ∧ x ∉ xs.take i) xs.length ?_ ?_
  · exact ⟨0,by simp,rfl,rfl,rfl,rfl,by simp⟩
  · rintro m s H' ⟨i,hm,h0,h1,h5,rfl,hn⟩
    simp (maxSteps := 1000000) (disch := omega) only [h0,h1,h5,hr.len Tryz.underlying27,SS,eq_self,reduceIte,reduceCtorEq,Nat.reduceEqDiff,Nat.reduceAdd]
    refine brD.intro (fun g => ?_) (fun g => ?_) <;> simp (maxSteps := 1000000) (disch := omega) only [h0,h1,h5,hr.ix Tryz.underlying27 cs3,hr.cell,Int.toNat_natCast,SS,eq_self,reduceIte,reduceCtorEq,Nat.reduceEqDiff,Nat.reduceAdd]
    · have hi : i < xs.length := by omega
      have hg : xs.getD i 0 = xs[i] := by simp [hi]
      refine brD.intro (fun e => ?_) (fun e => ?_) <;> simp (maxSteps := 1000000) (disch := omega) only [h0,h1,h5,wrap64,SS,eq_self,reduceIte,reduceCtorEq,Nat.reduceEqDiff,Nat.reduceAdd]
      · refine hQ _ _ _ ?_
        simp (maxSteps := 1000000) (disch := omega) only [SS,eq_self,reduceIte,reduceCtorEq,Nat.reduceEqDiff,Nat.reduceAdd]
        rw [hg] at e
        have : x ∈ xs := e ▸ List.getElem_mem hi
        simp [this]
      · refine ⟨m - 1,by omega,i + 1,by omega,by simp,?_⟩
        rw [List.take_add_one,List.getElem?_eq_getElem hi]
        rw [hg] at e
        simp only [Option.toList_some,List.mem_append,List.mem_singleton,not_or]
        exact ⟨hn,fun e' => e e'.symm⟩
    · refine hQ _ _ _ ?_
      simp (maxSteps := 1000000) (disch := omega) only [SS,eq_self,reduceIte,reduceCtorEq,Nat.reduceEqDiff,Nat.reduceAdd]
      rw [List.take_of_length_le (by omega)] at hn
      simp [hn]
def idxP (p : Int → Bool) : List Int → Nat → Int
  | [],_ => -1
  | x :: xs,k => if p x = true then (k : Int) else idxP p xs (k + 1)
theorem idxP_step (p : Int → Bool) (xs : List Int) (i : Nat) (hi : i < xs.length) : idxP p (xs.drop i) i = if p (xs.getD i 0) = true then (i : Int) else idxP p (xs.drop (i + 1)) (i + 1) := by
  rw [List.drop_eq_getElem_cons hi]
  simp [idxP,hi]
theorem idxP_any (p : Int → Bool) : ∀ (xs : List Int) (k : Nat),(0 ≤ idxP p xs k) ↔ xs.any p = true
  | [],k => by simp [idxP]
  | x :: xs,k => by
    simp only [idxP,List.any_cons]
    cases h : p x with
    | true => simp
    | false => simp [idxP_any p xs (k + 1)]
end Go.Proofs.YtelafbennmclfaaGreat.Ai
namespace Go.Proofs.YtelafbennmclfaaGreat.Ai
open Go Go.RowKit
theorem I64.tdiv {x : Int} (h : I64 x) : IntKind.i64.wrap (x.tdiv 10) = x.tdiv 10 := by
  obtain ⟨h1,h2⟩ := h
  have hle : (x.tdiv 10).natAbs ≤ x.natAbs := by rw [Int.natAbs_tdiv]; exact Nat.div_le_self _ _
  by_cases h0 : 0 ≤ x
  · have := Int.tdiv_nonneg h0 (by decide : (0 : Int) ≤ 10)
    exact wrap64 (by omega) (by omega)
  · rw [IntKind.wrap_i64]
    have : (x.tdiv 10).natAbs ≤ 922337203685477580 := by
      rw [Int.natAbs_tdiv]
      show x.natAbs / 10 ≤ _
      omega
    omega
def Crs (x y : Int) : Prop := x.tdiv 10 < y.tdiv 10 ∧ y.tdiv 10 < x.tmod 10 ∧ x.tmod 10 < y.tmod 10 ∨ y.tdiv 10 < x.tdiv 10 ∧ x.tdiv 10 < y.tmod 10 ∧ y.tmod 10 < x.tmod 10
instance (x y : Int) : Decidable (Crs x y) := inferInstanceAs (Decidable (_ ∨ _))
def Diag (n d : Int) : Prop := 0 ≤ d ∧ d.tmod 10 < n ∧ 1 < d.tmod 10 - d.tdiv 10 ∧ ¬ (d.tdiv 10 = 0 ∧ d.tmod 10 = n - 1)
instance (n d : Int) : Decidable (Diag n d) := inferInstanceAs (Decidable (_ ∧ _))
end Go.Proofs.YtelafbennmclfaaGreat.Ai
namespace Go.Proofs.YtelafbennmclfaaGreat.Ai
open Go Go.RowKit
def dgRow (n a : Int) : Nat → List Int
  | 0 => []
  | k + 1 => dgRow n a k ++ (if 0 < a ∨ a + 2 + (k : Int) < n - 1 then [10 * a + (a + 2 + (k : Int))] else [])
def dgs (n : Int) : Nat → List Int
  | 0 => []
  | a + 1 => dgs n a ++ dgRow n a (n - a - 2).toNat
def triOkS (n : Int) (xs : List Int) (i : Nat) : Bool := decide (xs.getD i 0 ∈ dgs n n.toNat) && (decide (i = 0) || decide (xs.getD (i - 1) 0 < xs.getD i 0)) && !(xs.take i).any fun y => decide (Crs y (xs.getD i 0))
def triS (n : Int) (xs : List Int) : Bool := (List.range xs.length).all (triOkS n xs) && decide ((xs.length : Int) = n - 3)
end Go.Proofs.YtelafbennmclfaaGreat.Ai
namespace Go.Proofs.YtelafbennmclfaaGreat.Ai
open Go
def ords40 : List (Nat × List (Nat × Bool)) := []
def cd40 : Cd := (.seq (.reg [⟨⟨some 4,Op.assign (Operand.const (Value.int IntKind.i64 0)),none⟩,[]⟩]) (.seq (.seq (.reg [⟨⟨some 6,Op.move (Operand.tmp 0),none⟩,[]⟩,
  ⟨⟨some 7,Op.call { callee := (Callee.builtin Builtin.len),args := #[(Operand.tmp 6)],argTypes := #[43] },none⟩,[]⟩,
  ⟨⟨some 8,Op.move (Operand.const (Value.int IntKind.i64 0)),none⟩,[]⟩]) (.block 0 (.loop (.seq (.reg [⟨⟨some 9,Op.binOp BinOp.lss 3 (Operand.tmp 8) (Operand.tmp 7) 3,none⟩,[]⟩]) (.seq (.cond (Operand.tmp 9) .skip (.exit 0)) (.seq (.block 1 (.seq (.reg [⟨⟨some 10,Op.move (Operand.tmp 8),none⟩,[]⟩,
  ⟨⟨some 5,Op.assign (Operand.tmp 10),none⟩,[]⟩]) (.seq (.reg [⟨⟨some 11,Op.move (Operand.tmp 1),none⟩,[]⟩,
  ⟨⟨some 12,Op.move (Operand.tmp 0),none⟩,[]⟩,
  ⟨⟨some 13,Op.move (Operand.tmp 5),none⟩,[]⟩,
  ⟨⟨some 14,Op.indexAddr 43 (Operand.tmp 12) (Operand.tmp 13),none⟩,[]⟩,
  ⟨⟨some 15,Op.load 27 (Operand.tmp 14),none⟩,[]⟩,
  ⟨⟨some 16,Op.call { callee := (Callee.value (Operand.tmp 11)),args := #[(Operand.tmp 15)],argTypes := #[27] },none⟩,[]⟩]) (.cond (Operand.tmp 16) (.seq (.reg [⟨⟨some 17,Op.move (Operand.tmp 5),none⟩,[]⟩,
  ⟨⟨some 4,Op.assign (Operand.tmp 17),none⟩,[]⟩]) .ret) .skip)))) (.reg [⟨⟨some 18,Op.binOp BinOp.add 3 (Operand.tmp 8) (Operand.const (Value.int IntKind.i64 1)) 3,none⟩,[]⟩,
  ⟨⟨some 8,Op.move (Operand.tmp 18),none⟩,[]⟩]))))))) (.seq (.reg [⟨⟨some 4,Op.assign (Operand.const (Value.int IntKind.i64 (-1))),none⟩,[]⟩]) .ret)))
theorem sl40 : slim Tryz.f40.ntmps ords40 (Tryz.f40.body.getD .skip) = some cd40 := by kernel_rfl
theorem in40 {args : List Value} {H : AH} {R : Value → AH → Prop} (hl : args.length = 2) (h : ∀ (Q : Exit → Sl → AH → Prop),(∀ e s H,endA Tryz.prog [ResultVar.tmp 4] R e s H → Q e s H) → wpC Tryz.prog cd40 Q (enterA args) H) : ACalls Tryz.prog 40 args H R :=
  ACalls.intro (by kernel_rfl) Tryz.func40 rfl (by kernel_rfl) sl40 hl (of_decide_eq_true (by kernel_rfl)) (by kernel_rfl) h
end Go.Proofs.YtelafbennmclfaaGreat.Ai
namespace Go.Proofs.YtelafbennmclfaaGreat.Ai
open Go Go.RowKit
def idxB : List Bool → Nat → Int
  | [],_ => -1
  | b :: bs,k => if b = true then (k : Int) else idxB bs (k + 1)
theorem idxB_step (bs : List Bool) (i : Nat) (hi : i < bs.length) : idxB (bs.drop i) i = if bs.getD i false = true then (i : Int) else idxB (bs.drop (i + 1)) (i + 1) := by
  rw [List.drop_eq_getElem_cons hi]
  simp [idxB,hi]
theorem IndexFuncL_c (v : Value) (us : List Value) (bs : List Bool) (g : FuncId) (caps : List Value) (H : AH) (hr : RowV 27 H v us) (hlen : us.length ≤ 1099511627776) (hb : bs.length = us.length)
    (hp : ∀ i,i < us.length → ∀ H1,H <+: H1 → ACalls Tryz.prog g (us.getD i undef :: caps) H1 fun r H' => r = .bool (bs.getD i false) ∧ H1 <+: H') :
    ACalls Tryz.prog 40 [v,.func (.func g) #[] (List.toArray caps)] H fun r H' => r = .int .i64 (idxB bs 0) ∧ H <+: H' := by
  refine in40 rfl ?_
  intro Q hQ
  simp (maxSteps := 1000000) (disch := omega) only [cd40,hr.len Tryz.underlying43,SS,eq_self,reduceIte,reduceCtorEq,Nat.reduceEqDiff,Nat.reduceAdd]
  refine LoopH.by (fun m s H' => ∃ i,m + i = us.length ∧ s 0 = v ∧ s 1 = .func (.func g) #[] (List.toArray caps) ∧ s 8 = .int .i64 ((i : Nat) : Int) ∧ s 7 = .int .i64 (us.length : Int) ∧ H <+: H' ∧ idxB bs 0 = idxB (bs.drop i) i) us.length ?_ ?_
  · exact ⟨0,by simp,rfl,rfl,rfl,rfl,List.prefix_refl _,by simp⟩
  · rintro m s H' ⟨i,hm,h0,h1,h8,h7,hpp,hn⟩
    have hr' := hr.pre hpp
    simp (maxSteps := 1000000) (disch := omega) only [h0,h1,h8,h7,SS,eq_self,reduceIte,reduceCtorEq,Nat.reduceEqDiff,Nat.reduceAdd]
    refine brD.intro (fun g => ?_) (fun g => ?_) <;> simp (maxSteps := 1000000) (disch := omega) only [h0,h1,h8,h7,hr'.ix Tryz.underlying43 cs27,hr'.cell,Int.toNat_natCast,SS,eq_self,reduceIte,reduceCtorEq,Nat.reduceEqDiff,Nat.reduceAdd]
    · have hi : i < us.length := by omega
      rw [idxB_step bs i (by omega)] at hn
      refine CallH.by (hp i hi H' hpp) ?_
      rintro _ H2 ⟨rfl,hp2⟩
      simp (maxSteps := 1000000) (disch := omega) only [SS,eq_self,reduceIte,reduceCtorEq,Nat.reduceEqDiff,Nat.reduceAdd]
      refine brH.intro (fun e => ?_) (fun e => ?_) <;> simp (maxSteps := 1000000) (disch := omega) only [h0,h1,h8,h7,wrap64,SS,eq_self,reduceIte,reduceCtorEq,Nat.reduceEqDiff,Nat.reduceAdd]
      · refine hQ _ _ _ ?_
        simp (maxSteps := 1000000) (disch := omega) only [SS,eq_self,reduceIte,reduceCtorEq,Nat.reduceEqDiff,Nat.reduceAdd]
        rw [hn,if_pos e]
        exact ⟨rfl,hpp.trans hp2⟩
      · rw [if_neg (by rw [e]; decide)] at hn
        exact ⟨m - 1,by omega,i + 1,by omega,by simp,hpp.trans hp2,hn⟩
    · refine hQ _ _ _ ?_
      simp (maxSteps := 1000000) (disch := omega) only [SS,eq_self,reduceIte,reduceCtorEq,Nat.reduceEqDiff,Nat.reduceAdd]
      rw [hn,List.drop_of_length_le (by omega)]
      exact ⟨rfl,hpp⟩
end Go.Proofs.YtelafbennmclfaaGreat.Ai
namespace Go.Proofs.YtelafbennmclfaaGreat.Ai
open Go Go.RowKit
def At (d c : Int) : Prop := d.tdiv 10 = c ∨ d.tmod 10 = c
instance (d c : Int) : Decidable (At d c) := inferInstanceAs (Decidable (_ ∨ _))
def Tri1 (n : Int) (xs : List Int) : Prop := (3 ≤ n ∧ n ≤ 8) ∧ triS n xs = true
instance (n : Int) (xs : List Int) : Decidable (Tri1 n xs) := inferInstanceAs (Decidable (_ ∧ _))
def Tri2 (n : Int) (xs ys : List Int) : Prop := (3 ≤ n ∧ n ≤ 8) ∧ triS n xs = true ∧ triS n ys = true
instance (n : Int) (xs ys : List Int) : Decidable (Tri2 n xs ys) := inferInstanceAs (Decidable (_ ∧ _))
theorem Tri1.len {n : Int} {xs : List Int} (h : Tri1 n xs) : (xs.length : Int) = n - 3 := by
  have h := h.2
  unfold triS at h
  simp only [Bool.and_eq_true,decide_eq_true_eq] at h
  exact h.2
theorem Tri2.a {n : Int} {xs ys : List Int} (h : Tri2 n xs ys) : Tri1 n xs := ⟨h.1,h.2.1⟩
theorem Tri2.b {n : Int} {xs ys : List Int} (h : Tri2 n xs ys) : Tri1 n ys := ⟨h.1,h.2.2⟩
theorem Tri1.mem {n : Int} {xs : List Int} (h : Tri1 n xs) {d : Int} (hd : d ∈ xs) : d ∈ dgs n n.toNat := by
  have h := h.2
  unfold triS triOkS at h
  simp only [Bool.and_eq_true,List.all_eq_true,decide_eq_true_eq] at h
  obtain ⟨i,hi,e⟩ := List.getElem_of_mem hd
  have := (h.1 i (List.mem_range.2 hi)).1.1
  rw [List.getD_eq_getElem?_getD,List.getElem?_eq_getElem hi,Option.getD_some,e] at this
  exact this
end Go.Proofs.YtelafbennmclfaaGreat.Ai
namespace Go.Proofs.YtelafbennmclfaaGreat.Ai
open Go
def ords50 : List (Nat × List (Nat × Bool)) := []
def cd50 : Cd := (.seq (.reg [⟨⟨some 4,Op.assign (Operand.const (Value.int IntKind.i64 0)),none⟩,[]⟩]) (.seq (.seq (.reg [⟨⟨some 5,Op.move (Operand.tmp 0),none⟩,[]⟩,
  ⟨⟨some 6,Op.move (Operand.tmp 1),none⟩,[]⟩,
  ⟨⟨some 7,Op.binOp BinOp.lss 3 (Operand.tmp 5) (Operand.tmp 6) 3,none⟩,[]⟩]) (.cond (Operand.tmp 7) (.seq (.reg [⟨⟨some 8,Op.move (Operand.tmp 0),none⟩,[]⟩,
  ⟨⟨some 4,Op.assign (Operand.tmp 8),none⟩,[]⟩]) .ret) .skip)) (.seq (.reg [⟨⟨some 9,Op.move (Operand.tmp 1),none⟩,[]⟩,
  ⟨⟨some 4,Op.assign (Operand.tmp 9),none⟩,[]⟩]) .ret)))
theorem sl50 : slim Tryz.f50.ntmps ords50 (Tryz.f50.body.getD .skip) = some cd50 := by kernel_rfl
theorem in50 {args : List Value} {H : AH} {R : Value → AH → Prop} (hl : args.length = 2) (h : ∀ (Q : Exit → Sl → AH → Prop),(∀ e s H,endA Tryz.prog [ResultVar.tmp 4] R e s H → Q e s H) → wpC Tryz.prog cd50 Q (enterA args) H) : ACalls Tryz.prog 50 args H R :=
  ACalls.intro (by kernel_rfl) Tryz.func50 rfl (by kernel_rfl) sl50 hl (of_decide_eq_true (by kernel_rfl)) (by kernel_rfl) h
end Go.Proofs.YtelafbennmclfaaGreat.Ai
namespace Go.Proofs.YtelafbennmclfaaGreat.Ai
open Go Go.RowKit
theorem l1Least_c (a b : Int) (H : AH) : ACalls Tryz.prog 50 [.int .i64 a,.int .i64 b] H fun r H' => r = .int .i64 (if a < b then a else b) ∧ H = H' := by
  refine in50 rfl ?_
  intro Q hQ
  simp (maxSteps := 1000000) (disch := omega) only [cd50,SS,eq_self,reduceIte,reduceCtorEq,Nat.reduceEqDiff,Nat.reduceAdd]
  refine brD.intro (fun h => ?_) (fun h => ?_) <;> simp (maxSteps := 1000000) (disch := omega) only [h,SS,eq_self,reduceIte,reduceCtorEq,Nat.reduceEqDiff,Nat.reduceAdd] <;> refine hQ _ _ _ ?_ <;> simp (maxSteps := 1000000) (disch := omega) only [h,SS,eq_self,reduceIte,reduceCtorEq,Nat.reduceEqDiff,Nat.reduceAdd]
theorem prm_range {p : List Int} (h : Prm p) : (∀ i,i < p.length → 0 ≤ p.getD i 0 ∧ p.getD i 0 < p.length) ∧ ∀ i j,i < p.length → j < p.length → p.getD i 0 = p.getD j 0 → i = j := by
  have hm := List.mergeSort_perm p (fun x y => decide (x ≤ y))
  have hs : (p.mergeSort (fun x y => decide (x ≤ y))).Pairwise (fun x y => decide (x ≤ y) = true) := List.pairwise_mergeSort (fun a b c h1 h2 => by simp at *; omega) (fun a b => by simp; omega) p
  have ha : Asc (p.mergeSort (fun x y => decide (x ≤ y))) := by
    intro i j hij hj
    rw [List.pairwise_iff_getElem] at hs
    have := hs i j (by omega) hj hij
    simp only [decide_eq_true_eq] at this
    rw [List.getD_eq_getElem?_getD,List.getD_eq_getElem?_getD,List.getElem?_eq_getElem hj,List.getElem?_eq_getElem (show i < (p.mergeSort (fun x y => decide (x ≤ y))).length by omega)]
    exact this
  have hat := prm_at h hm ha
  have hl := hm.length_eq
  generalize p.mergeSort (fun x y => decide (x ≤ y)) = ys at *
  have mem : ∀ y ∈ p,0 ≤ y ∧ y < p.length := by
    intro y hy
    obtain ⟨i,hi,e⟩ := pos_ex (hm.mem_iff.2 hy)
    rw [hat i hi] at e
    omega
  have nd : ys.Nodup := by
    rw [List.Nodup,List.pairwise_iff_getElem]
    intro i j hi hj hij e
    have h1 := hat i hi
    have h2 := hat j hj
    simp only [List.getD_eq_getElem?_getD,List.getElem?_eq_getElem hi,List.getElem?_eq_getElem hj,Option.getD_some] at h1 h2
    omega
  have pd : p.Nodup := hm.nodup_iff.1 nd
  refine ⟨fun i hi => mem _ (by simp [hi]),fun i j hi hj e => ?_⟩
  rw [List.Nodup,List.pairwise_iff_getElem] at pd
  simp only [List.getD_eq_getElem?_getD,List.getElem?_eq_getElem hi,List.getElem?_eq_getElem hj,Option.getD_some] at e
  rcases Nat.lt_trichotomy i j with g | g | g
  · exact absurd e (pd i j hi hj g)
  · exact g
  · exact absurd e.symm (pd j i hj hi g)
def orb (p : List Int) (x y : Int) : Nat → List Int
  | 0 => []
  | n + 1 => if y = x then [] else y :: orb p x (p.getD y.toNat 0) n
def cycC (p : List Int) (x : Int) : List Int := x :: orb p x (p.getD x.toNat 0) p.length
theorem orb_self (p : List Int) (x : Int) (n : Nat) : orb p x x n = [] := by cases n <;> simp [orb]
structure Way (p : List Int) (x : Int) (c : List Int) (y : Int) : Prop where
  rng : ∀ z ∈ c,0 ≤ z ∧ z < p.length
  nd : c.Nodup
  ne : c ≠ []
  head : c.getD 0 0 = x
  step : ∀ i,i + 1 < c.length → c.getD (i + 1) 0 = p.getD (c.getD i 0).toNat 0
  last : y = p.getD (c.getD (c.length - 1) 0).toNat 0
  tail : cycC p x = c ++ orb p x y (p.length + 1 - c.length)
theorem nodup_len (n : Nat) : ∀ (c : List Int),c.Nodup → (∀ z ∈ c,0 ≤ z ∧ z < (n : Int)) → c.length ≤ n := by
  induction n with
  | zero =>
    intro c _ h
    cases c with
    | nil => simp
    | cons z c => have := h z (by simp); omega
  | succ n ih =>
    intro c hn h
    have hn' := hn.erase (n : Int)
    have hl : c.length ≤ (c.erase (n : Int)).length + 1 := by
      rw [List.length_erase]; split <;> omega
    have := ih (c.erase (n : Int)) hn' (fun z hz => by
      have h1 := h z (List.mem_of_mem_erase hz)
      have h2 : z ≠ n := fun e => by
        subst e
        exact (hn.not_mem_erase) hz
      omega)
    omega
theorem Way.len {p : List Int} {x y : Int} {c : List Int} (h : Way p x c y) : 1 ≤ c.length ∧ c.length ≤ p.length := by
  refine ⟨?_,nodup_len _ c h.nd h.rng⟩
  have := h.ne
  cases c with
  | nil => exact absurd rfl this
  | cons _ _ => simp
theorem getD_mem {c : List Int} {i : Nat} (h : i < c.length) : c.getD i 0 ∈ c := by simp [h]
theorem Way.yrng {p : List Int} {x y : Int} {c : List Int} (hp : Prm p) (h : Way p x c y) : 0 ≤ y ∧ y < p.length := by
  have hl := h.len
  have := h.rng _ (getD_mem (show c.length - 1 < c.length by omega))
  rw [h.last]
  exact (prm_range hp).1 _ (by omega)
theorem Way.back {p : List Int} {x y : Int} {c : List Int} (hp : Prm p) (h : Way p x c y) (hy : y ∈ c) : y = x := by
  have hl := h.len
  obtain ⟨i,hi,e⟩ := pos_ex hy
  by_cases h0 : i = 0
  · subst h0; rw [← e,h.head]
  · have h1 := h.step (i - 1) (by omega)
    rw [show i - 1 + 1 = i from by omega,e,h.last] at h1
    have r1 := h.rng _ (getD_mem (show c.length - 1 < c.length by omega))
    have r2 := h.rng _ (getD_mem (show i - 1 < c.length by omega))
    have := (prm_range hp).2 _ _ (by omega) (by omega) h1
    have e2 : c.getD (c.length - 1) 0 = c.getD (i - 1) 0 := by omega
    have nd := h.nd
    rw [List.Nodup,List.pairwise_iff_getElem] at nd
    simp only [List.getD_eq_getElem?_getD,List.getElem?_eq_getElem (show c.length - 1 < c.length by omega),List.getElem?_eq_getElem (show i - 1 < c.length by omega),Option.getD_some] at e2
    exact absurd e2.symm (nd (i - 1) (c.length - 1) (by omega) (by omega) (by omega))
set_option linter.unusedVariables false in
theorem Way.first {p : List Int} (hp : Prm p) {x : Nat} (hx : x < p.length) : Way p (x : Int) [(x : Int)] (p.getD x 0) :=
  ⟨fun z hz => by simp at hz; omega,by simp,by simp,rfl,fun i hi => by simp at hi,by simp,by simp [cycC]⟩
set_option linter.unusedVariables false in
theorem Way.next {p : List Int} {x y : Int} {c : List Int} (hp : Prm p) (h : Way p x c y) (hy : y ≠ x) : Way p x (c ++ [y]) (p.getD y.toNat 0) := by
  have hl := h.len
  have hyr := h.yrng hp
  have hni : y ∉ c := fun hm => hy (h.back hp hm)
  have hnd : (c ++ [y]).Nodup := List.nodup_append.2 ⟨h.nd,by simp,fun a ha b hb e => by simp at hb; subst hb; exact hni (e ▸ ha)⟩
  have hlen := nodup_len p.length (c ++ [y]) hnd (fun z hz => by
    rcases List.mem_append.1 hz with g | g
    · exact h.rng z g
    · simp at g; rw [g]; exact hyr)
  simp only [List.length_append,List.length_cons,List.length_nil] at hlen
  have at1 : ∀ i,i < c.length → (c ++ [y]).getD i 0 = c.getD i 0 := fun i hi => by
    rw [List.getD_eq_getElem?_getD,List.getD_eq_getElem?_getD,List.getElem?_append_left hi]
  have at2 : (c ++ [y]).getD c.length 0 = y := by
    rw [List.getD_eq_getElem?_getD,List.getElem?_append_right (Nat.le_refl _)]; simp
  refine ⟨fun z hz => ?_,hnd,by simp,by rw [at1 0 (by omega)]; exact h.head,fun i hi => ?_,?_,?_⟩
  · rcases List.mem_append.1 hz with g | g
    · exact h.rng z g
    · simp at g; rw [g]; exact hyr
  · simp only [List.length_append,List.length_cons,List.length_nil] at hi
    by_cases c1 : i + 1 < c.length
    · rw [at1 _ c1,at1 _ (by omega)]; exact h.step i c1
    · have : i = c.length - 1 := by omega
      subst this
      rw [show c.length - 1 + 1 = c.length from by omega,at2,at1 _ (by omega)]
      exact h.last
  · simp only [List.length_append,List.length_cons,List.length_nil,Nat.add_sub_cancel]
    rw [at2]
  · have := h.tail
    obtain ⟨n,hn⟩ : ∃ n,p.length + 1 - c.length = n + 1 := ⟨p.length - c.length,by omega⟩
    rw [hn] at this
    simp only [orb,if_neg hy] at this
    rw [this]
    simp only [List.length_append,List.length_cons,List.length_nil,List.append_assoc,List.cons_append,List.nil_append]
    rw [show p.length + 1 - (c.length + (0 + 1)) = n from by omega]
theorem Way.done {p : List Int} {x : Int} {c : List Int} (h : Way p x c x) : c = cycC p x := by
  rw [h.tail,orb_self,List.append_nil]
def Shut (p s : List Int) : Prop := (∀ z ∈ s,0 ≤ z ∧ z < p.length) ∧ ∀ z : Nat,z < p.length → p.getD z 0 ∈ s → (z : Int) ∈ s
theorem Way.out {p s : List Int} {x y : Int} {c : List Int} (h : Way p x c y) (hs : Shut p s) (hd : ∀ z ∈ c,z ∉ s) : y ∉ s := by
  have hl := h.len
  have hm := getD_mem (show c.length - 1 < c.length by omega)
  have r := h.rng _ hm
  intro hy
  rw [h.last] at hy
  have := hs.2 (c.getD (c.length - 1) 0).toNat (by omega) hy
  rw [show (((c.getD (c.length - 1) 0).toNat : Nat) : Int) = c.getD (c.length - 1) 0 from by omega] at this
  exact hd _ hm this
def ax (q : List Int) (x : Int) : Int := idxP (fun y => decide (x = y)) q 0
theorem idxP_at (p : Int → Bool) : ∀ (xs : List Int) (k : Nat),xs.any p = true → ∃ i : Nat,i < xs.length ∧ idxP p xs k = ((k + i : Nat) : Int) ∧ p (xs.getD i 0) = true
  | [],k,h => by simp at h
  | x :: xs,k,h => by
    by_cases hx : p x = true
    · exact ⟨0,by simp,by simp [idxP,hx],by simpa using hx⟩
    · have : xs.any p = true := by simpa [hx] using h
      obtain ⟨i,h1,h2,h3⟩ := idxP_at p xs (k + 1) this
      refine ⟨i + 1,by simpa using h1,?_,by simpa using h3⟩
      rw [idxP,if_neg hx,h2]
      congr 1; omega
theorem ax_at {q : List Int} {x : Int} (h : x ∈ q) : ∃ i : Nat,i < q.length ∧ ax q x = (i : Int) ∧ q.getD i 0 = x := by
  obtain ⟨i,h1,h2,h3⟩ := idxP_at (fun y => decide (x = y)) q 0 (by simpa using h)
  refine ⟨i,h1,by rw [ax,h2]; congr 1; omega,?_⟩
  have := of_decide_eq_true h3
  exact this.symm
def swp (p : List Int) (a b : Nat) : List Int := (p.set a (p.getD b 0)).set b (p.getD a 0)
theorem swp_len (p : List Int) (a b : Nat) : (swp p a b).length = p.length := by simp [swp]
theorem swp_at (p : List Int) (a b k : Nat) (ha : a < p.length) (hb : b < p.length) (hk : k < p.length) : (swp p a b).getD k 0 = if k = b then p.getD a 0 else if k = a then p.getD b 0 else p.getD k 0 := by
  unfold swp
  rw [List.getD_eq_getElem?_getD,List.getElem?_set]
  by_cases h1 : b = k
  · subst h1
    rw [if_pos rfl,if_pos (by simpa using hb),if_pos rfl]; rfl
  · rw [if_neg h1,if_neg (fun e => h1 e.symm),List.getElem?_set]
    by_cases h2 : a = k
    · subst h2
      rw [if_pos rfl,if_pos ha,if_pos rfl]; rfl
    · rw [if_neg h2,if_neg (fun e => h2 e.symm),← List.getD_eq_getElem?_getD]
theorem mem_getD {q : List Int} {k : Nat} (h : k < q.length) : q.getD k 0 ∈ q := by simp [h]
theorem swp_prm {p : List Int} (h : Prm p) {a b : Nat} (ha : a < p.length) (hb : b < p.length) : Prm (swp p a b) := by
  refine ⟨by rw [swp_len]; exact h.1,fun x hx => ?_⟩
  rw [swp_len] at hx
  obtain ⟨i,hi,e⟩ := pos_ex (h.2 x hx)
  have mk : ∀ k,k < p.length → (swp p a b).getD k 0 = x → (x : Int) ∈ swp p a b := fun k hk e => by
    rw [← e]; exact mem_getD (by rw [swp_len]; exact hk)
  by_cases h1 : i = a
  · subst h1; exact mk b hb (by rw [swp_at p _ b b ha hb hb,if_pos rfl]; exact e)
  · by_cases h2 : i = b
    · subst h2
      by_cases h3 : a = i
      · exact absurd h3.symm h1
      · exact mk a ha (by rw [swp_at p a _ a ha hb ha,if_neg h3,if_pos rfl]; exact e)
    · exact mk i hi (by rw [swp_at p a b i ha hb hi,if_neg h2,if_neg h1]; exact e)
structure SrtOk (p : List Int) (x : Nat) (o : List (Int × Int)) (q : List Int) : Prop where
  prm : Prm q
  len : q.length = p.length
  fix : ∀ y,y < x → q.getD y 0 = y
  few : o.length ≤ x
theorem SrtOk.place {p : List Int} {x : Nat} {o : List (Int × Int)} {q : List Int} (h : SrtOk p x o q) (hx : x < p.length) : ∃ i : Nat,x ≤ i ∧ i < p.length ∧ ax q x = (i : Int) ∧ q.getD i 0 = x ∧ (q.getD x 0 = x ↔ i = x) := by
  obtain ⟨i,h1,h2,h3⟩ := ax_at (h.prm.2 x (by rw [h.len]; exact hx))
  have hl := h.len
  refine ⟨i,?_,by omega,h2,h3,fun e => ?_,fun e => by rw [← e]; rw [h3]; rw [e]⟩
  · by_cases hlt : i < x
    · have := h.fix i hlt
      omega
    · omega
  · exact (prm_range h.prm).2 i x h1 (by omega) (by rw [h3,e])
theorem SrtOk.next {p : List Int} {x i : Nat} {o : List (Int × Int)} {q : List Int} (h : SrtOk p x o q) (hx : x < p.length) (h1 : x ≤ i) (h2 : i < p.length) (h3 : q.getD i 0 = x) (hne : i ≠ x) : SrtOk p (x + 1) (o ++ [((x : Int),(i : Int))]) (swp q x i) := by
  have hl := h.len
  refine ⟨swp_prm h.prm (by omega) (by omega),by rw [swp_len]; exact hl,fun y hy => ?_,by have := h.few; simp; omega⟩
  rw [swp_at q x i y (by omega) (by omega) (by omega),if_neg (by omega)]
  by_cases hc : y = x
  · rw [if_pos hc,h3,hc]
  · rw [if_neg hc]; exact h.fix y (by omega)
def swOk (n : Nat) (s : Int × Int) : Prop := 0 ≤ s.1 ∧ s.1 < s.2 ∧ s.2 < n
instance (n : Nat) (s : Int × Int) : Decidable (swOk n s) := inferInstanceAs (Decidable (_ ∧ _))
def plcOk (p : List Int) (ss : List (Int × Int)) : Prop := Prm p ∧ ∀ s ∈ ss,swOk p.length s
instance (p : List Int) (ss : List (Int × Int)) : Decidable (plcOk p ss) := inferInstanceAs (Decidable (_ ∧ _))
def ords55 : List (Nat × List (Nat × Bool)) := []
def cd55 : Cd := (.seq (.reg [⟨⟨some 2,Op.assign (Operand.const (Value.slice none 0 0)),none⟩,[]⟩]) (.seq (.seq (.reg [⟨⟨some 3,Op.move (Operand.tmp 0),none⟩,[]⟩,
  ⟨⟨some 4,Op.binOp BinOp.eql 27 (Operand.tmp 3) (Operand.const (Value.slice none 0 0)) 27,none⟩,[]⟩]) (.cond (Operand.tmp 4) (.seq (.reg [⟨⟨some 2,Op.assign (Operand.const (Value.slice none 0 0)),none⟩,[]⟩]) .ret) .skip)) (.seq (.reg [⟨⟨some 5,Op.buildSlice 27 0 #[],none⟩,[]⟩,
  ⟨⟨some 6,Op.move (Operand.tmp 0),none⟩,[]⟩,
  ⟨⟨some 7,Op.call { callee := (Callee.builtin Builtin.append),args := #[(Operand.tmp 5),(Operand.tmp 6)],argTypes := #[27,27] },none⟩,[]⟩,
  ⟨⟨some 2,Op.assign (Operand.tmp 7),none⟩,[]⟩]) .ret)))
theorem sl55 : slim Tryz.f55.ntmps ords55 (Tryz.f55.body.getD .skip) = some cd55 := by kernel_rfl
theorem in55 {args : List Value} {H : AH} {R : Value → AH → Prop} (hl : args.length = 1) (h : ∀ (Q : Exit → Sl → AH → Prop),(∀ e s H,endA Tryz.prog [ResultVar.tmp 2] R e s H → Q e s H) → wpC Tryz.prog cd55 Q (enterA args) H) : ACalls Tryz.prog 55 args H R :=
  ACalls.intro (by kernel_rfl) Tryz.func55 rfl (by kernel_rfl) sl55 hl (of_decide_eq_true (by kernel_rfl)) (by kernel_rfl) h
end Go.Proofs.YtelafbennmclfaaGreat.Ai
namespace Go.Proofs.YtelafbennmclfaaGreat.Ai
open Go Go.RowKit
set_option maxRecDepth 20000 in
theorem Clone_c (v : Value) (xs : List Int) (H : AH) (hr : Row 3 H v xs) (hlen : xs.length ≤ 1099511627776) : ACalls Tryz.prog 55 [v] H fun r H' => Own 3 H H' r xs ∧ H <+: H' := by
  refine in55 rfl ?_
  intro Q hQ
  obtain ⟨p,e⟩ := hr.shape
  subst e
  simp (maxSteps := 1000000) (disch := omega) only [cd55,SS,eq_self,reduceIte,reduceCtorEq,Nat.reduceEqDiff,Nat.reduceAdd]
  refine brH.intro (fun g => ?_) (fun g => ?_) <;> simp (maxSteps := 1000000) (disch := omega) only [SS,eq_self,reduceIte,reduceCtorEq,Nat.reduceEqDiff,Nat.reduceAdd]
  · refine hQ _ _ _ ?_
    simp (maxSteps := 1000000) (disch := omega) only [SS,eq_self,reduceIte,reduceCtorEq,Nat.reduceEqDiff,Nat.reduceAdd]
    have : xs = [] := by
      rcases hr with h | ⟨o,k,vs,ro,h1,_⟩
      · exact h.2
      · cases p with
        | none => cases h1
        | some p => cases g
    exact ⟨.inl ⟨rfl,this⟩,List.prefix_refl _⟩
  · have hp := List.prefix_append H [AObj.cells [] 3 false]
    have ho : Own 3 H (H ++ [AObj.cells [] 3 false]) (.slice (some ⟨H.length,0,none⟩) 0 0) [] := .inr ⟨H.length,rfl,Nat.le_refl _,at_new ..⟩
    obtain ⟨v',H2,k1,k2,k3,_⟩ := ho.app (P := Tryz.prog) (t := 27) Tryz.underlying27 cs3 (by rw [by3]; decide) zk3 (hr.pre hp) hp (by simp; omega)
    simp (maxSteps := 1000000) (disch := omega) only [k1,SS,eq_self,reduceIte,reduceCtorEq,Nat.reduceEqDiff,Nat.reduceAdd]
    refine hQ _ _ _ ?_
    simp (maxSteps := 1000000) (disch := omega) only [k2.row.tup,SS,eq_self,reduceIte,reduceCtorEq,Nat.reduceEqDiff,Nat.reduceAdd]
    exact ⟨k2,k3⟩
def ords57 : List (Nat × List (Nat × Bool)) := []
def cd57 : Cd := (.seq (.reg [⟨⟨some 2,Op.assign (Operand.const (Value.slice none 0 0)),none⟩,[]⟩]) (.seq (.reg [⟨⟨some 3,Op.buildSlice 27 0 #[],none⟩,[]⟩,
  ⟨⟨some 4,Op.move (Operand.tmp 0),none⟩,[]⟩,
  ⟨⟨some 5,Op.call { callee := (Callee.builtin Builtin.append),args := #[(Operand.tmp 3),(Operand.tmp 4)],argTypes := #[27,27] },none⟩,[]⟩,
  ⟨⟨some 2,Op.assign (Operand.tmp 5),none⟩,[]⟩]) .ret))
theorem sl57 : slim Tryz.f57.ntmps ords57 (Tryz.f57.body.getD .skip) = some cd57 := by kernel_rfl
theorem in57 {args : List Value} {H : AH} {R : Value → AH → Prop} (hl : args.length = 1) (h : ∀ (Q : Exit → Sl → AH → Prop),(∀ e s H,endA Tryz.prog [ResultVar.tmp 2] R e s H → Q e s H) → wpC Tryz.prog cd57 Q (enterA args) H) : ACalls Tryz.prog 57 args H R :=
  ACalls.intro (by kernel_rfl) Tryz.func57 rfl (by kernel_rfl) sl57 hl (of_decide_eq_true (by kernel_rfl)) (by kernel_rfl) h
def ords46 : List (Nat × List (Nat × Bool)) := []
def cd46 : Cd := (.seq (.reg [⟨⟨some 4,Op.assign (Operand.const (Value.int IntKind.i64 0)),none⟩,[]⟩]) (.seq (.reg [⟨⟨some 5,Op.assign (Operand.const (Value.int IntKind.i64 0)),none⟩,[]⟩]) (.seq (.block 0 (.loop (.seq (.seq (.reg [⟨⟨some 6,Op.move (Operand.tmp 0),none⟩,[]⟩,
  ⟨⟨some 7,Op.move (Operand.tmp 5),none⟩,[]⟩,
  ⟨⟨some 8,Op.indexAddr 27 (Operand.tmp 6) (Operand.tmp 7),none⟩,[]⟩,
  ⟨⟨some 9,Op.load 3 (Operand.tmp 8),none⟩,[]⟩,
  ⟨⟨some 10,Op.move (Operand.tmp 1),none⟩,[]⟩,
  ⟨⟨some 11,Op.binOp BinOp.neq 3 (Operand.tmp 9) (Operand.tmp 10) 3,none⟩,[]⟩]) (.cond (Operand.tmp 11) .skip (.exit 0))) (.block 1 (.reg [⟨⟨some 12,Op.move (Operand.tmp 5),none⟩,[]⟩,
  ⟨⟨some 13,Op.binOp BinOp.add 3 (Operand.tmp 12) (Operand.const (Value.int IntKind.i64 1)) 3,none⟩,[]⟩,
  ⟨⟨some 5,Op.assign (Operand.tmp 13),none⟩,[]⟩]))))) (.seq (.reg [⟨⟨some 14,Op.move (Operand.tmp 5),none⟩,[]⟩,
  ⟨⟨some 4,Op.assign (Operand.tmp 14),none⟩,[]⟩]) .ret))))
theorem sl46 : slim Tryz.f46.ntmps ords46 (Tryz.f46.body.getD .skip) = some cd46 := by kernel_rfl
theorem in46 {args : List Value} {H : AH} {R : Value → AH → Prop} (hl : args.length = 2) (h : ∀ (Q : Exit → Sl → AH → Prop),(∀ e s H,endA Tryz.prog [ResultVar.tmp 4] R e s H → Q e s H) → wpC Tryz.prog cd46 Q (enterA args) H) : ACalls Tryz.prog 46 args H R :=
  ACalls.intro (by kernel_rfl) Tryz.func46 rfl (by kernel_rfl) sl46 hl (of_decide_eq_true (by kernel_rfl)) (by kernel_rfl) h
def ords59 : List (Nat × List (Nat × Bool)) := []
def cd59 : Cd := (.seq (.reg [⟨⟨some 6,Op.assign (Operand.const (Value.slice none 0 0)),none⟩,[]⟩]) (.seq (.reg [⟨⟨some 8,Op.move (Operand.tmp 0),none⟩,[]⟩,
  ⟨⟨some 9,Op.call { callee := (Callee.value (Operand.func 57)),args := #[(Operand.tmp 8)],argTypes := #[27] },none⟩,[]⟩,
  ⟨⟨some 7,Op.assign (Operand.tmp 9),none⟩,[]⟩]) (.seq (.reg [⟨⟨some 10,Op.move (Operand.tmp 7),none⟩,[]⟩,
  ⟨⟨some 11,Op.move (Operand.tmp 1),none⟩,[]⟩,
  ⟨⟨some 12,Op.move (Operand.tmp 0),none⟩,[]⟩,
  ⟨⟨some 13,Op.move (Operand.tmp 2),none⟩,[]⟩,
  ⟨⟨some 14,Op.indexAddr 27 (Operand.tmp 12) (Operand.tmp 13),none⟩,[]⟩,
  ⟨⟨some 15,Op.load 3 (Operand.tmp 14),none⟩,[]⟩,
  ⟨⟨some 16,Op.indexAddr 27 (Operand.tmp 10) (Operand.tmp 11),none⟩,[]⟩,
  ⟨⟨none,Op.store 3 (Operand.tmp 16) (Operand.tmp 15),none⟩,[]⟩]) (.seq (.reg [⟨⟨some 17,Op.move (Operand.tmp 7),none⟩,[]⟩,
  ⟨⟨some 18,Op.move (Operand.tmp 2),none⟩,[]⟩,
  ⟨⟨some 19,Op.move (Operand.tmp 0),none⟩,[]⟩,
  ⟨⟨some 20,Op.move (Operand.tmp 1),none⟩,[]⟩,
  ⟨⟨some 21,Op.indexAddr 27 (Operand.tmp 19) (Operand.tmp 20),none⟩,[]⟩,
  ⟨⟨some 22,Op.load 3 (Operand.tmp 21),none⟩,[]⟩,
  ⟨⟨some 23,Op.indexAddr 27 (Operand.tmp 17) (Operand.tmp 18),none⟩,[]⟩,
  ⟨⟨none,Op.store 3 (Operand.tmp 23) (Operand.tmp 22),none⟩,[]⟩]) (.seq (.reg [⟨⟨some 24,Op.move (Operand.tmp 7),none⟩,[]⟩,
  ⟨⟨some 6,Op.assign (Operand.tmp 24),none⟩,[]⟩]) .ret)))))
theorem sl59 : slim Tryz.f59.ntmps ords59 (Tryz.f59.body.getD .skip) = some cd59 := by kernel_rfl
theorem in59 {args : List Value} {H : AH} {R : Value → AH → Prop} (hl : args.length = 3) (h : ∀ (Q : Exit → Sl → AH → Prop),(∀ e s H,endA Tryz.prog [ResultVar.tmp 6] R e s H → Q e s H) → wpC Tryz.prog cd59 Q (enterA args) H) : ACalls Tryz.prog 59 args H R :=
  ACalls.intro (by kernel_rfl) Tryz.func59 rfl (by kernel_rfl) sl59 hl (of_decide_eq_true (by kernel_rfl)) (by kernel_rfl) h
def ords87 : List (Nat × List (Nat × Bool)) := [(2,[(0,false),(1,false),(2,false),(3,false),(4,false),(5,false),(6,false),(7,false),(8,false),(9,false),(10,false),(11,false),(12,false),(13,false),(14,false),(15,false),(16,false),(17,true),(18,false),(19,true)])]
def cd87 : Cd := (.seq (.reg [⟨⟨some 3,Op.box 53 (Operand.tmp 1),none⟩,[]⟩,
  ⟨⟨some 4,Op.assign (Operand.const (Value.slice none 0 0)),none⟩,[]⟩]) (.seq (.reg [⟨⟨some 6,Op.move (Operand.tmp 0),none⟩,[]⟩,
  ⟨⟨some 7,Op.call { callee := (Callee.value (Operand.func 55)),args := #[(Operand.tmp 6)],argTypes := #[27] },none⟩,[]⟩,
  ⟨⟨some 5,Op.assign (Operand.tmp 7),none⟩,[]⟩]) (.seq (.reg [⟨⟨some 8,Op.move (Operand.tmp 5),none⟩,[]⟩,
  ⟨⟨some 9,Op.indexAddr 53 (Operand.tmp 3) (Operand.const (Value.int IntKind.i64 0)),none⟩,[]⟩,
  ⟨⟨some 10,Op.load 3 (Operand.tmp 9),none⟩,[]⟩,
  ⟨⟨some 11,Op.move (Operand.tmp 5),none⟩,[]⟩,
  ⟨⟨some 12,Op.indexAddr 53 (Operand.tmp 3) (Operand.const (Value.int IntKind.i64 1)),none⟩,[]⟩,
  ⟨⟨some 13,Op.load 3 (Operand.tmp 12),none⟩,[]⟩,
  ⟨⟨some 14,Op.move (Operand.tmp 5),none⟩,[]⟩,
  ⟨⟨some 15,Op.indexAddr 53 (Operand.tmp 3) (Operand.const (Value.int IntKind.i64 1)),none⟩,[]⟩,
  ⟨⟨some 16,Op.load 3 (Operand.tmp 15),none⟩,[]⟩,
  ⟨⟨some 17,Op.indexAddr 27 (Operand.tmp 14) (Operand.tmp 16),none⟩,[]⟩,
  ⟨⟨some 18,Op.load 3 (Operand.tmp 17),none⟩,[]⟩,
  ⟨⟨some 19,Op.move (Operand.tmp 5),none⟩,[]⟩,
  ⟨⟨some 20,Op.indexAddr 53 (Operand.tmp 3) (Operand.const (Value.int IntKind.i64 0)),none⟩,[]⟩,
  ⟨⟨some 21,Op.load 3 (Operand.tmp 20),none⟩,[]⟩,
  ⟨⟨some 22,Op.indexAddr 27 (Operand.tmp 19) (Operand.tmp 21),none⟩,[]⟩,
  ⟨⟨some 23,Op.load 3 (Operand.tmp 22),none⟩,[]⟩,
  ⟨⟨some 24,Op.indexAddr 27 (Operand.tmp 8) (Operand.tmp 10),none⟩,[]⟩,
  ⟨⟨none,Op.store 3 (Operand.tmp 24) (Operand.tmp 18),none⟩,[⟨some 13,Op.load 3 (Operand.tmp 12),none⟩]⟩,
  ⟨⟨some 25,Op.indexAddr 27 (Operand.tmp 11) (Operand.tmp 13),none⟩,[]⟩,
  ⟨⟨none,Op.store 3 (Operand.tmp 25) (Operand.tmp 23),none⟩,[]⟩]) (.seq (.reg [⟨⟨some 26,Op.move (Operand.tmp 5),none⟩,[]⟩,
  ⟨⟨some 4,Op.assign (Operand.tmp 26),none⟩,[]⟩]) .ret))))
theorem sl87 : slim Tryz.f87.ntmps ords87 (Tryz.f87.body.getD .skip) = some cd87 := by kernel_rfl
theorem in87 {args : List Value} {H : AH} {R : Value → AH → Prop} (hl : args.length = 2) (h : ∀ (Q : Exit → Sl → AH → Prop),(∀ e s H,endA Tryz.prog [ResultVar.tmp 4] R e s H → Q e s H) → wpC Tryz.prog cd87 Q (enterA args) H) : ACalls Tryz.prog 87 args H R :=
  ACalls.intro (by kernel_rfl) Tryz.func87 rfl (by kernel_rfl) sl87 hl (of_decide_eq_true (by kernel_rfl)) (by kernel_rfl) h
end Go.Proofs.YtelafbennmclfaaGreat.Ai
namespace Go.Proofs.YtelafbennmclfaaGreat.Ai
open Go Go.RowKit
set_option maxRecDepth 20000 in
theorem l1Own_c (v : Value) (xs : List Int) (H : AH) (hr : Row 3 H v xs) (hlen : xs.length ≤ 1099511627776) : ACalls Tryz.prog 57 [v] H fun r H' => Own 3 H H' r xs ∧ H <+: H' := by
  refine in57 rfl ?_
  intro Q hQ
  simp (maxSteps := 1000000) (disch := omega) only [cd57,SS,eq_self,reduceIte,reduceCtorEq,Nat.reduceEqDiff,Nat.reduceAdd]
  have hp := List.prefix_append H [AObj.cells [] 3 false]
  have ho : Own 3 H (H ++ [AObj.cells [] 3 false]) (.slice (some ⟨H.length,0,none⟩) 0 0) [] := .inr ⟨H.length,rfl,Nat.le_refl _,at_new ..⟩
  obtain ⟨v',H2,k1,k2,k3,_⟩ := ho.app (P := Tryz.prog) (t := 27) Tryz.underlying27 cs3 (by rw [by3]; decide) zk3 (hr.pre hp) hp (by simp; omega)
  simp (maxSteps := 1000000) (disch := omega) only [k1,SS,eq_self,reduceIte,reduceCtorEq,Nat.reduceEqDiff,Nat.reduceAdd]
  refine hQ _ _ _ ?_
  simp (maxSteps := 1000000) (disch := omega) only [k2.row.tup,SS,eq_self,reduceIte,reduceCtorEq,Nat.reduceEqDiff,Nat.reduceAdd]
  exact ⟨k2,k3⟩
theorem l9At_c (v : Value) (xs : List Int) (x : Int) (H : AH) (hr : Row 3 H v xs) (hlen : xs.length ≤ 1099511627776) (hx : x ∈ xs) :
    ACalls Tryz.prog 46 [v,.int .i64 x] H fun r H' => r = .int .i64 (ax xs x) ∧ H = H' := by
  refine in46 rfl ?_
  intro Q hQ
  simp (maxSteps := 1000000) (disch := omega) only [cd46,SS,eq_self,reduceIte,reduceCtorEq,Nat.reduceEqDiff,Nat.reduceAdd]
  have h0x : 0 ≤ ax xs x := (idxP_any (fun y => decide (x = y)) xs 0).2 (by simpa using hx)
  refine LoopH.by (fun m s H' => ∃ i,m + i = xs.length ∧ s 0 = v ∧ s 1 = .int .i64 x ∧ s 5 = .int .i64 ((i : Nat) : Int) ∧ H = H' ∧ ax xs x = idxP (fun y => decide (x = y)) (xs.drop i) i) xs.length ?_ ?_
  · exact ⟨0,by simp,rfl,rfl,rfl,rfl,by simp [ax]⟩
  · rintro m s H' ⟨i,hm,h0,h1,h5,rfl,hn⟩
    have hi : i < xs.length := by
      by_cases hi : i < xs.length
      · exact hi
      · rw [List.drop_of_length_le (by omega)] at hn
        simp only [idxP] at hn
        omega
    rw [idxP_step _ xs i hi] at hn
    simp (maxSteps := 1000000) (disch := omega) only [h0,h1,h5,hr.ix Tryz.underlying27 cs3,hr.cell,Int.toNat_natCast,SS,eq_self,reduceIte,reduceCtorEq,Nat.reduceEqDiff,Nat.reduceAdd]
    refine brD.intro (fun e => ?_) (fun e => ?_) <;> simp (maxSteps := 1000000) (disch := omega) only [h0,h1,h5,wrap64,SS,eq_self,reduceIte,reduceCtorEq,Nat.reduceEqDiff,Nat.reduceAdd]
    · rw [if_neg (by simp only [decide_eq_true_eq]; exact fun h => e h.symm)] at hn
      refine ⟨m - 1,by omega,i + 1,?_⟩
      (repeat' apply And.intro) <;> first | exact hn | (simp only [Value.int.injEq,true_and]; omega) | omega | rfl | assumption | (simp; done) | (simp; omega)
    · rw [if_pos (by simp only [decide_eq_true_eq]; exact (Decidable.not_not.1 e).symm)] at hn
      refine hQ _ _ _ ?_
      simp (maxSteps := 1000000) (disch := omega) only [SS,eq_self,reduceIte,reduceCtorEq,Nat.reduceEqDiff,Nat.reduceAdd]
      rw [hn]
theorem l9Swap_c (v : Value) (xs : List Int) (a b : Nat) (H : AH) (hr : Row 3 H v xs) (hlen : xs.length ≤ 1099511627776) (ha : a < xs.length) (hb : b < xs.length) :
    ACalls Tryz.prog 59 [v,.int .i64 ((a : Nat) : Int),.int .i64 ((b : Nat) : Int)] H fun r H' => Own 3 H H' r (swp xs a b) ∧ H <+: H' := by
  refine in59 rfl ?_
  intro Q hQ
  simp (maxSteps := 1000000) (disch := omega) only [cd59,SS,eq_self,reduceIte,reduceCtorEq,Nat.reduceEqDiff,Nat.reduceAdd]
  refine CallH.by (l1Own_c v xs H hr hlen) ?_
  rintro w H1 ⟨ho,hp⟩
  have hr1 := hr.pre hp
  rcases ho with ⟨_,h2⟩ | ⟨o,rfl,hoo,hc⟩
  · subst h2; simp at ha
  · have hne : v = .slice none 0 0 ∨ rowO v ≠ o := by
      rcases hr.nil with g | g
      · exact .inl g.1
      · exact .inr (by omega)
    have hr2 : Row 3 (H1.set o (.cells (ints (xs.set a (xs.getD b 0))) 3 false)) v xs := by
      refine hr1.mono fun y hy => ?_
      rcases hne with g | g
      · have := hr.nilv g; subst this; simp at ha
      · rw [List.getElem?_set_ne (fun e => g e.symm)]; exact hy
    have hc2 := at_set (d := .cells (ints (xs.set a (xs.getD b 0))) 3 false) hc
    simp (maxSteps := 1000000) (disch := omega) only [hr1.ix Tryz.underlying27 cs3,hr1.cell,Int.toNat_natCast,Nat.zero_add,st_ints cs3 hc ha,hr2.ix Tryz.underlying27 cs3,hr2.cell,SS,eq_self,reduceIte,reduceCtorEq,Nat.reduceEqDiff,Nat.reduceAdd]
    simp (maxSteps := 1000000) (disch := omega) only [Int.toNat_natCast,Nat.zero_add,st_ints cs3 hc2 (show b < (xs.set a (xs.getD b 0)).length by simpa using hb),SS,eq_self,reduceIte,reduceCtorEq,Nat.reduceEqDiff,Nat.reduceAdd]
    refine hQ _ _ _ ?_
    simp (maxSteps := 1000000) (disch := omega) only [List.set_set,SS,eq_self,reduceIte,reduceCtorEq,Nat.reduceEqDiff,Nat.reduceAdd]
    refine ⟨.inr ⟨o,by rw [swp_len],hoo,?_⟩,?_⟩
    · exact at_set hc
    · exact pre_set hp hoo _
set_option maxRecDepth 20000 in
theorem swapped_c (v : Value) (xs : List Int) (a b : Nat) (H : AH) (hr : Row 3 H v xs) (hlen : xs.length ≤ 1099511627776) (ha : a < xs.length) (hb : b < xs.length) :
    ACalls Tryz.prog 87 [v,.agg (List.toArray [.int .i64 ((a : Nat) : Int),.int .i64 ((b : Nat) : Int)])] H fun r H' => Own 3 H H' r (swp xs a b) ∧ H <+: H' := by
  refine in87 rfl ?_
  intro Q hQ
  simp (maxSteps := 1000000) (disch := omega) only [cd87,box_a2,SS,eq_self,reduceIte,reduceCtorEq,Nat.reduceEqDiff,Nat.reduceAdd]
  generalize hA : H ++ [AObj.cells [.int .i64 ((a : Nat) : Int),.int .i64 ((b : Nat) : Int)] 53 false] = A
  have a0 : A[H.length]? = some (.cells [.int .i64 ((a : Nat) : Int),.int .i64 ((b : Nat) : Int)] 53 false) := by rw [← hA]; exact at_new ..
  have pA : H <+: A := by rw [← hA]; exact List.prefix_append _ _
  have lA : H.length < A.length := by rw [← hA]; simp
  refine CallH.by (Clone_c v xs A (hr.pre pA) hlen) ?_
  rintro w H1 ⟨ho,hp⟩
  rcases ho with ⟨_,h2⟩ | ⟨o,rfl,hoo,hc⟩
  · subst h2; simp at ha
  · have b0 := pre_at hp a0
    have c0 : cellA H1 H.length 0 = some (.int .i64 ((a : Nat) : Int)) := by rw [cell_of b0]; rfl
    have c1 : cellA H1 H.length 1 = some (.int .i64 ((b : Nat) : Int)) := by rw [cell_of b0]; rfl
    have b2 : (H1.set o (.cells (ints (xs.set a (xs.getD b 0))) 3 false))[H.length]? = some (.cells [.int .i64 ((a : Nat) : Int),.int .i64 ((b : Nat) : Int)] 53 false) := by
      rw [List.getElem?_set_ne (by omega)]; exact b0
    have d1 : cellA (H1.set o (.cells (ints (xs.set a (xs.getD b 0))) 3 false)) H.length 1 = some (.int .i64 ((b : Nat) : Int)) := by rw [cell_of b2]; rfl
    have hc2 := at_set (d := .cells (ints (xs.set a (xs.getD b 0))) 3 false) hc
    simp (maxSteps := 1000000) (disch := omega) only [c0,c1,Int.toNat_natCast,Nat.zero_add,cell_ints hc ha,cell_ints hc hb,st_ints cs3 hc ha,d1,st_ints cs3 hc2 (show b < (xs.set a (xs.getD b 0)).length by simpa using hb),SS,eq_self,reduceIte,reduceCtorEq,Nat.reduceEqDiff,Nat.reduceAdd]
    refine hQ _ _ _ ?_
    simp (maxSteps := 1000000) (disch := omega) only [List.set_set,SS,eq_self,reduceIte,reduceCtorEq,Nat.reduceEqDiff,Nat.reduceAdd]
    refine ⟨.inr ⟨o,by rw [swp_len],by omega,?_⟩,?_⟩
    · exact at_set hc
    · exact pre_set (pA.trans hp) (by omega) _
end Go.Proofs.YtelafbennmclfaaGreat.Ai
